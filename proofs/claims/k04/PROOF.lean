import PyProof.Rows.All
import Wide.All
import OpenK.AllK
import Wide.FinOn
import HandS.ForMost
import HandS.ForExc
import HandS.Walk
import HandS.IsInst
import HandS.SortInts
import HandS.SortRule
import HandS.Wide
import HandS.WideBits
import HandS.Deep
import HandS.Style
import HandS.More
import HandS.Strs
import HandS.Conv
import HandS.Zip
import HandS.SetFor
import HandS.Strs
import PySem.Challenge.RW_restsums_k04_whole_hits
set_option Elab.async false
set_option linter.all false
set_option maxRecDepth 100000
set_option maxHeartbeats 2000000
/-! RL: readings by data. A frozen part G of the heap H; a value read as a datum in G; rules that compose as terms. -/
namespace RL
open PySem PySem.Spec PyProof.Rows L2
abbrev St := L2.St

/-! ### worlds -/
structure Ext (G H G' H' : Hp) : Prop where
  h : Same H H'
  g : Same G G'
  s : Same G' H'
  n : ∀ b o, G' b = some o → G b = some o ∨ H b = none
section
variable {G H G1 H1 G2 H2 : Hp} {p : Addr} {o : HO}
theorem Ext.refl (s : Same G H) : Ext G H G H := ⟨Same.refl _, Same.refl _, s, fun _ _ e => .inl e⟩
theorem Ext.trans (a : Ext G H G1 H1) (b : Ext G1 H1 G2 H2) : Ext G H G2 H2 :=
  ⟨a.h.trans b.h, a.g.trans b.g, b.s, fun c o e => by
    rcases b.n c o e with e1 | e1
    · exact a.n c o e1
    · exact .inr (a.h.free e1)⟩
theorem same_new (h : H p = none) : Same H (upd H p o) := fun b x e => by
  rw [upd_ne (ne_of_none e h)]
  exact e
theorem Ext.new (a : Ext G H G1 H1) (hp : H1 p = none) : Ext G H (upd G1 p o) (upd H1 p o) := by
  refine ⟨a.h.trans (same_new hp), a.g.trans (same_new (a.s.free hp)), fun b x e => ?_, fun b x e => ?_⟩
  · by_cases hb : b = p
    · subst hb
      rw [upd_same] at e ⊢
      exact e
    · rw [upd_ne hb] at e ⊢
      exact a.s _ _ e
  · by_cases hb : b = p
    · subst hb
      exact .inr (a.h.free hp)
    · rw [upd_ne hb] at e
      exact a.n _ _ e
theorem Ext.newH (a : Ext G H G1 H1) (hp : H1 p = none) : Ext G H G1 (upd H1 p o) :=
  ⟨a.h.trans (same_new hp), a.g, a.s.trans (same_new hp), a.n⟩
theorem Ext.wr (a : Ext G H G1 H1) (h0 : H p = none) (g : G1 p = none) : Ext G H G1 (upd H1 p o) := by
  refine ⟨fun b x e => ?_, a.g, fun b x e => ?_, a.n⟩
  · rw [upd_ne (ne_of_none e h0)]
    exact a.h _ _ e
  · rw [upd_ne (ne_of_none e g)]
    exact a.s _ _ e
theorem Ext.frz (a : Ext G H G1 H1) (h0 : H p = none) (e : H1 p = some o) : Ext G H (upd G1 p o) H1 := by
  refine ⟨a.h, fun b x q => ?_, fun b x q => ?_, fun b x q => ?_⟩
  · by_cases hb : b = p
    · subst hb
      rw [upd_same, ← e]
      exact a.s _ _ (a.g _ _ q)
    · rw [upd_ne hb]
      exact a.g _ _ q
  · by_cases hb : b = p
    · subst hb
      rw [upd_same] at q
      rw [e, q]
    · rw [upd_ne hb] at q
      exact a.s _ _ q
  · by_cases hb : b = p
    · subst hb
      exact .inr h0
    · rw [upd_ne hb] at q
      exact a.n _ _ q
/-- what is not frozen stays so -/
theorem Ext.off (a : Ext G H G1 H1) (g : G p = none) (e : H p = some o) : G1 p = none := by
  cases q : G1 p with
  | none => rfl
  | some x =>
    rcases a.n _ _ q with z | z
    · rw [g] at z
      cases z
    · rw [e] at z
      cases z
end

/-- what is tracked has its size in the line -/
def szO : HO → Nat
  | .lst xs => xs.length
  | .tup xs => xs.length
  | .dK kvs => kvs.length
  | .dT kvs => kvs.length
  | .frz _ u => szO u
  | _ => 0
def HLen (H : Hp) : Prop := ∀ a o, H a = some o → szO o ≤ sizeLine
theorem hlen_o {P : Program} {w : World} {H : Hp} {h : Heap} {a : Addr} (o : HO) (k : ObjOk P w H h a o) : szO o ≤ sizeLine := by
  induction o with
  | lst xs => exact k.1
  | tup xs => exact k.1
  | dK kvs => exact k.1
  | dT kvs => exact k.1
  | frz ob u ih => exact ih k.2
  | _ => exact Nat.zero_le _
theorem hlen {X : Cx} {pins : List (Addr × Obj)} {σ : St} {H : Hp} {s : Shared} (I : Inv X pins σ H s) : HLen H := fun a o e => hlen_o o (I.hok a o e)
theorem sql_len {K : PySem.W.Frag} {H : Hp} {a : Addr} {us : List V} (l : HLen H) (h : SqL K H a us) : us.length ≤ sizeLine := by
  rcases h with (h | ⟨o, h⟩) | ⟨o, its, n, _, _, _, _, hz, r⟩
  · exact l _ _ h
  · exact l _ _ h
  · have e := r.length
    simp only [Array.length_toList] at e
    omega

/-! ### values as data -/
class Rep (α : Type) where
  rep : PySem.W.Frag → Hp → V → α → Prop
  up : ∀ {K : PySem.W.Frag} {G G' : Hp} {v : V} {x : α}, Same G G' → rep K G v x → rep K G' v x
open Rep (rep up)
instance instRepInt : Rep Int := ⟨fun _ _ v i => v = .int i, fun _ h => h⟩
instance instRepBool : Rep Bool := ⟨fun _ _ v i => v = .bl i, fun _ h => h⟩
instance instRepStr : Rep Str := ⟨fun _ _ v i => v = .str i, fun _ h => h⟩
instance : Rep Unit := ⟨fun _ _ v _ => v = .non, fun _ h => h⟩
/-- a value of the layer, as it is (built-in classes, for one) -/
instance : Rep V := ⟨fun _ _ v i => v = i, fun _ h => h⟩
theorem pair_up {α : Type} [Rep α] {K : PySem.W.Frag} {G G' : Hp} (s : Same G G') : ∀ {vs : List V} {xs : List α}, Paired (rep K G) vs xs → Paired (rep K G') vs xs
  | _, _, .nil => .nil
  | _, _, .cons h t => .cons (up s h) (pair_up s t)
instance instRepOption {α : Type} [Rep α] : Rep (Option α) where
  rep K G v o := match o with
    | none => v = .non
    | some x => rep K G v x
  up {K G G' v x} s h := match x, h with
    | none, h => h
    | some _, h => up (α := α) s h
instance instRepList {α : Type} [Rep α] : Rep (List α) where
  rep K G v xs := ∃ a vs, v = .ref a ∧ G a = some (.lst vs) ∧ Paired (rep K G) vs xs
  up s h := let ⟨a, vs, e, g, p⟩ := h; ⟨a, vs, e, s _ _ g, pair_up s p⟩
instance instRepProd {α β : Type} [Rep α] [Rep β] : Rep (α × β) where
  rep K G v x := ∃ a u w, v = .ref a ∧ G a = some (.tup [u, w]) ∧ rep K G u x.1 ∧ rep K G w x.2
  up s h := let ⟨a, u, w, e, g, p, q⟩ := h; ⟨a, u, w, e, s _ _ g, up s p, up s q⟩
/-- the script: a list that is read alone -/
structure Scr where
  ns : List Int
instance : Rep Scr where
  rep K G v x := ∃ a, v = .ref a ∧ SqL K G a (x.ns.map V.int)
  up s h := let ⟨a, e, q⟩ := h; ⟨a, e, s.seq q⟩

theorem paired_len {α β : Type} {F : α → β → Prop} : ∀ {xs : List α} {ys : List β}, Paired F xs ys → xs.length = ys.length
  | _, _, .nil => rfl
  | _, _, .cons _ t => by rw [List.length_cons, List.length_cons, paired_len t]
theorem paired_get {α β : Type} {F : α → β → Prop} : ∀ {xs : List α} {ys : List β} {i : Nat} {y : β}, Paired F xs ys → ys[i]? = some y → ∃ x, xs[i]? = some x ∧ F x y
  | _, _, _, _, .nil, e => by simp at e
  | _, _, 0, _, .cons r _, e => by simp at e; subst e; exact ⟨_, rfl, r⟩
  | _, _, i + 1, y, .cons _ t, e => by
    obtain ⟨u, h1, h2⟩ := paired_get (i := i) (y := y) t (by simpa using e)
    exact ⟨u, by simpa using h1, h2⟩
theorem paired_get' {α β : Type} {F : α → β → Prop} : ∀ {xs : List α} {ys : List β} {i : Nat} {x : α}, Paired F xs ys → xs[i]? = some x → ∃ y, ys[i]? = some y ∧ F x y
  | _, _, _, _, .nil, e => by simp at e
  | _, _, 0, _, .cons r _, e => by simp at e; subst e; exact ⟨_, rfl, r⟩
  | _, _, i + 1, x, .cons _ t, e => by
    obtain ⟨u, h1, h2⟩ := paired_get' (i := i) (x := x) t (by simpa using e)
    exact ⟨u, by simpa using h1, h2⟩
theorem paired_app {α β : Type} {F : α → β → Prop} : ∀ {xs us : List α} {ys ws : List β}, Paired F xs ys → Paired F us ws → Paired F (xs ++ us) (ys ++ ws)
  | _, _, _, _, .nil, s => s
  | _, _, _, _, .cons r t, s => .cons r (paired_app t s)
theorem paired_take {α β : Type} {F : α → β → Prop} : ∀ (n : Nat) {xs : List α} {ys : List β}, Paired F xs ys → Paired F (xs.take n) (ys.take n)
  | 0, _, _, _ => .nil
  | _ + 1, _, _, .nil => .nil
  | n + 1, _, _, .cons r t => .cons r (paired_take n t)
theorem paired_drop {α β : Type} {F : α → β → Prop} : ∀ (n : Nat) {xs : List α} {ys : List β}, Paired F xs ys → Paired F (xs.drop n) (ys.drop n)
  | 0, _, _, h => h
  | _ + 1, _, _, .nil => .nil
  | n + 1, _, _, .cons _ t => paired_drop n t
theorem paired_ints {K : PySem.W.Frag} {G : Hp} : ∀ {vs : List V} {ns : List Int}, Paired (rep K G) vs ns → vs = ns.map V.int
  | _, _, .nil => rfl
  | _, _, .cons (h : _ = _) t => by rw [h, paired_ints t]; rfl
theorem ints_paired {K : PySem.W.Frag} {G : Hp} : ∀ (ns : List Int), Paired (rep K G) (ns.map V.int) ns
  | [] => .nil
  | _ :: r => .cons rfl (ints_paired r)

/-! ### the judgements, by what is to hold of the value -/
/-- of a value: in the frozen part, in the heap -/
abbrev PV := Hp → Hp → V → Prop
def Mono (P : PV) : Prop := ∀ G H G1 H1 v, Ext G H G1 H1 → P G H v → P G1 H1 v
/-- it is x -/
def Is {α : Type} [Rep α] (K : PySem.W.Frag) (x : α) : PV := fun G _ v => rep K G v x
/-- a list that may be read now -/
def LstAt {α : Type} [Rep α] (K : PySem.W.Frag) (xs : List α) : PV := fun G H v => ∃ a vs, v = .ref a ∧ SqL K H a vs ∧ Paired (rep K G) vs xs
theorem mono_is {α : Type} [Rep α] {K : PySem.W.Frag} {x : α} : Mono (Is K x) := fun _ _ _ _ _ x h => up x.g h
theorem mono_lst {α : Type} [Rep α] {K : PySem.W.Frag} {xs : List α} : Mono (LstAt K xs) := fun _ _ _ _ _ x ⟨a, vs, e, g, p⟩ => ⟨a, vs, e, x.h.seq g, pair_up x.g p⟩

section
variable {X : Cx}
def tE (X : Cx) (e : Expr) : TE := fun σ H Q => ∀ (pins : List (Addr × Obj)) (s : Shared), Inv X pins σ H s → wpAny (model X.prog X.w) X.A (eval e X.env) (EP X pins σ Q) X.xe s
def tT (X : Cx) (e : Expr) : TT := fun σ H Q => ∀ (pins : List (Addr × Obj)) (s : Shared), Inv X pins σ H s → wpAny (model X.prog X.w) X.A (isTrue e X.env (eval e X.env)) (TP X pins σ Q) X.xe s
def tW (X : Cx) (e : Expr) : TT := fun σ H Q => ∀ (whole : Sem Value) (pins : List (Addr × Obj)) (s : Shared), Inv X pins σ H s → wpAny (model X.prog X.w) X.A (isTrue e X.env whole) (TP X pins σ Q) X.xe s
def tA (X : Cx) (es : List Expr) : TA := fun σ H Q => ∀ (pos : Pos) (pins : List (Addr × Obj)) (s : Shared), Inv X pins σ H s → wpAny (model X.prog X.w) X.A (spliced (backTo pos (starEach es X.env))) (AP X pins σ Q) X.xe s
def tS (X : Cx) (st : Stmt) : TS := fun D σ H => ∀ (pins : List (Addr × Obj)) (s : Shared), Inv X pins σ H s → wpAny (model X.prog X.w) X.A (exec st X.env) (SP X pins D) X.xe s
def tSs (X : Cx) (st : List Stmt) : TS := fun D σ H => ∀ (pins : List (Addr × Obj)) (s : Shared), Inv X pins σ H s → wpAny (model X.prog X.w) X.A (execs st X.env) (SP X pins D) X.xe s
theorem pe_sem {e : Expr} : PE X e (tE X e) := ⟨fun pins s _ _ _ I h => h pins s I⟩
theorem pt_sem {e : Expr} : PT X e (tT X e) := ⟨fun pins s _ _ _ I h => h pins s I⟩
theorem pw_sem {e : Expr} : PW X e (tW X e) := ⟨fun wh pins s _ _ _ I h => h wh pins s I⟩
theorem pa_sem {es : List Expr} : PA X es (tA X es) := ⟨fun pos pins s _ _ _ I h => h pos pins s I⟩
theorem ps_sem {st : Stmt} : PS X st (tS X st) := ⟨fun pins s _ _ _ I h => h pins s I⟩
theorem pss_sem {st : List Stmt} : PSs X st (tSs X st) := ⟨fun pins s _ _ _ I h => h pins s I⟩
theorem tE_len {e : Expr} {σ : St} {H : Hp} {Q : VK} (h : tE X e σ H fun v H' => HLen H' → Q v H') : tE X e σ H Q := fun pins s I => thn (h pins s I) fun _ _ ⟨v, H', I', r, q⟩ => ⟨v, H', I', r, q (hlen I')⟩
theorem tT_len {e : Expr} {σ : St} {H : Hp} {Q : Bool → Hp → Prop} (h : tT X e σ H fun v H' => HLen H' → Q v H') : tT X e σ H Q := fun pins s I => thn (h pins s I) fun _ _ ⟨H', I', q⟩ => ⟨H', I', q (hlen I')⟩
theorem tW_len {e : Expr} {σ : St} {H : Hp} {Q : Bool → Hp → Prop} (h : tW X e σ H fun v H' => HLen H' → Q v H') : tW X e σ H Q := fun wh pins s I => thn (h wh pins s I) fun _ _ ⟨H', I', q⟩ => ⟨H', I', q (hlen I')⟩
theorem tA_len {es : List Expr} {σ : St} {H : Hp} {Q : List V → Hp → Prop} (h : tA X es σ H fun v H' => HLen H' → Q v H') : tA X es σ H Q := fun pos pins s I => thn (h pos pins s I) fun _ _ ⟨v, H', I', r, q⟩ => ⟨v, H', I', r, q (hlen I')⟩

/-- an expression, from the world G, H on: its value is told by P -/
def EvP (X : Cx) (e : Expr) (σ : St) (G H : Hp) (P : PV) : Prop :=
  ∀ G1 H1, Ext G H G1 H1 → ∀ Q : VK, (∀ G2 H2 v, Ext G1 H1 G2 H2 → HLen H2 → P G2 H2 v → Q v H2) → tE X e σ H1 Q
/-- .. it is the datum x -/
abbrev Ev {α : Type} [Rep α] (X : Cx) (e : Expr) (σ : St) (G H : Hp) (x : α) : Prop := EvP X e σ G H (Is X.K x)
/-- .. a list that may be read -/
abbrev EvL {α : Type} [Rep α] (X : Cx) (e : Expr) (σ : St) (G H : Hp) (xs : List α) : Prop := EvP X e σ G H (LstAt X.K xs)
/-- a test -/
def EvT (X : Cx) (e : Expr) (σ : St) (G H : Hp) (b : Bool) : Prop :=
  ∀ G1 H1, Ext G H G1 H1 → ∀ Q : Bool → Hp → Prop, (∀ G2 H2, Ext G1 H1 G2 H2 → HLen H2 → Q b H2) → tT X e σ H1 Q
def EvW (X : Cx) (e : Expr) (σ : St) (G H : Hp) (b : Bool) : Prop :=
  ∀ G1 H1, Ext G H G1 H1 → ∀ Q : Bool → Hp → Prop, (∀ G2 H2, Ext G1 H1 G2 H2 → HLen H2 → Q b H2) → tW X e σ H1 Q
/-- arguments -/
def EvA (X : Cx) (es : List Expr) (σ : St) (G H : Hp) (A : Hp → Hp → List V → Prop) : Prop :=
  ∀ G1 H1, Ext G H G1 H1 → ∀ Q : List V → Hp → Prop, (∀ G2 H2 vs, Ext G1 H1 G2 H2 → HLen H2 → A G2 H2 vs → Q vs H2) → tA X es σ H1 Q

variable {σ : St} {G H G' H' : Hp} {P Pa Pb : PV} {e a b c : Expr} {es : List Expr} {pos : Pos}
theorem EvP.mono (x : Ext G H G' H') (h : EvP X e σ G H P) : EvP X e σ G' H' P := fun G1 H1 x1 Q q => h G1 H1 (x.trans x1) Q q
theorem EvT.mono {b : Bool} (x : Ext G H G' H') (h : EvT X e σ G H b) : EvT X e σ G' H' b := fun G1 H1 x1 Q q => h G1 H1 (x.trans x1) Q q
theorem EvP.imp {P' : PV} (h : EvP X e σ G H P) (k : ∀ G1 H1 v, Ext G H G1 H1 → HLen H1 → P G1 H1 v → P' G1 H1 v) : EvP X e σ G H P' := fun G1 H1 x1 Q q =>
  h G1 H1 x1 Q fun G2 H2 v x2 l p => q G2 H2 v x2 l (k G2 H2 v (x1.trans x2) l p)
theorem evP_of {t : TE} (hp : PE X e t) (k : ∀ G1 H1, Ext G H G1 H1 → ∀ Q : VK, (∀ G2 H2 v, Ext G1 H1 G2 H2 → P G2 H2 v → Q v H2) → t σ H1 Q) : EvP X e σ G H P :=
  fun G1 H1 x1 _ q => tE_len fun pins s I => hp.run pins s σ H1 _ I (k G1 H1 x1 _ fun G2 H2 v x2 p hl => q G2 H2 v x2 hl p)
theorem evT_of {t : TT} {b : Bool} (hp : PT X e t) (k : ∀ G1 H1, Ext G H G1 H1 → ∀ Q : Bool → Hp → Prop, (∀ G2 H2, Ext G1 H1 G2 H2 → Q b H2) → t σ H1 Q) : EvT X e σ G H b :=
  fun G1 H1 x1 _ q => tT_len fun pins s I => hp.run pins s σ H1 _ I (k G1 H1 x1 _ fun G2 H2 x2 hl => q G2 H2 x2 hl)
theorem evW_of {t : TT} {b : Bool} (hp : PW X e t) (k : ∀ G1 H1, Ext G H G1 H1 → ∀ Q : Bool → Hp → Prop, (∀ G2 H2, Ext G1 H1 G2 H2 → Q b H2) → t σ H1 Q) : EvW X e σ G H b :=
  fun G1 H1 x1 _ q => tW_len fun wh pins s I => hp.run wh pins s σ H1 _ I (k G1 H1 x1 _ fun G2 H2 x2 hl => q G2 H2 x2 hl)
theorem evA_of {t : TA} {A : Hp → Hp → List V → Prop} (hp : PA X es t) (k : ∀ G1 H1, Ext G H G1 H1 → ∀ Q : List V → Hp → Prop, (∀ G2 H2 vs, Ext G1 H1 G2 H2 → A G2 H2 vs → Q vs H2) → t σ H1 Q) : EvA X es σ G H A :=
  fun G1 H1 x1 _ q => tA_len fun pos pins s I => hp.run pos pins s σ H1 _ I (k G1 H1 x1 _ fun G2 H2 vs x2 p hl => q G2 H2 vs x2 hl p)
/-- the datum may be told otherwise -/
theorem Ev.to {α : Type} [Rep α] {x y : α} (h : Ev X e σ G H x) (q : x = y) : Ev X e σ G H y := q ▸ h
theorem EvT.to {x y : Bool} (h : EvT X e σ G H x) (q : x = y) : EvT X e σ G H y := q ▸ h
theorem ev_l {α : Type} [Rep α] {xs : List α} (h : Ev X e σ G H xs) : EvL X e σ G H xs := h.imp fun _ _ _ x _ ⟨a, vs, e, g, p⟩ => ⟨a, vs, e, SqL.of (x.s _ _ g), p⟩
theorem ev_scr {xs : Scr} (h : Ev X e σ G H xs) : EvL X e σ G H xs.ns := h.imp fun _ _ _ x _ ⟨a, e, g⟩ => ⟨a, _, e, x.s.seq g, ints_paired _⟩

/-! ### names, constants -/
/-- a plain name -/
structure Nm (x : Str) : Prop where
  hd : (x == ("__debug__" : Str)) = false
  hcd : (x == ("__classdict__" : Str)) = false
  hn : x ≠ "__name__"
/-- the name x stands in the i-th slot -/
structure Sl (X : Cx) (i : Nat) (x : Str) : Prop where
  hN : X.N[i]? = some x
  hv : Vis X.env.scope x
  nm : Nm x
end
end RL

namespace RL
open PySem PySem.Spec PyProof.Rows L2 Rep
class MonoC (P : PV) : Prop where
  m : Mono P
instance {α : Type} [Rep α] {K : PySem.W.Frag} {x : α} : MonoC (Is K x) := ⟨mono_is⟩
instance {α : Type} [Rep α] {K : PySem.W.Frag} {xs : List α} : MonoC (LstAt K xs) := ⟨mono_lst⟩
/-- a list, a tuple of one kind, the script: what may be read -/
def SeqAt {α : Type} [Rep α] (K : PySem.W.Frag) (xs : List α) : PV := fun G H v => ∃ a vs, v = .ref a ∧ SqL K H a vs ∧ Paired (rep K G) vs xs
/-- .. that the program made -/
def OwnAt {α : Type} [Rep α] (K : PySem.W.Frag) (xs : List α) : PV := fun G H v => ∃ a vs, v = .ref a ∧ H a = some (.lst vs) ∧ Paired (rep K G) vs xs
instance {α : Type} [Rep α] {K : PySem.W.Frag} {xs : List α} : MonoC (SeqAt K xs) := ⟨fun _ _ _ _ _ x ⟨a, vs, e, g, p⟩ => ⟨a, vs, e, x.h.seq g, pair_up x.g p⟩⟩
instance {α : Type} [Rep α] {K : PySem.W.Frag} {xs : List α} : MonoC (OwnAt K xs) := ⟨fun _ _ _ _ _ x ⟨a, vs, e, g, p⟩ => ⟨a, vs, e, x.h _ _ g, pair_up x.g p⟩⟩
/-- P tells a list that may be read -/
class AsSeq (K : PySem.W.Frag) (P : PV) (α : outParam Type) (inst : outParam (Rep α)) (xs : outParam (List α)) : Prop where
  seq : ∀ G H v, Same G H → P G H v → SeqAt K xs G H v
class AsOwn (K : PySem.W.Frag) (P : PV) (α : outParam Type) (inst : outParam (Rep α)) (xs : outParam (List α)) : Prop where
  own : ∀ G H v, Same G H → P G H v → OwnAt K xs G H v
instance {α : Type} [i : Rep α] {K : PySem.W.Frag} {xs : List α} : AsSeq K (SeqAt K xs) α i xs := ⟨fun _ _ _ _ h => h⟩
instance {α : Type} [i : Rep α] {K : PySem.W.Frag} {xs : List α} : AsOwn K (OwnAt K xs) α i xs := ⟨fun _ _ _ _ h => h⟩
instance {α : Type} [i : Rep α] {K : PySem.W.Frag} {xs : List α} : AsOwn K (Is K xs) α i xs := ⟨fun _ _ _ s ⟨a, vs, e, g, p⟩ => ⟨a, vs, e, s _ _ g, p⟩⟩
instance {α : Type} [i : Rep α] {K : PySem.W.Frag} {xs : List α} : AsSeq K (Is K xs) α i xs := ⟨fun _ _ _ s ⟨a, vs, e, g, p⟩ => ⟨a, vs, e, .of (s _ _ g), p⟩⟩
instance {α : Type} [i : Rep α] {K : PySem.W.Frag} {xs : List α} : AsSeq K (OwnAt K xs) α i xs := ⟨fun _ _ _ _ ⟨a, vs, e, g, p⟩ => ⟨a, vs, e, .of g, p⟩⟩
instance {K : PySem.W.Frag} {x : Scr} : AsSeq K (Is K x) Int instRepInt x.ns := ⟨fun _ _ _ s ⟨a, e, g⟩ => ⟨a, _, e, s.seq g, ints_paired _⟩⟩

section
variable {X : Cx} {σ : St} {G H : Hp} {P Pa Pb : PV} {e a b c : Expr} {es : List Expr} {pos : Pos}
/-! ### names, constants -/
theorem ev_vP {i : Nat} {n : Str} {p : Pos} {v : V} [m : MonoC P] (s : Sl X i n) (r : P G H v) (h : σ[i]? = some (some v) := by rfl) : EvP X (.Name n p) σ G H P :=
  evP_of (pe_var s.hN s.hv s.nm.hd s.nm.hcd) fun G1 H1 x1 Q q => ⟨v, h, q G1 H1 v (Ext.refl x1.s) (m.m _ _ _ _ _ x1 r)⟩
theorem ev_v {α : Type} [Rep α] {x : α} {i : Nat} {n : Str} {p : Pos} {v : V} (s : Sl X i n) (r : rep X.K G v x) (h : σ[i]? = some (some v) := by rfl) : Ev X (.Name n p) σ G H x := ev_vP s (P := Is X.K x) r h
theorem ev_c {v : V} {t : TE} (h : PE X e (tC v)) (r : ∀ G1 H1, Ext G H G1 H1 → P G1 H1 v) : EvP X e σ G H P := evP_of h fun G1 H1 x1 Q q => q G1 H1 v (Ext.refl x1.s) (r G1 H1 x1)
theorem ev_int {i : Int} {j p} : Ev X (.Constant (.int i) j p) σ G H i := ev_c (t := tC .non) pe_int fun _ _ _ => rfl
theorem ev_bl {i : Bool} {j p} : Ev X (.Constant (.bool i) j p) σ G H i := ev_c (t := tC .non) pe_bl fun _ _ _ => rfl
theorem ev_str {i : Str} {j p} : Ev X (.Constant (.str i) j p) σ G H i := ev_c (t := tC .non) pe_str fun _ _ _ => rfl
theorem ev_none {α : Type} [Rep α] {j p} : Ev X (.Constant .none j p) σ G H (none : Option α) := ev_c (t := tC .non) pe_non fun _ _ _ => rfl
theorem ev_unit {j p} : Ev X (.Constant .none j p) σ G H () := ev_c (t := tC .non) pe_non fun _ _ _ => rfl
theorem ev_some {α : Type} [Rep α] {x : α} (h : Ev X e σ G H x) : Ev X e σ G H (some x) := h.imp fun _ _ _ _ _ r => r
theorem ev_glob {α : Type} [Rep α] {x : α} {n : Str} {p : Pos} {v : V} {u : Value} (hg : Gl X n) (hm : X.mg n = some u) (r : RelV v u) (q : ∀ G, rep X.K G v x) (hd : (n == ("__debug__" : Str)) = false := by decide) : Ev X (.Name n p) σ G H x :=
  ev_c (t := tC .non) (pe_glob hg hm r hd) fun _ _ _ => q _
/-- a built-in class, as a value -/
theorem ev_ty {n : Str} {p : Pos} {T : String} (hg : Gl X n) (hm : X.mg n = none) (hv : bootBuiltins n = some (.type T)) (hn : n ≠ "__name__" := by decide) (hd : (n == ("__debug__" : Str)) = false := by decide) : Ev X (.Name n p) σ G H (V.ty T) :=
  ev_c (t := tC .non) (pe_bltn (v := .ty T) hg hm hv rfl hn hd) fun _ _ _ => rfl

/-! ### two operands -/
/-- f of two values, told by data -/
def Bin (X : Cx) (f : Value → Value → Sem Value) (Pa Pb P : PV) (G H : Hp) : Prop :=
  ∃ r : R2, OpR X f r ∧ ∀ G1 H1 v u, Ext G H G1 H1 → HLen H1 → Pa G1 H1 v → Pb G1 H1 u → ∀ Q : VK, (∀ G2 H2 w, Ext G1 H1 G2 H2 → P G2 H2 w → Q w H2) → r v u H1 Q
theorem bin_go {f : R2} [m : MonoC Pa] (ha : EvP X a σ G H Pa) (hb : EvP X b σ G H Pb)
    (k : ∀ G1 H1 v u, Ext G H G1 H1 → HLen H1 → Pa G1 H1 v → Pb G1 H1 u → ∀ Q : VK, (∀ G2 H2 w, Ext G1 H1 G2 H2 → P G2 H2 w → Q w H2) → f v u H1 Q) :
    ∀ G1 H1, Ext G H G1 H1 → ∀ Q : VK, (∀ G2 H2 v, Ext G1 H1 G2 H2 → P G2 H2 v → Q v H2) → tOp f (tE X a) (tE X b) σ H1 Q := fun G1 H1 x1 Q q =>
  ha G1 H1 x1 _ fun G2 H2 v x2 _ pv => hb G2 H2 (x1.trans x2) _ fun G3 H3 u x3 l3 pu => k G3 H3 v u ((x1.trans x2).trans x3) l3 (m.m _ _ _ _ _ x3 pv) pu Q fun G4 H4 w x4 pw => q G4 H4 w ((x2.trans x3).trans x4) pw
theorem ev_bin {op : Operator} [m : MonoC Pa] (k : Bin X (binaryOp op) Pa Pb P G H) (ha : EvP X a σ G H Pa) (hb : EvP X b σ G H Pb) : EvP X (.BinOp a op b pos) σ G H P :=
  let ⟨_, ho, k⟩ := k; evP_of (pe_op ho pe_sem pe_sem) (bin_go ha hb k)
theorem ev_cmp {op : CmpOp} [m : MonoC Pa] (k : Bin X (compareOp op) Pa Pb P G H) (ha : EvP X a σ G H Pa) (hb : EvP X b σ G H Pb) (hm : behindInMarks op b = false := by first | exact nomark _ | rfl) : EvP X (.Compare a [op] [b] pos) σ G H P :=
  let ⟨_, ho, k⟩ := k; evP_of (pe_cmpR ho pe_sem pe_sem hm) (bin_go ha hb k)
theorem et_cmp {op : CmpOp} {d : Bool} [m : MonoC Pa] (k : Bin X (compareOp op) Pa Pb (Is X.K d) G H) (ha : EvP X a σ G H Pa) (hb : EvP X b σ G H Pb) (hm : behindInMarks op b = false := by first | exact nomark _ | rfl) : EvT X (.Compare a [op] [b] pos) σ G H d :=
  let ⟨_, ho, k⟩ := k; evT_of (pt_cmpR ho pe_sem pe_sem hm) fun G1 H1 x1 Q q => bin_go ha hb k G1 H1 x1 _ fun G2 H2 _ x2 r => ⟨d, r, q G2 H2 x2⟩
theorem bin_I {f : Value → Value → Sem Value} {C : Int → Int → Prop} {g : Int → Int → Int} {i j : Int} (ho : OpR X f (rI C fun i j => .int (g i j))) (hc : C i j) : Bin X f (Is X.K i) (Is X.K j) (Is X.K (g i j)) G H :=
  ⟨_, ho, fun G1 H1 _ _ x _ e1 e2 _ q => ⟨i, j, e1, e2, hc, q G1 H1 _ (Ext.refl x.s) rfl⟩⟩
theorem bin_I0 {f : Value → Value → Sem Value} {g : Int → Int → Int} {i j : Int} (ho : OpR X f (rI0 fun i j => .int (g i j))) : Bin X f (Is X.K i) (Is X.K j) (Is X.K (g i j)) G H :=
  ⟨_, ho, fun G1 H1 _ _ x _ e1 e2 _ q => ⟨i, j, e1, e2, q G1 H1 _ (Ext.refl x.s) rfl⟩⟩
theorem bin_B0 {f : Value → Value → Sem Value} {g : Int → Int → Bool} {i j : Int} (ho : OpR X f (rI0 fun i j => .bl (g i j))) : Bin X f (Is X.K i) (Is X.K j) (Is X.K (g i j)) G H :=
  ⟨_, ho, fun G1 H1 _ _ x _ e1 e2 _ q => ⟨i, j, e1, e2, q G1 H1 _ (Ext.refl x.s) rfl⟩⟩
variable {i j : Int}
theorem b_add : Bin X (binaryOp .Add) (Is X.K i) (Is X.K j) (Is X.K (i + j)) G H := bin_I0 (g := fun i j => i + j) op_add
theorem b_sub : Bin X (binaryOp .Sub) (Is X.K i) (Is X.K j) (Is X.K (i - j)) G H := bin_I0 (g := fun i j => i - j) op_sub
theorem b_mul (h : CMul i j) : Bin X (binaryOp .Mult) (Is X.K i) (Is X.K j) (Is X.K (i * j)) G H := bin_I (g := fun i j => i * j) op_mul h
theorem b_mulW (h : CMulW i j) : Bin X (binaryOp .Mult) (Is X.K i) (Is X.K j) (Is X.K (i * j)) G H := bin_I (g := fun i j => i * j) op_mulW h
theorem b_div (h : CDiv i j) : Bin X (binaryOp .FloorDiv) (Is X.K i) (Is X.K j) (Is X.K (i / j)) G H := bin_I (g := fun i j => i / j) op_fdiv h
theorem b_divW (h : CDivW i j) : Bin X (binaryOp .FloorDiv) (Is X.K i) (Is X.K j) (Is X.K (i / j)) G H := bin_I (g := fun i j => i / j) op_fdivW h
theorem b_mod (h : 0 < j) : Bin X (binaryOp .Mod) (Is X.K i) (Is X.K j) (Is X.K (i % j)) G H := bin_I (g := fun i j => i % j) op_mod h
theorem b_pow (h : CPow i j) : Bin X (binaryOp .Pow) (Is X.K i) (Is X.K j) (Is X.K (i ^ j.toNat)) G H := bin_I (g := fun i j => i ^ j.toNat) op_pow h
theorem b_shr (h : 0 ≤ j) : Bin X (binaryOp .RShift) (Is X.K i) (Is X.K j) (Is X.K (i / 2 ^ j.toNat)) G H := bin_I (g := fun i j => i / 2 ^ j.toNat) op_shr h
theorem b_shl (h : CPow i j) : Bin X (binaryOp .LShift) (Is X.K i) (Is X.K j) (Is X.K (i * 2 ^ j.toNat)) G H := bin_I (g := fun i j => i * 2 ^ j.toNat) op_shl h
theorem b_and : Bin X (binaryOp .BitAnd) (Is X.K i) (Is X.K j) (Is X.K (Builtin.bitAnd i j)) G H := bin_I0 (g := fun i j => Builtin.bitAnd i j) op_and
theorem b_or : Bin X (binaryOp .BitOr) (Is X.K i) (Is X.K j) (Is X.K (Builtin.bitOr i j)) G H := bin_I0 (g := fun i j => Builtin.bitOr i j) op_or
theorem i_add : Bin X (inplaceOp .Add) (Is X.K i) (Is X.K j) (Is X.K (i + j)) G H := bin_I0 (g := fun i j => i + j) iop_add
theorem i_sub : Bin X (inplaceOp .Sub) (Is X.K i) (Is X.K j) (Is X.K (i - j)) G H := bin_I0 (g := fun i j => i - j) iop_sub
theorem c_lt : Bin X (compareOp .Lt) (Is X.K i) (Is X.K j) (Is X.K (decide (i < j))) G H := bin_B0 (g := fun i j => decide (i < j)) op_lt
theorem c_le : Bin X (compareOp .LtE) (Is X.K i) (Is X.K j) (Is X.K (decide (i ≤ j))) G H := bin_B0 (g := fun i j => decide (i ≤ j)) op_le
theorem c_gt : Bin X (compareOp .Gt) (Is X.K i) (Is X.K j) (Is X.K (decide (i > j))) G H := bin_B0 (g := fun i j => decide (i > j)) op_gt
theorem c_ge : Bin X (compareOp .GtE) (Is X.K i) (Is X.K j) (Is X.K (decide (i ≥ j))) G H := bin_B0 (g := fun i j => decide (i ≥ j)) op_ge
theorem dec_i : decide (V.int i = V.int j) = decide (i = j) := by
  by_cases h : i = j
  · rw [decide_eq_true h, decide_eq_true (congrArg V.int h)]
  · rw [decide_eq_false h, decide_eq_false fun z => h (V.int.inj z)]
theorem c_eq : Bin X (compareOp .Eq) (Is X.K i) (Is X.K j) (Is X.K (decide (i = j))) G H :=
  ⟨_, op_eq, fun G1 H1 v u x _ e1 e2 Q q => by
    rw [show v = V.int i from e1, show u = V.int j from e2]
    refine ⟨rfl, ?_⟩
    rw [dec_i]
    exact q G1 H1 _ (Ext.refl x.s) rfl⟩
theorem c_ne : Bin X (compareOp .NotEq) (Is X.K i) (Is X.K j) (Is X.K (!decide (i = j))) G H :=
  ⟨_, op_ne, fun G1 H1 v u x _ e1 e2 Q q => by
    rw [show v = V.int i from e1, show u = V.int j from e2]
    refine ⟨rfl, ?_⟩
    rw [dec_i]
    exact q G1 H1 _ (Ext.refl x.s) rfl⟩
theorem dec_b {i j : Bool} : decide (V.bl i = V.bl j) = decide (i = j) := by
  by_cases h : i = j
  · rw [decide_eq_true h, decide_eq_true (congrArg V.bl h)]
  · rw [decide_eq_false h, decide_eq_false fun z => h (V.bl.inj z)]
theorem c_eqB {i j : Bool} : Bin X (compareOp .Eq) (Is X.K i) (Is X.K j) (Is X.K (decide (i = j))) G H :=
  ⟨_, op_eq, fun G1 H1 v u x _ e1 e2 Q q => by
    rw [show v = V.bl i from e1, show u = V.bl j from e2]
    refine ⟨rfl, ?_⟩
    rw [dec_b]
    exact q G1 H1 _ (Ext.refl x.s) rfl⟩
theorem c_neB {i j : Bool} : Bin X (compareOp .NotEq) (Is X.K i) (Is X.K j) (Is X.K (!decide (i = j))) G H :=
  ⟨_, op_ne, fun G1 H1 v u x _ e1 e2 Q q => by
    rw [show v = V.bl i from e1, show u = V.bl j from e2]
    refine ⟨rfl, ?_⟩
    rw [dec_b]
    exact q G1 H1 _ (Ext.refl x.s) rfl⟩
/-- is None -/
class NonV (α : Type) [Rep α] : Prop where
  nn : ∀ {K : PySem.W.Frag} {G : Hp} {v : V} {x : α}, rep K G v x → v ≠ .non
instance : NonV Int := ⟨fun h z => by rw [show _ = V.int _ from h] at z; cases z⟩
instance : NonV Bool := ⟨fun h z => by rw [show _ = V.bl _ from h] at z; cases z⟩
instance : NonV Str := ⟨fun h z => by rw [show _ = V.str _ from h] at z; cases z⟩
instance {α : Type} [Rep α] : NonV (List α) := ⟨fun ⟨a, _, e, _⟩ z => by rw [e] at z; cases z⟩
instance {α β : Type} [Rep α] [Rep β] : NonV (α × β) := ⟨fun ⟨a, _, _, e, _⟩ z => by rw [e] at z; cases z⟩
theorem opt_non {α : Type} [Rep α] [n : NonV α] {K : PySem.W.Frag} {G : Hp} {v : V} {x : Option α} (h : rep K G v x) : decide (v = .non) = x.isNone := by
  cases x with
  | none => exact decide_eq_true h
  | some y => exact decide_eq_false (n.nn (x := y) h)
theorem c_isN {α : Type} [Rep α] [NonV α] {x : Option α} : Bin X (compareOp .Is) (Is X.K x) (Is X.K ()) (Is X.K x.isNone) G H :=
  ⟨_, op_isN, fun G1 H1 v u x _ e1 e2 Q q => ⟨e2, by rw [opt_non e1]; exact q G1 H1 _ (Ext.refl x.s) rfl⟩⟩
theorem c_notN {α : Type} [Rep α] [NonV α] {x : Option α} : Bin X (compareOp .IsNot) (Is X.K x) (Is X.K ()) (Is X.K (!x.isNone)) G H :=
  ⟨_, op_notN, fun G1 H1 v u x _ e1 e2 Q q => ⟨e2, by rw [opt_non e1]; exact q G1 H1 _ (Ext.refl x.s) rfl⟩⟩
theorem ev_neg (h : Ev X a σ G H i) : Ev X (.UnaryOp .USub a pos) σ G H (-i) :=
  evP_of (pe_un un_neg pe_sem) fun G1 H1 x1 Q q => h G1 H1 x1 _ fun G2 H2 v x2 _ r => ⟨i, r, q G2 H2 _ x2 rfl⟩

/-! ### tests -/
variable {x y : Bool}
theorem et_val (h : Ev X e σ G H x) (he : ∀ whole, isTrue e X.env whole = (do let v ← whole; standAt e.pos; holding [v] (truthy v)) := by intro _; rfl) : EvT X e σ G H x :=
  evT_of (pt_val pe_sem he) fun G1 H1 x1 Q q => h G1 H1 x1 _ fun G2 H2 _ x2 _ r => ⟨x, r, q G2 H2 x2⟩
theorem et_w (h : EvW X e σ G H x) : EvT X e σ G H x := evT_of pw_sem.pt h'
  where h' := fun G1 H1 x1 Q q => h G1 H1 x1 Q fun G2 H2 x2 _ => q G2 H2 x2
theorem et_not (h : EvT X e σ G H x) : EvT X (.UnaryOp .Not e pos) σ G H (!x) :=
  evT_of (pt_not pt_sem) fun G1 H1 x1 Q q => h G1 H1 x1 _ fun G2 H2 x2 _ => q G2 H2 x2
theorem ew_and1 (h : EvT X e σ G H x) : EvW X (.BoolOp .And [e] pos) σ G H x := evW_of (pw_and1 pt_sem) fun G1 H1 x1 Q q => h G1 H1 x1 Q fun G2 H2 x2 _ => q G2 H2 x2
theorem ew_or1 (h : EvT X e σ G H x) : EvW X (.BoolOp .Or [e] pos) σ G H x := evW_of (pw_or1 pt_sem) fun G1 H1 x1 Q q => h G1 H1 x1 Q fun G2 H2 x2 _ => q G2 H2 x2
theorem ew_and (h : EvT X a σ G H x) (k : x = true → EvW X (.BoolOp .And (b :: es) pos) σ G H y) : EvW X (.BoolOp .And (a :: b :: es) pos) σ G H (x && y) :=
  evW_of (pw_and pt_sem pw_sem) fun G1 H1 x1 Q q => h G1 H1 x1 _ fun G2 H2 x2 _ => by
    cases x with
    | true =>
      show tW X _ σ H2 Q
      exact k rfl G2 H2 (x1.trans x2) Q fun G3 H3 x3 _ => q G3 H3 (x2.trans x3)
    | false =>
      show Q false H2
      exact q G2 H2 x2
theorem ew_or (h : EvT X a σ G H x) (k : x = false → EvW X (.BoolOp .Or (b :: es) pos) σ G H y) : EvW X (.BoolOp .Or (a :: b :: es) pos) σ G H (x || y) :=
  evW_of (pw_or pt_sem pw_sem) fun G1 H1 x1 Q q => h G1 H1 x1 _ fun G2 H2 x2 _ => by
    cases x with
    | true =>
      show Q true H2
      exact q G2 H2 x2
    | false =>
      show tW X _ σ H2 Q
      exact k rfl G2 H2 (x1.trans x2) Q fun G3 H3 x3 _ => q G3 H3 (x2.trans x3)
/-- .. as values -/
theorem ev_bo1 {op} (h : Ev X e σ G H x) : Ev X (.BoolOp op [e] pos) σ G H x := evP_of (pe_one pe_sem) fun G1 H1 x1 Q q => h G1 H1 x1 Q fun G2 H2 v x2 _ => q G2 H2 v x2
theorem ev_and (h : Ev X a σ G H x) (k : x = true → Ev X (.BoolOp .And (b :: es) pos) σ G H y) : Ev X (.BoolOp .And (a :: b :: es) pos) σ G H (x && y) :=
  evP_of (pe_and pe_sem pe_sem) fun G1 H1 x1 Q q => h G1 H1 x1 _ fun G2 H2 v x2 _ r => ⟨x, r, by
    cases x with
    | true =>
      show tE X _ σ H2 Q
      exact k rfl G2 H2 (x1.trans x2) Q fun G3 H3 w x3 _ => q G3 H3 w (x2.trans x3)
    | false =>
      show Q (.bl false) H2
      exact q G2 H2 _ x2 rfl⟩
theorem ev_or (h : Ev X a σ G H x) (k : x = false → Ev X (.BoolOp .Or (b :: es) pos) σ G H y) : Ev X (.BoolOp .Or (a :: b :: es) pos) σ G H (x || y) :=
  evP_of (pe_or pe_sem pe_sem) fun G1 H1 x1 Q q => h G1 H1 x1 _ fun G2 H2 v x2 _ r => ⟨x, r, by
    cases x with
    | true =>
      show Q (.bl true) H2
      exact q G2 H2 _ x2 rfl
    | false =>
      show tE X _ σ H2 Q
      exact k rfl G2 H2 (x1.trans x2) Q fun G3 H3 w x3 _ => q G3 H3 w (x2.trans x3)⟩
theorem ev_not (h : Ev X e σ G H x) : Ev X (.UnaryOp .Not e pos) σ G H (!x) := evP_of (pe_not pe_sem) fun G1 H1 x1 Q q => h G1 H1 x1 _ fun G2 H2 v x2 _ r => ⟨x, r, q G2 H2 _ x2 rfl⟩
theorem ev_ifP (h : EvT X c σ G H x) (h1 : x = true → EvP X a σ G H P) (h2 : x = false → EvP X b σ G H P) : EvP X (.IfExp c a b pos) σ G H P :=
  evP_of (pe_ifExp pt_sem pe_sem pe_sem) fun G1 H1 x1 Q q => h G1 H1 x1 _ fun G2 H2 x2 _ => by
    cases x with
    | true =>
      show tE X a σ H2 Q
      exact h1 rfl G2 H2 (x1.trans x2) Q fun G3 H3 w x3 _ => q G3 H3 w (x2.trans x3)
    | false =>
      show tE X b σ H2 Q
      exact h2 rfl G2 H2 (x1.trans x2) Q fun G3 H3 w x3 _ => q G3 H3 w (x2.trans x3)
theorem ev_if {α : Type} [Rep α] {u w : α} (h : EvT X c σ G H x) (h1 : x = true → Ev X a σ G H u) (h2 : x = false → Ev X b σ G H w) : Ev X (.IfExp c a b pos) σ G H (if x = true then u else w) :=
  ev_ifP h (fun z => (h1 z).to (by rw [if_pos z])) (fun z => (h2 z).to (by rw [if_neg (by rw [z]; decide)]))
/-- a op1 b op2 c, of ints -/
theorem ch_go {f g : R2} {Pc : PV} [ma : MonoC Pa] [mb : MonoC Pb] (ha : EvP X a σ G H Pa) (hb : EvP X b σ G H Pb) (hc : x = true → EvP X c σ G H Pc)
    (k : ∀ G1 H1 v u, Ext G H G1 H1 → HLen H1 → Pa G1 H1 v → Pb G1 H1 u → ∀ Q : VK, (∀ G2 H2 w, Ext G1 H1 G2 H2 → Is X.K x G2 H2 w → Q w H2) → f v u H1 Q)
    (k' : ∀ G1 H1 v u, Ext G H G1 H1 → HLen H1 → Pb G1 H1 v → Pc G1 H1 u → ∀ Q : VK, (∀ G2 H2 w, Ext G1 H1 G2 H2 → Is X.K y G2 H2 w → Q w H2) → g v u H1 Q) :
    ∀ G1 H1, Ext G H G1 H1 → ∀ Q : VK, (∀ G2 H2 v, Ext G1 H1 G2 H2 → Is X.K (x && y) G2 H2 v → Q v H2) → tChain f g (tE X a) (tE X b) (tE X c) σ H1 Q := fun G1 H1 x1 Q q =>
  ha G1 H1 x1 _ fun G2 H2 v x2 _ pv => hb G2 H2 (x1.trans x2) _ fun G3 H3 u x3 l3 pu => k G3 H3 v u ((x1.trans x2).trans x3) l3 (ma.m _ _ _ _ _ x3 pv) pu _ fun G4 H4 w x4 pw => ⟨x, pw, by
    have x14 := (x1.trans x2).trans (x3.trans x4)
    cases x with
    | true =>
      show tE X c σ H4 _
      exact hc rfl G4 H4 x14 _ fun G5 H5 t x5 l5 pt => k' G5 H5 u t (x14.trans x5) l5 (mb.m _ _ _ _ _ x5 (mb.m _ _ _ _ _ x4 pu)) pt Q fun G6 H6 r x6 pr => q G6 H6 r (((x2.trans x3).trans x4).trans (x5.trans x6)) pr
    | false =>
      show Q (.bl false) H4
      exact q G4 H4 _ ((x2.trans x3).trans x4) rfl⟩
theorem ev_chain {op op' : CmpOp} {Pc : PV} [ma : MonoC Pa] [mb : MonoC Pb] (k : Bin X (compareOp op) Pa Pb (Is X.K x) G H) (k' : Bin X (compareOp op') Pb Pc (Is X.K y) G H)
    (ha : EvP X a σ G H Pa) (hb : EvP X b σ G H Pb) (hc : x = true → EvP X c σ G H Pc) (hm : lastMarks [op, op'] [b, c] = false := by with_unfolding_all rfl) : Ev X (.Compare a [op, op'] [b, c] pos) σ G H (x && y) :=
  let ⟨_, ho, k⟩ := k; let ⟨_, ho', k'⟩ := k'; evP_of (pe_chain ho ho' pe_sem pe_sem pe_sem hm) (ch_go ha hb hc k k')
theorem et_chain {op op' : CmpOp} {Pc : PV} [ma : MonoC Pa] [mb : MonoC Pb] (k : Bin X (compareOp op) Pa Pb (Is X.K x) G H) (k' : Bin X (compareOp op') Pb Pc (Is X.K y) G H)
    (ha : EvP X a σ G H Pa) (hb : EvP X b σ G H Pb) (hc : x = true → EvP X c σ G H Pc) (hm : lastMarks [op, op'] [b, c] = false := by with_unfolding_all rfl) : EvT X (.Compare a [op, op'] [b, c] pos) σ G H (x && y) :=
  let ⟨_, ho, k⟩ := k; let ⟨_, ho', k'⟩ := k'; evT_of (pt_chain ho ho' pe_sem pe_sem pe_sem hm) fun G1 H1 x1 Q q => ch_go ha hb hc k k' G1 H1 x1 _ fun G2 H2 _ x2 r => ⟨_, r, q G2 H2 x2⟩

/-! ### arguments, displays -/
theorem ea_nil : EvA X [] σ G H (fun _ _ vs => vs = []) := evA_of pa_nil fun G1 H1 x1 Q q => q G1 H1 [] (Ext.refl x1.s) rfl
def ACons (P : PV) (A : Hp → Hp → List V → Prop) : Hp → Hp → List V → Prop := fun G H vs => ∃ v r, vs = v :: r ∧ P G H v ∧ A G H r
theorem ea_cons {A : Hp → Hp → List V → Prop} [m : MonoC P] (h : EvP X e σ G H P) (hr : EvA X es σ G H A) (hs : starEach (e :: es) X.env = (false, eval e X.env) :: starEach es X.env := by rfl) : EvA X (e :: es) σ G H (ACons P A) :=
  evA_of (pa_cons pe_sem pa_sem hs) fun G1 H1 x1 Q q => h G1 H1 x1 _ fun G2 H2 v x2 _ pv => hr G2 H2 (x1.trans x2) _ fun G3 H3 vs x3 _ pa => q G3 H3 _ (x2.trans x3) ⟨v, vs, rfl, m.m _ _ _ _ _ x3 pv, pa⟩
/-- items of one kind -/
def AAll {α : Type} [Rep α] (K : PySem.W.Frag) (xs : List α) : Hp → Hp → List V → Prop := fun G _ vs => Paired (rep K G) vs xs
theorem es_nil {α : Type} [Rep α] : EvA X [] σ G H (AAll X.K ([] : List α)) := evA_of pa_nil fun G1 H1 x1 Q q => q G1 H1 [] (Ext.refl x1.s) .nil
theorem es_cons {α : Type} [Rep α] {x : α} {xs : List α} (h : Ev X e σ G H x) (hr : EvA X es σ G H (AAll X.K xs)) (hs : starEach (e :: es) X.env = (false, eval e X.env) :: starEach es X.env := by rfl) : EvA X (e :: es) σ G H (AAll X.K (x :: xs)) :=
  evA_of (pa_cons pe_sem pa_sem hs) fun G1 H1 x1 Q q => h G1 H1 x1 _ fun G2 H2 v x2 _ pv => hr G2 H2 (x1.trans x2) _ fun G3 H3 vs x3 _ pa => q G3 H3 _ (x2.trans x3) (.cons (up x3.g pv) pa)
/-- it is x, and new -/
theorem frz_new {G H G1 H1 : Hp} {p : Addr} {o : HO} (x : Ext G H G1 H1) (hp : H1 p = none) : (upd G1 p o) p = some o := upd_same
theorem ev_list {α : Type} [Rep α] {xs : List α} (h : EvA X es σ G H (AAll X.K xs)) (hl : xs.length ≤ 1000 := by exact Nat.le_of_ble_eq_true rfl) : Ev X (.List es pos) σ G H xs :=
  evP_of (pe_lst pa_sem) fun G1 H1 x1 Q q => h G1 H1 x1 _ fun G2 H2 vs x2 _ pa => ⟨by rw [paired_len pa]; exact Nat.le_of_lt (small1000 hl), fun p hp =>
    q (upd G2 p (.lst vs)) _ _ (x2.new hp) ⟨p, vs, rfl, upd_same, pair_up (same_new (x2.s.free hp)) pa⟩⟩
theorem ev_tup {α β : Type} [Rep α] [Rep β] {x : α} {y : β} {k : Nat} (ha : Ev X a σ G H x) (hb : Ev X b σ G H y) (hs : starEach [a, b] X.env = (false, eval a X.env) :: starEach [b] X.env := by rfl) (hs' : starEach [b] X.env = (false, eval b X.env) :: starEach [] X.env := by rfl) :
    Ev X (.Tuple [a, b] k pos) σ G H (x, y) :=
  evP_of (pe_tup (pa_cons pe_sem (pa_cons pe_sem pa_nil hs') hs)) fun G1 H1 x1 Q q => ha G1 H1 x1 _ fun G2 H2 v x2 _ pv => hb G2 H2 (x1.trans x2) _ fun G3 H3 u x3 _ pu =>
    ⟨by show 2 ≤ sizeLine; decide, fun p hp => q (upd G3 p (.tup [v, u])) _ _ ((x2.trans x3).new hp) ⟨p, v, u, rfl, upd_same, up (same_new (x3.s.free hp)) (up x3.g pv), up (same_new (x3.s.free hp)) pu⟩⟩

/-! ### calls -/
/-- a def of the text that keeps its promise -/
structure Cal (P : Program) (w : World) (K : PySem.W.Frag) (mg : Str → Option Value) (base : Heap) (k : Nat) (x : Str) (sp : Sp) : Prop where
  ex : ∃ (f : Addr) (fd : FuncData) (ps : List Str), FnOk P w K mg base (L2.CX P w) k f fd ps sp ∧ mg x = some (.ref f) ∧ PySem.W.keepIn K (.ref f) = true ∧ Binds K fd ps []
theorem ev_call {k : Nat} {n : Str} {p : Pos} {sp : Sp} {A : Hp → Hp → List V → Prop} (C : Cal X.prog X.w X.K X.mg X.base k n sp) (hr : Room k X.A) (hg : Gl X n) (ha : EvA X (e :: es) σ G H A)
    (h : ∀ G1 H1 vs, Ext G H G1 H1 → HLen H1 → A G1 H1 vs → ∀ Q : VK, (∀ G2 H2 v, Ext G1 H1 G2 H2 → P G2 H2 v → Q v H2) → sp vs H1 Q E0) (hdb : (n == ("__debug__" : Str)) = false := by decide)
    (he : starEach (e :: es) X.env = (false, eval e X.env) :: starEach es X.env := by rfl) (hpl : (backTo pos (starEach es X.env)).any (·.1) = false := by rfl) : EvP X (.Call (.Name n p) (e :: es) [] pos) σ G H P := by
  obtain ⟨f, fd, ps, F, hm, hk, hb⟩ := C.ex
  exact evP_of (pe_call F hr hg hm hk hb .nil passL pa_sem hdb he hpl) fun G1 H1 x1 Q q => ha G1 H1 x1 _ fun G2 H2 vs x2 l2 pa => by
    show sp (vs ++ []) H2 Q E0
    rw [List.append_nil]
    exact h G2 H2 vs (x1.trans x2) l2 pa Q fun G3 H3 v x3 r => q G3 H3 v (x2.trans x3) r
/-- what is new, behind H -/
def New (H : Hp) (v : V) : Prop := ∀ p, v = .ref p → H p = none
section sps
variable {α β γ δ ε ζ : Type} [Rep α] [Rep β] [Rep γ] [Rep δ] [Rep ε] [Rep ζ]
/-- a def of one, two, .. arguments that hands back f of them; fr: a new object -/
def Sp1 (K : PySem.W.Frag) (fr : Bool) (pre : α → Prop) (f : α → ζ) : Sp := fun vs H Q _ => ∃ (G : Hp) (v1 : V) (x1 : α), vs = [v1] ∧ Same G H ∧ rep K G v1 x1 ∧ pre x1 ∧
  ∀ G2 H2 w, Ext G H G2 H2 → rep K G2 w (f x1) → (fr = true → New H w) → Q w H2
def Sp2 (K : PySem.W.Frag) (fr : Bool) (pre : α → β → Prop) (f : α → β → ζ) : Sp := fun vs H Q _ => ∃ (G : Hp) (v1 v2 : V) (x1 : α) (x2 : β), vs = [v1, v2] ∧ Same G H ∧ rep K G v1 x1 ∧ rep K G v2 x2 ∧ pre x1 x2 ∧
  ∀ G2 H2 w, Ext G H G2 H2 → rep K G2 w (f x1 x2) → (fr = true → New H w) → Q w H2
def Sp3 (K : PySem.W.Frag) (fr : Bool) (pre : α → β → γ → Prop) (f : α → β → γ → ζ) : Sp := fun vs H Q _ => ∃ (G : Hp) (v1 v2 v3 : V) (x1 : α) (x2 : β) (x3 : γ), vs = [v1, v2, v3] ∧ Same G H ∧ rep K G v1 x1 ∧ rep K G v2 x2 ∧ rep K G v3 x3 ∧ pre x1 x2 x3 ∧
  ∀ G2 H2 w, Ext G H G2 H2 → rep K G2 w (f x1 x2 x3) → (fr = true → New H w) → Q w H2
def Sp4 (K : PySem.W.Frag) (fr : Bool) (pre : α → β → γ → δ → Prop) (f : α → β → γ → δ → ζ) : Sp := fun vs H Q _ => ∃ (G : Hp) (v1 v2 v3 v4 : V) (x1 : α) (x2 : β) (x3 : γ) (x4 : δ), vs = [v1, v2, v3, v4] ∧ Same G H ∧ rep K G v1 x1 ∧ rep K G v2 x2 ∧ rep K G v3 x3 ∧ rep K G v4 x4 ∧ pre x1 x2 x3 x4 ∧
  ∀ G2 H2 w, Ext G H G2 H2 → rep K G2 w (f x1 x2 x3 x4) → (fr = true → New H w) → Q w H2
def Sp5 (K : PySem.W.Frag) (fr : Bool) (pre : α → β → γ → δ → ε → Prop) (f : α → β → γ → δ → ε → ζ) : Sp := fun vs H Q _ => ∃ (G : Hp) (v1 v2 v3 v4 v5 : V) (x1 : α) (x2 : β) (x3 : γ) (x4 : δ) (x5 : ε), vs = [v1, v2, v3, v4, v5] ∧ Same G H ∧ rep K G v1 x1 ∧ rep K G v2 x2 ∧ rep K G v3 x3 ∧ rep K G v4 x4 ∧ rep K G v5 x5 ∧ pre x1 x2 x3 x4 x5 ∧
  ∀ G2 H2 w, Ext G H G2 H2 → rep K G2 w (f x1 x2 x3 x4 x5) → (fr = true → New H w) → Q w H2
variable {k : Nat} {n : Str} {p : Pos} {fr : Bool} {e1 e2 e3 e4 e5 : Expr} {x1 : α} {x2 : β} {x3 : γ} {x4 : δ} {x5 : ε}
theorem ev_c1 {pre : α → Prop} {f : α → ζ} (C : Cal X.prog X.w X.K X.mg X.base k n (Sp1 X.K fr pre f)) (hr : Room k X.A) (hg : Gl X n) (h1 : Ev X e1 σ G H x1) (hp : pre x1) (hdb : (n == ("__debug__" : Str)) = false := by decide)
    (he : starEach [e1] X.env = (false, eval e1 X.env) :: starEach [] X.env := by rfl) : Ev X (.Call (.Name n p) [e1] [] pos) σ G H (f x1) :=
  ev_call C hr hg (ea_cons h1 ea_nil he) (fun G1 H1 vs x l ⟨v, r, e, rv, e'⟩ Q q => ⟨G1, v, x1, by rw [e, e'], x.s, rv, hp, fun G2 H2 w x r _ => q G2 H2 w x r⟩) hdb he rfl
theorem ev_c2 {pre : α → β → Prop} {f : α → β → ζ} (C : Cal X.prog X.w X.K X.mg X.base k n (Sp2 X.K fr pre f)) (hr : Room k X.A) (hg : Gl X n) (h1 : Ev X e1 σ G H x1) (h2 : Ev X e2 σ G H x2) (hp : pre x1 x2) (hdb : (n == ("__debug__" : Str)) = false := by decide)
    (he : starEach [e1, e2] X.env = (false, eval e1 X.env) :: starEach [e2] X.env := by rfl) (he2 : starEach [e2] X.env = (false, eval e2 X.env) :: starEach [] X.env := by rfl) (hpl : (backTo pos (starEach [e2] X.env)).any (·.1) = false := by rfl) : Ev X (.Call (.Name n p) [e1, e2] [] pos) σ G H (f x1 x2) :=
  ev_call C hr hg (ea_cons h1 (ea_cons h2 ea_nil he2) he) (fun G1 H1 vs x l ⟨v, r, e, rv, v2, r2, e', rv2, e''⟩ Q q => ⟨G1, v, v2, x1, x2, by rw [e, e', e''], x.s, rv, rv2, hp, fun G2 H2 w x r _ => q G2 H2 w x r⟩) hdb he hpl
theorem ev_c3 {pre : α → β → γ → Prop} {f : α → β → γ → ζ} (C : Cal X.prog X.w X.K X.mg X.base k n (Sp3 X.K fr pre f)) (hr : Room k X.A) (hg : Gl X n) (h1 : Ev X e1 σ G H x1) (h2 : Ev X e2 σ G H x2) (h3 : Ev X e3 σ G H x3) (hp : pre x1 x2 x3) (hdb : (n == ("__debug__" : Str)) = false := by decide)
    (he : starEach [e1, e2, e3] X.env = (false, eval e1 X.env) :: starEach [e2, e3] X.env := by rfl) (he2 : starEach [e2, e3] X.env = (false, eval e2 X.env) :: starEach [e3] X.env := by rfl) (he3 : starEach [e3] X.env = (false, eval e3 X.env) :: starEach [] X.env := by rfl) (hpl : (backTo pos (starEach [e2, e3] X.env)).any (·.1) = false := by rfl) : Ev X (.Call (.Name n p) [e1, e2, e3] [] pos) σ G H (f x1 x2 x3) :=
  ev_call C hr hg (ea_cons h1 (ea_cons h2 (ea_cons h3 ea_nil he3) he2) he) (fun G1 H1 vs x l ⟨v, r, e, rv, v2, r2, e', rv2, v3, r3, e'', rv3, e'''⟩ Q q => ⟨G1, v, v2, v3, x1, x2, x3, by rw [e, e', e'', e'''], x.s, rv, rv2, rv3, hp, fun G2 H2 w x r _ => q G2 H2 w x r⟩) hdb he hpl
theorem ev_c4 {pre : α → β → γ → δ → Prop} {f : α → β → γ → δ → ζ} (C : Cal X.prog X.w X.K X.mg X.base k n (Sp4 X.K fr pre f)) (hr : Room k X.A) (hg : Gl X n) (h1 : Ev X e1 σ G H x1) (h2 : Ev X e2 σ G H x2) (h3 : Ev X e3 σ G H x3) (h4 : Ev X e4 σ G H x4) (hp : pre x1 x2 x3 x4) (hdb : (n == ("__debug__" : Str)) = false := by decide)
    (he : starEach [e1, e2, e3, e4] X.env = (false, eval e1 X.env) :: starEach [e2, e3, e4] X.env := by rfl) (he2 : starEach [e2, e3, e4] X.env = (false, eval e2 X.env) :: starEach [e3, e4] X.env := by rfl) (he3 : starEach [e3, e4] X.env = (false, eval e3 X.env) :: starEach [e4] X.env := by rfl) (he4 : starEach [e4] X.env = (false, eval e4 X.env) :: starEach [] X.env := by rfl) (hpl : (backTo pos (starEach [e2, e3, e4] X.env)).any (·.1) = false := by rfl) : Ev X (.Call (.Name n p) [e1, e2, e3, e4] [] pos) σ G H (f x1 x2 x3 x4) :=
  ev_call C hr hg (ea_cons h1 (ea_cons h2 (ea_cons h3 (ea_cons h4 ea_nil he4) he3) he2) he) (fun G1 H1 vs x l ⟨v, r, e, rv, v2, r2, e', rv2, v3, r3, e'', rv3, v4, r4, e3', rv4, e4'⟩ Q q => ⟨G1, v, v2, v3, v4, x1, x2, x3, x4, by rw [e, e', e'', e3', e4'], x.s, rv, rv2, rv3, rv4, hp, fun G2 H2 w x r _ => q G2 H2 w x r⟩) hdb he hpl
end sps
/-- a built-in by name -/
theorem ev_callB {id : String} {r : List V → Hp → VK → Prop} {n : Str} {p : Pos} {A : Hp → Hp → List V → Prop} (hc : CallR X (.builtin id) r) (hg : Gl X n) (hm : X.mg n = none) (hv : bootBuiltins n = some (.builtin id)) (ha : EvA X (e :: es) σ G H A)
    (k : ∀ G1 H1 vs, Ext G H G1 H1 → HLen H1 → A G1 H1 vs → ∀ Q : VK, (∀ G2 H2 w, Ext G1 H1 G2 H2 → P G2 H2 w → Q w H2) → r vs H1 Q)
    (hn : n ≠ "__name__" := by decide) (hdb : (n == ("__debug__" : Str)) = false := by decide) (he : starEach (e :: es) X.env = (false, eval e X.env) :: starEach es X.env := by rfl) (hpl : (backTo pos (starEach es X.env)).any (·.1) = false := by rfl) : EvP X (.Call (.Name n p) (e :: es) [] pos) σ G H P :=
  evP_of (pe_callB hc hg hm hv pa_sem hn hdb he hpl) fun G1 H1 x1 Q q => ha G1 H1 x1 _ fun G2 H2 vs x2 l2 pa => k G2 H2 vs (x1.trans x2) l2 pa Q fun G3 H3 w x3 pw => q G3 H3 w (x2.trans x3) pw
theorem ev_callTy {T : String} {r : List V → Hp → VK → Prop} {n : Str} {p : Pos} {A : Hp → Hp → List V → Prop} (hc : CallR X (.type T) r) (hg : Gl X n) (hm : X.mg n = none) (hv : bootBuiltins n = some (.type T)) (ha : EvA X (e :: es) σ G H A)
    (k : ∀ G1 H1 vs, Ext G H G1 H1 → HLen H1 → A G1 H1 vs → ∀ Q : VK, (∀ G2 H2 w, Ext G1 H1 G2 H2 → P G2 H2 w → Q w H2) → r vs H1 Q)
    (hn : n ≠ "__name__" := by decide) (hdb : (n == ("__debug__" : Str)) = false := by decide) (he : starEach (e :: es) X.env = (false, eval e X.env) :: starEach es X.env := by rfl) (hpl : (backTo pos (starEach es X.env)).any (·.1) = false := by rfl) : EvP X (.Call (.Name n p) (e :: es) [] pos) σ G H P :=
  evP_of (pe_callTy hc hg hm hv pa_sem hn hdb he hpl) fun G1 H1 x1 Q q => ha G1 H1 x1 _ fun G2 H2 vs x2 l2 pa => k G2 H2 vs (x1.trans x2) l2 pa Q fun G3 H3 w x3 pw => q G3 H3 w (x2.trans x3) pw
/-- a name that is the built-in still -/
structure Bl (X : Cx) (n : Str) : Prop where
  g : Gl X n
  m : X.mg n = none
variable {p : Pos}
theorem ev_len {α : Type} {inst : Rep α} {xs : List α} [MonoC P] [s : AsSeq X.K P α inst xs] (B : Bl X "len") (h : EvP X e σ G H P) (he : starEach [e] X.env = (false, eval e X.env) :: starEach [] X.env := by rfl) : Ev X (.Call (.Name "len" p) [e] [] pos) σ G H (xs.length : Int) :=
  ev_callB call_len_seq B.g B.m PySem.boot_len (ea_cons h ea_nil he) (fun G1 H1 vs x l ⟨v, r, e1, pv, e2⟩ Q q => by
    obtain ⟨a, us, e, g, pr⟩ := s.seq _ _ _ x.s pv
    exact ⟨a, us, by rw [e1, e2, e], .inl g, q G1 H1 _ (Ext.refl x.s) (by rw [paired_len pr]; rfl)⟩) (by decide) (by decide) he rfl
theorem ev_max (B : Bl X "max") (hc : X.calm = true) (h1 : Ev X a σ G H i) (h2 : Ev X b σ G H j) (he : starEach [a, b] X.env = (false, eval a X.env) :: starEach [b] X.env := by rfl) (he2 : starEach [b] X.env = (false, eval b X.env) :: starEach [] X.env := by rfl)
    (hpl : (backTo pos (starEach [b] X.env)).any (·.1) = false := by rfl) : Ev X (.Call (.Name "max" p) [a, b] [] pos) σ G H (if j > i then j else i) :=
  ev_callB (call_max2 hc) B.g B.m boot_max (ea_cons h1 (ea_cons h2 ea_nil he2) he) (fun G1 H1 vs x l ⟨v, r, e1, pv, v2, r2, e2, pv2, e3⟩ Q q =>
    ⟨i, j, by rw [e1, e2, e3, show v = _ from pv, show v2 = _ from pv2], q G1 H1 _ (Ext.refl x.s) rfl⟩) (by decide) (by decide) he hpl
theorem ev_min (B : Bl X "min") (hc : X.calm = true) (h1 : Ev X a σ G H i) (h2 : Ev X b σ G H j) (he : starEach [a, b] X.env = (false, eval a X.env) :: starEach [b] X.env := by rfl) (he2 : starEach [b] X.env = (false, eval b X.env) :: starEach [] X.env := by rfl)
    (hpl : (backTo pos (starEach [b] X.env)).any (·.1) = false := by rfl) : Ev X (.Call (.Name "min" p) [a, b] [] pos) σ G H (if j < i then j else i) :=
  ev_callB (call_min2 hc) B.g B.m boot_min (ea_cons h1 (ea_cons h2 ea_nil he2) he) (fun G1 H1 vs x l ⟨v, r, e1, pv, v2, r2, e2, pv2, e3⟩ Q q =>
    ⟨i, j, by rw [e1, e2, e3, show v = _ from pv, show v2 = _ from pv2], q G1 H1 _ (Ext.refl x.s) rfl⟩) (by decide) (by decide) he hpl
theorem ev_sum {xs : List Int} [MonoC P] [s : AsSeq X.K P Int instRepInt xs] (B : Bl X "sum") (hc : X.calm = true) (h : EvP X e σ G H P) (he : starEach [e] X.env = (false, eval e X.env) :: starEach [] X.env := by rfl) : Ev X (.Call (.Name "sum" p) [e] [] pos) σ G H xs.sum :=
  ev_callB (cr_sum hc) B.g B.m boot_sum (ea_cons h ea_nil he) (fun G1 H1 vs x l ⟨v, r, e1, pv, e2⟩ Q q => by
    obtain ⟨a, us, e, g, pr⟩ := s.seq _ _ _ x.s pv
    rw [paired_ints pr] at g
    exact ⟨a, xs, by rw [e1, e2, e], g, q G1 H1 _ (Ext.refl x.s) rfl⟩) (by decide) (by decide) he rfl
/-- list(xs): a copy -/
theorem ev_copy {α : Type} {inst : Rep α} {xs : List α} [MonoC P] [s : AsSeq X.K P α inst xs] (B : Bl X "list") (h : EvP X e σ G H P) (he : starEach [e] X.env = (false, eval e X.env) :: starEach [] X.env := by rfl) : Ev X (.Call (.Name "list" p) [e] [] pos) σ G H xs :=
  ev_callTy call_list_of B.g B.m PyProof.Rows.boot_list (ea_cons h ea_nil he) (fun G1 H1 vs x l ⟨v, r, e1, pv, e2⟩ Q q => by
    obtain ⟨a, us, e, g, pr⟩ := s.seq _ _ _ x.s pv
    exact ⟨a, us, by rw [e1, e2, e], .inl g, fun p hp => q (upd G1 p (.lst us)) _ _ ((Ext.refl x.s).new hp) ⟨p, us, rfl, upd_same, pair_up (same_new (x.s.free hp)) pr⟩⟩) (by decide) (by decide) he rfl
theorem ev_intB (B : Bl X "int") (h : Ev X e σ G H x) (he : starEach [e] X.env = (false, eval e X.env) :: starEach [] X.env := by rfl) : Ev X (.Call (.Name "int" p) [e] [] pos) σ G H (if x = true then 1 else 0 : Int) :=
  ev_callTy call_int1 B.g B.m PyProof.Rows.boot_int (ea_cons h ea_nil he) (fun G1 H1 vs y l ⟨v, r, e1, pv, e2⟩ Q q => .inr ⟨x, by rw [e1, e2, show v = _ from pv], q G1 H1 _ (Ext.refl y.s) rfl⟩) (by decide) (by decide) he rfl

/-! ### lists -/
theorem b_cat {α : Type} {ia : Rep α} {xs ys : List α} [sa : AsOwn X.K Pa α ia xs] [sb : AsOwn X.K Pb α ia ys] (hl : xs.length + ys.length ≤ sizeLine) : Bin X (binaryOp .Add) Pa Pb (Is X.K (xs ++ ys)) G H :=
  ⟨_, op_cat, fun G1 H1 v u x _ h1 h2 Q q => by
    obtain ⟨a, us, e, g, pr⟩ := sa.own _ _ _ x.s h1
    obtain ⟨a2, us2, e2, g2, pr2⟩ := sb.own _ _ _ x.s h2
    exact ⟨a, a2, us, us2, e, e2, g, g2, by rw [paired_len pr, paired_len pr2]; exact hl, fun p hp => q (upd G1 p (.lst (us ++ us2))) _ _ ((Ext.refl x.s).new hp) ⟨p, _, rfl, upd_same, pair_up (same_new (x.s.free hp)) (paired_app pr pr2)⟩⟩⟩
theorem b_rep {α : Type} {ia : Rep α} {xs : List α} {k : Int} [sa : AsOwn X.K Pa α ia xs] (h1 : -(2 ^ 63) ≤ k) (h2 : k < 2 ^ 63) (hl : xs.length * k.toNat ≤ sizeLine) : Bin X (binaryOp .Mult) Pa (Is X.K k) (Is X.K (List.replicate k.toNat xs).flatten) G H :=
  ⟨_, op_rep, fun G1 H1 v u x _ e1 e2 Q q => by
    obtain ⟨a, us, e, g, pr⟩ := sa.own _ _ _ x.s e1
    refine ⟨a, k, us, e, e2, g, h1, h2, by rw [paired_len pr]; exact hl, fun p hp => q (upd G1 p (.lst _)) _ _ ((Ext.refl x.s).new hp) ⟨p, _, rfl, upd_same, pair_up (same_new (x.s.free hp)) ?_⟩⟩
    have z : ∀ n : Nat, Paired (rep X.K G1) (List.replicate n us).flatten (List.replicate n xs).flatten := fun n => by
      induction n with
      | zero => exact .nil
      | succ n ih =>
        rw [List.replicate_succ, List.replicate_succ, List.flatten_cons, List.flatten_cons]
        exact paired_app pr ih
    exact z _⟩
theorem ixN_of {n : Nat} {i : Int} (h0 : 0 ≤ i) (h1 : i < n) : ixN n i = some i.toNat := by
  unfold ixN
  rw [if_pos h0, if_pos h1]
theorem ixN_neg {n : Nat} {i : Int} (h0 : i < 0) (h1 : -(n : Int) ≤ i) : ixN n i = some (i + n).toNat := by
  unfold ixN
  rw [if_neg (by omega), if_pos h1]
theorem ixN_lt {n : Nat} {i : Int} {j : Nat} (h : ixN n i = some j) : j < n := (ixN_seq h).2.1
theorem ev_ixN {α : Type} {inst : Rep α} {xs : List α} [MonoC P] [s : AsSeq X.K P α inst xs] (d : α) {j : Nat} (h : EvP X a σ G H P) (hi : Ev X b σ G H i) (hj : ixN xs.length i = some j) (hs : PlainIx b := by intro _ _; rfl) : Ev X (.Subscript a b pos) σ G H (xs.getD j d) :=
  evP_of (pe_ix ix_list pe_sem pe_sem hs) (bin_go h hi fun G1 H1 v u x _ e1 e2 Q q => by
    obtain ⟨a, us, e, g, pr⟩ := s.seq _ _ _ x.s e1
    have hlt := ixN_lt hj
    have hg : xs[j]? = some (xs.getD j d) := by
      rw [List.getD_eq_getElem?_getD, List.getElem?_eq_getElem hlt]
      rfl
    obtain ⟨w, hw, rw'⟩ := paired_get pr hg
    refine ⟨a, us, i, w, e, e2, g, ?_, q G1 H1 w (Ext.refl x.s) rw'⟩
    unfold atI
    rw [paired_len pr, hj]
    exact hw)
theorem ev_ix {α : Type} {inst : Rep α} {xs : List α} [MonoC P] [s : AsSeq X.K P α inst xs] (d : α) (h : EvP X a σ G H P) (hi : Ev X b σ G H i) (h0 : 0 ≤ i) (h1 : i < (xs.length : Int)) (hs : PlainIx b := by intro _ _; rfl) : Ev X (.Subscript a b pos) σ G H (xs.getD i.toNat d) := ev_ixN d h hi (ixN_of h0 h1) hs
/-- t[0], t[1] of a pair -/
theorem ev_fst {α β : Type} [Rep α] [Rep β] {x : α × β} (h : Ev X a σ G H x) (hi : Ev X b σ G H (0 : Int)) (hs : PlainIx b := by intro _ _; rfl) : Ev X (.Subscript a b pos) σ G H x.1 :=
  evP_of (pe_ix ix_tup pe_sem pe_sem hs) (bin_go h hi fun G1 H1 v u y _ e1 e2 Q q => by
    obtain ⟨a, u1, w, e, g, p1, p2⟩ := e1
    exact ⟨a, _, 0, u1, e, e2, SqT.of (y.s _ _ g), rfl, q G1 H1 _ (Ext.refl y.s) p1⟩)
theorem ev_snd {α β : Type} [Rep α] [Rep β] {x : α × β} (h : Ev X a σ G H x) (hi : Ev X b σ G H (1 : Int)) (hs : PlainIx b := by intro _ _; rfl) : Ev X (.Subscript a b pos) σ G H x.2 :=
  evP_of (pe_ix ix_tup pe_sem pe_sem hs) (bin_go h hi fun G1 H1 v u y _ e1 e2 Q q => by
    obtain ⟨a, u1, w, e, g, p1, p2⟩ := e1
    exact ⟨a, _, 1, w, e, e2, SqT.of (y.s _ _ g), rfl, q G1 H1 _ (Ext.refl y.s) p2⟩)
/-- a slice's part -/
def EvO (X : Cx) (e : Option Expr) (σ : St) (G H : Hp) (o : Option Int) : Prop := ∃ t, PO X e t ∧ ∀ G1 H1, Ext G H G1 H1 → ∀ Q : Option Int → Hp → Prop, (∀ G2 H2, Ext G1 H1 G2 H2 → Q o H2) → t σ H1 Q
theorem eo_none : EvO X none σ G H none := ⟨_, po_none, fun G1 H1 x1 Q q => q G1 H1 (Ext.refl x1.s)⟩
theorem eo_some (h : Ev X e σ G H i) : EvO X (some e) σ G H (some i) := ⟨_, po_some pe_sem, fun G1 H1 x1 Q q => h G1 H1 x1 _ fun G2 H2 v x2 _ r => ⟨i, r, q G2 H2 x2⟩⟩
def cut {α : Type} (xs : List α) (lo hi : Option Int) : List α := (xs.drop (HT.sIx xs.length 0 lo)).take (HT.sIx xs.length xs.length hi - HT.sIx xs.length 0 lo)
theorem cut_le {α : Type} (xs : List α) (lo hi : Option Int) : (cut xs lo hi).length ≤ xs.length := by
  unfold cut
  rw [List.length_take, List.length_drop]
  omega
theorem getD_bd {xs : List Int} {d lo hi : Int} (i : Nat) (h : ∀ x ∈ xs, lo ≤ x ∧ x ≤ hi) (hd : lo ≤ d ∧ d ≤ hi) : lo ≤ xs.getD i d ∧ xs.getD i d ≤ hi := by
  rw [List.getD_eq_getElem?_getD]
  cases e : xs[i]? with
  | none => exact hd
  | some y => exact h y (List.mem_of_getElem? e)
theorem getD_bd' {xs : List Int} {d lo hi : Int} {i : Nat} (hl : i < xs.length) (h : ∀ x ∈ xs, lo ≤ x ∧ x ≤ hi) : lo ≤ xs.getD i d ∧ xs.getD i d ≤ hi := by
  rw [List.getD_eq_getElem?_getD, List.getElem?_eq_getElem hl]
  exact h _ (List.getElem_mem hl)
theorem paired_cut {α : Type} {F : V → α → Prop} {vs : List V} {xs : List α} {lo hi : Option Int} (h : Paired F vs xs) : Paired F (cutV vs lo hi) (cut xs lo hi) := by
  unfold cutV cut
  rw [paired_len h]
  exact paired_take _ (paired_drop _ h)
theorem ev_sl {α : Type} {inst : Rep α} {xs : List α} {lo hi : Option Expr} {l u : Option Int} {p2 : Pos} [m : MonoC P] [s : AsSeq X.K P α inst xs] (h : EvP X a σ G H P) (h1 : EvO X lo σ G H l) (h2 : EvO X hi σ G H u) : Ev X (.Subscript a (.Slice lo hi none p2) pos) σ G H (cut xs l u) := by
  obtain ⟨t1, p1, k1⟩ := h1
  obtain ⟨t2, p2, k2⟩ := h2
  exact evP_of (pe_slice sl_list pe_sem p1 p2) fun G1 H1 x1 Q q => h G1 H1 x1 _ fun G2 H2 v x2 _ pv => k1 G2 H2 (x1.trans x2) _ fun G3 H3 x3 => k2 G3 H3 ((x1.trans x2).trans x3) _ fun G4 H4 x4 => by
    obtain ⟨a, us, e, g, pr⟩ := s.seq _ _ _ x4.s (m.m _ _ _ _ _ (x3.trans x4) pv)
    exact ⟨a, us, e, g, fun p hp => q (upd G4 p (.lst _)) _ _ ((x2.trans (x3.trans x4)).new hp) ⟨p, _, rfl, upd_same, pair_up (same_new (x4.s.free hp)) (paired_cut pr)⟩⟩
end
end RL

namespace RL
open PySem PySem.Spec PyProof.Rows L2 Rep
/-! ### what is walked -/
/-- while the frozen part stands, J gives the data xs, one after another -/
def WalkOf {α : Type} [Rep α] (K : PySem.W.Frag) (J : It) (G : Hp) (xs : List α) : Prop :=
  ∀ G' H', Same G G' → Same G' H' → (∀ i, i < xs.length → J.go i H') ∧ J.stop xs.length H' ∧ ∀ i x v H'', xs[i]? = some x → J.yld i H' v H'' → ∃ G'', Ext G' H' G'' H'' ∧ rep K G'' v x
def EvI {α : Type} [Rep α] (X : Cx) (tg iter : Expr) (σ : St) (G H : Hp) (xs : List α) : Prop :=
  ∃ wi : TI, PI X tg iter wi ∧ ∀ G1 H1, Ext G H G1 H1 → ∀ R : It → Hp → Prop, (∀ J G2 H2, Ext G1 H1 G2 H2 → xs.length ≤ sizeLine → WalkOf X.K J G2 xs → R J H2) → wi σ H1 R
/-- P tells a list that stands still -/
class AsFrz (K : PySem.W.Frag) (P : PV) (α : outParam Type) (inst : outParam (Rep α)) (xs : outParam (List α)) : Prop where
  frz : ∀ G H v, Same G H → P G H v → SeqAt K xs G G v
instance {α : Type} [i : Rep α] {K : PySem.W.Frag} {xs : List α} : AsFrz K (Is K xs) α i xs := ⟨fun _ _ _ s ⟨a, vs, e, g, p⟩ => ⟨a, vs, e, .of g, p⟩⟩
instance {K : PySem.W.Frag} {x : Scr} : AsFrz K (Is K x) Int instRepInt x.ns := ⟨fun _ _ _ s ⟨a, e, g⟩ => ⟨a, _, e, g, ints_paired _⟩⟩
/-- lo, lo + 1, .. below hi -/
def rng (lo hi : Int) : List Int := (List.range (hi - lo).toNat).map fun (k : Nat) => lo + (k : Int)
theorem rng_len {lo hi : Int} : (rng lo hi).length = (hi - lo).toNat := by simp [rng]
theorem rng_get {lo hi : Int} {i : Nat} {x : Int} (h : (rng lo hi)[i]? = some x) : i < (hi - lo).toNat ∧ x = lo + (i : Int) := by
  unfold rng at h
  rw [List.getElem?_map] at h
  by_cases hi : i < (hi - lo).toNat
  · rw [List.getElem?_range hi] at h
    exact ⟨hi, (Option.some.inj h).symm⟩
  · rw [List.getElem?_eq_none (by simpa using hi)] at h
    cases h
theorem mem_rng {lo hi x : Int} : x ∈ rng lo hi ↔ lo ≤ x ∧ x < hi := by
  unfold rng
  rw [List.mem_map]
  constructor
  · rintro ⟨k, hk, e⟩
    have := List.mem_range.mp hk
    omega
  · intro h
    exact ⟨(x - lo).toNat, List.mem_range.mpr (by omega), by omega⟩
def enum {α : Type} (xs : List α) : List (Int × α) := xs.zipIdx.map fun p => ((p.2 : Int), p.1)
theorem enum_len {α : Type} (xs : List α) : (enum xs).length = xs.length := by simp [enum]
theorem enum_get {α : Type} {xs : List α} {i : Nat} {p : Int × α} (h : (enum xs)[i]? = some p) : p.1 = (i : Int) ∧ xs[i]? = some p.2 := by
  unfold enum at h
  rw [List.getElem?_map, List.getElem?_zipIdx] at h
  cases q : xs[i]? with
  | none =>
    rw [q] at h
    cases h
  | some x =>
    rw [q] at h
    have e := Option.some.inj h
    rw [← e]
    exact ⟨by simp, rfl⟩
section
variable {X : Cx} {σ : St} {G H : Hp} {P Pa Pb : PV} {e a b c tg : Expr} {es : List Expr} {pos p : Pos} {i j k : Int}
theorem ei_list {α : Type} {inst : Rep α} {xs : List α} [s : AsFrz X.K P α inst xs] (h : EvP X e σ G H P) : EvI X tg e σ G H xs :=
  ⟨_, pi_list pe_sem, fun G1 H1 x1 R r => h G1 H1 x1 _ fun G2 H2 v x2 l2 pv => by
    obtain ⟨a, us, e, g, pr⟩ := s.frz _ _ _ x2.s pv
    refine ⟨a, e, ⟨us, x2.s.seq g⟩, r _ G2 H2 x2 (by rw [← paired_len pr]; exact sql_len l2 (x2.s.seq g)) fun G' H' s1 s2 => ?_⟩
    have hq : SqL X.K H' a us := s2.seq (s1.seq g)
    refine ⟨fun i hi => ?_, ⟨us, hq, by rw [paired_len pr]; exact Nat.le_refl _⟩, fun i x v H'' hx y => ?_⟩
    · rw [← paired_len pr] at hi
      exact ⟨us, us[i], hq, List.getElem?_eq_getElem hi⟩
    · obtain ⟨rfl, y⟩ := y
      obtain ⟨w, hw, rw'⟩ := paired_get pr hx
      have e : w = v := Option.some.inj (hw.symm.trans (y us hq))
      exact ⟨G', Ext.refl s2, up s1 (e ▸ rw')⟩⟩
theorem walk_rng {K : PySem.W.Frag} {lo : Int} {n : Nat} {hi : Int} (e : n = (hi - lo).toNat) : WalkOf K (Itr lo n) G (rng lo hi) := fun G' H' s1 s2 => by
  subst e
  refine ⟨fun i h => by rw [rng_len] at h; exact h, by rw [rng_len]; exact Nat.le_refl _, fun i x v H'' hx y => ?_⟩
  obtain ⟨rfl, y⟩ := y
  obtain ⟨_, e⟩ := rng_get hx
  rw [e]
  exact ⟨G', Ext.refl s2, y⟩
theorem ei_range1 (B : Bl X "range") (h : Ev X a σ G H j) (h1 : -(2 ^ 62) ≤ j) (h2 : j ≤ 16777216) (he : starEach [a] X.env = (false, eval a X.env) :: starEach [] X.env := by rfl) (hs : starEach [a] X.env = [(false, eval a X.env)] := by rfl) :
    EvI X tg (.Call (.Name "range" p) [a] [] pos) σ G H (rng 0 j) :=
  ⟨_, pi_range1 B.g B.m (pa_cons pe_sem pa_nil he) hs, fun G1 H1 x1 R r => h G1 H1 x1 _ fun G2 H2 v x2 _ pv => ⟨j, by rw [show v = _ from pv], h1, by omega, r _ G2 H2 x2 (by rw [rng_len, sizeLine_eq]; omega) (walk_rng (by rw [Int.sub_zero]))⟩⟩
theorem ei_range2 (B : Bl X "range") (h : Ev X a σ G H i) (h' : Ev X b σ G H j) (hb : (-(2 ^ 62) ≤ i ∧ i < 2 ^ 62) ∧ -(2 ^ 62) ≤ j ∧ j < 2 ^ 62 ∧ j - i ≤ 16777216) (he : starEach [a, b] X.env = (false, eval a X.env) :: starEach [b] X.env := by rfl) (he2 : starEach [b] X.env = (false, eval b X.env) :: starEach [] X.env := by rfl)
    (hs : starEach [a, b] X.env = [(false, eval a X.env), (false, eval b X.env)] := by rfl) (hs2 : starEach [b] X.env = [(false, eval b X.env)] := by rfl) :
    EvI X tg (.Call (.Name "range" p) [a, b] [] pos) σ G H (rng i j) :=
  ⟨_, pi_range2 B.g B.m (pa_cons pe_sem (pa_cons pe_sem pa_nil he2) he) hs hs2, fun G1 H1 x1 R r => h G1 H1 x1 _ fun G2 H2 v x2 _ pv => h' G2 H2 (x1.trans x2) _ fun G3 H3 u x3 _ pu =>
    ⟨i, j, by rw [show v = _ from pv, show u = _ from pu], ⟨hb.1.1, hb.1.2, hb.2.1, hb.2.2.1⟩, r _ G3 H3 (x2.trans x3) (by rw [rng_len, sizeLine_eq]; omega) (walk_rng rfl)⟩⟩
theorem pair_new {α β : Type} [Rep α] [Rep β] {K : PySem.W.Frag} {G H : Hp} {T : Addr} {v u : V} {x : α} {y : β} (s : Same G H) (hT : H T = none) (hv : rep K G v x) (hu : rep K G u y) :
    ∃ G'', Ext G H G'' (upd H T (.tup [v, u])) ∧ rep K G'' (V.ref T) (x, y) :=
  ⟨upd G T (.tup [v, u]), (Ext.refl s).new hT, ⟨T, v, u, rfl, upd_same, up (same_new (s.free hT)) hv, up (same_new (s.free hT)) hu⟩⟩
theorem ei_enum {α : Type} {inst : Rep α} {xs : List α} {elts : List Expr} {kk : Nat} {tpos : Pos} [s : AsFrz X.K P α inst xs] (B : Bl X "enumerate") (h : EvP X e σ G H P) (he : starEach [e] X.env = (false, eval e X.env) :: starEach [] X.env := by rfl) (hs : starEach [e] X.env = [(false, eval e X.env)] := by rfl) :
    EvI X (.Tuple elts kk tpos) (.Call (.Name "enumerate" p) [e] [] pos) σ G H (enum xs) :=
  ⟨_, pi_enum B.g B.m (pa_cons pe_sem pa_nil he) hs, fun G1 H1 x1 R r => h G1 H1 x1 _ fun G2 H2 v x2 l2 pv => by
    obtain ⟨a, us, e, g, pr⟩ := s.frz _ _ _ x2.s pv
    refine ⟨a, us, by rw [e], x2.s.seq g, r _ G2 H2 x2 (by rw [enum_len, ← paired_len pr]; exact sql_len l2 (x2.s.seq g)) fun G' H' s1 s2 => ?_⟩
    have hq : SqL X.K H' a us := s2.seq (s1.seq g)
    refine ⟨fun i hi => ?_, ⟨us, hq, by rw [enum_len, paired_len pr]; exact Nat.le_refl _⟩, fun i x v H'' hx y => ?_⟩
    · rw [enum_len, ← paired_len pr] at hi
      exact ⟨us, us[i], hq, List.getElem?_eq_getElem hi⟩
    · obtain ⟨T, w, rfl, hT, rfl, y⟩ := y
      obtain ⟨e1, e2⟩ := enum_get hx
      obtain ⟨w', hw, rw'⟩ := paired_get pr e2
      have e : w' = w := Option.some.inj (hw.symm.trans (y us hq))
      subst e
      obtain ⟨x1, x2⟩ := x
      have e1 : x1 = (i : Int) := e1
      subst e1
      exact pair_new (x := (i : Int)) (y := x2) (K := X.K) s2 hT rfl (up s1 rw')⟩
theorem ei_zip {α β : Type} {ia : Rep α} {ib : Rep β} {xs : List α} {ys : List β} {elts : List Expr} {kk : Nat} {tpos : Pos} [m : MonoC Pa] [sa : AsFrz X.K Pa α ia xs] [sb : AsFrz X.K Pb β ib ys] (B : Bl X "zip") (h : EvP X a σ G H Pa) (h' : EvP X b σ G H Pb)
    (he : starEach [a, b] X.env = (false, eval a X.env) :: starEach [b] X.env := by rfl) (he2 : starEach [b] X.env = (false, eval b X.env) :: starEach [] X.env := by rfl) (hpl : (backTo pos (starEach [b] X.env)).any (·.1) = false := by rfl) :
    EvI X (.Tuple elts kk tpos) (.Call (.Name "zip" p) [a, b] [] pos) σ G H (xs.zip ys) :=
  ⟨_, pi_zip B.g B.m (pa_cons pe_sem (pa_cons pe_sem pa_nil he2) he) he hpl, fun G1 H1 x1 R r => h G1 H1 x1 _ fun G2 H2 v x2 _ pv => h' G2 H2 (x1.trans x2) _ fun G3 H3 u x3 l3 pu => by
    obtain ⟨a1, us, e, g, pr⟩ := sa.frz _ _ _ x3.s (m.m _ _ _ _ _ x3 pv)
    obtain ⟨a2, us2, e', g', pr'⟩ := sb.frz _ _ _ x3.s pu
    refine ⟨a1, a2, us, us2, by rw [e, e'], x3.s.seq g, x3.s.seq g', r _ G3 H3 (x2.trans x3) (by have z := sql_len l3 (x3.s.seq g); rw [paired_len pr] at z; rw [List.length_zip]; omega) fun G' H' s1 s2 => ?_⟩
    have hq : SqL X.K H' a1 us := s2.seq (s1.seq g)
    have hq' : SqL X.K H' a2 us2 := s2.seq (s1.seq g')
    refine ⟨fun i hi => ?_, ⟨us, us2, hq, hq', ?_⟩, fun i x v H'' hx y => ?_⟩
    · rw [List.length_zip, ← paired_len pr, ← paired_len pr'] at hi
      have h1 : i < us.length := by omega
      have h2 : i < us2.length := by omega
      exact ⟨us, us2, us[i], us2[i], hq, hq', List.getElem?_eq_getElem h1, List.getElem?_eq_getElem h2⟩
    · rw [List.length_zip, ← paired_len pr, ← paired_len pr']
      omega
    · obtain ⟨T, w, w2, rfl, hT, rfl, y, y2⟩ := y
      obtain ⟨e1, e2⟩ := List.getElem?_zip_eq_some.mp hx
      obtain ⟨w', hw, rw'⟩ := paired_get pr e1
      obtain ⟨w2', hw2, rw2'⟩ := paired_get pr' e2
      have e : w' = w := Option.some.inj (hw.symm.trans (y us hq))
      have e2 : w2' = w2 := Option.some.inj (hw2.symm.trans (y2 us2 hq'))
      subst e e2
      exact pair_new (x := x.1) (y := x.2) (K := X.K) s2 hT (up s1 rw') (up s1 rw2')⟩
theorem ei_rev {α : Type} {inst : Rep α} {xs : List α} [s : AsFrz X.K P α inst xs] (B : Bl X "reversed") (h : EvP X e σ G H P) (he : starEach [e] X.env = (false, eval e X.env) :: starEach [] X.env := by rfl) (hs : starEach [e] X.env = [(false, eval e X.env)] := by rfl) :
    EvI X tg (.Call (.Name "reversed" p) [e] [] pos) σ G H xs.reverse :=
  ⟨_, pi_reversed B.g B.m (pa_cons pe_sem pa_nil he) hs, fun G1 H1 x1 R r => h G1 H1 x1 _ fun G2 H2 v x2 l2 pv => by
    obtain ⟨a, us, e, g, pr⟩ := s.frz _ _ _ x2.s pv
    refine ⟨a, us, by rw [e], x2.s.seq g, r _ G2 H2 x2 (by rw [List.length_reverse, ← paired_len pr]; exact sql_len l2 (x2.s.seq g)) fun G' H' s1 s2 => ?_⟩
    have hq : SqL X.K H' a us := s2.seq (s1.seq g)
    refine ⟨fun i hi => ?_, by rw [List.length_reverse, paired_len pr]; exact Nat.le_refl _, fun i x v H'' hx y => ?_⟩
    · rw [List.length_reverse, ← paired_len pr] at hi
      exact ⟨hi, us, us[us.length - 1 - i]'(by omega), hq, List.getElem?_eq_getElem (by omega)⟩
    · obtain ⟨rfl, y⟩ := y
      have hi : i < xs.length := by
        have := (List.getElem?_eq_some_iff.mp hx).1
        rwa [List.length_reverse] at this
      rw [List.getElem?_reverse hi, ← paired_len pr] at hx
      obtain ⟨w, hw, rw'⟩ := paired_get pr hx
      have e : w = v := Option.some.inj (hw.symm.trans (y us hq))
      exact ⟨G', Ext.refl s2, up s1 (e ▸ rw')⟩⟩
theorem paired_rev {α β : Type} {F : α → β → Prop} : ∀ {vs : List α} {ys : List β}, Paired F vs ys → Paired F vs.reverse ys.reverse
  | _, _, .nil => .nil
  | _, _, .cons r t => by
    rw [List.reverse_cons, List.reverse_cons]
    exact paired_app (paired_rev t) (.cons r .nil)
theorem ev_revsl {α : Type} {inst : Rep α} {xs : List α} {k0 : Nat} {p1 p2 p3 : Pos} [s : AsSeq X.K P α inst xs] (h : EvP X e σ G H P) : Ev X (.Subscript e (.Slice none none (some (.UnaryOp .USub (.Constant (.int 1) k0 p1) p2)) p3) pos) σ G H xs.reverse :=
  evP_of (pe_revL pe_sem) fun G1 H1 x1 Q q => h G1 H1 x1 _ fun G2 H2 v x2 _ pv => by
    obtain ⟨a, us, e, g, pr⟩ := s.seq _ _ _ x2.s pv
    refine ⟨a, us, e, g, fun p hp => q (upd G2 p (.lst _)) _ _ (x2.new hp) ⟨p, _, rfl, upd_same, pair_up (same_new (x2.s.free hp)) ?_⟩⟩
    exact paired_rev pr

/-! ### comprehensions -/
/-- the tests of a clause -/
def EvTs (X : Cx) (ifs : List Expr) (σ : St) (G H : Hp) (b : Bool) : Prop := ∀ G1 H1, Ext G H G1 H1 → ∀ Q : Bool → Hp → Prop, (∀ G2 H2, Ext G1 H1 G2 H2 → Q b H2) →
  ∀ (pins : List (Addr × Obj)) (s : Shared), Inv X pins σ H1 s → wpAny (model X.prog X.w) X.A (forIn ifs true fun c r => if r = true then do let ok ← isTrue c X.env (eval c X.env); pure (ForInStep.yield ok) else pure (ForInStep.yield r)) (TP X pins σ Q) X.xe s
theorem ets_nil : EvTs X [] σ G H true := fun G1 H1 x1 Q q pins s I => pts_nil.run pins s σ H1 Q I (q G1 H1 (Ext.refl x1.s))
theorem ets_one {x : Bool} (h : EvT X e σ G H x) : EvTs X [e] σ G H x := fun G1 H1 x1 Q q pins s I => (pts_one pt_sem).run pins s σ H1 Q I (h G1 H1 x1 Q fun G2 H2 x2 _ => q G2 H2 x2)
/-- the context of a comprehension's block -/
abbrev InB (X : Cx) (scope : Scope) (s : Shared) (H0 : Hp) (C : Addr) (cl : List (Str × Addr)) (fp : List Addr) : Cx := X.blk s H0 scope (compEnvC scope cl C X.env) fp
def lcT (X : Cx) (scope : Scope) (ifs : List Expr) : TT := fun σ H Q => ∀ s H0 C cl fp (pins : List (Addr × Obj)) (s' : Shared), Inv (InB X scope s H0 C cl fp) pins σ H s' →
  wpAny (model X.prog X.w) X.A (forIn ifs true fun c r => if r = true then do let ok ← isTrue c (compEnvC scope cl C X.env) (eval c (compEnvC scope cl C X.env)); pure (ForInStep.yield ok) else pure (ForInStep.yield r)) (TP (InB X scope s H0 C cl fp) pins σ Q) (fun _ _ => False) s'
def lcE (X : Cx) (scope : Scope) (elt : Expr) : TE := fun σ H Q => ∀ s H0 C cl fp, tE (InB X scope s H0 C cl fp) elt σ H Q
theorem pts_lc {scope : Scope} {ifs : List Expr} : ∀ (s : Shared) (H : Hp) (C : Addr) (cl : List (Str × Addr)) (fp : List Addr), PTs (X.blk s H scope (compEnvC scope cl C X.env) fp) ifs (lcT X scope ifs) := fun s H C cl fp => ⟨fun pins s' _ _ _ I h => h s H C cl fp pins s' I⟩
theorem pe_lcE {scope : Scope} {elt : Expr} : ∀ (s : Shared) (H : Hp) (C : Addr) (cl : List (Str × Addr)) (fp : List Addr), PE (X.blk s H scope (compEnvC scope cl C X.env) fp) elt (lcE X scope elt) := fun s H C cl fp => ⟨fun pins s' _ _ _ I h => h s H C cl fp pins s' I⟩
/-- what a target does with a datum: the slots behind it -/
abbrev TgT (α : Type) := Hp → α → St → St → Prop
def T1 {α : Type} [Rep α] (K : PySem.W.Frag) (i : Nat) : TgT α := fun G x σ σ' => ∃ v, rep K G v x ∧ σ' = σ.set i (some v)
def T2 {α β : Type} [Rep α] [Rep β] (K : PySem.W.Frag) (i j : Nat) : TgT (α × β) := fun G x σ σ' => ∃ u w, rep K G u x.1 ∧ rep K G w x.2 ∧ σ' = (σ.set i (some u)).set j (some w)
def Acts {α : Type} [Rep α] (K : PySem.W.Frag) (g : TG) (T : TgT α) : Prop := ∀ x v G H σ (Q : St → Hp → Prop), Same G H → rep K G v x → (∀ σ', T G x σ σ' → Q σ' H) → g v σ H Q
theorem acts1 {α : Type} [Rep α] {K : PySem.W.Frag} {i : Nat} : Acts K (gName i) (T1 (α := α) K i) := fun x v G H σ Q s r q => q _ ⟨v, r, rfl⟩
theorem acts2 {α β : Type} [Rep α] [Rep β] {K : PySem.W.Frag} {i j : Nat} : Acts K (gTup K 2 (gCons (gName i) (gCons (gName j) gNil))) (T2 (α := α) (β := β) K i j) := fun x v G H σ Q s r q => by
  obtain ⟨a, u, w, e, g, p1, p2⟩ := r
  exact ⟨a, _, e, .of (s _ _ g), rfl, u, [w], rfl, w, [], rfl, rfl, q _ ⟨u, w, p1, p2, rfl⟩⟩
theorem lc_go {α β : Type} [Rep α] [Rep β] {xs : List α} {f : α → β} {t : α → Bool} {elt : Expr} {ifs : List Expr} {scope : Scope} {vs : List Nat} {g : TG} {T : TgT α} {wi : TI}
    (hi : ∀ G1 H1, Ext G H G1 H1 → ∀ R : It → Hp → Prop, (∀ J G2 H2, Ext G1 H1 G2 H2 → xs.length ≤ sizeLine → WalkOf X.K J G2 xs → R J H2) → wi σ H1 R) (hg : Acts X.K g T) (hw : ∀ G x σ', T G x (wipe σ vs) σ' → wipe σ' vs = wipe σ vs)
    (ht : ∀ x G1 H1 σ', x ∈ xs → Ext G H G1 H1 → T G1 x (wipe σ vs) σ' → ∀ s H0 C cl fp, EvTs (InB X scope s H0 C cl fp) ifs σ' G1 H1 (t x))
    (he : ∀ x G1 H1 σ', x ∈ xs → t x = true → Ext G H G1 H1 → T G1 x (wipe σ vs) σ' → ∀ s H0 C cl fp, Ev (InB X scope s H0 C cl fp) elt σ' G1 H1 (f x))
    (hm : ∀ G1 H1 G2 H2 x σ', Ext G1 H1 G2 H2 → T G1 x (wipe σ vs) σ' → T G2 x (wipe σ vs) σ') :
    ∀ G1 H1, Ext G H G1 H1 → ∀ Q : VK, (∀ G2 H2 v, Ext G1 H1 G2 H2 → Is X.K ((xs.filter t).map f) G2 H2 v → New H1 v → Q v H2) → tLc wi g (lcT X scope ifs) (lcE X scope elt) vs σ H1 Q := by
  intro G1 H1 x1 Q q
  refine hi G1 H1 x1 _ fun J G2 H2 x2 hl hwk D hD => ?_
  -- the state behind i turns
  let Pv : Nat → Hp → Prop := fun i H' => ∃ G' acc, Ext G1 H1 G' H' ∧ Same G2 G' ∧ G' D = none ∧ H' D = some (.lst acc) ∧ acc.length ≤ i ∧ Paired (rep X.K G') acc (((xs.take i).filter t).map f)
  have hD1 : H1 D = none := x2.h.free hD
  refine ⟨fun i m H' => m = xs.length - i ∧ i ≤ xs.length ∧ Pv i H', ⟨xs.length, rfl, Nat.zero_le _, G2, [], x2.newH hD, Same.refl _, x2.s.free hD, upd_same, Nat.zero_le _, .nil⟩, ?_⟩
  rintro i m H' ⟨rfl, hi', G', acc, x', sg, gD, eD, hacc, pr⟩
  obtain ⟨go, stop, yld⟩ := hwk G' H' sg x'.s
  by_cases hlt : i < xs.length
  · have hx : xs[i]? = some xs[i] := List.getElem?_eq_getElem hlt
    have hmem : xs[i] ∈ xs := List.getElem_mem hlt
    refine .inr ⟨go i hlt, Pv (i + 1), fun H'' p => ⟨_, by omega, rfl, hlt, p⟩, fun v H'' y => ?_⟩
    obtain ⟨G'', x'', rv⟩ := yld i _ v H'' hx y
    have ek : xs.take (i + 1) = xs.take i ++ [xs[i]] := by rw [List.take_add_one, hx]; rfl
    have gD2 : G'' D = none := x''.off gD eD
    have eD2 : H'' D = some (.lst acc) := x''.h _ _ eD
    refine hg _ v G'' H'' _ _ x''.s rv fun σ' hst => ⟨hw _ _ _ hst, fun s H0 C cl fp pins s' I => ?_⟩
    refine ht _ G'' H'' σ' hmem (x1.trans (x'.trans x'')) hst s H0 C cl fp G'' H'' (Ext.refl x''.s) _ (fun G3 H3 x3 => ?_) pins s' I
    have gD3 : G3 D = none := x3.off gD2 eD2
    have eD3 : H3 D = some (.lst acc) := x3.h _ _ eD2
    by_cases hb : t xs[i] = true
    · rw [hb, if_pos rfl]
      intro s1 H01 C1 cl1 fp1
      refine he _ G3 H3 σ' hmem hb (x1.trans (x'.trans (x''.trans x3))) (hm _ _ _ _ _ _ x3 hst) s1 H01 C1 cl1 fp1 G3 H3 (Ext.refl x3.s) _ fun G4 H4 w x4 _ rw' => ?_
      have gD4 : G4 D = none := x4.off gD3 eD3
      refine ⟨acc, x4.h _ _ eD3, Nat.lt_of_le_of_lt hacc (Nat.lt_of_lt_of_le hlt hl), G4, acc ++ [w], (x'.trans (x''.trans (x3.trans x4))).wr hD1 gD4, (sg.trans x''.g).trans (x3.g.trans x4.g), gD4, upd_same, by rw [List.length_append]; exact Nat.succ_le_succ hacc, ?_⟩
      rw [ek, List.filter_append, List.map_append, List.filter_cons_of_pos hb]
      exact paired_app (pair_up (x''.g.trans (x3.g.trans x4.g)) pr) (.cons rw' .nil)
    · rw [if_neg hb]
      refine ⟨G3, acc, x'.trans (x''.trans x3), (sg.trans x''.g).trans x3.g, gD3, eD3, Nat.le_succ_of_le hacc, ?_⟩
      rw [ek, List.filter_append, List.filter_cons_of_neg hb, List.filter_nil, List.append_nil]
      exact pair_up (x''.g.trans x3.g) pr
  · have e : i = xs.length := by omega
    subst e
    refine .inl ⟨stop, q (upd G' D (.lst acc)) H' _ (x'.frz hD1 eD) ⟨D, acc, rfl, upd_same, ?_⟩ fun p e => by cases e; exact hD1⟩
    rw [List.take_length] at pr
    exact pair_up (same_new gD) pr
theorem t1_up {α : Type} [Rep α] {K : PySem.W.Frag} {i : Nat} {σ : St} : ∀ G1 H1 G2 H2 (x : α) σ', Ext G1 H1 G2 H2 → T1 K i G1 x σ σ' → T1 K i G2 x σ σ' := fun _ _ _ _ _ _ x ⟨v, r, e⟩ => ⟨v, up x.g r, e⟩
theorem t2_up {α β : Type} [Rep α] [Rep β] {K : PySem.W.Frag} {i j : Nat} {σ : St} : ∀ G1 H1 G2 H2 (x : α × β) σ', Ext G1 H1 G2 H2 → T2 K i j G1 x σ σ' → T2 K i j G2 x σ σ' := fun _ _ _ _ _ _ x ⟨u, w, r, r', e⟩ => ⟨u, w, up x.g r, up x.g r', e⟩
variable {α β γ : Type} [Rep α] [Rep β] [Rep γ] {iter elt : Expr} {ifs : List Expr} {scope : Scope} {own : List (Str × Nat)}
/-- [elt for n in iter if ..]; a name in slot i -/
theorem ev_lc1 {xs : List α} {n : Str} {np : Pos} {i : Nat} (f : α → β) (t : α → Bool) (hc : X.calm = true) (hN : X.N.Nodup) (hi : EvI X (.Name n np) iter σ G H xs) (own : List (Str × Nat)) (ok : BlkOk X.N X.env.scope scope own)
    (hg : ∀ (s : Shared) (H : Hp) (C : Addr) (cl : List (Str × Addr)) (fp : List Addr), PG (X.blk s H scope (compEnvC scope cl C X.env) fp) (.Name n np) (gName i))
    (ht : ∀ x v G1 H1, x ∈ xs → Ext G H G1 H1 → rep X.K G1 v x → ∀ s H0 C cl fp, EvTs (InB X scope s H0 C cl fp) ifs ((wipe σ (own.map (·.2))).set i (some v)) G1 H1 (t x))
    (he : ∀ x v G1 H1, x ∈ xs → t x = true → Ext G H G1 H1 → rep X.K G1 v x → ∀ s H0 C cl fp, Ev (InB X scope s H0 C cl fp) elt ((wipe σ (own.map (·.2))).set i (some v)) G1 H1 (f x))
    (hw : ∀ v, wipe ((wipe σ (own.map (·.2))).set i (some v)) (own.map (·.2)) = wipe σ (own.map (·.2)) := by intro _; rfl) (hs : ∀ x, foldedSetIterable iter X.env x = pure x := by intro _; rfl) :
    Ev X (.ListComp elt [⟨.Name n np, iter, ifs, 0⟩] scope pos) σ G H ((xs.filter t).map f) := by
  obtain ⟨wi, pi, hi⟩ := hi
  exact evP_of (pe_lc hc hN pi ok hg pts_lc pe_lcE hs) fun G1 H1 x1 Q q => lc_go (T := T1 X.K i) (f := f) (t := t) hi acts1 (fun G x σ' ⟨v, _, e⟩ => by rw [e]; exact hw v)
    (fun x G1 H1 σ' hx e ⟨v, r, e'⟩ => e' ▸ ht x v G1 H1 hx e r) (fun x G1 H1 σ' hx hb e ⟨v, r, e'⟩ => e' ▸ he x v G1 H1 hx hb e r) t1_up G1 H1 x1 Q fun G2 H2 v x2 r _ => q G2 H2 v x2 r
/-- [elt for a, b in iter if ..] -/
theorem ev_lc2 {xs : List (α × γ)} {tg : Expr} {i j : Nat} (f : α × γ → β) (t : α × γ → Bool) (hc : X.calm = true) (hN : X.N.Nodup) (hi : EvI X tg iter σ G H xs) (own : List (Str × Nat)) (ok : BlkOk X.N X.env.scope scope own)
    (hg : ∀ (s : Shared) (H : Hp) (C : Addr) (cl : List (Str × Addr)) (fp : List Addr), PG (X.blk s H scope (compEnvC scope cl C X.env) fp) tg (gTup X.K 2 (gCons (gName i) (gCons (gName j) gNil))))
    (ht : ∀ x u w G1 H1, x ∈ xs → Ext G H G1 H1 → rep X.K G1 u x.1 → rep X.K G1 w x.2 → ∀ s H0 C cl fp, EvTs (InB X scope s H0 C cl fp) ifs (((wipe σ (own.map (·.2))).set i (some u)).set j (some w)) G1 H1 (t x))
    (he : ∀ x u w G1 H1, x ∈ xs → t x = true → Ext G H G1 H1 → rep X.K G1 u x.1 → rep X.K G1 w x.2 → ∀ s H0 C cl fp, Ev (InB X scope s H0 C cl fp) elt (((wipe σ (own.map (·.2))).set i (some u)).set j (some w)) G1 H1 (f x))
    (hw : ∀ u w, wipe (((wipe σ (own.map (·.2))).set i (some u)).set j (some w)) (own.map (·.2)) = wipe σ (own.map (·.2)) := by intro _ _; rfl) (hs : ∀ x, foldedSetIterable iter X.env x = pure x := by intro _; rfl) :
    Ev X (.ListComp elt [⟨tg, iter, ifs, 0⟩] scope pos) σ G H ((xs.filter t).map f) := by
  obtain ⟨wi, pi, hi⟩ := hi
  exact evP_of (pe_lc hc hN pi ok hg pts_lc pe_lcE hs) fun G1 H1 x1 Q q => lc_go (T := T2 X.K i j) (f := f) (t := t) hi acts2 (fun G x σ' ⟨u, w, _, _, e⟩ => by rw [e]; exact hw u w)
    (fun x G1 H1 σ' hx e ⟨u, w, r, r', e'⟩ => e' ▸ ht x u w G1 H1 hx e r r') (fun x G1 H1 σ' hx hb e ⟨u, w, r, r', e'⟩ => e' ▸ he x u w G1 H1 hx hb e r r') t2_up G1 H1 x1 Q fun G2 H2 v x2 r _ => q G2 H2 v x2 r
end
end RL

namespace RL
open PySem PySem.Spec PyProof.Rows L2 Rep
/-! ### statements -/
section
variable {X : Cx} {σ : St} {G H : Hp} {P Pa Pb : PV} {e a b c tg : Expr} {es : List Expr} {st : Stmt} {sts sts' : List Stmt} {pos p : Pos} {D : Ends}
theorem tS_len (h : tS X st { D with nx := fun σ' H' => HLen H' → D.nx σ' H', rt := fun v H' => HLen H' → D.rt v H' } σ H) : tS X st D σ H := fun pins s I => thn (h pins s I) fun f s' q => by
  cases f with
  | next =>
    obtain ⟨σ', H', I', q⟩ := q
    exact ⟨σ', H', I', q (hlen I')⟩
  | ret u =>
    obtain ⟨v, σ', H', I', r, q⟩ := q
    exact ⟨v, σ', H', I', r, q (hlen I')⟩
  | brk => exact q
  | cont => exact q
theorem tSs_lenI (h : HLen H → tSs X sts D σ H) : tSs X sts D σ H := fun pins s I => h (hlen I) pins s I
theorem s_of {t : TS} (h : PS X st t) (q : t D σ H) : tS X st D σ H := fun pins s I => h.run pins s σ H D I q
theorem ss_of {t : TS} (h : PSs X sts t) (q : t D σ H) : tSs X sts D σ H := fun pins s I => h.run pins s σ H D I q
theorem b_nil (h : D.nx σ H) : tSs X [] D σ H := ss_of pss_nil h
theorem b_cons (h : tS X st { D with nx := tSs X sts D } σ H) : tSs X (st :: sts) D σ H := ss_of (pss_cons ps_sem pss_sem) h
theorem b_one (h : tS X st D σ H) : tSs X [st] D σ H := ss_of (pss_one ps_sem) h
theorem s_pass (h : D.nx σ H) : tS X (.Pass pos) D σ H := s_of ps_pass h
theorem s_break (h : D.bk σ H) : tS X (.Break pos) D σ H := s_of ps_break h
theorem s_continue (h : D.ct σ H) : tS X (.Continue pos) D σ H := s_of ps_continue h
theorem s_ret (s0 : Same G H) (h : EvP X e σ G H P) (k : ∀ G1 H1 v, Ext G H G1 H1 → HLen H1 → P G1 H1 v → D.rt v H1) : tS X (.Return (some e) pos) D σ H :=
  s_of (ps_ret pe_sem) (h G H (Ext.refl s0) _ fun G1 H1 v x l r => k G1 H1 v x l r)
theorem s_retN (h : D.rt .non H) : tS X (.Return none pos) D σ H := s_of ps_retN h
theorem s_expr (s0 : Same G H) (h : EvP X e σ G H P) (k : ∀ G1 H1 v, Ext G H G1 H1 → HLen H1 → P G1 H1 v → D.nx σ H1) (hs : swapsWith e none pos.line X.env = pure false := by rfl) : tS X (.Expr e pos) D σ H :=
  s_of (ps_expr pe_sem hs) (h G H (Ext.refl s0) _ fun G1 H1 v x l r => k G1 H1 v x l r)
theorem s_if {x : Bool} (s0 : Same G H) (h : EvT X c σ G H x) (h1 : x = true → ∀ G1 H1, Ext G H G1 H1 → HLen H1 → tSs X sts D σ H1) (h2 : x = false → ∀ G1 H1, Ext G H G1 H1 → HLen H1 → tSs X sts' D σ H1) : tS X (.If c sts sts' pos) D σ H :=
  s_of (ps_if pt_sem pss_sem pss_sem) (h G H (Ext.refl s0) _ fun G1 H1 x1 l => by
    cases x with
    | true =>
      show tSs X sts D σ H1
      exact h1 rfl G1 H1 x1 l
    | false =>
      show tSs X sts' D σ H1
      exact h2 rfl G1 H1 x1 l)
/-- a name that may be stored -/
structure Ss (X : Cx) (i : Nat) (n : Str) : Prop where
  hN : X.N[i]? = some n
  hx : Loc X.env.scope n
  hf : X.fn n = true ∨ X.env.scope.names.lookup n = some .local
theorem s_set {i : Nat} {n : Str} (hN : X.N.Nodup) (sl : Ss X i n) (s0 : Same G H) (h : EvP X e σ G H P) (k : ∀ G1 H1 v, Ext G H G1 H1 → HLen H1 → P G1 H1 v → D.nx (σ.set i (some v)) H1)
    (hs : swapsWith e (some (.Name n p)) pos.line X.env = pure false := by rfl) : tS X (.Assign [.Name n p] e pos) D σ H :=
  s_of (ps_set hN sl.hN sl.hx pe_sem hs sl.hf) (h G H (Ext.refl s0) _ fun G1 H1 v x l r => k G1 H1 v x l r)
/-- .. a new object that no frozen part knows -/
def EvN (X : Cx) (e : Expr) (σ : St) (G H : Hp) (P : PV) : Prop :=
  ∀ G1 H1, Ext G H G1 H1 → ∀ Q : VK, (∀ G2 H2 v, Ext G1 H1 G2 H2 → HLen H2 → P G2 H2 v → New H1 v → Q v H2) → tE X e σ H1 Q
theorem EvN.ev (h : EvN X e σ G H P) : EvP X e σ G H P := fun G1 H1 x1 Q q => h G1 H1 x1 Q fun G2 H2 v x2 l r _ => q G2 H2 v x2 l r
theorem s_setN {i : Nat} {n : Str} (hN : X.N.Nodup) (sl : Ss X i n) (s0 : Same G H) (h : EvN X e σ G H P) (k : ∀ G1 H1 v, Ext G H G1 H1 → HLen H1 → P G1 H1 v → New H v → D.nx (σ.set i (some v)) H1)
    (hs : swapsWith e (some (.Name n p)) pos.line X.env = pure false := by rfl) : tS X (.Assign [.Name n p] e pos) D σ H :=
  s_of (ps_set hN sl.hN sl.hx pe_sem hs sl.hf) (h G H (Ext.refl s0) _ fun G1 H1 v x l r n => k G1 H1 v x l r n)
theorem evN_of {t : TE} (hp : PE X e t) (k : ∀ G1 H1, Ext G H G1 H1 → ∀ Q : VK, (∀ G2 H2 v, Ext G1 H1 G2 H2 → P G2 H2 v → New H1 v → Q v H2) → t σ H1 Q) : EvN X e σ G H P :=
  fun G1 H1 x1 _ q => tE_len fun pins s I => hp.run pins s σ H1 _ I (k G1 H1 x1 _ fun G2 H2 v x2 p n hl => q G2 H2 v x2 hl p n)
theorem evN_list {α : Type} [Rep α] {xs : List α} (h : EvA X es σ G H (AAll X.K xs)) (hl : xs.length ≤ 1000 := by exact Nat.le_of_ble_eq_true rfl) : EvN X (.List es pos) σ G H (Is X.K xs) :=
  evN_of (pe_lst pa_sem) fun G1 H1 x1 Q q => h G1 H1 x1 _ fun G2 H2 vs x2 _ pa => ⟨by rw [paired_len pa]; exact Nat.le_of_lt (small1000 hl), fun p hp =>
    q (upd G2 p (.lst vs)) _ _ (x2.new hp) ⟨p, vs, rfl, upd_same, pair_up (same_new (x2.s.free hp)) pa⟩ fun p' e => by cases e; exact x2.h.free hp⟩
/-- n op= e -/
theorem s_aug {i : Nat} {n : Str} {op : Operator} {v0 : V} [m : MonoC Pa] (hN : X.N.Nodup) (sl : Ss X i n) (s0 : Same G H) (k : Bin X (inplaceOp op) Pa Pb P G H) (r0 : Pa G H v0) (h : EvP X e σ G H Pb) (kn : ∀ G1 H1 v, Ext G H G1 H1 → HLen H1 → P G1 H1 v → D.nx (σ.set i (some v)) H1)
    (h0 : σ[i]? = some (some v0) := by rfl) : tS X (.AugAssign (.Name n p) op e pos) D σ H := by
  obtain ⟨r, ho, k⟩ := k
  refine tS_len (s_of (ps_aug hN sl.hN sl.hx pe_sem (ti := r) ho sl.hf) ⟨v0, h0, h G H (Ext.refl s0) _ fun G1 H1 u x l pu => k G1 H1 v0 u x l (m.m _ _ _ _ _ x r0) pu _ fun G2 H2 w x2 pw l2 => kn G2 H2 w (x.trans x2) l2 pw⟩)
/-- a list of the def's own: tracked, not frozen -/
structure Own {α : Type} [Rep α] (K : PySem.W.Frag) (G H : Hp) (q : Addr) (xs : List α) : Prop where
  at_ : ∃ vs, H q = some (.lst vs) ∧ Paired (rep K G) vs xs
  off : G q = none
theorem Own.mono {α : Type} [Rep α] {K : PySem.W.Frag} {G H G1 H1 : Hp} {q : Addr} {xs : List α} (o : Own K G H q xs) (x : Ext G H G1 H1) : Own K G1 H1 q xs :=
  let ⟨vs, e, p⟩ := o.at_; ⟨⟨vs, x.h _ _ e, pair_up x.g p⟩, x.off o.off e⟩
theorem Own.pv {α : Type} [Rep α] {K : PySem.W.Frag} {q : Addr} {xs : List α} (o : Own K G H q xs) : OwnAt K xs G H (.ref q) := let ⟨vs, e, p⟩ := o.at_; ⟨q, vs, rfl, e, p⟩
theorem Own.len {α : Type} [Rep α] {K : PySem.W.Frag} {q : Addr} {xs : List α} (o : Own K G H q xs) (l : HLen H) : xs.length ≤ sizeLine := by
  obtain ⟨vs, e, p⟩ := o.at_
  rw [← paired_len p]
  exact l _ _ e
/-- behind a store to another own object -/
theorem Own.wr {α : Type} [Rep α] {K : PySem.W.Frag} {q q' : Addr} {xs : List α} {o' : HO} (o : Own K G H q xs) (h : q ≠ q') : Own K G (upd H q' o') q xs :=
  let ⟨vs, e, p⟩ := o.at_; ⟨⟨vs, by rw [upd_ne h]; exact e, p⟩, o.off⟩
theorem Own.ex {α : Type} [Rep α] {K : PySem.W.Frag} {q : Addr} {xs : List α} (o : Own K G H q xs) : ∃ u, H q = some u := let ⟨_, e, _⟩ := o.at_; ⟨_, e⟩
/-- values that no heap tells -/
class Flat (α : Type) [Rep α] : Prop where
  flat : ∀ {K : PySem.W.Frag} {G G' : Hp} {v : V} {x : α}, rep K G v x → rep K G' v x
instance : Flat Int := ⟨fun h => h⟩
instance : Flat Bool := ⟨fun h => h⟩
instance : Flat Str := ⟨fun h => h⟩
/-- from a new list of flat things: own it; the frozen part as it was ahead -/
theorem own_new {α : Type} [Rep α] [Flat α] {K : PySem.W.Frag} {G H G1 H1 : Hp} {v : V} {xs : List α} (s0 : Same G H) (x : Ext G H G1 H1) (n : New H v) (r : Is K xs G1 H1 v) : ∃ q, v = .ref q ∧ H q = none ∧ Own K G H1 q xs ∧ Ext G H G H1 := by
  obtain ⟨q, vs, rfl, e, p⟩ := r
  have hq : H q = none := n q rfl
  refine ⟨q, rfl, hq, ⟨⟨vs, x.s _ _ e, ?_⟩, s0.free hq⟩, ⟨x.h, Same.refl _, fun b o h => x.s _ _ (x.g _ _ h), fun b o h => .inl h⟩⟩
  clear e
  induction p with
  | nil => exact .nil
  | cons h t ih => exact .cons (Flat.flat h) ih
/-- an own list without items -/
theorem evO_nil : EvN X (.List [] pos) σ G H (fun G H v => ∃ q, v = .ref q ∧ H q = some (.lst []) ∧ G q = none) :=
  evN_of (pe_lst pa_nil) fun G1 H1 x1 Q q => ⟨Nat.zero_le _, fun p hp => q G1 _ _ ((Ext.refl x1.s).newH hp) ⟨p, rfl, upd_same, x1.s.free hp⟩ fun p' e => by cases e; exact hp⟩
theorem s_nil {α : Type} [Rep α] {i : Nat} {n : Str} {lp : Pos} (hN : X.N.Nodup) (sl : Ss X i n) (s0 : Same G H) (k : ∀ H1 q, Ext G H G H1 → HLen H1 → H q = none → Own X.K G H1 q ([] : List α) → D.nx (σ.set i (some (.ref q))) H1)
    (hs : swapsWith (.List [] lp) (some (.Name n p)) pos.line X.env = pure false := by rfl) : tS X (.Assign [.Name n p] (.List [] lp) pos) D σ H :=
  s_of (ps_set hN sl.hN sl.hx pe_sem hs sl.hf) (tE_len (tE_of' s0 k))
  where tE_of' (s0 : Same G H) (k : ∀ H1 q, Ext G H G H1 → HLen H1 → H q = none → Own X.K G H1 q ([] : List α) → D.nx (σ.set i (some (.ref q))) H1) : tE X (.List [] lp) σ H (fun v H' => HLen H' → D.nx (σ.set i (some v)) H') :=
    fun pins s I => (pe_lst pa_nil).run pins s σ H _ I ⟨Nat.zero_le _, fun q hq l => k _ q ((Ext.refl s0).newH hq) l hq ⟨⟨[], upd_same, .nil⟩, s0.free hq⟩⟩
/-- q.append(e) -/
theorem s_append {α : Type} [Rep α] {xs : List α} {y : α} {i : Nat} {n : Str} {q : Addr} {ap cp np : Pos} (sl : Sl X i n) (s0 : Same G H) (o : Own X.K G H q xs) (h : Ev X e σ G H y) (hz : xs.length < sizeLine)
    (k : ∀ G1 H1 vs', Ext G H G1 H1 → HLen H1 → Own X.K G1 (upd H1 q (.lst vs')) q (xs ++ [y]) → D.nx σ (upd H1 q (.lst vs'))) (h0 : σ[i]? = some (some (.ref q)) := by rfl)
    (hbase : attributeBase (.Name n np) "append" X.env (eval (.Name n np) X.env) = eval (.Name n np) X.env := by rfl)
    (hfew : ((backTo cp (starEach [e] X.env)).all (fun x => !x.1) && (backToKw cp (keywordEach [] X.env)).all (fun x => x.1.isSome)
      && decide ([e].length + ([] : List Keyword).length + (if ([] : List Keyword).isEmpty then 0 else 1) < 30)) = true := by rfl)
    (hline : (ap.endLine == cp.line) = true := by rfl) (he : starEach [e] X.env = (false, eval e X.env) :: starEach [] X.env := by rfl) (hplain : (backTo cp (starEach [] X.env)).any (·.1) = false := by rfl)
    (hsw : swapsWith (.Call (.Attribute (.Name n np) "append" ap) [e] [] cp) none pos.line X.env = pure false := by rfl) :
    tS X (.Expr (.Call (.Attribute (.Name n np) "append" ap) [e] [] cp) pos) D σ H := by
  obtain ⟨vs, eq, pr⟩ := o.at_
  refine s_of (ps_expr (pe_bm PySem.F.plainAttrs_list PySem.F.slot_list_append PySem.F.type_list_append mt_append (pe_var sl.hN sl.hv sl.nm.hd sl.nm.hcd) (pa_cons pe_sem pa_nil he) hbase hfew hline he hplain) hsw) ?_
  refine ⟨_, h0, .inl ⟨rfl, _, SqL.of eq⟩, h G H (Ext.refl s0) _ fun G1 H1 w x l rw' => ?_⟩
  have e1 : H1 q = some (.lst vs) := x.h _ _ eq
  exact ⟨q, vs, w, rfl, rfl, e1, by rw [paired_len pr]; exact hz, k G1 H1 _ x l ⟨⟨_, upd_same, paired_app (pair_up x.g pr) (.cons rw' .nil)⟩, x.off o.off eq⟩⟩
/-- an own list handed on: frozen from now on -/
theorem Own.frz {α : Type} [Rep α] {K : PySem.W.Frag} {G0 H0 : Hp} {q : Addr} {xs : List α} (o : Own K G H q xs) (x0 : Ext G0 H0 G H) (n : H0 q = none) : ∃ G', Ext G0 H0 G' H ∧ Same G G' ∧ rep K G' (.ref q) xs :=
  let ⟨vs, e, p⟩ := o.at_; ⟨upd G q (.lst vs), x0.frz n e, same_new o.off, q, vs, rfl, upd_same, pair_up (same_new o.off) p⟩
/-- for: I tells what is left to be walked, the slots and the world -/
theorem s_for {α : Type} [Rep α] {xs : List α} {T : TgT α} {g : TG} {iter : Expr} {body : List Stmt} (hp : PassesOwn (model X.prog X.w) X.A X.env X.xe) (hc : X.calm = true) (hg : PG X tg g) (ha : Acts X.K g T) (s0 : Same G H) (hi : EvI X tg iter σ G H xs)
    (I : List α → St → Hp → Hp → Prop) (h0 : ∀ G1 H1, Ext G H G1 H1 → I xs σ G1 H1)
    (hs : ∀ x rest σ1 G1 H1 G2 H2 σ2, (∃ l, l ++ x :: rest = xs) ∧ xs.length ≤ sizeLine → Same G G1 → Same G1 H1 → I (x :: rest) σ1 G1 H1 → Ext G1 H1 G2 H2 → HLen H2 → T G2 x σ1 σ2 →
      tSs X body { D with nx := fun σ' H' => ∃ G', Same G2 G' ∧ Same G' H' ∧ I rest σ' G' H', ct := fun σ' H' => ∃ G', Same G2 G' ∧ Same G' H' ∧ I rest σ' G' H', bk := D.nx } σ2 H2)
    (hd : ∀ σ1 G1 H1, Same G G1 → Same G1 H1 → I [] σ1 G1 H1 → D.nx σ1 H1) (hsf : ∀ x, foldedSetIterable iter X.env x = pure x := by intro _; rfl) : tS X (.For tg iter body [] pos) D σ H := by
  obtain ⟨wi, pi, hi⟩ := hi
  refine s_of (ps_for hp hc pi hg pss_sem hsf) (hi G H (Ext.refl s0) _ fun J Gs Hs xs0 hl hw => ?_)
  refine ⟨fun i m σ' H' => m = xs.length - i ∧ i ≤ xs.length ∧ ∃ G', Same Gs G' ∧ Same G' H' ∧ I (xs.drop i) σ' G' H', ⟨xs.length, rfl, Nat.zero_le _, Gs, Same.refl _, xs0.s, h0 Gs Hs xs0⟩, ?_⟩
  rintro i m σ' H' ⟨rfl, hi', G', sg, sh, Iv⟩
  obtain ⟨go, stop, yld⟩ := hw G' H' sg sh
  by_cases hlt : i < xs.length
  · have hx : xs[i]? = some xs[i] := List.getElem?_eq_getElem hlt
    have ed : xs.drop i = xs[i] :: xs.drop (i + 1) := List.drop_eq_getElem_cons hlt
    rw [ed] at Iv
    refine .inr ⟨go i hlt, fun σ2 H2 => ∃ G2, Same Gs G2 ∧ Same G2 H2 ∧ I (xs.drop (i + 1)) σ2 G2 H2, fun σ2 H2 q => ⟨_, by omega, rfl, hlt, q⟩, fun v H'' y => ?_⟩
    obtain ⟨G'', x'', rv⟩ := yld i _ v H'' hx y
    refine ha _ v G'' H'' _ _ x''.s rv fun σ2 hT => tSs_lenI fun l => ?_
    intro pins s Iv'
    refine thn (hs xs[i] (xs.drop (i + 1)) σ' G' H' G'' H'' σ2 ⟨⟨xs.take i, by rw [← ed, List.take_append_drop]⟩, hl⟩ (xs0.g.trans sg) sh Iv x'' l hT pins s Iv') fun f s' q => ?_
    have fin : ∀ {H3 : Hp} {σ3 : St}, (∃ G3, Same G'' G3 ∧ Same G3 H3 ∧ I (xs.drop (i + 1)) σ3 G3 H3) → ∃ G2, Same Gs G2 ∧ Same G2 H3 ∧ I (xs.drop (i + 1)) σ3 G2 H3 := fun ⟨G3, a, b, c⟩ => ⟨G3, sg.trans (x''.g.trans a), b, c⟩
    cases f with
    | next =>
      obtain ⟨σ3, H3, I3, q⟩ := q
      exact ⟨σ3, H3, I3, fin q⟩
    | cont =>
      obtain ⟨σ3, H3, I3, q⟩ := q
      exact ⟨σ3, H3, I3, fin q⟩
    | brk => exact q
    | ret u => exact q
  · have e : i = xs.length := by omega
    subst e
    rw [List.drop_length] at Iv
    exact .inl ⟨stop, hd σ' G' H' (xs0.g.trans sg) sh Iv⟩
end

/-! ### what a loop's turns come to -/
inductive LR (R S : Type) where
  | ret (r : R) | nxt (s : S) | brk (s : S)
def lrun {α R S : Type} (step : α → S → LR R S) : List α → S → LR R S
  | [], s => .nxt s
  | x :: xs, s => match step x s with
    | .nxt s' => lrun step xs s'
    | .brk s' => .nxt s'
    | .ret r => .ret r
theorem lrun_nxt {α R S : Type} {step : α → S → LR R S} {x : α} {xs : List α} {s s' : S} {y : LR R S} (e : lrun step (x :: xs) s = y) (h : step x s = .nxt s') : lrun step xs s' = y := by
  rw [← e]
  show _ = match step x s with | .nxt s' => lrun step xs s' | .brk s' => .nxt s' | .ret r => .ret r
  rw [h]
theorem lrun_brk {α R S : Type} {step : α → S → LR R S} {x : α} {xs : List α} {s s' : S} {y : LR R S} (e : lrun step (x :: xs) s = y) (h : step x s = .brk s') : y = .nxt s' := by
  rw [← e]
  show (match step x s with | .nxt s' => lrun step xs s' | .brk s' => .nxt s' | .ret r => .ret r) = _
  rw [h]
theorem lrun_ret {α R S : Type} {step : α → S → LR R S} {x : α} {xs : List α} {s : S} {r : R} {y : LR R S} (e : lrun step (x :: xs) s = y) (h : step x s = .ret r) : y = .ret r := by
  rw [← e]
  show (match step x s with | .nxt s' => lrun step xs s' | .brk s' => .nxt s' | .ret r => .ret r) = _
  rw [h]
/-- behind a loop: what it handed back, or what follows it -/
def LR.out {R S : Type} (y : LR R S) (k : S → R) : R := match y with
  | .ret r => r
  | .nxt s => k s
  | .brk s => k s
def LR.andThen {R S S' : Type} (y : LR R S) (k : S → LR R S') : LR R S' := match y with
  | .ret r => .ret r
  | .nxt s => k s
  | .brk s => k s

/-! ### defs -/
section
variable {P : Program} {w : World} {K : PySem.W.Frag} {mg : Str → Option Value} {base : Heap} {x : Str} {st : Stmt} {f : Addr} {fd : FuncData} {N ps : List Str} {k : Nat}
theorem cal_of {sp : Sp} (F : Fun K x x st f fd) (hm : mg x = some (.ref f)) (hb : Binds K fd ps []) (S : FnScope N ps (defScope st)) (len : ∀ vs H Q E, sp vs H Q E → vs.length = ps.length)
    (body : ∀ (cdv : Value) (A : Around) (outer : List Env) (s : Shared) (H : Hp) (vs : List V) (Q : VK) (E : XK), Room k (A.deeper (envOfC x (defScope st) s.heap.objs.size f cdv)) → sp vs H Q E →
      tSs (cxOf (L2.CX P w) P w K mg base N x (defScope st) f cdv A outer s H E) (defBody st) { nx := fun _ H' => Q .non H', rt := Q } (start N vs) H) : Cal P w K mg base (k + 1) x sp :=
  ⟨f, fd, ps, F.okX S len fun cdv A outer s H vs Q E hr h => ⟨_, pss_sem, body cdv A outer s H vs Q E hr h⟩, hm, F.kp, hb⟩
theorem fok_of {sp : Sp} (F : Fun K x x st f fd) (S : FnScope N ps (defScope st)) (len : ∀ vs H Q E, sp vs H Q E → vs.length = ps.length)
    (body : ∀ (cdv : Value) (A : Around) (outer : List Env) (s : Shared) (H : Hp) (vs : List V) (Q : VK) (E : XK), Room k (A.deeper (envOfC x (defScope st) s.heap.objs.size f cdv)) → sp vs H Q E →
      tSs (cxOf (L2.CX P w) P w K mg base N x (defScope st) f cdv A outer s H E) (defBody st) { nx := fun _ H' => Q .non H', rt := Q } (start N vs) H) : FnOk P w K mg base (L2.CX P w) (k + 1) f fd ps sp :=
  F.okX S len fun cdv A outer s H vs Q E hr h => ⟨_, pss_sem, body cdv A outer s H vs Q E hr h⟩
variable {α β γ δ ε ζ : Type} [Rep α] [Rep β] [Rep γ] [Rep δ] [Rep ε] [Rep ζ] {fr : Bool}
/-- what a def's end wants: y, from G, H on -/
structure End (K : PySem.W.Frag) (fr : Bool) (G H : Hp) (y : ζ) (D : Ends) : Prop where
  rt : ∀ G2 H2 w, Ext G H G2 H2 → rep K G2 w y → (fr = true → New H w) → D.rt w H2
  nx : ∀ G2 H2 σ, Ext G H G2 H2 → rep K G2 .non y → D.nx σ H2
theorem End.to {K : PySem.W.Frag} {G H : Hp} {y z : ζ} {D : Ends} (h : End K fr G H y D) (e : y = z) : End K fr G H z D := e ▸ h
theorem End.tt {K : PySem.W.Frag} {G H : Hp} {x : Bool} {y z : ζ} {D : Ends} (h : End K fr G H (if x = true then y else z) D) (e : x = true) : End K fr G H y D := by rwa [if_pos e] at h
theorem End.ff {K : PySem.W.Frag} {G H : Hp} {x : Bool} {y z : ζ} {D : Ends} (h : End K fr G H (if x = true then y else z) D) (e : x = false) : End K fr G H z D := by rwa [if_neg (by rw [e]; decide)] at h
theorem End.outR {K : PySem.W.Frag} {G H : Hp} {S : Type} {y : LR ζ S} {k : S → ζ} {r : ζ} {D : Ends} (h : End K fr G H (y.out k) D) (e : y = .ret r) : End K fr G H r D := by rwa [e] at h
theorem End.outN {K : PySem.W.Frag} {G H : Hp} {S : Type} {y : LR ζ S} {k : S → ζ} {s : S} {D : Ends} (h : End K fr G H (y.out k) D) (e : y = .nxt s) : End K fr G H (k s) D := by rwa [e] at h
theorem end_of {K : PySem.W.Frag} {G H : Hp} {y : ζ} {Q : VK} (q : ∀ G2 H2 w, Ext G H G2 H2 → rep K G2 w y → (fr = true → New H w) → Q w H2) : End K fr G H y { nx := fun _ H' => Q .non H', rt := Q } :=
  ⟨q, fun G2 H2 _ x r => q G2 H2 _ x r fun _ p e => nomatch e⟩
theorem fn1 {pre : α → Prop} {m : α → ζ} (F : Fun K x x st f fd) (hm : mg x = some (.ref f)) (hb : Binds K fd ps []) (S : FnScope N ps (defScope st)) (hl : ps.length = 1)
    (body : ∀ (cdv : Value) (A : Around) (outer : List Env) (s : Shared) (H : Hp) (E : XK), Room k (A.deeper (envOfC x (defScope st) s.heap.objs.size f cdv)) → ∀ (G : Hp) (v1 : V) (x1 : α) (D : Ends), Same G H → rep K G v1 x1 → pre x1 → End K fr G H (m x1) D →
      tSs (cxOf (L2.CX P w) P w K mg base N x (defScope st) f cdv A outer s H E) (defBody st) D (start N [v1]) H) : Cal P w K mg base (k + 1) x (Sp1 K fr pre m) :=
  cal_of F hm hb S (fun vs H Q E h => by obtain ⟨_, _, _, rfl, _⟩ := h; exact hl.symm) fun cdv A outer s H vs Q E hr h => by
    obtain ⟨G, v1, x1, rfl, s0, r1, hp, q⟩ := h
    exact body cdv A outer s H E hr G v1 x1 _ s0 r1 hp (end_of q)
theorem fn1F {pre : α → Prop} {m : α → ζ} (F : Fun K x x st f fd) (hm : mg x = some (.ref f)) (hb : Binds K fd ps []) (S : FnScope N ps (defScope st)) (hl : ps.length = 1)
    (body : ∀ (cdv : Value) (A : Around) (outer : List Env) (s : Shared) (H : Hp) (E : XK), Room k (A.deeper (envOfC x (defScope st) s.heap.objs.size f cdv)) → ∀ (G : Hp) (v1 : V) (x1 : α) (D : Ends), Same G H → rep K G v1 x1 → pre x1 → End K fr G H (m x1) D →
      tSs (cxOf (L2.CX P w) P w K mg base N x (defScope st) f cdv A outer s H E) (defBody st) D (start N [v1]) H) : FnOk P w K mg base (L2.CX P w) (k + 1) f fd ps (Sp1 K fr pre m) :=
  fok_of F S (fun vs H Q E h => by obtain ⟨_, _, _, rfl, _⟩ := h; exact hl.symm) fun cdv A outer s H vs Q E hr h => by
    obtain ⟨G, v1, x1, rfl, s0, r1, hp, q⟩ := h
    exact body cdv A outer s H E hr G v1 x1 _ s0 r1 hp (end_of q)
theorem fn2 {pre : α → β → Prop} {m : α → β → ζ} (F : Fun K x x st f fd) (hm : mg x = some (.ref f)) (hb : Binds K fd ps []) (S : FnScope N ps (defScope st)) (hl : ps.length = 2)
    (body : ∀ (cdv : Value) (A : Around) (outer : List Env) (s : Shared) (H : Hp) (E : XK), Room k (A.deeper (envOfC x (defScope st) s.heap.objs.size f cdv)) → ∀ (G : Hp) (v1 v2 : V) (x1 : α) (x2 : β) (D : Ends), Same G H → rep K G v1 x1 → rep K G v2 x2 → pre x1 x2 → End K fr G H (m x1 x2) D →
      tSs (cxOf (L2.CX P w) P w K mg base N x (defScope st) f cdv A outer s H E) (defBody st) D (start N [v1, v2]) H) : Cal P w K mg base (k + 1) x (Sp2 K fr pre m) :=
  cal_of F hm hb S (fun vs H Q E h => by obtain ⟨_, _, _, _, _, rfl, _⟩ := h; exact hl.symm) fun cdv A outer s H vs Q E hr h => by
    obtain ⟨G, v1, v2, x1, x2, rfl, s0, r1, r2, hp, q⟩ := h
    exact body cdv A outer s H E hr G v1 v2 x1 x2 _ s0 r1 r2 hp (end_of q)
theorem fn3 {pre : α → β → γ → Prop} {m : α → β → γ → ζ} (F : Fun K x x st f fd) (hm : mg x = some (.ref f)) (hb : Binds K fd ps []) (S : FnScope N ps (defScope st)) (hl : ps.length = 3)
    (body : ∀ (cdv : Value) (A : Around) (outer : List Env) (s : Shared) (H : Hp) (E : XK), Room k (A.deeper (envOfC x (defScope st) s.heap.objs.size f cdv)) → ∀ (G : Hp) (v1 v2 v3 : V) (x1 : α) (x2 : β) (x3 : γ) (D : Ends), Same G H → rep K G v1 x1 → rep K G v2 x2 → rep K G v3 x3 → pre x1 x2 x3 → End K fr G H (m x1 x2 x3) D →
      tSs (cxOf (L2.CX P w) P w K mg base N x (defScope st) f cdv A outer s H E) (defBody st) D (start N [v1, v2, v3]) H) : Cal P w K mg base (k + 1) x (Sp3 K fr pre m) :=
  cal_of F hm hb S (fun vs H Q E h => by obtain ⟨_, _, _, _, _, _, _, rfl, _⟩ := h; exact hl.symm) fun cdv A outer s H vs Q E hr h => by
    obtain ⟨G, v1, v2, v3, x1, x2, x3, rfl, s0, r1, r2, r3, hp, q⟩ := h
    exact body cdv A outer s H E hr G v1 v2 v3 x1 x2 x3 _ s0 r1 r2 r3 hp (end_of q)
theorem fn4 {pre : α → β → γ → δ → Prop} {m : α → β → γ → δ → ζ} (F : Fun K x x st f fd) (hm : mg x = some (.ref f)) (hb : Binds K fd ps []) (S : FnScope N ps (defScope st)) (hl : ps.length = 4)
    (body : ∀ (cdv : Value) (A : Around) (outer : List Env) (s : Shared) (H : Hp) (E : XK), Room k (A.deeper (envOfC x (defScope st) s.heap.objs.size f cdv)) → ∀ (G : Hp) (v1 v2 v3 v4 : V) (x1 : α) (x2 : β) (x3 : γ) (x4 : δ) (D : Ends), Same G H → rep K G v1 x1 → rep K G v2 x2 → rep K G v3 x3 → rep K G v4 x4 → pre x1 x2 x3 x4 → End K fr G H (m x1 x2 x3 x4) D →
      tSs (cxOf (L2.CX P w) P w K mg base N x (defScope st) f cdv A outer s H E) (defBody st) D (start N [v1, v2, v3, v4]) H) : Cal P w K mg base (k + 1) x (Sp4 K fr pre m) :=
  cal_of F hm hb S (fun vs H Q E h => by obtain ⟨_, _, _, _, _, _, _, _, _, rfl, _⟩ := h; exact hl.symm) fun cdv A outer s H vs Q E hr h => by
    obtain ⟨G, v1, v2, v3, v4, x1, x2, x3, x4, rfl, s0, r1, r2, r3, r4, hp, q⟩ := h
    exact body cdv A outer s H E hr G v1 v2 v3 v4 x1 x2 x3 x4 _ s0 r1 r2 r3 r4 hp (end_of q)
end
end RL

namespace RL
open PySem PySem.Spec PyProof.Rows L2 Rep
section
variable {α : Type}
theorem rep_of [Rep α] {K : PySem.W.Frag} {G : Hp} {v : V} {x y : α} (e : x = y) (r : rep K G v y) : rep K G v x := e ▸ r
theorem tk_tt {a y z : α} {x : Bool} (h : a = if x = true then y else z) (e : x = true) : a = y := by rwa [if_pos e] at h
theorem tk_ff {a y z : α} {x : Bool} (h : a = if x = true then y else z) (e : x = false) : a = z := by rwa [if_neg (by rw [e]; decide)] at h
theorem tk_outR {S : Type} {a : α} {y : LR α S} {k : S → α} {r : α} (h : a = y.out k) (e : y = .ret r) : a = r := by rw [e] at h; exact h
theorem tk_outN {S : Type} {a : α} {y : LR α S} {k : S → α} {s : S} (h : a = y.out k) (e : LR.nxt s = y) : a = k s := by rw [← e] at h; exact h
theorem tk_anR {S S' : Type} {a : LR α S'} {y : LR α S} {k : S → LR α S'} {r : α} (h : a = y.andThen k) (e : y = .ret r) : a = .ret r := by rw [e] at h; exact h
theorem tk_anN {S S' : Type} {a : LR α S'} {y : LR α S} {k : S → LR α S'} {s : S} (h : a = y.andThen k) (e : LR.nxt s = y) : a = k s := by rw [← e] at h; exact h
theorem tk_fold {S : Type} {a : α} {y s : S} {k : S → α} (h : a = k y) (e : s = y) : a = k s := by rw [e]; exact h
def lfold {S : Type} (step : α → S → S) : List α → S → S
  | [], s => s
  | x :: xs, s => lfold step xs (step x s)
theorem lfold_nxt {S : Type} {step : α → S → S} {x : α} {xs : List α} {s s' y : S} (e : lfold step (x :: xs) s = y) (h : step x s = s') : lfold step xs s' = y := by
  rw [← e, ← h]
  rfl
theorem mem_of {x : α} {rest xs : List α} (h : ∃ l, l ++ x :: rest = xs) : x ∈ xs := by
  obtain ⟨l, rfl⟩ := h
  simp
end
theorem mem_len {α : Type} {x : α} {rest xs : List α} (h : ∃ l, l ++ x :: rest = xs) : rest.length < xs.length := by
  obtain ⟨l, rfl⟩ := h
  rw [List.length_append, List.length_cons]
  omega
/-- a new list of flat things is the def's own from some moment on -/
theorem thaw {α : Type} [Rep α] [Flat α] {K : PySem.W.Frag} {G0 H0 Ga Ha Gb Hb Gw Hw : Hp} {v : V} {xs : List α} (xa : Ext G0 H0 Ga Ha) (x : Ext Ga Ha Gb Hb) (n : New Ha v) (xw : Ext G0 H0 Gw Hw) (s : Same Hb Hw) (r : rep K Gb v xs) :
    ∃ q, v = .ref q ∧ H0 q = none ∧ Own K Ga Hw q xs ∧ Ext G0 H0 Ga Hw := by
  obtain ⟨q, vs, rfl, e, p⟩ := r
  have hq : Ha q = none := n q rfl
  refine ⟨q, rfl, xa.h.free hq, ⟨⟨vs, s _ _ (x.s _ _ e), ?_⟩, xa.s.free hq⟩, ⟨xw.h, xa.g, fun b o h => s _ _ (x.h _ _ (xa.s _ _ h)), xa.n⟩⟩
  clear e
  induction p with
  | nil => exact .nil
  | cons h t ih => exact .cons (Flat.flat h) ih

section
variable {X : Cx} {σ : St} {G H : Hp} {P Pa Pb : PV} {e a b c tg : Expr} {es : List Expr} {st : Stmt} {sts sts' : List Stmt} {pos p : Pos} {D : Ends}
theorem s_retN_ (s0 : Same G H) (h : EvN X e σ G H P) (k : ∀ G1 H1 v, Ext G H G1 H1 → HLen H1 → P G1 H1 v → New H v → D.rt v H1) : tS X (.Return (some e) pos) D σ H :=
  s_of (ps_ret pe_sem) (h G H (Ext.refl s0) _ fun G1 H1 v x l r n => k G1 H1 v x l r n)
/-- the very value of a name -/
theorem s_retV {i : Nat} {n : Str} {np : Pos} {v : V} (sl : Sl X i n) (s0 : Same G H) (k : D.rt v H) (h : σ[i]? = some (some v) := by rfl) : tS X (.Return (some (.Name n np)) pos) D σ H :=
  s_of (ps_ret (pe_var sl.hN sl.hv sl.nm.hd sl.nm.hcd)) ⟨v, h, k⟩

/-! ### comprehensions, as a value and as a statement -/
def LcOk (X : Cx) (elt : Expr) (gen : Comprehension) (scope : Scope) (σ : St) (G H : Hp) (P : PV) : Prop :=
  ∃ (tg iter : Expr) (ifs : List Expr) (wi : TI) (g : TG) (own : List (Str × Nat)), gen = ⟨tg, iter, ifs, 0⟩ ∧ X.calm = true ∧ X.N.Nodup ∧ PI X tg iter wi ∧ BlkOk X.N X.env.scope scope own ∧
    (∀ (s : Shared) (H : Hp) (C : Addr) (cl : List (Str × Addr)) (fp : List Addr), PG (X.blk s H scope (compEnvC scope cl C X.env) fp) tg g) ∧ (∀ x, foldedSetIterable iter X.env x = pure x) ∧
    ∀ G1 H1, Ext G H G1 H1 → ∀ Q : VK, (∀ G2 H2 v, Ext G1 H1 G2 H2 → P G2 H2 v → New H1 v → Q v H2) → tLc wi g (lcT X scope ifs) (lcE X scope elt) (own.map (·.2)) σ H1 Q
theorem evN_lc {elt : Expr} {gen : Comprehension} {scope : Scope} (h : LcOk X elt gen scope σ G H P) : EvN X (.ListComp elt [gen] scope pos) σ G H P := by
  obtain ⟨tg, iter, ifs, wi, g, own, rfl, hc, hN, pi, ok, hg, hs, k⟩ := h
  exact evN_of (pe_lc hc hN pi ok hg pts_lc pe_lcE hs) k
theorem ev_lc {elt : Expr} {gen : Comprehension} {scope : Scope} (h : LcOk X elt gen scope σ G H P) : EvP X (.ListComp elt [gen] scope pos) σ G H P := (evN_lc h).ev
theorem s_setLc {elt : Expr} {gen : Comprehension} {scope : Scope} {pos' : Pos} {i : Nat} {n : Str} (hN : X.N.Nodup) (sl : Ss X i n) (s0 : Same G H) (h : LcOk X elt gen scope σ G H P) (k : ∀ G1 H1 v, Ext G H G1 H1 → HLen H1 → P G1 H1 v → New H v → D.nx (σ.set i (some v)) H1)
    (hl : X.env.scope.names.lookup n = some .local := by rfl) (hsw : swapsWith (.ListComp elt [gen] scope pos) (some (.Name n p)) pos'.line X.env = pure true := by exact sw_true rfl rfl rfl (by decide +kernel)) :
    tS X (.Assign [.Name n p] (.ListComp elt [gen] scope pos) pos') D σ H := by
  obtain ⟨tg, iter, ifs, wi, g, own, rfl, hc, hN', pi, ok, hg, hs, k'⟩ := h
  exact tS_len (s_of (ps_setLc hc hN sl.hN hl hsw pi ok hg pts_lc pe_lcE hs) (k' G H (Ext.refl s0) _ fun G1 H1 v x r n l => k G1 H1 v x l r n))
variable {α β γ : Type} [Rep α] [Rep β] [Rep γ] {iter elt : Expr} {ifs : List Expr} {scope : Scope}
theorem lc1 {xs : List α} {n : Str} {np : Pos} {i : Nat} (f : α → β) (t : α → Bool) (hc : X.calm = true) (hN : X.N.Nodup) (hi : EvI X (.Name n np) iter σ G H xs) (own : List (Str × Nat)) (ok : BlkOk X.N X.env.scope scope own)
    (hg : ∀ (s : Shared) (H : Hp) (C : Addr) (cl : List (Str × Addr)) (fp : List Addr), PG (X.blk s H scope (compEnvC scope cl C X.env) fp) (.Name n np) (gName i))
    (ht : ∀ x v G1 H1, x ∈ xs → Ext G H G1 H1 → rep X.K G1 v x → ∀ s H0 C cl fp, EvTs (InB X scope s H0 C cl fp) ifs ((wipe σ (own.map (·.2))).set i (some v)) G1 H1 (t x))
    (he : ∀ x v G1 H1, x ∈ xs → t x = true → Ext G H G1 H1 → rep X.K G1 v x → ∀ s H0 C cl fp, Ev (InB X scope s H0 C cl fp) elt ((wipe σ (own.map (·.2))).set i (some v)) G1 H1 (f x))
    (hw : ∀ v, wipe ((wipe σ (own.map (·.2))).set i (some v)) (own.map (·.2)) = wipe σ (own.map (·.2)) := by intro _; rfl) (hs : ∀ x, foldedSetIterable iter X.env x = pure x := by intro _; rfl) :
    LcOk X elt ⟨.Name n np, iter, ifs, 0⟩ scope σ G H (Is X.K ((xs.filter t).map f)) := by
  obtain ⟨wi, pi, hi⟩ := hi
  exact ⟨_, _, _, wi, _, own, rfl, hc, hN, pi, ok, hg, hs, fun G1 H1 x1 Q q => lc_go (T := T1 X.K i) (f := f) (t := t) hi acts1 (fun G x σ' ⟨v, _, e⟩ => by rw [e]; exact hw v)
    (fun x G1 H1 σ' hx e ⟨v, r, e'⟩ => e' ▸ ht x v G1 H1 hx e r) (fun x G1 H1 σ' hx hb e ⟨v, r, e'⟩ => e' ▸ he x v G1 H1 hx hb e r) t1_up G1 H1 x1 Q q⟩
theorem filter_tt {xs : List α} : xs.filter (fun _ => true) = xs := List.filter_eq_self.mpr fun _ _ => rfl
theorem lc1A {xs : List α} {n : Str} {np : Pos} {i : Nat} (f : α → β) (hc : X.calm = true) (hN : X.N.Nodup) (hi : EvI X (.Name n np) iter σ G H xs) (own : List (Str × Nat)) (ok : BlkOk X.N X.env.scope scope own)
    (hg : ∀ (s : Shared) (H : Hp) (C : Addr) (cl : List (Str × Addr)) (fp : List Addr), PG (X.blk s H scope (compEnvC scope cl C X.env) fp) (.Name n np) (gName i))
    (he : ∀ x v G1 H1, x ∈ xs → Ext G H G1 H1 → rep X.K G1 v x → ∀ s H0 C cl fp, Ev (InB X scope s H0 C cl fp) elt ((wipe σ (own.map (·.2))).set i (some v)) G1 H1 (f x))
    (hw : ∀ v, wipe ((wipe σ (own.map (·.2))).set i (some v)) (own.map (·.2)) = wipe σ (own.map (·.2)) := by intro _; rfl) (hs : ∀ x, foldedSetIterable iter X.env x = pure x := by intro _; rfl) :
    LcOk X elt ⟨.Name n np, iter, [], 0⟩ scope σ G H (Is X.K (xs.map f)) := by
  have h := lc1 (ifs := []) f (fun _ => true) hc hN hi own ok hg (fun _ _ _ _ _ _ _ _ _ _ _ _ => ets_nil) (fun x v G1 H1 hx _ => he x v G1 H1 hx) hw hs
  rwa [filter_tt] at h
theorem lc2 {xs : List (α × γ)} {tg : Expr} {i j : Nat} (f : α × γ → β) (t : α × γ → Bool) (hc : X.calm = true) (hN : X.N.Nodup) (hi : EvI X tg iter σ G H xs) (own : List (Str × Nat)) (ok : BlkOk X.N X.env.scope scope own)
    (hg : ∀ (s : Shared) (H : Hp) (C : Addr) (cl : List (Str × Addr)) (fp : List Addr), PG (X.blk s H scope (compEnvC scope cl C X.env) fp) tg (gTup X.K 2 (gCons (gName i) (gCons (gName j) gNil))))
    (ht : ∀ x u w G1 H1, x ∈ xs → Ext G H G1 H1 → rep X.K G1 u x.1 → rep X.K G1 w x.2 → ∀ s H0 C cl fp, EvTs (InB X scope s H0 C cl fp) ifs (((wipe σ (own.map (·.2))).set i (some u)).set j (some w)) G1 H1 (t x))
    (he : ∀ x u w G1 H1, x ∈ xs → t x = true → Ext G H G1 H1 → rep X.K G1 u x.1 → rep X.K G1 w x.2 → ∀ s H0 C cl fp, Ev (InB X scope s H0 C cl fp) elt (((wipe σ (own.map (·.2))).set i (some u)).set j (some w)) G1 H1 (f x))
    (hw : ∀ u w, wipe (((wipe σ (own.map (·.2))).set i (some u)).set j (some w)) (own.map (·.2)) = wipe σ (own.map (·.2)) := by intro _ _; rfl) (hs : ∀ x, foldedSetIterable iter X.env x = pure x := by intro _; rfl) :
    LcOk X elt ⟨tg, iter, ifs, 0⟩ scope σ G H (Is X.K ((xs.filter t).map f)) := by
  obtain ⟨wi, pi, hi⟩ := hi
  exact ⟨_, _, _, wi, _, own, rfl, hc, hN, pi, ok, hg, hs, fun G1 H1 x1 Q q => lc_go (T := T2 X.K i j) (f := f) (t := t) hi acts2 (fun G x σ' ⟨u, w, _, _, e⟩ => by rw [e]; exact hw u w)
    (fun x G1 H1 σ' hx e ⟨u, w, r, r', e'⟩ => e' ▸ ht x u w G1 H1 hx e r r') (fun x G1 H1 σ' hx hb e ⟨u, w, r, r', e'⟩ => e' ▸ he x u w G1 H1 hx hb e r r') t2_up G1 H1 x1 Q q⟩
theorem lc2A {xs : List (α × γ)} {tg : Expr} {i j : Nat} (f : α × γ → β) (hc : X.calm = true) (hN : X.N.Nodup) (hi : EvI X tg iter σ G H xs) (own : List (Str × Nat)) (ok : BlkOk X.N X.env.scope scope own)
    (hg : ∀ (s : Shared) (H : Hp) (C : Addr) (cl : List (Str × Addr)) (fp : List Addr), PG (X.blk s H scope (compEnvC scope cl C X.env) fp) tg (gTup X.K 2 (gCons (gName i) (gCons (gName j) gNil))))
    (he : ∀ x u w G1 H1, x ∈ xs → Ext G H G1 H1 → rep X.K G1 u x.1 → rep X.K G1 w x.2 → ∀ s H0 C cl fp, Ev (InB X scope s H0 C cl fp) elt (((wipe σ (own.map (·.2))).set i (some u)).set j (some w)) G1 H1 (f x))
    (hw : ∀ u w, wipe (((wipe σ (own.map (·.2))).set i (some u)).set j (some w)) (own.map (·.2)) = wipe σ (own.map (·.2)) := by intro _ _; rfl) (hs : ∀ x, foldedSetIterable iter X.env x = pure x := by intro _; rfl) :
    LcOk X elt ⟨tg, iter, [], 0⟩ scope σ G H (Is X.K (xs.map f)) := by
  have h := lc2 (ifs := []) f (fun _ => true) hc hN hi own ok hg (fun _ _ _ _ _ _ _ _ _ _ _ _ _ _ => ets_nil) (fun x u w G1 H1 hx _ => he x u w G1 H1 hx) hw hs
  rwa [filter_tt] at h
/-! ### sorted, in, of ints -/
def ins (x : Int) : List Int → List Int
  | [] => [x]
  | y :: ys => if x ≤ y then x :: y :: ys else y :: ins x ys
def isort : List Int → List Int
  | [] => []
  | x :: xs => ins x (isort xs)
theorem ins_perm (x : Int) : ∀ ys, (ins x ys).Perm (x :: ys)
  | [] => .refl _
  | y :: ys => by
    unfold ins
    split
    · exact .refl _
    · exact ((ins_perm x ys).cons y).trans (.swap x y ys)
theorem isort_perm : ∀ xs, (isort xs).Perm xs
  | [] => .refl _
  | x :: xs => (ins_perm x _).trans ((isort_perm xs).cons x)
theorem mem_ins {x z : Int} {ys : List Int} : z ∈ ins x ys ↔ z = x ∨ z ∈ ys := by
  rw [(ins_perm x ys).mem_iff, List.mem_cons]
theorem ins_sorted (x : Int) : ∀ ys, ys.Pairwise (· ≤ ·) → (ins x ys).Pairwise (· ≤ ·)
  | [], _ => List.pairwise_singleton _ _
  | y :: ys, h => by
    unfold ins
    have h' := List.pairwise_cons.mp h
    split
    · rename_i hx
      exact List.pairwise_cons.mpr ⟨fun z hz => by
        rcases List.mem_cons.mp hz with rfl | hz
        · exact hx
        · exact Int.le_trans hx (h'.1 z hz), h⟩
    · rename_i hx
      exact List.pairwise_cons.mpr ⟨fun z hz => by
        rcases mem_ins.mp hz with rfl | hz
        · omega
        · exact h'.1 z hz, ins_sorted x ys h'.2⟩
theorem isort_sorted : ∀ xs, (isort xs).Pairwise (· ≤ ·)
  | [] => List.Pairwise.nil
  | x :: xs => ins_sorted x _ (isort_sorted xs)
theorem sorted_one : ∀ {xs ys : List Int}, xs.Perm ys → xs.Pairwise (· ≤ ·) → ys.Pairwise (· ≤ ·) → xs = ys
  | [], ys, p, _, _ => (List.nil_perm.mp p).symm
  | x :: xs, [], p, _, _ => absurd p.symm (List.not_perm_nil_cons _ _)
  | x :: xs, y :: ys, p, h1, h2 => by
    have a := List.pairwise_cons.mp h1
    have b := List.pairwise_cons.mp h2
    have e : x = y := by
      have m1 : x ∈ y :: ys := p.mem_iff.mp List.mem_cons_self
      have m2 : y ∈ x :: xs := p.mem_iff.mpr List.mem_cons_self
      rcases List.mem_cons.mp m1 with z | z
      · exact z
      · rcases List.mem_cons.mp m2 with w | w
        · exact w.symm
        · have := b.1 x z
          have := a.1 y w
          omega
    subst e
    rw [sorted_one (List.Perm.cons_inv p) a.2 b.2]
/-! ### new objects -/
theorem evN_bin {op : Operator} {ha' : MonoC Pa} (k : ∃ r : R2, OpR X (binaryOp op) r ∧ ∀ G1 H1 v u, Ext G H G1 H1 → HLen H1 → Pa G1 H1 v → Pb G1 H1 u → ∀ Q : VK, (∀ G2 H2 w, Ext G1 H1 G2 H2 → P G2 H2 w → New H1 w → Q w H2) → r v u H1 Q) (ha : EvP X a σ G H Pa) (hb : EvP X b σ G H Pb) : EvN X (.BinOp a op b pos) σ G H P :=
  let ⟨_, ho, k⟩ := k; evN_of (pe_op ho pe_sem pe_sem) fun G1 H1 x1 Q q => ha G1 H1 x1 _ fun G2 H2 v x2 _ pv => hb G2 H2 (x1.trans x2) _ fun G3 H3 u x3 l3 pu =>
    k G3 H3 v u ((x1.trans x2).trans x3) l3 (ha'.m _ _ _ _ _ x3 pv) pu Q fun G4 H4 w x4 pw n => q G4 H4 w ((x2.trans x3).trans x4) pw fun p e => (x2.trans x3).h.free (n p e)
theorem evN_sl {xs : List α} {inst : Rep α} {lo hi : Option Expr} {l u : Option Int} {p2 : Pos} [m : MonoC P] [s : AsSeq X.K P α inst xs] (h : EvP X a σ G H P) (h1 : EvO X lo σ G H l) (h2 : EvO X hi σ G H u) : EvN X (.Subscript a (.Slice lo hi none p2) pos) σ G H (Is X.K (cut xs l u)) := by
  obtain ⟨t1, p1, k1⟩ := h1
  obtain ⟨t2, p2, k2⟩ := h2
  exact evN_of (pe_slice sl_list pe_sem p1 p2) fun G1 H1 x1 Q q => h G1 H1 x1 _ fun G2 H2 v x2 _ pv => k1 G2 H2 (x1.trans x2) _ fun G3 H3 x3 => k2 G3 H3 ((x1.trans x2).trans x3) _ fun G4 H4 x4 => by
    obtain ⟨a, us, e, g, pr⟩ := s.seq _ _ _ x4.s (m.m _ _ _ _ _ (x3.trans x4) pv)
    exact ⟨a, us, e, g, fun p hp => q (upd G4 p (.lst _)) _ _ ((x2.trans (x3.trans x4)).new hp) ⟨p, _, rfl, upd_same, pair_up (same_new (x4.s.free hp)) (paired_cut pr)⟩ fun p' e => by cases e; exact (x2.trans (x3.trans x4)).h.free hp⟩
theorem ev_cat {xs ys : List α} {ia : Rep α} [m : MonoC Pa] [sa : AsOwn X.K Pa α ia xs] [sb : AsOwn X.K Pb α ia ys] (hl : xs.length + ys.length ≤ sizeLine) (ha : EvP X a σ G H Pa) (hb : EvP X b σ G H Pb) : Ev X (.BinOp a .Add b pos) σ G H (xs ++ ys) := ev_bin (b_cat hl) ha hb
theorem evN_cat {xs ys : List α} {ia : Rep α} [m : MonoC Pa] [sa : AsOwn X.K Pa α ia xs] [sb : AsOwn X.K Pb α ia ys] (hl : xs.length + ys.length ≤ sizeLine) (ha : EvP X a σ G H Pa) (hb : EvP X b σ G H Pb) : EvN X (.BinOp a .Add b pos) σ G H (Is X.K (xs ++ ys)) :=
  evN_bin (ha' := m) ⟨_, op_cat, fun G1 H1 v u x _ h1 h2 Q q => by
    obtain ⟨a, us, e, g, pr⟩ := sa.own _ _ _ x.s h1
    obtain ⟨a2, us2, e2, g2, pr2⟩ := sb.own _ _ _ x.s h2
    exact ⟨a, a2, us, us2, e, e2, g, g2, by rw [paired_len pr, paired_len pr2]; exact hl, fun p hp => q (upd G1 p (.lst (us ++ us2))) _ _ ((Ext.refl x.s).new hp) ⟨p, _, rfl, upd_same, pair_up (same_new (x.s.free hp)) (paired_app pr pr2)⟩ fun p' e => by cases e; exact hp⟩⟩ ha hb
theorem evN_revsl {xs : List α} {inst : Rep α} {k0 : Nat} {p1 p2 p3 : Pos} [s : AsSeq X.K P α inst xs] (h : EvP X e σ G H P) : EvN X (.Subscript e (.Slice none none (some (.UnaryOp .USub (.Constant (.int 1) k0 p1) p2)) p3) pos) σ G H (Is X.K xs.reverse) :=
  evN_of (pe_revL pe_sem) fun G1 H1 x1 Q q => h G1 H1 x1 _ fun G2 H2 v x2 _ pv => by
    obtain ⟨a, us, e, g, pr⟩ := s.seq _ _ _ x2.s pv
    exact ⟨a, us, e, g, fun p hp => q (upd G2 p (.lst _)) _ _ (x2.new hp) ⟨p, _, rfl, upd_same, pair_up (same_new (x2.s.free hp)) (paired_rev pr)⟩ fun p' e => by cases e; exact x2.h.free hp⟩
theorem evN_sorted {xs : List Int} [MonoC P] [s : AsSeq X.K P Int instRepInt xs] (B : Bl X "sorted") (h : EvP X e σ G H P) (he : starEach [e] X.env = (false, eval e X.env) :: starEach [] X.env := by rfl) : EvN X (.Call (.Name "sorted" p) [e] [] pos) σ G H (Is X.K (isort xs)) :=
  evN_of (pe_callB cr_sortedI B.g B.m PyProof.Rows.boot_sorted (pa_cons pe_sem pa_nil he) (by decide) (by decide) he rfl) fun G1 H1 x1 Q q => h G1 H1 x1 _ fun G2 H2 v x2 _ pv => by
    obtain ⟨a, us, e, g, pr⟩ := s.seq _ _ _ x2.s pv
    rw [paired_ints pr] at g
    refine ⟨a, xs, by rw [e], g, fun ns' p perm srt hp => ?_⟩
    have e : ns' = isort xs := sorted_one (perm.trans (isort_perm xs).symm) srt (isort_sorted xs)
    subst e
    exact q (upd G2 p (.lst _)) _ _ (x2.new hp) ⟨p, _, rfl, upd_same, ints_paired _⟩ fun p' e => by cases e; exact x2.h.free hp
theorem evN_copy {xs : List α} {inst : Rep α} [MonoC P] [s : AsSeq X.K P α inst xs] (B : Bl X "list") (h : EvP X e σ G H P) (he : starEach [e] X.env = (false, eval e X.env) :: starEach [] X.env := by rfl) : EvN X (.Call (.Name "list" p) [e] [] pos) σ G H (Is X.K xs) :=
  evN_of (pe_callTy call_list_of B.g B.m PyProof.Rows.boot_list (pa_cons pe_sem pa_nil he) (by decide) (by decide) he rfl) fun G1 H1 x1 Q q => h G1 H1 x1 _ fun G2 H2 v x2 _ pv => by
    obtain ⟨a, us, e, g, pr⟩ := s.seq _ _ _ x2.s pv
    exact ⟨a, us, by rw [e], .inl g, fun p hp => q (upd G2 p (.lst us)) _ _ (x2.new hp) ⟨p, us, rfl, upd_same, pair_up (same_new (x2.s.free hp)) pr⟩ fun p' e => by cases e; exact x2.h.free hp⟩
theorem evN_call {k : Nat} {n : Str} {p : Pos} {sp : Sp} {A : Hp → Hp → List V → Prop} (C : Cal X.prog X.w X.K X.mg X.base k n sp) (hr : Room k X.A) (hg : Gl X n) (ha : EvA X (e :: es) σ G H A)
    (h : ∀ G1 H1 vs, Ext G H G1 H1 → HLen H1 → A G1 H1 vs → ∀ Q : VK, (∀ G2 H2 v, Ext G1 H1 G2 H2 → P G2 H2 v → New H1 v → Q v H2) → sp vs H1 Q E0) (hdb : (n == ("__debug__" : Str)) = false := by decide)
    (he : starEach (e :: es) X.env = (false, eval e X.env) :: starEach es X.env := by rfl) (hpl : (backTo pos (starEach es X.env)).any (·.1) = false := by rfl) : EvN X (.Call (.Name n p) (e :: es) [] pos) σ G H P := by
  obtain ⟨f, fd, ps, F, hm, hk, hb⟩ := C.ex
  exact evN_of (pe_call F hr hg hm hk hb .nil passL pa_sem hdb he hpl) fun G1 H1 x1 Q q => ha G1 H1 x1 _ fun G2 H2 vs x2 l2 pa => by
    show sp (vs ++ []) H2 Q E0
    rw [List.append_nil]
    exact h G2 H2 vs (x1.trans x2) l2 pa Q fun G3 H3 v x3 r n => q G3 H3 v (x2.trans x3) r fun p e => x2.h.free (n p e)
variable {δ ζ : Type} [Rep δ] [Rep ζ] {k : Nat} {n : Str} {e1 e2 e3 e4 : Expr} {x1 : α} {x2 : β} {x3 : γ} {x4 : δ}
theorem evN_c1 {pre : α → Prop} {f : α → ζ} (C : Cal X.prog X.w X.K X.mg X.base k n (Sp1 X.K true pre f)) (hr : Room k X.A) (hg : Gl X n) (h1 : Ev X e1 σ G H x1) (hp : pre x1) (hdb : (n == ("__debug__" : Str)) = false := by decide)
    (he : starEach [e1] X.env = (false, eval e1 X.env) :: starEach [] X.env := by rfl) : EvN X (.Call (.Name n p) [e1] [] pos) σ G H (Is X.K (f x1)) :=
  evN_call C hr hg (ea_cons h1 ea_nil he) (fun G1 H1 vs x l ⟨v, r, e, rv, e'⟩ Q q => ⟨G1, v, x1, by rw [e, e'], x.s, rv, hp, fun G2 H2 w x r n => q G2 H2 w x r (n rfl)⟩) hdb he rfl
theorem evN_c2 {pre : α → β → Prop} {f : α → β → ζ} (C : Cal X.prog X.w X.K X.mg X.base k n (Sp2 X.K true pre f)) (hr : Room k X.A) (hg : Gl X n) (h1 : Ev X e1 σ G H x1) (h2 : Ev X e2 σ G H x2) (hp : pre x1 x2) (hdb : (n == ("__debug__" : Str)) = false := by decide)
    (he : starEach [e1, e2] X.env = (false, eval e1 X.env) :: starEach [e2] X.env := by rfl) (he2 : starEach [e2] X.env = (false, eval e2 X.env) :: starEach [] X.env := by rfl) (hpl : (backTo pos (starEach [e2] X.env)).any (·.1) = false := by rfl) : EvN X (.Call (.Name n p) [e1, e2] [] pos) σ G H (Is X.K (f x1 x2)) :=
  evN_call C hr hg (ea_cons h1 (ea_cons h2 ea_nil he2) he) (fun G1 H1 vs x l ⟨v, r, e, rv, v2, r2, e', rv2, e''⟩ Q q => ⟨G1, v, v2, x1, x2, by rw [e, e', e''], x.s, rv, rv2, hp, fun G2 H2 w x r n => q G2 H2 w x r (n rfl)⟩) hdb he hpl
theorem evN_c3 {pre : α → β → γ → Prop} {f : α → β → γ → ζ} (C : Cal X.prog X.w X.K X.mg X.base k n (Sp3 X.K true pre f)) (hr : Room k X.A) (hg : Gl X n) (h1 : Ev X e1 σ G H x1) (h2 : Ev X e2 σ G H x2) (h3 : Ev X e3 σ G H x3) (hp : pre x1 x2 x3) (hdb : (n == ("__debug__" : Str)) = false := by decide)
    (he : starEach [e1, e2, e3] X.env = (false, eval e1 X.env) :: starEach [e2, e3] X.env := by rfl) (he2 : starEach [e2, e3] X.env = (false, eval e2 X.env) :: starEach [e3] X.env := by rfl) (he3 : starEach [e3] X.env = (false, eval e3 X.env) :: starEach [] X.env := by rfl) (hpl : (backTo pos (starEach [e2, e3] X.env)).any (·.1) = false := by rfl) : EvN X (.Call (.Name n p) [e1, e2, e3] [] pos) σ G H (Is X.K (f x1 x2 x3)) :=
  evN_call C hr hg (ea_cons h1 (ea_cons h2 (ea_cons h3 ea_nil he3) he2) he) (fun G1 H1 vs x l ⟨v, r, e, rv, v2, r2, e', rv2, v3, r3, e'', rv3, e'''⟩ Q q => ⟨G1, v, v2, v3, x1, x2, x3, by rw [e, e', e'', e'''], x.s, rv, rv2, rv3, hp, fun G2 H2 w x r n => q G2 H2 w x r (n rfl)⟩) hdb he hpl

/-! ### data compared -/
class Dat (α : Type) [Rep α] [DecidableEq α] where
  toD : α → PyData
  dp : ∀ {K : PySem.W.Frag} {G H : Hp} {v : V} {x : α}, Same G H → rep K G v x → Dp K H v (toD x)
  ok : ∀ x, (toD x).canLay0 = true
  deep : Nat
  dep : ∀ x, (toD x).depth ≤ deep
  eqv : ∀ x y, PyData.eqv (toD x) (toD y) = decide (x = y)
class DatN (α : Type) [Rep α] [DecidableEq α] [Dat α] : Prop where
  l : ∀ x : α, PyData.eqv .none (Dat.toD x) = false
  r : ∀ x : α, PyData.eqv (Dat.toD x) .none = false
instance : Dat Int := ⟨fun i => .int i, fun s h => by rw [show _ = V.int _ from h]; exact .int _, fun _ => rfl, 0, fun _ => Nat.le_refl _, fun x y => by show (x == y) = _; by_cases h : x = y <;> simp [h]⟩
instance : Dat Bool := ⟨fun i => .bool i, fun s h => by rw [show _ = V.bl _ from h]; exact .bl _, fun _ => rfl, 0, fun _ => Nat.le_refl _, fun x y => by show (x == y) = _; by_cases h : x = y <;> simp [h]⟩
instance : DatN Int := ⟨fun _ => rfl, fun _ => rfl⟩
instance : DatN Bool := ⟨fun _ => rfl, fun _ => rfl⟩
theorem dp_all {α : Type} [Rep α] [DecidableEq α] [Dat α] {K : PySem.W.Frag} {G H : Hp} (s : Same G H) : ∀ {vs : List V} {xs : List α}, Paired (rep K G) vs xs → DpAll K H vs (xs.map Dat.toD)
  | _, _, .nil => .nil
  | _, _, .cons r t => .cons (Dat.dp s r) (dp_all s t)
theorem ok_all {α : Type} [Rep α] [DecidableEq α] [Dat α] : ∀ xs : List α, PyData.canLayAll0 (xs.map Dat.toD) = true
  | [] => rfl
  | x :: xs => by
    show (PyData.canLay0 (Dat.toD x) && PyData.canLayAll0 (xs.map Dat.toD)) = true
    rw [Dat.ok, ok_all xs]
    rfl
theorem dep_all {α : Type} [Rep α] [DecidableEq α] [Dat α] : ∀ xs : List α, PyData.depthAll (xs.map Dat.toD) ≤ Dat.deep α
  | [] => Nat.zero_le _
  | x :: xs => by
    show max (PyData.depth (Dat.toD x)) (PyData.depthAll (xs.map Dat.toD)) ≤ _
    exact Nat.max_le.mpr ⟨Dat.dep x, dep_all xs⟩
theorem eqv_all {α : Type} [Rep α] [DecidableEq α] [Dat α] : ∀ xs ys : List α, PyData.eqvAll (xs.map Dat.toD) (ys.map Dat.toD) = decide (xs = ys)
  | [], [] => by simp [PyData.eqvAll]
  | [], _ :: _ => by simp [PyData.eqvAll]
  | _ :: _, [] => by simp [PyData.eqvAll]
  | x :: xs, y :: ys => by
    show (PyData.eqv (Dat.toD x) (Dat.toD y) && PyData.eqvAll (xs.map Dat.toD) (ys.map Dat.toD)) = _
    rw [Dat.eqv, eqv_all xs ys, ← Bool.decide_and]
    exact decide_eq_decide.mpr (by rw [List.cons.injEq])
instance {α : Type} [Rep α] [DecidableEq α] [Dat α] : Dat (List α) := ⟨fun xs => .list (xs.map Dat.toD), fun s ⟨a, vs, e, g, p⟩ => by rw [e]; exact .lst (.of (s _ _ g)) (dp_all s p), ok_all, Dat.deep α + 1, fun xs => Nat.succ_le_succ (dep_all xs), fun xs ys => eqv_all xs ys⟩
instance {α : Type} [Rep α] [DecidableEq α] [Dat α] : DatN (List α) := ⟨fun _ => rfl, fun _ => rfl⟩
instance {α β : Type} [Rep α] [Rep β] [DecidableEq α] [DecidableEq β] [Dat α] [Dat β] : Dat (α × β) :=
  ⟨fun x => .tuple [Dat.toD x.1, Dat.toD x.2], fun s ⟨a, u, w, e, g, p, q⟩ => by rw [e]; exact .tup (.of (s _ _ g)) (.cons (Dat.dp s p) (.cons (Dat.dp s q) .nil)),
    fun x => by
      show (PyData.canLay0 (Dat.toD x.1) && (PyData.canLay0 (Dat.toD x.2) && true)) = true
      rw [Dat.ok, Dat.ok]; rfl, max (Dat.deep α) (Dat.deep β) + 1, fun x => by
      show max (PyData.depth (Dat.toD x.1)) (max (PyData.depth (Dat.toD x.2)) 0) + 1 ≤ _
      have h1 := Dat.dep x.1
      have h2 := Dat.dep x.2
      omega, fun x y => by
      show (PyData.eqv (Dat.toD x.1) (Dat.toD y.1) && (PyData.eqv (Dat.toD x.2) (Dat.toD y.2) && true)) = _
      rw [Dat.eqv, Dat.eqv, Bool.and_true, ← Bool.decide_and]
      exact decide_eq_decide.mpr (by rw [Prod.ext_iff])⟩
instance {α β : Type} [Rep α] [Rep β] [DecidableEq α] [DecidableEq β] [Dat α] [Dat β] : DatN (α × β) := ⟨fun _ => rfl, fun _ => rfl⟩
instance {α : Type} [Rep α] [DecidableEq α] [Dat α] [DatN α] : Dat (Option α) :=
  ⟨fun o => match o with
    | none => .none
    | some x => Dat.toD x, fun {K G H v x} s h => match x, h with
    | none, h => by rw [show v = .non from h]; exact .non
    | some x, h => Dat.dp (α := α) s h, fun o => match o with
    | none => rfl
    | some x => Dat.ok x, Dat.deep α, fun o => match o with
    | none => Nat.zero_le _
    | some x => Dat.dep x, fun x y => match x, y with
    | none, none => by simp [PyData.eqv]
    | none, some y => by simp [DatN.l]
    | some x, none => by simp [DatN.r]
    | some x, some y => by simp [Dat.eqv]⟩
theorem hu_of64 {A : Around} {k : Nat} (hr : Room k A) : A.units + 64 < cLine := hr.units
/-- P tells a datum to be compared -/
class AsDat (K : PySem.W.Frag) (P : PV) (α : outParam Type) (ir : outParam (Rep α)) (id : outParam (DecidableEq α)) (dd : outParam (Dat α)) (x : outParam α) : Prop where
  dp : ∀ G H v, Same G H → P G H v → Dp K H v (Dat.toD x)
instance {K : PySem.W.Frag} {α : Type} [ir : Rep α] [id : DecidableEq α] [dd : Dat α] {x : α} : AsDat K (Is K x) α ir id dd x := ⟨fun _ _ _ s h => Dat.dp s h⟩
instance {K : PySem.W.Frag} {α : Type} [ir : Rep α] [id : DecidableEq α] [dd : Dat α] {x : List α} : AsDat K (OwnAt K x) (List α) inferInstance inferInstance inferInstance x := ⟨fun _ _ _ s ⟨a, vs, e, g, p⟩ => by rw [e]; exact .lst (.of g) (dp_all s p)⟩
theorem shaped_d {α : Type} [Rep α] [DecidableEq α] [Dat α] (h : Dat.deep α ≤ 64) (x : α) : SeqAt.shaped (Dat.toD x) = true := by
  unfold SeqAt.shaped
  rw [Dat.ok, decide_eq_true (Nat.le_trans (Dat.dep x) h)]
  rfl
theorem c_eqD {α : Type} {ir : Rep α} {id : DecidableEq α} {dd : Dat α} {x y : α} [A1 : AsDat X.K Pa α ir id dd x] [A2 : AsDat X.K Pb α ir id dd y] (hu : X.A.units + 64 < cLine) (h : Dat.deep α ≤ 64 := by decide) : Bin X (compareOp .Eq) Pa Pb (Is X.K (decide (x = y))) G H :=
  ⟨_, op_eqD hu, fun G1 H1 v u z _ e1 e2 Q q => ⟨_, _, A1.dp _ _ _ z.s e1, A2.dp _ _ _ z.s e2, shaped_d h x, shaped_d h y, by rw [Dat.eqv]; exact q G1 H1 _ (Ext.refl z.s) rfl⟩⟩
theorem c_neD {α : Type} {ir : Rep α} {id : DecidableEq α} {dd : Dat α} {x y : α} [A1 : AsDat X.K Pa α ir id dd x] [A2 : AsDat X.K Pb α ir id dd y] (hu : X.A.units + 64 < cLine) (h : Dat.deep α ≤ 64 := by decide) : Bin X (compareOp .NotEq) Pa Pb (Is X.K (!decide (x = y))) G H :=
  ⟨_, op_neD hu, fun G1 H1 v u z _ e1 e2 Q q => ⟨_, _, A1.dp _ _ _ z.s e1, A2.dp _ _ _ z.s e2, shaped_d h x, shaped_d h y, by rw [Dat.eqv]; exact q G1 H1 _ (Ext.refl z.s) rfl⟩⟩
theorem any_d {α : Type} [Rep α] [DecidableEq α] [Dat α] (x : α) : ∀ xs : List α, ((xs.map Dat.toD).any fun z => PyData.eqv z (Dat.toD x)) = decide (x ∈ xs)
  | [] => by simp
  | y :: ys => by
    rw [List.map_cons, List.any_cons, Dat.eqv, any_d x ys]
    by_cases h : y = x
    · simp [h]
    · have h' : ¬ x = y := fun z => h z.symm
      simp [h, h']
/-! ### is, isinstance -/
theorem c_isX {α : Type} [Rep α] [NonV α] {x : α} : Bin X (compareOp .Is) (Is X.K x) (Is X.K ()) (Is X.K false) G H :=
  ⟨_, op_isN, fun G1 H1 v u y _ e1 e2 Q q => ⟨e2, by rw [decide_eq_false (NonV.nn e1)]; exact q G1 H1 _ (Ext.refl y.s) rfl⟩⟩
theorem c_notX {α : Type} [Rep α] [NonV α] {x : α} : Bin X (compareOp .IsNot) (Is X.K x) (Is X.K ()) (Is X.K true) G H :=
  ⟨_, op_notN, fun G1 H1 v u y _ e1 e2 Q q => ⟨e2, by rw [decide_eq_false (NonV.nn e1)]; exact q G1 H1 _ (Ext.refl y.s) rfl⟩⟩
theorem c_isU : Bin X (compareOp .Is) (Is X.K ()) (Is X.K ()) (Is X.K true) G H :=
  ⟨_, op_isN, fun G1 H1 v u y _ e1 e2 Q q => ⟨e2, by rw [decide_eq_true (show v = .non from e1)]; exact q G1 H1 _ (Ext.refl y.s) rfl⟩⟩
theorem c_notU : Bin X (compareOp .IsNot) (Is X.K ()) (Is X.K ()) (Is X.K false) G H :=
  ⟨_, op_notN, fun G1 H1 v u y _ e1 e2 Q q => ⟨e2, by rw [decide_eq_true (show v = .non from e1)]; exact q G1 H1 _ (Ext.refl y.s) rfl⟩⟩
theorem c_isB {i j : Bool} : Bin X (compareOp .Is) (Is X.K i) (Is X.K j) (Is X.K (decide (i = j))) G H :=
  ⟨_, op_isBl, fun G1 H1 v u y _ e1 e2 Q q => ⟨i, j, e1, e2, q G1 H1 _ (Ext.refl y.s) rfl⟩⟩
theorem c_isnB {i j : Bool} : Bin X (compareOp .IsNot) (Is X.K i) (Is X.K j) (Is X.K (!decide (i = j))) G H :=
  ⟨_, op_notBl, fun G1 H1 v u y _ e1 e2 Q q => ⟨i, j, e1, e2, q G1 H1 _ (Ext.refl y.s) rfl⟩⟩
/-- P tells a value of the built-in type T -/
class AsTy (K : PySem.W.Frag) (P : PV) (T : outParam String) : Prop where
  ty : ∀ G H v, Same G H → P G H v → TyX K H v (.type T)
instance {K : PySem.W.Frag} {x : Int} : AsTy K (Is K x) "int" := ⟨fun _ _ _ _ h => by rw [show _ = V.int _ from h]; exact .base (.int _)⟩
instance {K : PySem.W.Frag} {x : Bool} : AsTy K (Is K x) "bool" := ⟨fun _ _ _ _ h => by rw [show _ = V.bl _ from h]; exact .base (.bl _)⟩
instance {K : PySem.W.Frag} {x : Str} : AsTy K (Is K x) "str" := ⟨fun _ _ _ _ h => by rw [show _ = V.str _ from h]; exact .base (.str _)⟩
instance {K : PySem.W.Frag} {x : Unit} : AsTy K (Is K x) "NoneType" := ⟨fun _ _ _ _ h => by rw [show _ = V.non from h]; exact .base .non⟩
instance {K : PySem.W.Frag} {α : Type} [Rep α] {x : List α} : AsTy K (Is K x) "list" := ⟨fun _ _ _ s ⟨a, vs, e, g, _⟩ => by rw [e]; exact .base (.lst (s _ _ g))⟩
instance {K : PySem.W.Frag} {α : Type} [Rep α] {x : List α} : AsTy K (OwnAt K x) "list" := ⟨fun _ _ _ s ⟨a, vs, e, g, _⟩ => by rw [e]; exact .base (.lst g)⟩
instance {K : PySem.W.Frag} {α β : Type} [Rep α] [Rep β] {x : α × β} : AsTy K (Is K x) "tuple" := ⟨fun _ _ _ s ⟨a, u, w, e, g, _⟩ => by rw [e]; exact .base (.tup (s _ _ g))⟩
theorem ev_isi {T T' : String} {r : Bool} [MonoC P] [t : AsTy X.K P T] (B : Bl X "isinstance") (h : EvP X a σ G H P) (hT : Ev X b σ G H (V.ty T')) (k : kitB T T' = some r) (he : starEach [a, b] X.env = (false, eval a X.env) :: starEach [b] X.env := by rfl) (he2 : starEach [b] X.env = (false, eval b X.env) :: starEach [] X.env := by rfl)
    (hpl : (backTo pos (starEach [b] X.env)).any (·.1) = false := by rfl) : Ev X (.Call (.Name "isinstance" p) [a, b] [] pos) σ G H r :=
  ev_callB call_isi B.g B.m PyProof.Rows.boot_isinstance (ea_cons h (ea_cons hT ea_nil he2) he) (fun G1 H1 vs y l ⟨v, r', e1, pv, v2, r2, e2, pv2, e3⟩ Q q =>
    ⟨v, v2, .type T, .type T', r, by rw [e1, e2, e3], by rw [show v2 = _ from pv2]; exact .ty T', t.ty _ _ _ y.s pv, kit_ty k, q G1 H1 _ (Ext.refl y.s) rfl⟩) (by decide) (by decide) he hpl
/-- isinstance(x, (T1, T2)) -/
theorem ev_isiT {T T1 T2 : String} {r1 r2 : Bool} {c1 c2 : Expr} {kk : Nat} {tp : Pos} [MonoC P] [t : AsTy X.K P T] (B : Bl X "isinstance") (h : EvP X a σ G H P) (h1 : Ev X c1 σ G H (V.ty T1)) (h2 : Ev X c2 σ G H (V.ty T2)) (k : kitB T T1 = some r1 ∧ kitB T T2 = some r2)
    (he : starEach [a, .Tuple [c1, c2] kk tp] X.env = (false, eval a X.env) :: starEach [.Tuple [c1, c2] kk tp] X.env := by rfl) (he2 : starEach [.Tuple [c1, c2] kk tp] X.env = (false, eval (.Tuple [c1, c2] kk tp) X.env) :: starEach [] X.env := by rfl)
    (hpl : (backTo pos (starEach [.Tuple [c1, c2] kk tp] X.env)).any (·.1) = false := by rfl) (hs : starEach [c1, c2] X.env = (false, eval c1 X.env) :: starEach [c2] X.env := by rfl) (hs' : starEach [c2] X.env = (false, eval c2 X.env) :: starEach [] X.env := by rfl) :
    Ev X (.Call (.Name "isinstance" p) [a, .Tuple [c1, c2] kk tp] [] pos) σ G H (r1 || r2) :=
  ev_callB call_isiT B.g B.m PyProof.Rows.boot_isinstance (ea_cons h (ea_cons (ev_tup (k := kk) h1 h2 hs hs') ea_nil he2) he) (fun G1 H1 vs y l ⟨v, r', e1, pv, v2, r2', e2, pv2, e3⟩ Q q => by
    obtain ⟨ta, w1, w2, rfl, g, p1, p2⟩ := pv2
    have p1 : w1 = V.ty T1 := p1
    have p2 : w2 = V.ty T2 := p2
    subst p1 p2
    refine ⟨v, ta, _, .type T, [.type T1, .type T2], r1 || r2, by rw [e1, e2, e3], y.s _ _ g, .cons (.ty _) (.cons (.ty _) .nil), t.ty _ _ _ y.s pv, ?_, q G1 H1 _ (Ext.refl y.s) rfl⟩
    refine kitAny_cons (kit_ty k.1) (fun z => ?_) fun z => by rw [z]; rfl
    rw [z, Bool.false_or]
    refine kitAny_cons (kit_ty k.2) (fun z' => ?_) fun z' => z'
    rw [z']
    exact kitAny_nil) (by decide) (by decide) he hpl
theorem boot_int' : bootBuiltins "int" = some (.type "int") := PyProof.Rows.boot_int
theorem boot_bool' : bootBuiltins "bool" = some (.type "bool") := by decide +kernel
theorem boot_str' : bootBuiltins "str" = some (.type "str") := PyProof.Rows.boot_str
theorem boot_list' : bootBuiltins "list" = some (.type "list") := PyProof.Rows.boot_list
theorem boot_tuple' : bootBuiltins "tuple" = some (.type "tuple") := by decide +kernel

theorem ev_sorted {xs : List Int} [MonoC P] [s : AsSeq X.K P Int instRepInt xs] (B : Bl X "sorted") (h : EvP X e σ G H P) (he : starEach [e] X.env = (false, eval e X.env) :: starEach [] X.env := by rfl) : Ev X (.Call (.Name "sorted" p) [e] [] pos) σ G H (isort xs) :=
  ev_callB cr_sortedI B.g B.m PyProof.Rows.boot_sorted (ea_cons h ea_nil he) (fun G1 H1 vs x l ⟨v, r, e1, pv, e2⟩ Q q => by
    obtain ⟨a, us, e, g, pr⟩ := s.seq _ _ _ x.s pv
    rw [paired_ints pr] at g
    refine ⟨a, xs, by rw [e1, e2, e], g, fun ns' p perm srt hp => ?_⟩
    have e : ns' = isort xs := sorted_one (perm.trans (isort_perm xs).symm) srt (isort_sorted xs)
    subst e
    exact q (upd G1 p (.lst _)) _ _ ((Ext.refl x.s).new hp) ⟨p, _, rfl, upd_same, ints_paired _⟩) (by decide) (by decide) he rfl
theorem inV_ints {i : Int} : ∀ ns : List Int, inV (.int i) (ns.map V.int) = decide (i ∈ ns)
  | [] => by simp [inV]
  | n :: ns => by
    have ih := inV_ints (i := i) ns
    unfold inV at ih ⊢
    rw [List.map_cons, List.any_cons, ih]
    show (n == i || _) = _
    by_cases h : n = i
    · simp [h]
    · have h' : ¬ i = n := fun z => h z.symm
      simp [h, h']
theorem flat_ints (ns : List Int) : (ns.map V.int).all flatV = true := by
  rw [List.all_eq_true]
  intro x hx
  obtain ⟨i, _, rfl⟩ := List.mem_map.mp hx
  rfl
theorem c_in {i : Int} {xs : List Int} [s : AsSeq X.K Pb Int instRepInt xs] : Bin X (compareOp .In) (Is X.K i) Pb (Is X.K (decide (i ∈ xs))) G H :=
  ⟨_, op_in_seq, fun G1 H1 v u y _ e1 e2 Q q => by
    obtain ⟨a, us, e, g, pr⟩ := s.seq _ _ _ y.s e2
    rw [paired_ints pr] at g
    refine ⟨a, _, e, .inl g, by rw [show v = _ from e1]; rfl, flat_ints xs, ?_⟩
    rw [show v = _ from e1, inV_ints]
    exact q G1 H1 _ (Ext.refl y.s) rfl⟩
theorem c_nin {i : Int} {xs : List Int} [s : AsSeq X.K Pb Int instRepInt xs] : Bin X (compareOp .NotIn) (Is X.K i) Pb (Is X.K (!decide (i ∈ xs))) G H :=
  ⟨_, op_notIn_seq, fun G1 H1 v u y _ e1 e2 Q q => by
    obtain ⟨a, us, e, g, pr⟩ := s.seq _ _ _ y.s e2
    rw [paired_ints pr] at g
    refine ⟨a, _, e, .inl g, by rw [show v = _ from e1]; rfl, flat_ints xs, ?_⟩
    rw [show v = _ from e1, inV_ints]
    exact q G1 H1 _ (Ext.refl y.s) rfl⟩
end
end RL

namespace RL
open PySem PySem.Spec PyProof.Rows L2 Rep
theorem ixN_neg' {n : Nat} {i : Int} (h0 : i < 0) (h1 : -(n : Int) ≤ i) {j : Nat} (h : (j : Int) = i + n := by omega) : ixN n i = some j := by
  rw [ixN_neg h0 h1, ← h]
  rfl
/-! ### a law's end -/
theorem law_sp {K : PySem.W.Frag} {H : Hp} {a : Addr} {ns : List Int} {m : Scr → Bool} (ht : ∀ s : Scr, s.ns.length ≤ 63 → m s = true) (hl : ns.length ≤ 63) (hS : SqL K H a (ns.map V.int)) :
    Sp1 K false (fun (script : Scr) => script.ns.length ≤ 63) m [.ref a] H (fun v _ => v = .bl true) fun _ _ _ => False :=
  ⟨H, .ref a, ⟨ns⟩, rfl, Same.refl _, ⟨a, rfl, hS⟩, hl, fun G2 H2 w _ r _ => by rw [ht ⟨ns⟩ hl] at r; exact r⟩
theorem law_cx {P : Program} {w : World} {H : Hp} {s s' : Shared} {e : Value} (h : L2.CX P w [] H s (fun _ _ _ => False) e s') : False := by
  obtain ⟨_, _, _, _, _, _, _, _, _, _, _, _, z⟩ := h
  exact z
end RL

namespace RL
/-! ### loops, plainly -/
theorem lrun_cons {α R S : Type} (step : α → S → LR R S) (x : α) (xs : List α) (s : S) : lrun step (x :: xs) s = match step x s with | .nxt s' => lrun step xs s' | .brk s' => .nxt s' | .ret r => .ret r := rfl
theorem lrun_unit {α R : Type} {step : α → Unit → LR R Unit} : ∀ {xs : List α}, (∀ x ∈ xs, step x () = .nxt ()) → lrun step xs () = .nxt ()
  | [], _ => rfl
  | x :: xs, h => by
    rw [lrun_cons, h x List.mem_cons_self]
    exact lrun_unit fun y hy => h y (List.mem_cons_of_mem _ hy)
theorem lrun_inv {α R S : Type} {step : α → S → LR R S} (I : S → Prop) : ∀ {xs : List α} {s : S}, I s → (∀ x ∈ xs, ∀ s, I s → ∃ s', step x s = .nxt s' ∧ I s') → ∃ s', lrun step xs s = .nxt s' ∧ I s'
  | [], s, h, _ => ⟨s, rfl, h⟩
  | x :: xs, s, h, k => by
    obtain ⟨s', e, h'⟩ := k x List.mem_cons_self s h
    obtain ⟨t, e2, h2⟩ := lrun_inv I (xs := xs) h' fun y hy => k y (List.mem_cons_of_mem _ hy)
    refine ⟨t, ?_, h2⟩
    rw [lrun_cons, e]
    exact e2
theorem lfold_foldl {α S : Type} (step : α → S → S) : ∀ (xs : List α) (s : S), lfold step xs s = xs.foldl (fun s x => step x s) s
  | [], _ => rfl
  | x :: xs, s => lfold_foldl step xs (step x s)
theorem lfold_len {α β : Type} {step : α → List β → List β} {c : Nat} (h : ∀ x s, (step x s).length = s.length + c) : ∀ (xs : List α) (s : List β), (lfold step xs s).length = s.length + c * xs.length
  | [], s => by simp [lfold]
  | x :: xs, s => by
    rw [lfold, lfold_len h xs, h, List.length_cons, Nat.mul_add]
    omega
/-- a list that is filled by a loop is a map -/
theorem lfold_map {α β : Type} {step : α → List β → List β} {f : α → β} (h : ∀ x s, step x s = s ++ [f x]) : ∀ (xs : List α) (s : List β), lfold step xs s = s ++ xs.map f
  | [], s => by simp [lfold]
  | x :: xs, s => by rw [lfold, h, lfold_map h xs, List.map_cons, List.append_assoc]; rfl
end RL

namespace RL
open PySem PySem.Spec PyProof.Rows L2 Rep
/-! ### dicts -/
/-- a dict, its pairs in order -/
structure Dct (κ α : Type) where
  kvs : List (κ × α)
def dlook {κ α : Type} [DecidableEq κ] (kvs : List (κ × α)) (k : κ) : Option α := (kvs.find? fun kv => decide (kv.1 = k)).map (·.2)
def dput {κ α : Type} [DecidableEq κ] (kvs : List (κ × α)) (k : κ) (v : α) : List (κ × α) :=
  if (kvs.any fun kv => decide (kv.1 = k)) = true then kvs.map (fun kv => if kv.1 = k then (kv.1, v) else kv) else kvs ++ [(k, v)]
/-- what may be a key: how such a dict stands in the heap -/
class DKey (κ : Type) [Rep κ] [DecidableEq κ] where
  obj : List (κ × V) → HO
  get : ∀ {K : PySem.W.Frag} {G H : Hp} {a : Addr} {y : V} {k : κ} {ps : List (κ × V)}, Same G H → rep K G y k → H a = some (obj ps) → DGet H a y (valV ps k)
  put : ∀ {K : PySem.W.Frag} {G H : Hp} {a : Addr} {y v : V} {k : κ} {ps : List (κ × V)}, Same G H → rep K G y k → H a = some (obj ps) → ps.length < sizeLine → DPut H a y v (upd H a (obj (putK ps k v)))
  isD : ∀ {H : Hp} {a : Addr} {ps : List (κ × V)}, H a = some (obj ps) → IsD H a
  new : ∀ {X : Cx} {pos : Pos}, PE X (.Dict [] [] pos) (fun _ H Q => ∀ p, H p = none → Q (.ref p) (upd H p (obj [])))
  len : ∀ ps : List (κ × V), szO (obj ps) = ps.length
theorem map_put {κ κ' : Type} [DecidableEq κ] [DecidableEq κ'] {f : κ → κ'} (hf : ∀ a b, f a = f b → a = b) (ps : List (κ × V)) (k : κ) (v : V) : putK (ps.map fun p => (f p.1, p.2)) (f k) v = (putK ps k v).map fun p => (f p.1, p.2) := by
  have e : ∀ a, (f a = f k) = (a = k) := fun a => propext ⟨hf a k, fun h => by rw [h]⟩
  unfold putK
  rw [List.any_map]
  have ea : (ps.any ((fun kv => decide (kv.1 = f k)) ∘ fun p => (f p.1, p.2))) = ps.any fun kv => decide (kv.1 = k) := by
    congr 1
    funext p
    exact decide_eq_decide.mpr (by rw [e])
  rw [ea]
  split
  · rw [List.map_map, List.map_map]
    refine List.map_congr_left fun p _ => ?_
    show (if f p.1 = f k then (f p.1, v) else (f p.1, p.2)) = (f (if p.1 = k then (p.1, v) else p).1, (if p.1 = k then (p.1, v) else p).2)
    by_cases h : p.1 = k
    · rw [if_pos (by rw [h]), if_pos h]
    · rw [if_neg (fun z => h (hf _ _ z)), if_neg h]
  · rw [List.map_append]
    rfl
theorem map_val {κ κ' : Type} [DecidableEq κ] [DecidableEq κ'] {f : κ → κ'} (hf : ∀ a b, f a = f b → a = b) (k : κ) : ∀ ps : List (κ × V), valV (ps.map fun p => (f p.1, p.2)) (f k) = valV ps k
  | [] => rfl
  | p :: ps => by
    rw [List.map_cons]
    by_cases h : p.1 = k
    · rw [valV_pos h, valV_pos (by show f p.1 = f k; rw [h])]
    · rw [valV_neg h, valV_neg (fun z => h (hf _ _ z)), map_val hf k ps]
instance : DKey Int where
  obj ps := .dK (ps.map fun p => (Sum.inl p.1, p.2))
  get {K G H a y k ps} s r e := by
    have r : y = V.int k := r
    rw [← map_val (f := (Sum.inl : Int → Key)) (fun _ _ => Sum.inl.inj) k ps, r]
    exact DGet.k (k := Sum.inl k) e
  put {K G H a y v k ps} s r e hl := by
    have r : y = V.int k := r
    show DPut H a y v (upd H a (.dK ((putK ps k v).map fun p => (Sum.inl p.1, p.2))))
    rw [← map_put (f := (Sum.inl : Int → Key)) (fun _ _ => Sum.inl.inj) ps k v, r]
    exact DPut.k (k := Sum.inl k) e (by rw [List.length_map]; exact hl)
  isD e := .inl ⟨_, .inl e⟩
  new := pe_dnewK
  len ps := List.length_map _
theorem pairK_inj : ∀ a b : Int × Int, [(Sum.inl a.1 : Key), Sum.inl a.2] = [Sum.inl b.1, Sum.inl b.2] → a = b := fun a b h => by
  have h1 := (List.cons.inj h).1
  have h2 := (List.cons.inj (List.cons.inj h).2).1
  exact Prod.ext (Sum.inl.inj h1) (Sum.inl.inj h2)
instance : DKey (Int × Int) where
  obj ps := .dT (ps.map fun p => ([Sum.inl p.1.1, Sum.inl p.1.2], p.2))
  get {K G H a y k ps} s r e := by
    obtain ⟨b, u, w, rfl, g, p1, p2⟩ := r
    have p1 : u = V.int k.1 := p1
    have p2 : w = V.int k.2 := p2
    subst p1 p2
    rw [← map_val (f := fun q : Int × Int => [(Sum.inl q.1 : Key), Sum.inl q.2]) pairK_inj k ps]
    exact DGet.t (k := [Sum.inl k.1, Sum.inl k.2]) e (s _ _ g)
  put {K G H a y v k ps} s r e hl := by
    obtain ⟨b, u, w, rfl, g, p1, p2⟩ := r
    have p1 : u = V.int k.1 := p1
    have p2 : w = V.int k.2 := p2
    subst p1 p2
    show DPut H a _ v (upd H a (.dT ((putK ps k v).map fun p => ([Sum.inl p.1.1, Sum.inl p.1.2], p.2))))
    rw [← map_put (f := fun q : Int × Int => [(Sum.inl q.1 : Key), Sum.inl q.2]) pairK_inj ps k v]
    exact DPut.t (k := [Sum.inl k.1, Sum.inl k.2]) e (s _ _ g) (by rw [List.length_map]; exact hl)
  isD e := .inr ⟨_, .inl e⟩
  new := pe_dnewT
  len ps := List.length_map _
/-- the pairs of a dict as data -/
def PairD {κ α : Type} [Rep α] (K : PySem.W.Frag) (G : Hp) : List (κ × V) → List (κ × α) → Prop := Paired fun p e => p.1 = e.1 ∧ rep K G p.2 e.2
theorem pairD_up {κ α : Type} [Rep α] {K : PySem.W.Frag} {G G' : Hp} (s : Same G G') : ∀ {ps : List (κ × V)} {es : List (κ × α)}, PairD K G ps es → PairD K G' ps es
  | _, _, .nil => .nil
  | _, _, .cons h t => .cons ⟨h.1, up s h.2⟩ (pairD_up s t)
theorem pairD_some {κ α : Type} [DecidableEq κ] [Rep α] {K : PySem.W.Frag} {G : Hp} {k : κ} : ∀ {ps : List (κ × V)} {es : List (κ × α)}, PairD K G ps es → ∀ x, dlook es k = some x → ∃ v, valV ps k = some v ∧ rep K G v x
  | _, _, .nil, _, h => by cases h
  | p :: ps, e :: es, .cons h t, x, hx => by
    by_cases hk : e.1 = k
    · rw [dlook, List.find?_cons_of_pos (by simpa using hk)] at hx
      cases hx
      exact ⟨p.2, valV_pos (h.1.trans hk), h.2⟩
    · rw [dlook, List.find?_cons_of_neg (by simpa using hk)] at hx
      obtain ⟨v, e1, e2⟩ := pairD_some t x hx
      exact ⟨v, by rw [valV_neg (by rw [h.1]; exact hk)]; exact e1, e2⟩
theorem pairD_none {κ α : Type} [DecidableEq κ] [Rep α] {K : PySem.W.Frag} {G : Hp} {k : κ} : ∀ {ps : List (κ × V)} {es : List (κ × α)}, PairD K G ps es → dlook es k = none → valV ps k = none
  | _, _, .nil, _ => rfl
  | p :: ps, e :: es, .cons h t, hx => by
    by_cases hk : e.1 = k
    · rw [dlook, List.find?_cons_of_pos (by simpa using hk)] at hx
      cases hx
    · rw [dlook, List.find?_cons_of_neg (by simpa using hk)] at hx
      rw [valV_neg (by rw [h.1]; exact hk)]
      exact pairD_none t hx
theorem pairD_is {κ α : Type} [DecidableEq κ] [Rep α] {K : PySem.W.Frag} {G : Hp} {k : κ} {ps : List (κ × V)} {es : List (κ × α)} (h : PairD K G ps es) : (valV ps k).isSome = (dlook es k).isSome := by
  cases e : dlook es k with
  | none =>
    rw [pairD_none h e]
    rfl
  | some x =>
    obtain ⟨v, e1, _⟩ := pairD_some h x e
    rw [e1]
    rfl
theorem pairD_any {κ α : Type} [DecidableEq κ] [Rep α] {K : PySem.W.Frag} {G : Hp} {k : κ} : ∀ {ps : List (κ × V)} {es : List (κ × α)}, PairD K G ps es → (ps.any fun kv => decide (kv.1 = k)) = es.any fun kv => decide (kv.1 = k)
  | _, _, .nil => rfl
  | p :: ps, e :: es, .cons h t => by rw [List.any_cons, List.any_cons, pairD_any t, h.1]
theorem pairD_map {κ α : Type} [DecidableEq κ] [Rep α] {K : PySem.W.Frag} {G : Hp} {k : κ} {v : V} {x : α} (r : rep K G v x) : ∀ {ps : List (κ × V)} {es : List (κ × α)}, PairD K G ps es → PairD K G (ps.map fun kv => if kv.1 = k then (kv.1, v) else kv) (es.map fun kv => if kv.1 = k then (kv.1, x) else kv)
  | _, _, .nil => .nil
  | p :: ps, e :: es, .cons h t => by
    refine .cons ?_ (pairD_map r t)
    show (if p.1 = k then (p.1, v) else p).1 = (if e.1 = k then (e.1, x) else e).1 ∧ rep K G (if p.1 = k then (p.1, v) else p).2 (if e.1 = k then (e.1, x) else e).2
    by_cases hk : e.1 = k
    · rw [if_pos hk, if_pos (h.1.trans hk)]
      exact ⟨h.1, r⟩
    · rw [if_neg hk, if_neg (by rw [h.1]; exact hk)]
      exact h
theorem pairD_put {κ α : Type} [DecidableEq κ] [Rep α] {K : PySem.W.Frag} {G : Hp} {k : κ} {v : V} {x : α} {ps : List (κ × V)} {es : List (κ × α)} (h : PairD K G ps es) (r : rep K G v x) : PairD K G (putK ps k v) (dput es k x) := by
  unfold putK dput
  rw [pairD_any h]
  split
  · exact pairD_map r h
  · exact paired_app h (.cons ⟨rfl, r⟩ .nil)
instance instRepDct {κ α : Type} [Rep κ] [DecidableEq κ] [DKey κ] [Rep α] : Rep (Dct κ α) where
  rep K G v d := ∃ a ps, v = .ref a ∧ G a = some (DKey.obj ps) ∧ PairD K G ps d.kvs
  up s h := let ⟨a, ps, e, g, p⟩ := h; ⟨a, ps, e, s _ _ g, pairD_up s p⟩
def DctAt {κ α : Type} [Rep κ] [DecidableEq κ] [DKey κ] [Rep α] (K : PySem.W.Frag) (d : Dct κ α) : PV := fun G H v => ∃ a ps, v = .ref a ∧ H a = some (DKey.obj ps) ∧ PairD K G ps d.kvs
instance {κ α : Type} [Rep κ] [DecidableEq κ] [DKey κ] [Rep α] {K : PySem.W.Frag} {d : Dct κ α} : MonoC (DctAt K d) := ⟨fun _ _ _ _ _ x ⟨a, ps, e, g, p⟩ => ⟨a, ps, e, x.h _ _ g, pairD_up x.g p⟩⟩
class AsDct (K : PySem.W.Frag) (P : PV) (κ α : outParam Type) (r1 : outParam (Rep κ)) (dk : outParam (DecidableEq κ)) (k1 : outParam (DKey κ)) (r2 : outParam (Rep α)) (d : outParam (Dct κ α)) : Prop where
  dct : ∀ G H v, Same G H → P G H v → DctAt K d G H v
instance {κ α : Type} [r1 : Rep κ] [dk : DecidableEq κ] [k1 : DKey κ] [r2 : Rep α] {K : PySem.W.Frag} {d : Dct κ α} : AsDct K (DctAt K d) κ α r1 dk k1 r2 d := ⟨fun _ _ _ _ h => h⟩
instance {κ α : Type} [r1 : Rep κ] [dk : DecidableEq κ] [k1 : DKey κ] [r2 : Rep α] {K : PySem.W.Frag} {d : Dct κ α} : AsDct K (Is K d) κ α r1 dk k1 r2 d := ⟨fun _ _ _ s ⟨a, ps, e, g, p⟩ => ⟨a, ps, e, s _ _ g, p⟩⟩
structure OwnD {κ α : Type} [Rep κ] [DecidableEq κ] [DKey κ] [Rep α] (K : PySem.W.Frag) (G H : Hp) (q : Addr) (d : Dct κ α) : Prop where
  at_ : ∃ ps, H q = some (DKey.obj ps) ∧ PairD K G ps d.kvs
  off : G q = none
section
variable {κ α : Type} [Rep κ] [DecidableEq κ] [DKey κ] [Rep α] {K : PySem.W.Frag} {d : Dct κ α}
theorem OwnD.mono {G H G1 H1 : Hp} {q : Addr} (o : OwnD K G H q d) (x : Ext G H G1 H1) : OwnD K G1 H1 q d := let ⟨vs, e, p⟩ := o.at_; ⟨⟨vs, x.h _ _ e, pairD_up x.g p⟩, x.off o.off e⟩
theorem OwnD.pv {G H : Hp} {q : Addr} (o : OwnD K G H q d) : DctAt K d G H (.ref q) := let ⟨vs, e, p⟩ := o.at_; ⟨q, vs, rfl, e, p⟩
theorem OwnD.ex {G H : Hp} {q : Addr} (o : OwnD K G H q d) : ∃ u, H q = some u := let ⟨_, e, _⟩ := o.at_; ⟨_, e⟩
theorem OwnD.wr {G H : Hp} {q q' : Addr} {o' : HO} (o : OwnD K G H q d) (h : q ≠ q') : OwnD K G (upd H q' o') q d := let ⟨vs, e, p⟩ := o.at_; ⟨⟨vs, by rw [upd_ne h]; exact e, p⟩, o.off⟩
theorem OwnD.len {G H : Hp} {q : Addr} (o : OwnD K G H q d) (l : HLen H) : d.kvs.length ≤ sizeLine := by
  obtain ⟨vs, e, p⟩ := o.at_
  have := l _ _ e
  rw [DKey.len, paired_len p] at this
  exact this
theorem OwnD.frz {G0 H0 G H : Hp} {q : Addr} (o : OwnD K G H q d) (x0 : Ext G0 H0 G H) (n : H0 q = none) : ∃ G', Ext G0 H0 G' H ∧ Same G G' ∧ rep K G' (.ref q) d :=
  let ⟨vs, e, p⟩ := o.at_; ⟨upd G q (DKey.obj vs), x0.frz n e, same_new o.off, q, vs, rfl, upd_same, pairD_up (same_new o.off) p⟩
end
section
variable {X : Cx} {σ : St} {G H : Hp} {P Pa Pb : PV} {e a b c : Expr} {pos p : Pos} {D : Ends} {κ α : Type} {r1 : Rep κ} {dk : DecidableEq κ} {k1 : DKey κ} {r2 : Rep α} {d : Dct κ α} {k : κ}
theorem din_go (neg : Bool) [A : AsDct X.K P κ α r1 dk k1 r2 d] (hk : Ev X a σ G H k) (hd : EvP X b σ G H P) : ∀ G1 H1, Ext G H G1 H1 → ∀ Q : VK, (∀ G2 H2 v, Ext G1 H1 G2 H2 → Is X.K (if neg then !(dlook d.kvs k).isSome else (dlook d.kvs k).isSome) G2 H2 v → Q v H2) →
    (if neg then tDNotIn (tE X a) (tE X b) else tDIn (tE X a) (tE X b)) σ H1 Q := fun G1 H1 x1 Q q => by
  cases neg with
  | false =>
    exact hk G1 H1 x1 _ fun G2 H2 y x2 _ ry => hd G2 H2 (x1.trans x2) _ fun G3 H3 v x3 _ pv => by
      obtain ⟨a, ps, e, g, pr⟩ := A.dct _ _ _ x3.s pv
      exact ⟨a, _, e, DKey.get x3.s (up x3.g ry) g, q G3 H3 _ (x2.trans x3) (by rw [pairD_is pr]; rfl)⟩
  | true =>
    exact hk G1 H1 x1 _ fun G2 H2 y x2 _ ry => hd G2 H2 (x1.trans x2) _ fun G3 H3 v x3 _ pv => by
      obtain ⟨a, ps, e, g, pr⟩ := A.dct _ _ _ x3.s pv
      exact ⟨a, _, e, DKey.get x3.s (up x3.g ry) g, q G3 H3 _ (x2.trans x3) (by rw [pairD_is pr]; rfl)⟩
theorem hu1 {A : Around} {k : Nat} (hr : Room k A) : A.units + 1 < cLine := hu_of hr
theorem ev_din [AsDct X.K P κ α r1 dk k1 r2 d] (hu : X.A.units + 1 < cLine) (hk : Ev X a σ G H k) (hd : EvP X b σ G H P) (hm : behindInMarks .In b = false := by rfl) : Ev X (.Compare a [.In] [b] pos) σ G H (dlook d.kvs k).isSome :=
  evP_of (pe_cmp (pc_din hu pe_sem pe_sem) hm) (din_go false hk hd)
theorem et_din [AsDct X.K P κ α r1 dk k1 r2 d] (hu : X.A.units + 1 < cLine) (hk : Ev X a σ G H k) (hd : EvP X b σ G H P) (hm : behindInMarks .In b = false := by rfl) : EvT X (.Compare a [.In] [b] pos) σ G H (dlook d.kvs k).isSome :=
  evT_of (pt_cmp (pc_din hu pe_sem pe_sem) hm) fun G1 H1 x1 Q q => din_go false hk hd G1 H1 x1 _ fun G2 H2 _ x2 r => ⟨_, r, q G2 H2 x2⟩
theorem ev_dnin [AsDct X.K P κ α r1 dk k1 r2 d] (hu : X.A.units + 1 < cLine) (hk : Ev X a σ G H k) (hd : EvP X b σ G H P) (hm : behindInMarks .NotIn b = false := by rfl) : Ev X (.Compare a [.NotIn] [b] pos) σ G H (!(dlook d.kvs k).isSome) :=
  evP_of (pe_cmp (pc_dnotin hu pe_sem pe_sem) hm) (din_go true hk hd)
theorem et_dnin [AsDct X.K P κ α r1 dk k1 r2 d] (hu : X.A.units + 1 < cLine) (hk : Ev X a σ G H k) (hd : EvP X b σ G H P) (hm : behindInMarks .NotIn b = false := by rfl) : EvT X (.Compare a [.NotIn] [b] pos) σ G H (!(dlook d.kvs k).isSome) :=
  evT_of (pt_cmp (pc_dnotin hu pe_sem pe_sem) hm) fun G1 H1 x1 Q q => din_go true hk hd G1 H1 x1 _ fun G2 H2 _ x2 r => ⟨_, r, q G2 H2 x2⟩
/-- d[k], k is there -/
theorem ev_dget (dv : α) [m : MonoC P] [A : AsDct X.K P κ α r1 dk k1 r2 d] (hu : X.A.units + 1 < cLine) (hd : EvP X a σ G H P) (hk : Ev X b σ G H k) (h : (dlook d.kvs k).isSome = true) (hs : NoSl b := by exact fun _ _ => rfl) : Ev X (.Subscript a b pos) σ G H ((dlook d.kvs k).getD dv) :=
  evP_of (pe_dget hu pe_sem pe_sem hs) fun G1 H1 x1 Q q => hd G1 H1 x1 _ fun G2 H2 v x2 _ pv => hk G2 H2 (x1.trans x2) _ fun G3 H3 y x3 _ ry => by
    obtain ⟨a, ps, e, g, pr⟩ := A.dct _ _ _ x3.s (m.m _ _ _ _ _ x3 pv)
    obtain ⟨x, hx⟩ := Option.isSome_iff_exists.mp h
    obtain ⟨w, e1, e2⟩ := pairD_some pr x hx
    exact ⟨a, w, e, e1 ▸ DKey.get x3.s ry g, q G3 H3 w (x2.trans x3) (by rw [hx]; exact e2)⟩
/-- d.get(k, x) -/
theorem ev_dget2 {x : α} {ap cp : Pos} [m : MonoC P] [A : AsDct X.K P κ α r1 dk k1 r2 d] (hu : X.A.units + 1 < cLine) (hd : EvP X a σ G H P) (hk : Ev X b σ G H k) (hx : Ev X c σ G H x) (m2 : M2 X a "get" ap b c cp := by exact ⟨rfl, rfl, rfl, rfl⟩) :
    Ev X (.Call (.Attribute a "get" ap) [b, c] [] cp) σ G H ((dlook d.kvs k).getD x) :=
  evP_of (pe_dget2 hu pe_sem pe_sem pe_sem m2) fun G1 H1 x1 Q q => hd G1 H1 x1 _ fun G2 H2 v x2 _ pv => by
    obtain ⟨a', ps', e', g', _⟩ := A.dct _ _ _ x2.s pv
    refine ⟨a', e', DKey.isD g', hk G2 H2 (x1.trans x2) _ fun G3 H3 y x3 _ ry => hx G3 H3 ((x1.trans x2).trans x3) _ fun G4 H4 z x4 _ rz => ?_⟩
    obtain ⟨a, ps, e, g, pr⟩ := A.dct _ _ _ x4.s (m.m _ _ _ _ _ (x3.trans x4) pv)
    rw [e'] at e
    cases e
    refine ⟨_, DKey.get x4.s (up x4.g ry) g, ?_⟩
    cases hl : dlook d.kvs k with
    | none =>
      rw [pairD_none pr hl]
      exact q G4 H4 _ (x2.trans (x3.trans x4)) (by rw [hl]; exact rz)
    | some t =>
      obtain ⟨w, e1, e2⟩ := pairD_some pr t hl
      rw [e1]
      exact q G4 H4 _ (x2.trans (x3.trans x4)) (by rw [hl]; exact e2)
/-- n = {} -/
theorem s_dnew {i : Nat} {n : Str} {lp : Pos} {κ α : Type} [Rep κ] [DecidableEq κ] [DKey κ] [Rep α] (hN : X.N.Nodup) (sl : Ss X i n) (s0 : Same G H) (k : ∀ H1 q, Ext G H G H1 → HLen H1 → H q = none → OwnD X.K G H1 q (⟨[]⟩ : Dct κ α) → D.nx (σ.set i (some (.ref q))) H1)
    (hs : swapsWith (.Dict [] [] lp) (some (.Name n p)) pos.line X.env = pure false := by rfl) : tS X (.Assign [.Name n p] (.Dict [] [] lp) pos) D σ H :=
  s_of (ps_set hN sl.hN sl.hx pe_sem hs sl.hf) (tE_len fun pins s I => (DKey.new (κ := κ)).run pins s σ H _ I fun q hq l => k _ q ((Ext.refl s0).newH hq) l hq ⟨⟨[], upd_same, .nil⟩, s0.free hq⟩)
/-- q[k] = v -/
theorem s_dput {v : α} {i : Nat} {n : Str} {q : Addr} {sp np : Pos} (sl : Sl X i n) (hu : X.A.units + 1 < cLine) (s0 : Same G H) (o : OwnD X.K G H q d) (hv : Ev X c σ G H v) (hk : Ev X b σ G H k) (hz : d.kvs.length < sizeLine)
    (kk : ∀ G1 H1 o', Ext G H G1 H1 → HLen H1 → OwnD X.K G1 (upd H1 q o') q (⟨dput d.kvs k v⟩ : Dct κ α) → D.nx σ (upd H1 q o')) (h0 : σ[i]? = some (some (.ref q)) := by rfl)
    (hs : swapsWith c (some (.Subscript (.Name n np) b sp)) pos.line X.env = pure false := by rfl) : tS X (.Assign [.Subscript (.Name n np) b sp] c pos) D σ H := by
  refine s_of (ps_dput hu (pe_var sl.hN sl.hv sl.nm.hd sl.nm.hcd) pe_sem pe_sem hs) ?_
  refine hv G H (Ext.refl s0) _ fun G1 H1 w x1 _ rw' => ⟨_, h0, hk G1 H1 x1 _ fun G2 H2 y x2 l2 ry => ?_⟩
  obtain ⟨ps, e, pr⟩ := (o.mono (x1.trans x2)).at_
  exact ⟨q, _, rfl, DKey.put x2.s ry e (by rw [paired_len pr]; exact hz), kk G2 H2 _ (x1.trans x2) l2 ⟨⟨_, upd_same, pairD_put pr (up x2.g rw')⟩, (o.mono (x1.trans x2)).off⟩⟩
end
end RL

namespace RL
open PySem PySem.Spec PyProof.Rows L2 Rep
section
variable {X : Cx} {σ : St} {G H : Hp}
theorem ev_vO {α : Type} [Rep α] {xs : List α} {i : Nat} {n : Str} {p : Pos} {q : Addr} (s : Sl X i n) (o : Own X.K G H q xs) (h : σ[i]? = some (some (.ref q)) := by rfl) : EvP X (.Name n p) σ G H (OwnAt X.K xs) := ev_vP s o.pv h
theorem ev_vD {κ α : Type} [Rep κ] [DecidableEq κ] [DKey κ] [Rep α] {d : Dct κ α} {i : Nat} {n : Str} {p : Pos} {q : Addr} (s : Sl X i n) (o : OwnD X.K G H q d) (h : σ[i]? = some (some (.ref q)) := by rfl) : EvP X (.Name n p) σ G H (DctAt X.K d) := ev_vP s o.pv h
end
end RL

namespace RL
open L2
theorem cut_take {α : Type} (xs : List α) {k : Int} (h : 0 ≤ k) : cut xs none (some k) = xs.take k.toNat := by
  unfold cut
  rw [HT.sIx_none, List.drop_zero, Nat.sub_zero]
  show xs.take (if k < 0 then _ else min k.toNat xs.length) = _
  rw [if_neg (by omega)]
  by_cases hk : k.toNat ≤ xs.length
  · rw [Nat.min_eq_left hk]
  · rw [Nat.min_eq_right (by omega), List.take_of_length_le (Nat.le_refl _), List.take_of_length_le (by omega)]
theorem cut_drop {α : Type} (xs : List α) {k : Int} (h : 0 ≤ k) : cut xs (some k) none = xs.drop k.toNat := by
  unfold cut
  rw [HT.sIx_none]
  show (xs.drop (if k < 0 then _ else min k.toNat xs.length)).take (xs.length - (if k < 0 then _ else min k.toNat xs.length)) = _
  rw [if_neg (by omega)]
  have e : xs.drop (min k.toNat xs.length) = xs.drop k.toNat := by
    by_cases hk : k.toNat ≤ xs.length
    · rw [Nat.min_eq_left hk]
    · rw [Nat.min_eq_right (by omega), List.drop_of_length_le (Nat.le_refl _), List.drop_of_length_le (by omega)]
  rw [e]
  exact List.take_of_length_le (by rw [List.length_drop]; omega)
theorem cut_mid {α : Type} (xs : List α) {j k : Int} (h : 0 ≤ j) (h' : 0 ≤ k) : cut xs (some j) (some k) = (xs.drop j.toNat).take (k.toNat - j.toNat) := by
  unfold cut
  show (xs.drop (if j < 0 then _ else min j.toNat xs.length)).take ((if k < 0 then _ else min k.toNat xs.length) - (if j < 0 then _ else min j.toNat xs.length)) = _
  rw [if_neg (by omega), if_neg (by omega)]
  by_cases hj : j.toNat ≤ xs.length
  · rw [Nat.min_eq_left hj]
    by_cases hk : k.toNat ≤ xs.length
    · rw [Nat.min_eq_left hk]
    · rw [Nat.min_eq_right (show xs.length ≤ k.toNat by omega), List.take_of_length_le (by rw [List.length_drop]; omega), List.take_of_length_le (by rw [List.length_drop]; omega)]
  · rw [Nat.min_eq_right (show xs.length ≤ j.toNat by omega), List.drop_of_length_le (Nat.le_refl _), List.drop_of_length_le (by omega), List.take_nil, List.take_nil]
theorem rng_map {β : Type} (n : Nat) (f : Int → β) : (rng 0 (n : Int)).map f = (List.range n).map fun (k : Nat) => f (k : Int) := by
  unfold rng
  rw [List.map_map, Int.sub_zero, Int.toNat_natCast]
  exact List.map_congr_left fun k _ => by
    show f (0 + (k : Int)) = f k
    rw [Int.zero_add]
end RL

namespace RL
theorem dput_len {κ α : Type} [DecidableEq κ] (kvs : List (κ × α)) (k : κ) (v : α) : (dput kvs k v).length ≤ kvs.length + 1 := by
  unfold dput
  split
  · rw [List.length_map]; omega
  · rw [List.length_append]; exact Nat.le_refl _
theorem dlook_nil {κ α : Type} [DecidableEq κ] (k : κ) : dlook ([] : List (κ × α)) k = none := rfl
theorem dlook_cons {κ α : Type} [DecidableEq κ] (p : κ × α) (r : List (κ × α)) (k : κ) : dlook (p :: r) k = if p.1 = k then some p.2 else dlook r k := by
  unfold dlook
  by_cases h : p.1 = k
  · rw [List.find?_cons_of_pos (by simpa using h), if_pos h]; rfl
  · rw [List.find?_cons_of_neg (by simpa using h), if_neg h]
theorem dlook_map {κ α : Type} [DecidableEq κ] {k j : κ} {v : α} : ∀ (kvs : List (κ × α)), (kvs.any fun kv => decide (kv.1 = k)) = true → dlook (kvs.map fun kv => if kv.1 = k then (kv.1, v) else kv) j = if j = k then some v else dlook kvs j
  | [], h => by cases h
  | p :: r, h => by
    rw [List.map_cons, dlook_cons, dlook_cons]
    by_cases hk : p.1 = k
    · rw [if_pos hk]
      show (if p.1 = j then some v else _) = _
      by_cases hj : j = k
      · rw [if_pos (hk.trans hj.symm), if_pos hj]
      · have hj' : ¬ p.1 = j := fun z => hj (z.symm.trans hk)
        simp only [if_neg hj, if_neg hj']
        by_cases ha : (r.any fun kv => decide (kv.1 = k)) = true
        · simp only [dlook_map r ha, if_neg hj]
        · have e : (r.map fun kv => if kv.1 = k then (kv.1, v) else kv) = r := by
            conv => rhs; rw [← List.map_id r]
            refine List.map_congr_left fun q hq => ?_
            have : ¬ q.1 = k := fun z => ha (List.any_eq_true.mpr ⟨q, hq, by simpa using z⟩)
            rw [if_neg this]; rfl
          rw [e]
    · rw [if_neg hk]
      have ha : (r.any fun kv => decide (kv.1 = k)) = true := by
        rw [List.any_cons] at h
        simpa [hk] using h
      rw [dlook_map r ha]
      by_cases hj : j = k
      · have : ¬ p.1 = j := fun z => hk (z.trans hj)
        simp only [if_pos hj, if_neg this]
      · simp only [if_neg hj]
theorem dlook_app {κ α : Type} [DecidableEq κ] {k j : κ} {v : α} : ∀ (kvs : List (κ × α)), (kvs.any fun kv => decide (kv.1 = k)) = false → dlook (kvs ++ [(k, v)]) j = if j = k then some v else dlook kvs j
  | [], _ => by
    rw [List.nil_append, dlook_cons, dlook_nil]
    by_cases hj : j = k
    · rw [if_pos hj.symm, if_pos hj]
    · rw [if_neg (fun z => hj z.symm), if_neg hj]
  | p :: r, h => by
    rw [List.any_cons, Bool.or_eq_false_iff] at h
    have hk : ¬ p.1 = k := by simpa using h.1
    rw [List.cons_append, dlook_cons, dlook_cons, dlook_app r h.2]
    by_cases hj : j = k
    · rw [if_pos hj, if_pos hj, if_neg (fun z => hk (z.trans hj))]
    · rw [if_neg hj, if_neg hj]
theorem dlook_dput {κ α : Type} [DecidableEq κ] (kvs : List (κ × α)) (k j : κ) (v : α) : dlook (dput kvs k v) j = if j = k then some v else dlook kvs j := by
  unfold dput
  by_cases h : (kvs.any fun kv => decide (kv.1 = k)) = true
  · rw [if_pos h]; exact dlook_map kvs h
  · rw [if_neg h]; exact dlook_app kvs (by simpa only [Bool.not_eq_true] using h)
end RL
namespace RL
theorem rng_nat (a b : Nat) : rng (a : Int) (b : Int) = (List.range' a (b - a)).map fun (k : Nat) => (k : Int) := by
  have e : ((b : Int) - (a : Int)).toNat = b - a := by omega
  unfold rng
  rw [e, List.range'_eq_map_range, List.map_map]
  exact List.map_congr_left fun k _ => by show (a : Int) + (k : Int) = ((a + k : Nat) : Int); omega
theorem rng0_nat (b : Nat) : rng 0 (b : Int) = (List.range b).map fun (k : Nat) => (k : Int) := by
  have := rng_nat 0 b
  rw [List.range_eq_range']
  exact this
theorem lfold_cons {α S : Type} (step : α → S → S) (x : α) (xs : List α) (s : S) : lfold step (x :: xs) s = lfold step xs (step x s) := rfl
theorem lfold_nil {α S : Type} (step : α → S → S) (s : S) : lfold step [] s = s := rfl
theorem lfold_mapL {α β S : Type} (step : β → S → S) (g : α → β) : ∀ (xs : List α) (s : S), lfold step (xs.map g) s = lfold (fun x => step (g x)) xs s
  | [], _ => rfl
  | x :: xs, s => lfold_mapL step g xs (step (g x) s)
theorem lfold_flat {α β : Type} {step : α → List β → List β} {g : α → List β} : ∀ {xs : List α} {s : List β}, (∀ x ∈ xs, ∀ s, step x s = s ++ g x) → lfold step xs s = s ++ xs.flatMap g
  | [], s, _ => by rw [lfold_nil, List.flatMap_nil, List.append_nil]
  | x :: xs, s, h => by
    rw [lfold_cons, h x List.mem_cons_self, lfold_flat fun y hy => h y (List.mem_cons_of_mem _ hy), List.flatMap_cons, List.append_assoc]
theorem lfold_inv {α S : Type} {step : α → S → S} (I : S → Prop) : ∀ {xs : List α} {s : S}, I s → (∀ x ∈ xs, ∀ s, I s → I (step x s)) → I (lfold step xs s)
  | [], _, h, _ => h
  | x :: xs, s, h, g => lfold_inv I (xs := xs) (g x List.mem_cons_self s h) fun y hy => g y (List.mem_cons_of_mem _ hy)
theorem lrun_nil {α R S : Type} (step : α → S → LR R S) (s : S) : lrun step [] s = .nxt s := rfl
theorem lrun_mapL {α β R S : Type} (step : β → S → LR R S) (g : α → β) : ∀ (xs : List α) (s : S), lrun step (xs.map g) s = lrun (fun x => step (g x)) xs s
  | [], _ => rfl
  | x :: xs, s => by
    rw [List.map_cons, lrun_cons, lrun_cons]
    cases step (g x) s with
    | nxt s' => exact lrun_mapL step g xs s'
    | brk s' => rfl
    | ret r => rfl
theorem getD_take_sum (row : List Int) (k : Nat) (h : k < row.length) : (row.take (k + 1)).sum = (row.take k).sum + row.getD k 0 := by
  rw [List.take_succ_eq_append_getElem h, List.sum_append, List.getD_eq_getElem?_getD, List.getElem?_eq_getElem h]
  simp
end RL
namespace RL
open PySem PySem.Spec PyProof.Rows L2 Rep
/-! ### what may be None -/
theorem rep_get {α : Type} [Rep α] {K : PySem.W.Frag} {G : Hp} {v : V} {x : Option α} (d : α) (h : x.isNone = false) (r : rep K G v x) : rep K G v (x.getD d) := by
  cases x with
  | none => cases h
  | some y => exact r
theorem rep_unit {α : Type} [Rep α] {K : PySem.W.Frag} {G : Hp} {v : V} {x : Option α} (h : x.isNone = true) (r : rep K G v x) : rep K G v () := by
  cases x with
  | none => exact r
  | some y => cases h
section
variable {X : Cx} {σ : St} {G H : Hp} {P Pa Pb : PV} {e a b c : Expr} {es : List Expr} {pos p : Pos} {α β γ : Type} [Rep α] [Rep β] [Rep γ]
theorem ev_get {x : Option α} (d : α) (h : x.isNone = false) (r : Ev X e σ G H x) : Ev X e σ G H (x.getD d) := r.imp fun _ _ _ _ _ q => rep_get d h q
/-- isinstance of what may be None -/
theorem ev_isiO {x : Option α} {T T' : String} {r : Bool} [t : ∀ y : α, AsTy X.K (Is X.K y) T] (B : Bl X "isinstance") (h : Ev X a σ G H x) (hT : Ev X b σ G H (V.ty T')) (k : kitB T T' = some r) (k0 : kitB "NoneType" T' = some false) (he : starEach [a, b] X.env = (false, eval a X.env) :: starEach [b] X.env := by rfl) (he2 : starEach [b] X.env = (false, eval b X.env) :: starEach [] X.env := by rfl)
    (hpl : (backTo pos (starEach [b] X.env)).any (·.1) = false := by rfl) : Ev X (.Call (.Name "isinstance" p) [a, b] [] pos) σ G H (!x.isNone && r) := by
  cases x with
  | none => exact ev_isi (P := Is X.K ()) B (h.imp fun _ _ _ _ _ q => q) hT k0 he he2 hpl
  | some y => exact (ev_isi (P := Is X.K y) B (h.imp fun _ _ _ _ _ q => q) hT k he he2 hpl).to (by simp)
theorem ev_isiTO {x : Option α} {T T1 T2 : String} {r1 r2 : Bool} {c1 c2 : Expr} {kk : Nat} {tp : Pos} [t : ∀ y : α, AsTy X.K (Is X.K y) T] (B : Bl X "isinstance") (h : Ev X a σ G H x) (h1 : Ev X c1 σ G H (V.ty T1)) (h2 : Ev X c2 σ G H (V.ty T2)) (k : kitB T T1 = some r1 ∧ kitB T T2 = some r2)
    (k0 : kitB "NoneType" T1 = some false ∧ kitB "NoneType" T2 = some false)
    (he : starEach [a, .Tuple [c1, c2] kk tp] X.env = (false, eval a X.env) :: starEach [.Tuple [c1, c2] kk tp] X.env := by rfl) (he2 : starEach [.Tuple [c1, c2] kk tp] X.env = (false, eval (.Tuple [c1, c2] kk tp) X.env) :: starEach [] X.env := by rfl)
    (hpl : (backTo pos (starEach [.Tuple [c1, c2] kk tp] X.env)).any (·.1) = false := by rfl) (hs : starEach [c1, c2] X.env = (false, eval c1 X.env) :: starEach [c2] X.env := by rfl) (hs' : starEach [c2] X.env = (false, eval c2 X.env) :: starEach [] X.env := by rfl) :
    Ev X (.Call (.Name "isinstance" p) [a, .Tuple [c1, c2] kk tp] [] pos) σ G H (!x.isNone && (r1 || r2)) := by
  cases x with
  | none => exact ev_isiT (P := Is X.K ()) B (h.imp fun _ _ _ _ _ q => q) h1 h2 k0 he he2 hpl hs hs'
  | some y => exact (ev_isiT (P := Is X.K y) B (h.imp fun _ _ _ _ _ q => q) h1 h2 k he he2 hpl hs hs').to (by simp)
/-! ### pairs as they stand -/
theorem ev_lenP {x : β × γ} (B : Bl X "len") (h : Ev X e σ G H x) (he : starEach [e] X.env = (false, eval e X.env) :: starEach [] X.env := by rfl) : Ev X (.Call (.Name "len" p) [e] [] pos) σ G H (2 : Int) :=
  ev_callB call_len_seq B.g B.m PySem.boot_len (ea_cons h ea_nil he) (fun G1 H1 vs y l ⟨v, r, e1, pv, e2⟩ Q q => by
    obtain ⟨t, u, w, e, g, _⟩ := pv
    exact ⟨t, [u, w], by rw [e1, e2, e], .inr (.of (y.s _ _ g)), q G1 H1 _ (Ext.refl y.s) rfl⟩) (by decide) (by decide) he rfl
/-! ### sorted, of pairs of ints -/
def leP (x y : Int × Int) : Prop := x.1 < y.1 ∨ (x.1 = y.1 ∧ x.2 ≤ y.2)
instance (x y : Int × Int) : Decidable (leP x y) := inferInstanceAs (Decidable (_ ∨ _))
def insP (x : Int × Int) : List (Int × Int) → List (Int × Int)
  | [] => [x]
  | y :: ys => if leP x y then x :: y :: ys else y :: insP x ys
def psort : List (Int × Int) → List (Int × Int)
  | [] => []
  | x :: xs => insP x (psort xs)
theorem insP_perm (x : Int × Int) : ∀ ys, (insP x ys).Perm (x :: ys)
  | [] => .refl _
  | y :: ys => by
    unfold insP
    split
    · exact .refl _
    · exact ((insP_perm x ys).cons y).trans (.swap x y ys)
theorem psort_perm : ∀ xs, (psort xs).Perm xs
  | [] => .refl _
  | x :: xs => (insP_perm x _).trans ((psort_perm xs).cons x)
theorem leP_tr {x y z : Int × Int} (h : leP x y) (h' : leP y z) : leP x z := by unfold leP at *; omega
theorem leP_tot {x y : Int × Int} (h : ¬ leP x y) : leP y x := by unfold leP at *; omega
theorem leP_anti {x y : Int × Int} (h : leP x y) (h' : leP y x) : x = y := by
  unfold leP at *
  exact Prod.ext (by omega) (by omega)
theorem insP_sorted (x : Int × Int) : ∀ ys, ys.Pairwise leP → (insP x ys).Pairwise leP
  | [], _ => List.pairwise_singleton _ _
  | y :: ys, h => by
    unfold insP
    have h' := List.pairwise_cons.mp h
    split
    · rename_i hx
      exact List.pairwise_cons.mpr ⟨fun z hz => by
        rcases List.mem_cons.mp hz with rfl | hz
        · exact hx
        · exact leP_tr hx (h'.1 z hz), h⟩
    · rename_i hx
      exact List.pairwise_cons.mpr ⟨fun z hz => by
        rcases List.mem_cons.mp ((insP_perm x ys).mem_iff.mp hz) with rfl | hz
        · exact leP_tot hx
        · exact h'.1 z hz, insP_sorted x ys h'.2⟩
theorem psort_sorted : ∀ xs, (psort xs).Pairwise leP
  | [] => List.Pairwise.nil
  | x :: xs => insP_sorted x _ (psort_sorted xs)
theorem psorted_one : ∀ {xs ys : List (Int × Int)}, xs.Perm ys → xs.Pairwise leP → ys.Pairwise leP → xs = ys
  | [], ys, p, _, _ => (List.nil_perm.mp p).symm
  | x :: xs, [], p, _, _ => absurd p.symm (List.not_perm_nil_cons _ _)
  | x :: xs, y :: ys, p, h1, h2 => by
    have a := List.pairwise_cons.mp h1
    have b := List.pairwise_cons.mp h2
    have e : x = y := by
      have m1 : x ∈ y :: ys := p.mem_iff.mp List.mem_cons_self
      have m2 : y ∈ x :: xs := p.mem_iff.mpr List.mem_cons_self
      rcases List.mem_cons.mp m1 with z | z
      · exact z
      · rcases List.mem_cons.mp m2 with w | w
        · exact w.symm
        · exact leP_anti (a.1 y w) (b.1 x z)
    subst e
    rw [psorted_one (List.Perm.cons_inv p) a.2 b.2]
/-- the two ints of a tuple -/
def keyP (H : Hp) : V → Int × Int
  | .ref t => match H t with
    | some (.tup [.int i, .int j]) => (i, j)
    | _ => (0, 0)
  | _ => (0, 0)
theorem keyP_of {K : PySem.W.Frag} {G H : Hp} (s : Same G H) {v : V} {x : Int × Int} (r : rep K G v x) : keyP H v = x ∧ ∃ t, v = V.ref t ∧ H t = some (.tup [.int x.1, .int x.2]) := by
  obtain ⟨t, u, w, e, g, p1, p2⟩ := r
  have p1 : u = V.int x.1 := p1
  have p2 : w = V.int x.2 := p2
  subst p1 p2 e
  have g := s _ _ g
  exact ⟨by simp only [keyP, g], t, rfl, g⟩
theorem keyP_map {K : PySem.W.Frag} {G H : Hp} (s : Same G H) : ∀ {us : List V} {xs : List (Int × Int)}, Paired (rep K G) us xs → us.map (keyP H) = xs
  | _, _, .nil => rfl
  | _, _, .cons r t => by rw [List.map_cons, (keyP_of s r).1, keyP_map s t]
theorem keyP_mem {K : PySem.W.Frag} {G : Hp} : ∀ {us : List V} {xs : List (Int × Int)}, Paired (rep K G) us xs → ∀ u ∈ us, ∃ x : Int × Int, rep K G u x
  | _, _, .nil, _, h => by cases h
  | _, _, .cons r t, u, h => by
    rcases List.mem_cons.mp h with rfl | h
    · exact ⟨_, r⟩
    · exact keyP_mem t u h
theorem keyP_pair {K : PySem.W.Frag} {G H : Hp} (s : Same G H) : ∀ (ys : List V), (∀ y ∈ ys, ∃ x : Int × Int, rep K G y x) → Paired (rep K G) ys (ys.map (keyP H))
  | [], _ => .nil
  | y :: ys, h => by
    obtain ⟨x, r⟩ := h y List.mem_cons_self
    refine .cons ?_ (keyP_pair s ys fun z hz => h z (List.mem_cons_of_mem _ hz))
    rw [(keyP_of s r).1]
    exact r
theorem psort_go {K : PySem.W.Frag} {G H : Hp} (s : Same G H) {us ys : List V} {xs : List (Int × Int)} (pr : Paired (rep K G) us xs) (h : SrtO.Srtd (ltP (keyP H)) ys) (hb : SrtO.Stb (ltP (keyP H)) ys us) : Paired (rep K G) ys (psort xs) := by
  have e : ys.map (keyP H) = psort xs := by
    refine psorted_one ?_ ?_ (psort_sorted xs)
    · have := hb.perm.map (keyP H)
      rw [keyP_map s pr] at this
      exact this.trans (psort_perm xs).symm
    · refine List.pairwise_map.mpr (List.Pairwise.imp (fun {x y} hxy => ?_) h)
      have := SrtO.lexB_no.mp hxy
      unfold leP
      omega
  rw [← e]
  exact keyP_pair s ys fun y hy => keyP_mem pr y (hb.perm.mem_iff.mp hy)
theorem ev_sortedP {xs : List (Int × Int)} [m : MonoC P] [s : AsSeq X.K P (Int × Int) instRepProd xs] (B : Bl X "sorted") (h : EvP X e σ G H P) (he : starEach [e] X.env = (false, eval e X.env) :: starEach [] X.env := by rfl) : Ev X (.Call (.Name "sorted" p) [e] [] pos) σ G H (psort xs) :=
  ev_callB cr_sortedPO B.g B.m PyProof.Rows.boot_sorted (ea_cons h ea_nil he) (fun G1 H1 vs y l ⟨v, r, e1, pv, e2⟩ Q q => by
    obtain ⟨a, us, e, g, pr⟩ := s.seq _ _ _ y.s pv
    refine ⟨a, us, keyP H1, by rw [e1, e2, e], g, fun u hu => ?_, fun ys p srt stb hp => ?_⟩
    · obtain ⟨x, rx⟩ := keyP_mem pr u hu
      obtain ⟨k, t, e, g⟩ := keyP_of y.s rx
      exact ⟨t, e, by rw [k]; exact g⟩
    · exact q (upd G1 p (.lst ys)) _ _ ((Ext.refl y.s).new hp) ⟨p, _, rfl, upd_same, pair_up (same_new (y.s.free hp)) (psort_go y.s pr srt stb)⟩) (by decide) (by decide) he rfl
theorem evN_sortedP {xs : List (Int × Int)} [m : MonoC P] [s : AsSeq X.K P (Int × Int) instRepProd xs] (B : Bl X "sorted") (h : EvP X e σ G H P) (he : starEach [e] X.env = (false, eval e X.env) :: starEach [] X.env := by rfl) : EvN X (.Call (.Name "sorted" p) [e] [] pos) σ G H (Is X.K (psort xs)) :=
  evN_of (pe_callB cr_sortedPO B.g B.m PyProof.Rows.boot_sorted (pa_cons pe_sem pa_nil he) (by decide) (by decide) he rfl) fun G1 H1 x1 Q q => h G1 H1 x1 _ fun G2 H2 v x2 _ pv => by
    obtain ⟨a, us, e, g, pr⟩ := s.seq _ _ _ x2.s pv
    refine ⟨a, us, keyP H2, by rw [e], g, fun u hu => ?_, fun ys p srt stb hp => ?_⟩
    · obtain ⟨x, rx⟩ := keyP_mem pr u hu
      obtain ⟨k, t, e, g⟩ := keyP_of x2.s rx
      exact ⟨t, e, by rw [k]; exact g⟩
    · exact q (upd G2 p (.lst ys)) _ _ (x2.new hp) ⟨p, _, rfl, upd_same, pair_up (same_new (x2.s.free hp)) (psort_go x2.s pr srt stb)⟩ fun p' e => by cases e; exact x2.h.free hp
end
end RL
namespace RL
theorem psort_len (xs : List (Int × Int)) : (psort xs).length = xs.length := (psort_perm xs).length_eq
theorem isort_len (xs : List Int) : (isort xs).length = xs.length := (isort_perm xs).length_eq
theorem flat_len {α β : Type} {g : α → List β} {c : Nat} : ∀ (xs : List α), (∀ x ∈ xs, (g x).length ≤ c) → (xs.flatMap g).length ≤ c * xs.length
  | [], _ => Nat.zero_le _
  | x :: xs, h => by
    have h1 := h x List.mem_cons_self
    have h2 := flat_len xs fun y hy => h y (List.mem_cons_of_mem _ hy)
    rw [List.flatMap_cons, List.length_append, List.length_cons, Nat.mul_succ]
    omega
end RL
namespace RL
theorem enum_range {α : Type} (f : Nat → α) (n : Nat) : enum ((List.range n).map f) = (List.range n).map fun (k : Nat) => ((k : Int), f k) := by
  unfold enum
  refine List.ext_getElem (by simp) fun i h1 h2 => ?_
  simp
theorem psort_head {x : Int × Int} {xs : List (Int × Int)} (h : x ∈ xs) (hm : ∀ y ∈ xs, leP x y) : ∃ r, psort xs = x :: r := by
  have p := psort_perm xs
  have s := psort_sorted xs
  cases e : psort xs with
  | nil => rw [e] at p; rw [List.nil_perm.mp p] at h; cases h
  | cons y r =>
    rw [e] at p s
    have hx : x ∈ y :: r := p.mem_iff.mpr h
    have hy : leP x y := hm y (p.mem_iff.mp List.mem_cons_self)
    rcases List.mem_cons.mp hx with rfl | hx
    · exact ⟨r, rfl⟩
    · exact ⟨r, by rw [leP_anti hy ((List.pairwise_cons.mp s).1 x hx)]⟩
end RL
namespace RL
open PySem PySem.Spec PyProof.Rows L2 Rep
theorem paired_set {α β : Type} {F : α → β → Prop} {w : α} {y : β} (h : F w y) : ∀ {xs : List α} {ys : List β} (j : Nat), Paired F xs ys → Paired F (xs.set j w) (ys.set j y)
  | _, _, _, .nil => .nil
  | _, _, 0, .cons _ t => .cons h t
  | _, _, j + 1, .cons r t => .cons r (paired_set h j t)
section
variable {X : Cx} {σ : St} {G H : Hp} {D : Ends} {P Pa Pb : PV} {e a b c : Expr} {es : List Expr} {pos p : Pos} {α β γ : Type} [Rep α] [Rep β] [Rep γ]
/-- xs[i] = v, of an own list -/
theorem s_setix {xs : List α} {y : α} {k : Nat} {n : Str} {q : Addr} {i : Int} {np sp : Pos} (sl : Sl X k n) (s0 : Same G H) (o : Own X.K G H q xs) (hv : Ev X c σ G H y) (hi : Ev X a σ G H i) (h0 : 0 ≤ i) (h1 : i < (xs.length : Int))
    (kk : ∀ G1 H1 vs', Ext G H G1 H1 → HLen H1 → Own X.K G1 (upd H1 q (.lst vs')) q (xs.set i.toNat y) → D.nx σ (upd H1 q (.lst vs'))) (hq : σ[k]? = some (some (.ref q)) := by rfl)
    (hs : swapsWithSole [.Subscript (.Name n np) a sp] c pos.line X.env = pure false := by rfl) (hw : swappedStores [.Subscript (.Name n np) a sp] c X.env = pure none := by rfl)
    (hh : (assignEach [.Subscript (.Name n np) a sp] X.env).map (·.2) = [assign (.Subscript (.Name n np) a sp) X.env] := by rfl)
    (ha : ∀ v, assign (.Subscript (.Name n np) a sp) X.env v = (do
      let ov ← holding [v] (eval (.Name n np) X.env)
      let iv ← holding [v, ov] (eval a X.env)
      standAt sp
      holding [v, ov, iv] (setItem ov iv v)
      release [v, ov, iv] []) := by intro _; rfl) : tS X (.Assign [.Subscript (.Name n np) a sp] c pos) D σ H := by
  refine s_of (ps_asg pe_sem (pg_sub (pe_var sl.hN sl.hv sl.nm.hd sl.nm.hcd) pe_sem set_list ha) hs hw hh) ?_
  refine hv G H (Ext.refl s0) _ fun G1 H1 w x1 _ rw' => ⟨_, hq, hi G1 H1 x1 _ fun G2 H2 u x2 l2 ru => ?_⟩
  obtain ⟨vs, e, pr⟩ := (o.mono (x1.trans x2)).at_
  have ru : u = V.int i := ru
  exact ⟨q, vs, i, i.toNat, rfl, ru, e, by rw [paired_len pr]; exact ixN_of h0 h1, kk G2 H2 _ (x1.trans x2) l2 ⟨⟨_, upd_same, paired_set (up x2.g rw') _ pr⟩, (o.mono (x1.trans x2)).off⟩⟩
/-- xs[i], xs[j] = v, w, of an own list, i and j plain names -/
theorem s_swapix {xs : List α} {y z : α} {k k1 k2 : Nat} {n n1 n2 : Str} {q : Addr} {i j : Int} {np np2 sp sp2 tp tp2 ap ap2 : Pos} {kt kt2 : Nat} {c2 : Expr} (sl : Sl X k n) (sl1 : Sl X k1 n1) (sl2 : Sl X k2 n2) (s0 : Same G H) (o : Own X.K G H q xs) (hc : X.calm = true) (hv : Ev X c σ G H y) (hv2 : Ev X c2 σ G H z)
    {vi vj : V} (ri : rep X.K G vi i) (rj : rep X.K G vj j) (h0 : 0 ≤ i) (h1 : i < (xs.length : Int)) (h2 : 0 ≤ j) (h3 : j < (xs.length : Int))
    (kk : ∀ G1 H1 vs', Ext G H G1 H1 → HLen H1 → Own X.K G1 (upd H1 q (.lst vs')) q ((xs.set i.toNat y).set j.toNat z) → D.nx σ (upd H1 q (.lst vs'))) (hq : σ[k]? = some (some (.ref q)) := by rfl) (hqi : σ[k1]? = some (some vi) := by rfl) (hqj : σ[k2]? = some (some vj) := by rfl)
    (he : starEach [c, c2] X.env = (false, eval c X.env) :: starEach [c2] X.env := by rfl) (he2 : starEach [c2] X.env = (false, eval c2 X.env) :: starEach [] X.env := by rfl)
    (hs : swapsWithSole [.Tuple [.Subscript (.Name n np) (.Name n1 ap) sp, .Subscript (.Name n np2) (.Name n2 ap2) sp2] kt tp] (.Tuple [c, c2] kt2 tp2) pos.line X.env = pure false := by rfl) (hw : swappedStores [.Tuple [.Subscript (.Name n np) (.Name n1 ap) sp, .Subscript (.Name n np2) (.Name n2 ap2) sp2] kt tp] (.Tuple [c, c2] kt2 tp2) X.env = pure none := by rfl)
    (hh : (assignEach [.Tuple [.Subscript (.Name n np) (.Name n1 ap) sp, .Subscript (.Name n np2) (.Name n2 ap2) sp2] kt tp] X.env).map (·.2) = [assign (.Tuple [.Subscript (.Name n np) (.Name n1 ap) sp, .Subscript (.Name n np2) (.Name n2 ap2) sp2] kt tp) X.env] := by rfl) :
    tS X (.Assign [.Tuple [.Subscript (.Name n np) (.Name n1 ap) sp, .Subscript (.Name n np2) (.Name n2 ap2) sp2] kt tp] (.Tuple [c, c2] kt2 tp2) pos) D σ H := by
  have ri : vi = V.int i := ri
  have rj : vj = V.int j := rj
  have hg := pg_tup (k := kt) (pos := tp) hc (pgs_cons (pg_sub (pos := sp) (pe_var (pos := np) sl.hN sl.hv sl.nm.hd sl.nm.hcd) (pe_var (pos := ap) sl1.hN sl1.hv sl1.nm.hd sl1.nm.hcd) set_list) (pgs_cons (pg_sub (pos := sp2) (pe_var (pos := np2) sl.hN sl.hv sl.nm.hd sl.nm.hcd) (pe_var (pos := ap2) sl2.hN sl2.hv sl2.nm.hd sl2.nm.hcd) set_list) pgs_nil))
  refine tS_len (s_of (ps_asg pe_sem hg hs hw hh) ?_)
  refine ev_tup hv hv2 he he2 G H (Ext.refl s0) _ fun G1 H1 w x1 l1 ⟨t, u1, u2, e, gt, r1, r2⟩ => ?_
  obtain ⟨vs, e1, pr⟩ := (o.mono x1).at_
  have pr1 : Paired (rep X.K G1) (vs.set i.toNat u1) (xs.set i.toNat y) := paired_set r1 _ pr
  refine ⟨t, [u1, u2], e, .of (x1.s _ _ gt), rfl, u1, [u2], rfl, _, hq, _, hqi, q, vs, i, i.toNat, rfl, ri, e1, by rw [paired_len pr]; exact ixN_of h0 h1, u2, [], rfl, _, hq, _, hqj, q, _, j, j.toNat, rfl, rj, upd_same, ?_, rfl, ?_⟩
  · rw [paired_len pr1, List.length_set]; exact ixN_of h2 h3
  · rw [upd_upd]
    exact fun l => kk G1 H1 _ x1 l1 ⟨⟨_, upd_same, paired_set r2 _ pr1⟩, (o.mono x1).off⟩
/-- x, y = a, b: plain names -/
theorem s_par {x : α} {y : β} {i j : Nat} {n1 n2 : Str} {p1 p2 tp tp2 : Pos} {kt kt2 : Nat} (hc : X.calm = true) (hN : X.N.Nodup) (s1 : Ss X i n1) (s2 : Ss X j n2) (hij : i ≠ j) (s0 : Same G H) (ha : Ev X a σ G H x) (hb : Ev X b σ G H y)
    (kk : ∀ G1 H1 v w, Ext G H G1 H1 → HLen H1 → rep X.K G1 v x → rep X.K G1 w y → D.nx ((σ.set i (some v)).set j (some w)) H1)
    (hx : X.env.scope.names.lookup n1 = some .local := by rfl) (hy : X.env.scope.names.lookup n2 = some .local := by rfl)
    (he : starEach [a, b] X.env = (false, eval a X.env) :: starEach [b] X.env := by rfl) (he2 : starEach [b] X.env = (false, eval b X.env) :: starEach [] X.env := by rfl)
    (hw : swappedStores [.Tuple [.Name n1 p1, .Name n2 p2] kt tp] (.Tuple [a, b] kt2 tp2) X.env = pure (some [n1, n2]) := by rfl)
    (hs : swapsWithSole [.Tuple [.Name n1 p1, .Name n2 p2] kt tp] (.Tuple [a, b] kt2 tp2) pos.line X.env = pure false := by rfl) :
    tS X (.Assign [.Tuple [.Name n1 p1, .Name n2 p2] kt tp] (.Tuple [a, b] kt2 tp2) pos) D σ H := by
  refine s_of (ps_par hc hN s1.hN s2.hN hij hx hy pa_sem hw hs) ?_
  refine ea_cons ha (ea_cons hb ea_nil he2) he G H (Ext.refl s0) _ fun G1 H1 vs x1 l ⟨v, r, e, rv, v2, r2, e2, rv2, e3⟩ => ?_
  exact ⟨v, v2, by rw [e, e2, e3], kk G1 H1 v v2 x1 l rv rv2⟩
/-- x, y = e, a pair -/
theorem s_unp {x : α × β} {i j : Nat} {n1 n2 : Str} {p1 p2 tp : Pos} {kt : Nat} (hc : X.calm = true) (hN : X.N.Nodup) (s1 : Ss X i n1) (s2 : Ss X j n2) (s0 : Same G H) (h : Ev X e σ G H x)
    (kk : ∀ G1 H1 v w, Ext G H G1 H1 → HLen H1 → rep X.K G1 v x.1 → rep X.K G1 w x.2 → D.nx ((σ.set i (some v)).set j (some w)) H1)
    (hs : swapsWithSole [.Tuple [.Name n1 p1, .Name n2 p2] kt tp] e pos.line X.env = pure false := by rfl) (hw : swappedStores [.Tuple [.Name n1 p1, .Name n2 p2] kt tp] e X.env = pure none := by rfl)
    (hh : (assignEach [.Tuple [.Name n1 p1, .Name n2 p2] kt tp] X.env).map (·.2) = [assign (.Tuple [.Name n1 p1, .Name n2 p2] kt tp) X.env] := by rfl) :
    tS X (.Assign [.Tuple [.Name n1 p1, .Name n2 p2] kt tp] e pos) D σ H := by
  refine s_of (ps_asg pe_sem (pg_tup hc (pgs_cons (pg_name hN s1.hN s1.hx s1.hf) (pgs_cons (pg_name hN s2.hN s2.hx s2.hf) pgs_nil))) hs hw hh) ?_
  refine h G H (Ext.refl s0) _ fun G1 H1 v x1 l ⟨t, u1, u2, e, gt, r1, r2⟩ => ?_
  exact ⟨t, [u1, u2], e, .of (x1.s _ _ gt), rfl, u1, [u2], rfl, u2, [], rfl, rfl, kk G1 H1 u1 u2 x1 l r1 r2⟩
theorem rgV_pair {K : PySem.W.Frag} {G : Hp} (a b : Int) : Paired (rep K G) (rgV a b) (rng a b) := by
  have : rgV a b = (rng a b).map V.int := by
    unfold rgV rng
    rw [List.map_map]
    rfl
  rw [this]
  exact ints_paired _
/-- list(range(..)) -/
theorem evN_lrg1 {j : Int} {p2 pos2 : Pos} (hc : X.calm = true) (B : Bl X "list") (B2 : Bl X "range") (h : Ev X a σ G H j) (hs : RgOk 0 j) (na : starEach [a] X.env = (false, eval a X.env) :: starEach [] X.env := by rfl) (na2 : starEach [.Call (.Name "range" p2) [a] [] pos2] X.env = (false, eval (.Call (.Name "range" p2) [a] [] pos2) X.env) :: starEach [] X.env := by rfl) :
    EvN X (.Call (.Name "list" p) [.Call (.Name "range" p2) [a] [] pos2] [] pos) σ G H (Is X.K (rng 0 j)) :=
  evN_of (pe_listRg hc B.g B.m (prg_1 B2.g B2.m pe_sem na) na2) fun G1 H1 x1 Q q => h G1 H1 x1 _ fun G2 H2 v x2 _ pv =>
    ⟨j, pv, hs, fun l hl => q (upd G2 l (.lst (rgV 0 j))) _ _ (x2.new hl) ⟨l, _, rfl, upd_same, rgV_pair _ _⟩ fun p' e => by cases e; exact x2.h.free hl⟩
theorem evN_lrg2 {i j : Int} {p2 pos2 : Pos} (hc : X.calm = true) (B : Bl X "list") (B2 : Bl X "range") (h : Ev X a σ G H i) (h' : Ev X b σ G H j) (hs : RgOk i j) (na : starEach [a, b] X.env = (false, eval a X.env) :: starEach [b] X.env := by rfl) (nb : starEach [b] X.env = (false, eval b X.env) :: starEach [] X.env := by rfl) (hp : (backTo pos2 (starEach [b] X.env)).any (·.1) = false := by rfl) (na2 : starEach [.Call (.Name "range" p2) [a, b] [] pos2] X.env = (false, eval (.Call (.Name "range" p2) [a, b] [] pos2) X.env) :: starEach [] X.env := by rfl) :
    EvN X (.Call (.Name "list" p) [.Call (.Name "range" p2) [a, b] [] pos2] [] pos) σ G H (Is X.K (rng i j)) :=
  evN_of (pe_listRg hc B.g B.m (prg_2 B2.g B2.m pe_sem pe_sem na nb hp) na2) fun G1 H1 x1 Q q => h G1 H1 x1 _ fun G2 H2 v x2 _ pv => h' G2 H2 (x1.trans x2) _ fun G3 H3 u x3 _ pu =>
    ⟨i, j, pv, pu, hs, fun l hl => q (upd G3 l (.lst (rgV i j))) _ _ ((x2.trans x3).new hl) ⟨l, _, rfl, upd_same, rgV_pair _ _⟩ fun p' e => by cases e; exact (x2.trans x3).h.free hl⟩
theorem ev_lrg1 {j : Int} {p2 pos2 : Pos} (hc : X.calm = true) (B : Bl X "list") (B2 : Bl X "range") (h : Ev X a σ G H j) (hs : RgOk 0 j) (na : starEach [a] X.env = (false, eval a X.env) :: starEach [] X.env := by rfl) (na2 : starEach [.Call (.Name "range" p2) [a] [] pos2] X.env = (false, eval (.Call (.Name "range" p2) [a] [] pos2) X.env) :: starEach [] X.env := by rfl) :
    Ev X (.Call (.Name "list" p) [.Call (.Name "range" p2) [a] [] pos2] [] pos) σ G H (rng 0 j) := (evN_lrg1 hc B B2 h hs na na2).ev
theorem ev_lrg2 {i j : Int} {p2 pos2 : Pos} (hc : X.calm = true) (B : Bl X "list") (B2 : Bl X "range") (h : Ev X a σ G H i) (h' : Ev X b σ G H j) (hs : RgOk i j) (na : starEach [a, b] X.env = (false, eval a X.env) :: starEach [b] X.env := by rfl) (nb : starEach [b] X.env = (false, eval b X.env) :: starEach [] X.env := by rfl) (hp : (backTo pos2 (starEach [b] X.env)).any (·.1) = false := by rfl) (na2 : starEach [.Call (.Name "range" p2) [a, b] [] pos2] X.env = (false, eval (.Call (.Name "range" p2) [a, b] [] pos2) X.env) :: starEach [] X.env := by rfl) :
    Ev X (.Call (.Name "list" p) [.Call (.Name "range" p2) [a, b] [] pos2] [] pos) σ G H (rng i j) := (evN_lrg2 hc B B2 h h' hs na nb hp na2).ev
end
end RL
namespace RL
open PySem PySem.Spec PyProof.Rows L2 Rep
section
variable {X : Cx} {σ : St} {G H : Hp} {D : Ends} {P : PV} {e : Expr} {pos p : Pos} {α : Type} [Rep α]
theorem flat_paired [Flat α] {K : PySem.W.Frag} {G G' : Hp} : ∀ {vs : List V} {xs : List α}, Paired (rep K G) vs xs → Paired (rep K G') vs xs
  | _, _, .nil => .nil
  | _, _, .cons h t => .cons (Flat.flat h) (flat_paired t)
/-- name = a new list, the def's own from here on -/
theorem s_setO [Flat α] {xs : List α} {i : Nat} {n : Str} (hN : X.N.Nodup) (sl : Ss X i n) (s0 : Same G H) (h : EvN X e σ G H (Is X.K xs)) (k : ∀ G1 H1 q, Ext G H G1 H1 → HLen H1 → H q = none → Own X.K G1 H1 q xs → D.nx (σ.set i (some (.ref q))) H1)
    (hs : swapsWith e (some (.Name n p)) pos.line X.env = pure false := by rfl) : tS X (.Assign [.Name n p] e pos) D σ H :=
  s_setN hN sl s0 h (fun G1 H1 v x l r nw => by
    obtain ⟨q, vs, rfl, g, pr⟩ := r
    have hq : H q = none := nw q rfl
    refine k (fun a => if a = q then none else G1 a) H1 q ⟨x.h, fun a o e => ?_, fun a o e => ?_, fun a o e => ?_⟩ l hq ⟨⟨vs, x.s _ _ g, ?_⟩, if_pos rfl⟩
    · by_cases ha : a = q
      · subst ha; rw [s0 _ _ e] at hq; cases hq
      · show (if a = q then none else G1 a) = _
        rw [if_neg ha]; exact x.g _ _ e
    · by_cases ha : a = q
      · have e : (if a = q then none else G1 a) = some o := e
        rw [if_pos ha] at e; cases e
      · have e : (if a = q then none else G1 a) = some o := e
        rw [if_neg ha] at e; exact x.s _ _ e
    · by_cases ha : a = q
      · have e : (if a = q then none else G1 a) = some o := e
        rw [if_pos ha] at e; cases e
      · have e : (if a = q then none else G1 a) = some o := e
        rw [if_neg ha] at e; exact x.n _ _ e
    · exact flat_paired pr) hs
theorem ev_abs {i : Int} (B : Bl X "abs") (h : Ev X e σ G H i) (he : starEach [e] X.env = (false, eval e X.env) :: starEach [] X.env := by rfl) : Ev X (.Call (.Name "abs" p) [e] [] pos) σ G H (if i < 0 then -i else i) :=
  ev_callB call_abs B.g B.m PyProof.Rows.boot_abs (ea_cons h ea_nil he) (fun G1 H1 vs y l ⟨v, r, e1, pv, e2⟩ Q q => ⟨i, by rw [e1, e2, show v = _ from pv], q G1 H1 _ (Ext.refl y.s) rfl⟩) (by decide) (by decide) he rfl
theorem rep_of2 {ζ : Type} [Rep ζ] {K : PySem.W.Frag} {G : Hp} {v : V} {y z : ζ × List Int} (e : y = z) (r : rep K G v z.1) : rep K G v y.1 := e ▸ r
theorem own_of {ζ : Type} {K : PySem.W.Frag} {G H : Hp} {q : Addr} {y z : ζ × List Int} (e : y = z) (o : Own K G H q z.2) : Own K G H q y.2 := e ▸ o
end
end RL
namespace RL
theorem cut_but {α : Type} (xs : List α) : cut xs none (some (-1)) = xs.dropLast := by
  have e : cut xs none (some (-1)) = xs.take (xs.length - 1) := by
    unfold cut
    have h1 : HT.sIx xs.length 0 none = 0 := rfl
    have h2 : HT.sIx xs.length xs.length (some (-1)) = xs.length - 1 := by
      simp only [HT.sIx]
      rw [if_pos (by decide)]
      omega
    rw [h1, h2, List.drop_zero, Nat.sub_zero]
  rw [e, List.dropLast_eq_take]
end RL
namespace RL
open PySem PySem.Spec PyProof.Rows L2 Rep
/-- i, i + c, .. below j -/
def rng3 (i j c : Int) : List Int := (List.range (if i < j then (j - i - 1) / c + 1 else 0).toNat).map fun (k : Nat) => i + (k : Int) * c
theorem rng3_len {i j c : Int} : (rng3 i j c).length = (if i < j then (j - i - 1) / c + 1 else 0).toNat := by simp [rng3]
theorem small_pos {a b c : Int} (ha : -(2 ^ 62) ≤ a) (ha' : a < 2 ^ 62) (hb : -(2 ^ 62) ≤ b) (hb' : b < 2 ^ 62) (hc : 1 ≤ c) (hc' : c < 1073741824) : Builtin.Range.small a b c = true := by
  unfold Builtin.Range.small
  have h0 : Builtin.Range.rangeSize a b c = if a < b then (b - a - 1) / c + 1 else 0 := by
    unfold Builtin.Range.rangeSize
    rw [if_pos (by omega)]
  rw [h0]
  simp only [Builtin.Range.rangeFitsLong, Bool.and_eq_true, Bool.or_eq_true, decide_eq_true_eq, beq_iff_eq, show c > 0 by omega, if_true]
  by_cases h : a < b
  · rw [if_pos h]
    have h1 : (b - a - 1) / c ≤ b - a - 1 := Int.ediv_le_self c (by omega)
    have h2 : 0 ≤ (b - a - 1) / c := Int.ediv_nonneg (by omega) (by omega)
    omega
  · rw [if_neg h]
    omega
theorem walk_rng3 {K : PySem.W.Frag} {G : Hp} {lo hi c : Int} {n : Nat} (e : n = (if lo < hi then (hi - lo - 1) / c + 1 else 0).toNat) : WalkOf K (Itc lo c n) G (rng3 lo hi c) := fun G' H' s1 s2 => by
  subst e
  refine ⟨fun i h => by rw [rng3_len] at h; exact h, by rw [rng3_len]; exact Nat.le_refl _, fun i x v H'' hx y => ?_⟩
  obtain ⟨rfl, y⟩ := y
  unfold rng3 at hx
  rw [List.getElem?_map] at hx
  cases hq : (List.range (if lo < hi then (hi - lo - 1) / c + 1 else 0).toNat)[i]? with
  | none => rw [hq] at hx; cases hx
  | some t =>
    rw [hq] at hx
    obtain ⟨ht, he⟩ := List.getElem?_eq_some_iff.mp hq
    simp at he
    subst he
    cases hx
    exact ⟨G', Ext.refl s2, y⟩
section
variable {X : Cx} {σ : St} {G H : Hp} {D : Ends} {P : PV} {a b c tg : Expr} {pos p : Pos} {i j k : Int}
theorem ei_range3 (B : Bl X "range") (h : Ev X a σ G H i) (h' : Ev X b σ G H j) (h'' : Ev X c σ G H k) (hb : (-(2 ^ 62) ≤ i ∧ i < 2 ^ 62) ∧ -(2 ^ 62) ≤ j ∧ j < 2 ^ 62 ∧ j - i ≤ 16777216) (hk : 1 ≤ k) (hk' : k < 1073741824)
    (he : starEach [a, b, c] X.env = (false, eval a X.env) :: starEach [b, c] X.env := by rfl) (he2 : starEach [b, c] X.env = (false, eval b X.env) :: starEach [c] X.env := by rfl) (he3 : starEach [c] X.env = (false, eval c X.env) :: starEach [] X.env := by rfl) (hpl : (backTo pos (starEach [b, c] X.env)).any (·.1) = false := by rfl) :
    EvI X tg (.Call (.Name "range" p) [a, b, c] [] pos) σ G H (rng3 i j k) :=
  ⟨_, pi_range3 B.g B.m (pa_cons pe_sem (pa_cons pe_sem (pa_cons pe_sem pa_nil he3) he2) he) he hpl, fun G1 H1 x1 R r => h G1 H1 x1 _ fun G2 H2 v x2 _ pv => h' G2 H2 (x1.trans x2) _ fun G3 H3 u x3 _ pu => h'' G3 H3 ((x1.trans x2).trans x3) _ fun G4 H4 w x4 _ pw => by
    have h0 : Builtin.Range.rangeSize i j k = if i < j then (j - i - 1) / k + 1 else 0 := by
      unfold Builtin.Range.rangeSize
      rw [if_pos (by omega)]
    have h1 : (j - i - 1) / k ≤ j - i - 1 ∨ ¬ i < j := by
      by_cases z : i < j
      · exact .inl (Int.ediv_le_self k (by omega))
      · exact .inr z
    have h2 : 0 ≤ (j - i - 1) / k ∨ ¬ i < j := by
      by_cases z : i < j
      · exact .inl (Int.ediv_nonneg (by omega) (by omega))
      · exact .inr z
    refine ⟨i, j, k, (if i < j then (j - i - 1) / k + 1 else 0).toNat, by rw [show v = _ from pv, show u = _ from pu, show w = _ from pw], ⟨by omega, by omega, small_pos hb.1.1 hb.1.2 hb.2.1 hb.2.2.1 hk hk', ?_⟩, r _ G4 H4 ((x2.trans x3).trans x4) ?_ (walk_rng3 rfl)⟩
    · rw [h0]; split <;> omega
    · rw [rng3_len, sizeLine_eq]; split <;> omega⟩
/-! ### while -/
def wrun {S : Type} (c : S → Bool) (f : S → S) : Nat → S → S
  | 0, s => s
  | n + 1, s => if c s = true then wrun c f n (f s) else s
theorem wrun_step {S : Type} {c : S → Bool} {f : S → S} {m : Nat} {s s' y : S} (e : wrun c f m s = y) (hc : c s = true) (hm : 1 ≤ m) (hs : f s = s') : wrun c f (m - 1) s' = y := by
  cases m with
  | zero => omega
  | succ m =>
    rw [wrun, if_pos hc, hs] at e
    exact e
theorem wrun_stop {S : Type} {c : S → Bool} {f : S → S} {m : Nat} {s y : S} (e : wrun c f m s = y) (hc : c s = false) : s = y := by
  cases m with
  | zero => exact e
  | succ m =>
    rw [wrun, if_neg (by rw [hc]; decide)] at e
    exact e
theorem tk_whl {α S : Type} {a : α} {k : S → α} {c : S → Bool} {f : S → S} {m M : Nat} {s s0 : S} (h : a = k (wrun c f M s0)) (e : wrun c f m s = wrun c f M s0) (hc : c s = false) : a = k s := by
  rw [h, ← e, ← wrun_stop rfl hc]
theorem s_while {body : List Stmt} (hp : PassesOwn (model X.prog X.w) X.A X.env X.xe) (s0 : Same G H) (I : Nat → St → Hp → Hp → Prop) (M : Nat) (h0 : I M σ G H)
    (ht : ∀ m σ1 G1 H1, Same G G1 → Same G1 H1 → I m σ1 G1 H1 → ∃ b, EvT X c σ1 G1 H1 b ∧
      (b = true → ∀ G2 H2, Ext G1 H1 G2 H2 → HLen H2 → tSs X body { D with nx := fun σ' H' => ∃ m' G', m' < m ∧ Same G2 G' ∧ Same G' H' ∧ I m' σ' G' H', ct := fun σ' H' => ∃ m' G', m' < m ∧ Same G2 G' ∧ Same G' H' ∧ I m' σ' G' H', bk := D.nx } σ1 H2) ∧
      (b = false → ∀ G2 H2, Ext G1 H1 G2 H2 → HLen H2 → D.nx σ1 H2)) : tS X (.While c body [] pos) D σ H := by
  refine s_of (ps_while hp pt_sem pss_sem) ⟨fun m σ' H' => ∃ G', Same G G' ∧ Same G' H' ∧ I m σ' G' H', ⟨M, G, Same.refl _, s0, h0⟩, ?_⟩
  rintro m σ1 H1 ⟨G1, sg, sh, Iv⟩
  obtain ⟨b, hc, h1, h2⟩ := ht m σ1 G1 H1 sg sh Iv
  refine hc G1 H1 (Ext.refl sh) _ fun G2 H2 x2 l => ?_
  cases b with
  | false => exact h2 rfl G2 H2 x2 l
  | true =>
    refine ⟨fun σ2 H2 => ∃ m' G', m' < m ∧ Same G G' ∧ Same G' H2 ∧ I m' σ2 G' H2, fun σ2 H2 ⟨m', G', hm, a, b, c⟩ => ⟨m', hm, G', a, b, c⟩, ?_⟩
    intro pins s Iv'
    refine thn (h1 rfl G2 H2 x2 l pins s Iv') fun f s' q => ?_
    have fin : ∀ {H3 : Hp} {σ3 : St}, (∃ m' G', m' < m ∧ Same G2 G' ∧ Same G' H3 ∧ I m' σ3 G' H3) → ∃ m' G', m' < m ∧ Same G G' ∧ Same G' H3 ∧ I m' σ3 G' H3 := fun ⟨m', G', hm, a, b, c⟩ => ⟨m', G', hm, sg.trans (x2.g.trans a), b, c⟩
    cases f with
    | next =>
      obtain ⟨σ3, H3, I3, q⟩ := q
      exact ⟨σ3, H3, I3, fin q⟩
    | cont =>
      obtain ⟨σ3, H3, I3, q⟩ := q
      exact ⟨σ3, H3, I3, fin q⟩
    | brk => exact q
    | ret u => exact q
end
end RL
namespace RL
theorem enum_mem {α : Type} {z : Int × α} {xs : List α} (h : z ∈ enum xs) : 0 ≤ z.1 ∧ z.1 < (xs.length : Int) := by
  obtain ⟨i, hi, e⟩ := List.getElem_of_mem h
  have e2 : (enum xs)[i]? = some z := by rw [List.getElem?_eq_getElem hi, e]
  obtain ⟨e1, _⟩ := enum_get e2
  rw [enum_len] at hi
  omega
theorem rep_len {α : Type} (n : Nat) (a : α) : (List.replicate n [a]).flatten.length = n := by simp
theorem rep_len2 {α : Type} (n : Nat) (a b : α) : (List.replicate n [a, b]).flatten.length = n * 2 := by simp
end RL
namespace RL
theorem getD_set {xs : List Int} {i : Nat} {v : Int} (h : i < xs.length) : (xs.set i v).getD i 0 = v := by
  rw [List.getD_eq_getElem?_getD, List.getElem?_set_self h]
  rfl
end RL
namespace RL
open PySem PySem.Spec PyProof.Rows L2 Rep
section
variable {X : Cx} {σ : St} {G H : Hp} {p : Pos}
/-- a constant of the text -/
theorem ev_globI {n : Str} {i : Int} (hg : Gl X n) (h : ∃ t, X.mg n = some (.int i t)) (hd : (n == ("__debug__" : Str)) = false := by decide) : Ev X (.Name n p) σ G H i :=
  let ⟨t, h⟩ := h; ev_glob (v := .int i) hg h ⟨t, rfl⟩ (fun _ => rfl) hd
theorem ev_globS {n x : Str} (hg : Gl X n) (h : ∃ t, X.mg n = some (.str x t)) (hd : (n == ("__debug__" : Str)) = false := by decide) : Ev X (.Name n p) σ G H x :=
  let ⟨t, h⟩ := h; ev_glob (v := .str x) hg h ⟨t, rfl⟩ (fun _ => rfl) hd
end
end RL
namespace RL
open PySem PySem.Spec PyProof.Rows L2 Rep
section
variable {X : Cx} {σ : St} {G H : Hp} {es : List Expr} {pos p lp : Pos} {D : Ends}
/-- n = [..]: the def's own at once, whatever its items -/
theorem s_listO {α : Type} [Rep α] {xs : List α} {i : Nat} {n : Str} (hN : X.N.Nodup) (sl : Ss X i n) (s0 : Same G H) (h : EvA X es σ G H (AAll X.K xs)) (k : ∀ G1 H1 q, Ext G H G1 H1 → HLen H1 → H q = none → Own X.K G1 H1 q xs → D.nx (σ.set i (some (.ref q))) H1)
    (hl : xs.length ≤ 1000 := by exact Nat.le_of_ble_eq_true rfl) (hs : swapsWith (.List es lp) (some (.Name n p)) pos.line X.env = pure false := by rfl) : tS X (.Assign [.Name n p] (.List es lp) pos) D σ H :=
  s_of (ps_set hN sl.hN sl.hx pe_sem hs sl.hf) (tE_len fun pins s I => (pe_lst pa_sem).run pins s σ H _ I (h G H (Ext.refl s0) _ fun G1 H1 vs x _ pa => ⟨by rw [paired_len pa]; exact Nat.le_of_lt (small1000 hl), fun q hq l =>
    k G1 _ q (x.newH hq) l (x.h.free hq) ⟨⟨vs, upd_same, pa⟩, x.s.free hq⟩⟩))
end
end RL

set_option Elab.async false
set_option linter.all false
set_option maxRecDepth 100000
set_option maxHeartbeats 4000000
namespace RL
open PySem PySem.Spec PyProof.Rows L2 Rep
section
variable {X : Cx} {σ : St} {G H : Hp} {P Pa Pb : PV} {e a b c : Expr} {es : List Expr} {pos p : Pos} {α β γ : Type} [Rep α] [Rep β] [Rep γ]
def pl (x : α × α) : List α := [x.1, x.2]
theorem ei_zipT {x : α × α} {y : β × β} {elts : List Expr} {kk : Nat} {tpos : Pos} (B : Bl X "zip") (h : Ev X a σ G H x) (h' : Ev X b σ G H y)
    (he : starEach [a, b] X.env = (false, eval a X.env) :: starEach [b] X.env := by rfl) (he2 : starEach [b] X.env = (false, eval b X.env) :: starEach [] X.env := by rfl) (hpl : (backTo pos (starEach [b] X.env)).any (·.1) = false := by rfl) :
    EvI X (.Tuple elts kk tpos) (.Call (.Name "zip" p) [a, b] [] pos) σ G H ((pl x).zip (pl y)) :=
  ⟨_, RZ.pi_zipA B.g B.m (pa_cons pe_sem (pa_cons pe_sem pa_nil he2) he) he hpl, fun G1 H1 x1 R r => h G1 H1 x1 _ fun G2 H2 v x2 _ pv => h' G2 H2 (x1.trans x2) _ fun G3 H3 u x3 l3 pu => by
    obtain ⟨a1, w1, w2, e, g, p1, p2⟩ := up x3.g pv
    obtain ⟨a2, u1, u2, e', g', p1', p2'⟩ := pu
    have pr : Paired (rep X.K G3) [w1, w2] (pl x) := .cons p1 (.cons p2 .nil)
    have pr' : Paired (rep X.K G3) [u1, u2] (pl y) := .cons p1' (.cons p2' .nil)
    refine ⟨a1, a2, [w1, w2], [u1, u2], by rw [e, e'], .inr ⟨.of (x3.s _ _ g), .of (x3.s _ _ g'), r _ G3 H3 (x2.trans x3) (by rw [sizeLine_eq]; simp [pl]) fun G' H' s1 s2 => ?_⟩⟩
    have hq : SqT X.K H' a1 [w1, w2] := .of (s2 _ _ (s1 _ _ g))
    have hq' : SqT X.K H' a2 [u1, u2] := .of (s2 _ _ (s1 _ _ g'))
    refine ⟨fun i hi => ?_, ⟨_, _, hq, hq', ?_⟩, fun i z v H'' hx y => ?_⟩
    · rw [List.length_zip, ← paired_len pr, ← paired_len pr'] at hi
      have h1 : i < [w1, w2].length := by omega
      have h2 : i < [u1, u2].length := by omega
      exact ⟨_, _, [w1, w2][i], [u1, u2][i], hq, hq', List.getElem?_eq_getElem h1, List.getElem?_eq_getElem h2⟩
    · rw [List.length_zip, ← paired_len pr, ← paired_len pr']
      omega
    · obtain ⟨T, w, w2, rfl, hT, rfl, y, y2⟩ := y
      obtain ⟨e1, e2⟩ := List.getElem?_zip_eq_some.mp hx
      obtain ⟨w', hw, rw'⟩ := paired_get pr e1
      obtain ⟨w2', hw2, rw2'⟩ := paired_get pr' e2
      have e : w' = w := Option.some.inj (hw.symm.trans (y _ hq))
      have e2 : w2' = w2 := Option.some.inj (hw2.symm.trans (y2 _ hq'))
      subst e e2
      exact pair_new (x := z.1) (y := z.2) (K := X.K) s2 hT (up s1 rw') (up s1 rw2')⟩
end
end RL

set_option Elab.async false
set_option linter.all false
set_option maxRecDepth 100000
set_option maxHeartbeats 4000000
/-! RT: sorted(set(xs)) of a list of ints. -/
namespace L2
open PySem PySem.Spec PyProof.Rows PySem.Builtin
abbrev fset (w : World) : Obj := { cls := .type "set", dict := none, data := .set #[] 0 (.fresh 0 0 (!w.params.followText "set-order")) }
/-- set(l), l a list of ints -/
theorem set_of_ints {P : Program} {w : World} {A : Around} {E : Value → Shared → Prop} {s : Shared} {l : Addr} {items : Array Value} (ns : List Int) {Q : Value → Shared → Prop} (calm : A.handled = none) (hl : s.heap.IsList l items) (hit : IntsAre items.toList ns)
    (hb : ns.length + 1 < scanBound) (k : ∀ (h' : Heap) (tk c : Nat), SetR w h' s.heap.objs.size (fun j => decide (j ∈ ns)) c → (∀ b o, s.heap.get? b = some o → h'.get? b = some o) → Q (.ref s.heap.objs.size) { s with heap := h', toks := tk }) :
    wpAny (model P w) A (call (.type "set") [.ref l]) Q E s := by
  have size : items.size = ns.length := by have z := IntsAre.length hit; rwa [Array.length_toList] at z
  obtain ⟨m1, m2, mro⟩ := F.called_set.mro
  have made := F.called_set.made; have sub := F.called_set.sub
  refine wpAny_call (codeAny_of_tree ?_); show wpAny _ _ (callAny (.type "set") _) _ _ _
  refine wpAny_pure ⟨Code.quiet_builtin _ (by decide +kernel), codeAny_builtin F.entry_type_call ?_⟩
  rw [Around.under_plain (weight_type_call_type "set" [.ref l] []) rfl]
  have n1 := F.called_set.notType; have n2 := F.called_set.canCreate; have n3 := F.typeCall_set_1 (.ref l)
  repeat (any_goals (first | assumption | wp_step))
  refine codeAny_mono (code_set_led1 (.ref l) (E := E) (Q₁ := fun v s1 => v = .ref s.heap.objs.size ∧ s1 = { s with heap := s.heap.push (fset w) }) ⟨rfl, rfl⟩) fun res s1 hr => ?_
  rcases res with e | fl
  · exact hr
  rcases fl with _ | v | _ | _
  all_goals try exact hr.elim
  obtain ⟨rfl, rfl⟩ := hr
  have at0 : (s.heap.push (fset w)).get? s.heap.objs.size = some (fset w) := Heap.get?_push_size _ rfl
  have ty0 : Shared.TypeIs { s with heap := s.heap.push (fset w) } (.ref s.heap.objs.size) "set" := ⟨_, at0, rfl⟩
  have i1 := F.called_set.init.lookup; have i2 := F.called_set.init.bind (.ref s.heap.objs.size)
  repeat (any_goals (first | assumption | wp_step))
  refine codeAny_mono (codeAny_call_builtin (R := wants (fun r s2 => r = .none ∧ ∃ h' tk c, s2 = { s with heap := h', toks := tk } ∧ SetR w h' s.heap.objs.size (fun j => decide (j ∈ ns)) c ∧ ∀ b o, s.heap.get? b = some o → h'.get? b = some o) E)
    F.called_set.init.plain F.entry_set_init (check_set_init_1 ty0 ?_)) fun r2 s2 h2 => ?_
  · obtain ⟨ol, gl, cl, nl, dl⟩ := hl
    obtain ⟨oc, od, oda, osl⟩ := ol
    dsimp only at cl dl; subst cl dl
    have g1 : (s.heap.push (fset w)).get? l = some { cls := .type "list", dict := od, data := .seq items nl, slots := osl } := Heap.get?_push_of_some _ gl
    have b1 := F.sub_list_set; have b2 := F.sub_list_frozenset
    have b3 : (Value.type "list" == Value.type "dict") = false := by decide
    have lst : (s.heap.push (fset w)).IsList l items := ⟨_, g1, rfl, nl, rfl⟩
    unfold Builtin.«set.__init__» noKeywords Builtin.Frozenset.updateFrom
    generalize pi_ : pyIter = PI
    wp_walk
    subst pi_
    refine wpAny_pyIter_list lst (wpAny_bind (wpAny_runValue ?_))
    have lt : l < s.heap.objs.size := Heap.lt_size gl
    have nI : l ≠ (s.heap.push (fset w)).objs.size := by rw [Heap.size_push]; exact Nat.ne_of_lt (Nat.lt_succ_of_lt lt)
    have nS : s.heap.objs.size ∉ [(s.heap.push (fset w)).objs.size, l] := by
      rw [Heap.size_push]; intro z
      rcases List.mem_cons.mp z with z | z
      · exact Nat.ne_of_lt (Nat.lt_succ_self _) z
      · exact Nat.ne_of_gt lt (List.mem_singleton.mp z)
    have vals : ∀ (i : Nat) (v : Value), items[i]? = some v → ∃ k t, ns[i]? = some k ∧ v = .int k t := fun i v hv => by
      have hi : i < ns.length := size ▸ (Array.getElem?_eq_some_iff.mp hv).1
      obtain ⟨t, e⟩ := PyProof.Rows.IntsAre.int_at hit i v (by rw [Array.getElem?_toList]; exact hv)
      exact ⟨ns[i], t, List.getElem?_eq_getElem hi, by rw [e, List.getD_eq_getElem?_getD, List.getElem?_eq_getElem hi]; rfl⟩
    refine set_update_ints ((Walks.list (A := A.in1.in1.in1) (by simp [calm]) _ l nI items).toS) s.heap.objs.size nS ns size hb vals (items.size - 0) 0 _ (by omega) (Nat.zero_le _) ⟨⟨_, Heap.get?_push_size _ rfl, rfl, rfl⟩, lst.push _⟩
      ⟨0, Nat.le_refl 0, setR_new_at (Heap.get?_push_of_some _ at0)⟩ ?_
    rintro ⟨h', g2, d2, t2, o2⟩ c mv _ sr
    obtain rfl : g2 = s.gens := mv.gens
    obtain rfl : d2 = s.drawn := mv.drawn
    obtain rfl : o2 = s.os := mv.os
    show wpAny _ _ _ _ _ _
    refine wpAny_pure ?_
    show wpAny _ _ (ret Value.none) _ _ _
    refine wpAny_pure ⟨rfl, h', t2, c, rfl, sr, fun b o e => ?_⟩
    have b0 := Heap.lt_size e
    refine mv.heap b o (fun z => ?_) (Heap.get?_push_of_some _ (Heap.get?_push_of_some _ e))
    rcases List.mem_cons.mp z with z | z
    · exact Nat.ne_of_lt b0 z
    · have z := List.mem_singleton.mp z; rw [Heap.size_push] at z; exact Nat.ne_of_lt (Nat.lt_succ_of_lt b0) z
  · rcases r2 with e | f2
    · exact h2
    rcases f2 with _ | r | _ | _
    all_goals try exact h2.elim
    obtain ⟨rfl, h', tk, c, rfl, sr, kp⟩ := h2
    repeat (any_goals (first | assumption | wp_step))
    exact k _ _ _ sr kp
/-- .. as a rule -/
def rSetI (K : PySem.W.Frag) (w : World) : List V → Hp → VK → Prop := fun vs H Q => ∃ (a : Addr) (ns : List Int), vs = [V.ref a] ∧ SqL K H a (ns.map V.int) ∧ ns.length ≤ 4000 ∧ ∀ p n, H p = none → (∀ l : List Int, l.Nodup → (∀ k, k ∈ l ↔ k ∈ ns) → l.length = n) →
  Q (.ref p) (upd H p (SetO w p (fun j => decide (j ∈ ns)) n))
theorem cr_setI {X : Cx} (hc : X.calm = true) : CallR X (.type "set") (rSetI X.K X.w) := by
  rintro pins s σ H vs us Q I r ⟨a, ns, rfl, hq, hl, q⟩
  rw [Vals.ref1 r]
  obtain ⟨its, rv, il, _⟩ := I.list hq
  have hi := ints_of_vals rv
  refine set_of_ints ns (I.ok.hd hc) (show s.heap.IsList a its.toArray from let ⟨_, _, ho, hc, _, hd⟩ := il; ⟨_, ho, hc, _, hd⟩) hi (by unfold scanBound; omega) fun h' tk c sr kp => ?_
  have nn : H s.heap.objs.size = none := I.hok.fresh (Nat.le_refl _)
  refine ⟨.ref s.heap.objs.size, _, I.laid (t' := tk) kp (Nat.le_refl _) (setO_new sr), rfl, q _ c nn fun l nd hm => ?_⟩
  obtain ⟨o, es, ep, t, _, _, _, g, nd2, hm2, _, _, hn, _⟩ := sr
  have pm : l.Perm (es.toList.map keyOf) := (List.perm_ext_iff_of_nodup nd nd2).mpr fun j => by rw [hm j, ← hm2 j]; simp
  rw [pm.length_eq, List.length_map, Array.length_toList, hn]
end L2
namespace RL
open PySem PySem.Spec PyProof.Rows L2 Rep
/-- each once -/
def once : List Int → List Int
  | [] => []
  | x :: xs => if x ∈ xs then once xs else x :: once xs
theorem mem_once {k : Int} : ∀ {xs : List Int}, k ∈ once xs ↔ k ∈ xs
  | [] => Iff.rfl
  | x :: xs => by
    unfold once
    split
    · rename_i h
      rw [mem_once, List.mem_cons]
      exact ⟨.inr, fun z => z.elim (fun e => e ▸ h) id⟩
    · rw [List.mem_cons, List.mem_cons, mem_once]
theorem once_nodup : ∀ xs : List Int, (once xs).Nodup
  | [] => List.nodup_nil
  | x :: xs => by
    unfold once
    split
    · exact once_nodup xs
    · rename_i h
      exact List.nodup_cons.mpr ⟨fun z => h (mem_once.mp z), once_nodup xs⟩
/-- sorted(set(xs)) -/
def sset (xs : List Int) : List Int := isort (once xs)
theorem mem_sset {k : Int} {xs : List Int} : k ∈ sset xs ↔ k ∈ xs := ((isort_perm _).mem_iff).trans mem_once
theorem sset_nodup (xs : List Int) : (sset xs).Nodup := (isort_perm _).nodup_iff.mpr (once_nodup xs)
theorem sset_sorted (xs : List Int) : (sset xs).Pairwise (· < ·) := by
  have h1 := isort_sorted (once xs)
  have h2 := sset_nodup xs
  unfold sset at h2 ⊢
  rw [List.nodup_iff_pairwise_ne] at h2
  exact (h1.and h2).imp fun ⟨a, b⟩ => Int.lt_iff_le_and_ne.mpr ⟨a, b⟩
theorem sset_le (xs : List Int) : (sset xs).length ≤ xs.length := by
  have e : (sset xs).length = (once xs).length := (isort_perm _).length_eq
  rw [e]
  clear e
  induction xs with
  | nil => exact Nat.le_refl _
  | cons x xs ih =>
    unfold once
    split
    · exact Nat.le_succ_of_le ih
    · exact Nat.succ_le_succ ih
/-- two rising lists of the same -/
theorem rising_ext : ∀ {xs ys : List Int}, xs.Pairwise (· < ·) → ys.Pairwise (· < ·) → (∀ k, k ∈ xs ↔ k ∈ ys) → xs = ys
  | [], [], _, _, _ => rfl
  | [], y :: ys, _, _, h => absurd ((h y).mpr List.mem_cons_self) (by simp)
  | x :: xs, [], _, _, h => absurd ((h x).mp List.mem_cons_self) (by simp)
  | x :: xs, y :: ys, hx, hy, h => by
    rw [List.pairwise_cons] at hx hy
    have e : x = y := by
      rcases List.mem_cons.mp ((h x).mp List.mem_cons_self) with e | e
      · exact e
      · rcases List.mem_cons.mp ((h y).mpr List.mem_cons_self) with e' | e'
        · exact e'.symm
        · have := hy.1 x e
          have := hx.1 y e'
          omega
    subst e
    congr 1
    refine rising_ext hx.2 hy.2 fun k => ⟨fun hk => ?_, fun hk => ?_⟩
    · rcases List.mem_cons.mp ((h k).mp (List.mem_cons_of_mem _ hk)) with e | e
      · have := hx.1 k hk; omega
      · exact e
    · rcases List.mem_cons.mp ((h k).mpr (List.mem_cons_of_mem _ hk)) with e | e
      · have := hy.1 k hk; omega
      · exact e
/-- rising lists between bounds are short -/
theorem rising_len : ∀ {xs : List Int} {lo hi : Int}, xs.Pairwise (· < ·) → (∀ k ∈ xs, lo ≤ k ∧ k < hi) → xs.length ≤ (hi - lo).toNat
  | [], _, _, _, _ => Nat.zero_le _
  | x :: xs, lo, hi, h, hb => by
    rw [List.pairwise_cons] at h
    have h0 := hb x List.mem_cons_self
    have := rising_len (lo := x + 1) (hi := hi) h.2 fun k hk => ⟨by have := h.1 k hk; omega, (hb k (List.mem_cons_of_mem _ hk)).2⟩
    rw [List.length_cons]
    omega
section
variable {X : Cx} {σ : St} {G H : Hp} {P : PV} {e : Expr} {pos p p2 : Pos}
/-- sorted(set(e)) -/
theorem ev_sset {xs : List Int} [MonoC P] [s : AsSeq X.K P Int instRepInt xs] (hc : X.calm = true) (B : Bl X "sorted") (B2 : Bl X "set") (hl : xs.length ≤ 4000) (h64 : (sset xs).length < 64) (h : EvP X e σ G H P) (he : starEach [e] X.env = (false, eval e X.env) :: starEach [] X.env := by rfl)
    (he2 : starEach [.Call (.Name "set" p2) [e] [] p] X.env = (false, eval (.Call (.Name "set" p2) [e] [] p) X.env) :: starEach [] X.env := by rfl) {pn : Pos} : Ev X (.Call (.Name "sorted" pn) [.Call (.Name "set" p2) [e] [] p] [] pos) σ G H (sset xs) := by
  have hs : EvP X (.Call (.Name "set" p2) [e] [] p) σ G H (fun _ H v => ∃ a n, v = .ref a ∧ H a = some (SetO X.w a (fun j => decide (j ∈ xs)) n) ∧ n < 64) :=
    ev_callTy (cr_setI hc) B2.g B2.m PyProof.Rows.boot_set (ea_cons h ea_nil he) (fun G1 H1 vs x l ⟨v, r, e1, pv, e2⟩ Q q => by
      obtain ⟨a, us, e, g, pr⟩ := s.seq _ _ _ x.s pv
      rw [paired_ints pr] at g
      refine ⟨a, xs, by rw [e1, e2, e], g, hl, fun a n hn hc => q G1 _ _ ((Ext.refl x.s).newH hn) ⟨a, n, rfl, upd_same, ?_⟩⟩
      rw [← hc (sset xs) (sset_nodup xs) fun k => mem_sset]
      exact h64) (by decide) (by decide) he rfl
  have : MonoC (fun (_ : Hp) (H : Hp) v => ∃ a n, v = V.ref a ∧ H a = some (SetO X.w a (fun j => decide (j ∈ xs)) n) ∧ n < 64) := ⟨fun _ _ _ _ _ x ⟨a, n, e, g, z⟩ => ⟨a, n, e, x.h _ _ g, z⟩⟩
  exact ev_callB (cr_sortedSet hc) B.g B.m PyProof.Rows.boot_sorted (ea_cons hs ea_nil he2) (fun G1 H1 vs x l ⟨v, r, e1, pv, e2⟩ Q q => by
    obtain ⟨a, n, rfl, g, hn⟩ := pv
    refine ⟨a, _, n, by rw [e1, e2], g, hn, fun ns p srt mem len hp => ?_⟩
    have e : ns = sset xs := rising_ext srt (sset_sorted xs) fun k => by rw [mem k, mem_sset]; simp
    subst e
    exact q (upd G1 p (.lst _)) _ _ ((Ext.refl x.s).new hp) ⟨p, _, rfl, upd_same, ints_paired _⟩) (by decide) (by decide) he2 rfl
end
end RL

set_option maxHeartbeats 4000000
namespace Q
open PySem PySem.Spec PyProof.Rows L2 RL Rep
/-! need_modulus -/
def m_need_modulus (modulus : Int) : Unit :=
  (if (decide (modulus < (1 : Int))) = true then () else ())
/-! are_places -/
def m_are_places_1s (row : (List Int)) (place : Int) : Int → (LR Bool Int) := fun last => (if (!(decide (last < place) && decide (place < ((row).length : Int)))) = true then (.ret false) else (.nxt place))
def m_are_places_2  : Int → Bool := fun last => true
def m_are_places (row : (List Int)) (places : (List Int)) : Bool :=
  ((lrun (m_are_places_1s row) places (-1 : Int)).out m_are_places_2)

theorem all_lt {ps : List Int} {n p : Int} (hx : p ∈ ps) (h : ∀ p ∈ ps, 0 ≤ p ∧ p < n) : p < n := (h p hx).2
theorem all_ge {ps : List Int} {n p : Int} (hx : p ∈ ps) (h : ∀ p ∈ ps, 0 ≤ p ∧ p < n) : 0 ≤ p := (h p hx).1

/-- rising, above last, below n -/
def asc (n : Nat) : Int → List Int → Bool
  | _, [] => true
  | last, p :: ps => decide (last < p) && decide (p < (n : Int)) && asc n p ps
theorem asc_iff {n : Nat} : ∀ {ps : List Int} {last : Int}, asc n last ps = true ↔ ps.Pairwise (· < ·) ∧ ∀ p ∈ ps, last < p ∧ p < (n : Int)
  | [], last => by simp [asc]
  | q :: qs, last => by
    rw [asc, Bool.and_eq_true, Bool.and_eq_true, decide_eq_true_eq, decide_eq_true_eq, asc_iff, List.pairwise_cons]
    constructor
    · rintro ⟨⟨h1, h2⟩, h3, h4⟩
      refine ⟨⟨fun z hz => (h4 z hz).1, h3⟩, fun p hp => ?_⟩
      rcases List.mem_cons.mp hp with rfl | hp
      · exact ⟨h1, h2⟩
      · have := h4 p hp; omega
    · rintro ⟨⟨h1, h2⟩, h3⟩
      have := h3 q List.mem_cons_self
      exact ⟨this, h2, fun p hp => ⟨h1 p hp, (h3 p (List.mem_cons_of_mem _ hp)).2⟩⟩
theorem are_go (row : List Int) : ∀ (ps : List Int) (last : Int), (lrun (m_are_places_1s row) ps last).out m_are_places_2 = asc row.length last ps
  | [], last => rfl
  | p :: ps, last => by
    rw [lrun_cons, asc]
    have e : m_are_places_1s row p last = if (decide (last < p) && decide (p < (row.length : Int))) = true then .nxt p else .ret false := by
      unfold m_are_places_1s
      by_cases h1 : last < p <;> by_cases h2 : p < (row.length : Int) <;> simp [h1, h2]
    rw [e]
    by_cases h : (decide (last < p) && decide (p < (row.length : Int))) = true
    · rw [if_pos h, h, Bool.true_and]
      exact are_go row ps p
    · rw [if_neg h]
      have : (decide (last < p) && decide (p < (row.length : Int))) = false := by simpa only [Bool.not_eq_true] using h
      rw [this]; rfl
theorem are_eq (row places : List Int) : m_are_places row places = asc row.length (-1) places := are_go row places (-1)
theorem are_all {row places : List Int} (h : m_are_places row places = true) : ∀ p ∈ places, 0 ≤ p ∧ p < (row.length : Int) := fun p hp => by
  rw [are_eq] at h
  have := (asc_iff.mp h).2 p hp
  omega

/-! rests -/
def m_rests (row : (List Int)) (modulus : Int) : (List Int) :=
  (row.map (fun (number : Int) => (number % modulus)))

theorem post_rests (row : List Int) (modulus : Int) (h : 1 ≤ modulus) : (m_rests row modulus).length = row.length := by
  unfold m_rests
  exact List.length_map _

/-! is_hit -/
def m_is_hit (row : (List Int)) (modulus : Int) (places : (List Int)) : Bool :=
  (if ((decide (places = ([] : List Int))) || (!(m_are_places row places))) = true then false else (decide ((((places.map (fun (place : Int) => ((row).getD (place).toNat (0 : Int))))).sum % modulus) = (0 : Int))))
/-! sums_ahead -/
def m_sums_ahead_1s (modulus : Int) (rest_ : Int) : (List Int) → (List Int) := fun found => (found ++ [((((found).getD ((found).length - 1) (0 : Int)) + rest_) % modulus)])
def m_sums_ahead_2  : (List Int) → (List Int) := fun found => found
def m_sums_ahead (row : (List Int)) (modulus : Int) : (List Int) :=
  (m_sums_ahead_2 (lfold (m_sums_ahead_1s modulus) (m_rests row modulus) ([(0 : Int)] : List Int)))

def psums (m : Int) : List Int → Int → List Int
  | [], _ => []
  | x :: xs, a => (a + x) % m :: psums m xs ((a + x) % m)
theorem sums_fold (m : Int) : ∀ (ys acc : List Int) (a : Int), lfold (m_sums_ahead_1s m) ys (acc ++ [a]) = acc ++ [a] ++ psums m ys a
  | [], acc, a => by simp [lfold, psums]
  | y :: ys, acc, a => by
    have e : m_sums_ahead_1s m y (acc ++ [a]) = (acc ++ [a]) ++ [(a + y) % m] := by
      unfold m_sums_ahead_1s
      rw [List.getD_eq_getElem?_getD, List.length_append, List.length_singleton, Nat.add_sub_cancel, List.getElem?_append_right (Nat.le_refl _), Nat.sub_self]
      rfl
    rw [lfold, e, sums_fold m ys (acc ++ [a]) ((a + y) % m), psums, List.append_assoc]
    rfl
theorem psums_eq (m : Int) : ∀ (row : List Int) (a b : Int), b = a % m → psums m (row.map (· % m)) b = (List.range row.length).map fun (k : Nat) => (a + (row.take (k + 1)).sum) % m
  | [], _, _, _ => rfl
  | x :: xs, a, b, h => by
    have e : (b + x % m) % m = (a + x) % m := by rw [h, ← Int.add_emod]
    rw [List.map_cons, psums, e, psums_eq m xs (a + x) _ rfl, List.length_cons, List.range_succ_eq_map, List.map_cons, List.map_map]
    congr 1
    · simp
    · refine List.map_congr_left fun k _ => ?_
      show (a + x + (xs.take (k + 1)).sum) % m = (a + ((x :: xs).take (k + 1 + 1)).sum) % m
      rw [List.take_succ_cons, List.sum_cons, Int.add_assoc]
theorem sums_eq (row : List Int) (modulus : Int) (h : 1 ≤ modulus) : m_sums_ahead row modulus = (List.range (row.length + 1)).map fun (k : Nat) => (row.take k).sum % modulus := by
  have e := sums_fold modulus (m_rests row modulus) [] 0
  rw [List.nil_append] at e
  have e2 : m_sums_ahead row modulus = [0] ++ psums modulus (m_rests row modulus) 0 := e
  rw [e2]
  have e3 := psums_eq modulus row 0 0 (by simp)
  unfold m_rests
  rw [e3, List.range_succ_eq_map, List.map_cons, List.map_map]
  simp
theorem post_sums_ahead (row : List Int) (modulus : Int) (h : 1 ≤ modulus ∧ row.length ≤ 1000) : (m_sums_ahead row modulus).length = row.length + 1 := by
  rw [sums_eq _ _ h.1, List.length_map, List.length_range]

/-! q_hit -/
def m_q_hit (row : (List Int)) (modulus : Int) (places : (List Int)) : Bool :=
  (m_is_hit row modulus places)
/-! q_stir -/
def m_q_stir_2 (number : Int) : Int :=
  (((number * (39373 : Int)) % (2147483587 : Int)) / (8 : Int))
def m_q_stir_1 (number : Int) : Int :=
  m_q_stir_2 ((number * number) % (2147483629 : Int))
def m_q_stir (cell : Int) (k : Int) : Int :=
  (if (decide (cell ≥ (1000000000000000000 : Int))) = true then (((cell - (1000000000000000000 : Int)) / 2 ^ (((28 : Int) * k)).toNat) % (268435456 : Int)) else m_q_stir_1 (((((cell % (2147483629 : Int)) + ((1013 : Int) * k)) + (1 : Int)) * (16807 : Int)) % (2147483647 : Int)))

theorem post_q_stir (cell k : Int) (h : 0 ≤ k) : 0 ≤ m_q_stir cell k ∧ m_q_stir cell k < 268435456 := by
  unfold m_q_stir m_q_stir_1 m_q_stir_2
  split <;> omega

/-! q_cells -/
def m_q_cells (script : Scr) (many : Int) : (List Int) :=
  (cut ((cut script.ns none (some many)) ++ ([(0 : Int)] : List Int)) none (some (if (if ((script.ns).length : Int) < many then ((script.ns).length : Int) else many) > (1 : Int) then (if ((script.ns).length : Int) < many then ((script.ns).length : Int) else many) else (1 : Int))))
/-! q_modulus -/
def m_q_modulus_1 (cell : Int) (one : Int) : Int :=
  ((([(1 : Int), ((2 : Int) + (one % (3 : Int))), ((2 : Int) + (one % (9 : Int))), ((1 : Int) + (one % (60 : Int))), ((60 : Int) - (one % (3 : Int)))] : List Int)).getD (((m_q_stir cell (0 : Int)) % (5 : Int))).toNat (0 : Int))
def m_q_modulus (cell : Int) : Int :=
  m_q_modulus_1 cell (m_q_stir cell (1 : Int))

theorem post_q_modulus (cell : Int) (_ : True) : 1 ≤ m_q_modulus cell ∧ m_q_modulus cell ≤ 60 := by
  unfold m_q_modulus m_q_modulus_1
  refine getD_bd' (lo := 1) (hi := 60) (by simp only [List.length_cons, List.length_nil]; omega) fun x hx => ?_
  simp only [List.mem_cons, List.mem_nil_iff, or_false] at hx
  rcases hx with rfl | rfl | rfl | rfl | rfl <;> omega

/-! q_row -/
def m_q_row_9 (kind : Int) (found : (List Int)) (some_ : (List Int)) : (List Int) :=
  (found ++ [((some_).getD (kind).toNat (0 : Int))])
def m_q_row_8 (modulus : Int) (kind : Int) (found : (List Int)) (one : Int) (two : Int) (some_ : (List Int)) : (List Int) :=
  m_q_row_9 kind found (some_ ++ ([((modulus * ((two % (1000 : Int)) - (500 : Int))) + (one % (3 : Int))), ((if (decide ((one % (8 : Int)) > (0 : Int))) = true then 1 else 0 : Int) + (modulus * (two % (5 : Int))))] : List Int))
def m_q_row_7 (cell : Int) (modulus : Int) (kind : Int) (found : (List Int)) (one : Int) (two : Int) (far : Int) : (List Int) :=
  m_q_row_8 modulus kind found one two ([(one % (7 : Int)), ((one % (2001 : Int)) - (1000 : Int)), far, (((m_q_stir cell (10 : Int)) % (200 : Int)) - (99 : Int)), (one % modulus)] : List Int)
def m_q_row_6 (cell : Int) (modulus : Int) (kind : Int) (found : (List Int)) (one : Int) (two : Int) : (List Int) :=
  m_q_row_7 cell modulus kind found one two ((((two % (2 : Int)) * (2 : Int)) - (1 : Int)) * ((one * (1000000000000000000000 : Int)) + two))
def m_q_row_5 (cell : Int) (modulus : Int) (kind : Int) (found : (List Int)) (k : Int) (one : Int) : (List Int) :=
  m_q_row_6 cell modulus kind found one (m_q_stir cell ((60 : Int) + k))
def m_q_row_3s (cell : Int) (modulus : Int) (kind : Int) (k : Int) : (List Int) → (List Int) := fun found => m_q_row_5 cell modulus kind found k (m_q_stir cell ((10 : Int) + k))
def m_q_row_4  : (List Int) → (List Int) := fun found => found
def m_q_row_2 (cell : Int) (modulus : Int) (most : Int) (many : Int) (kind : Int) : (List Int) :=
  (m_q_row_4 (lfold (m_q_row_3s cell modulus kind) (rng 0 (if many < most then many else most)) ([] : (List Int))))
def m_q_row_1 (cell : Int) (modulus : Int) (most : Int) (many : Int) : (List Int) :=
  m_q_row_2 cell modulus most many ((m_q_stir cell (4 : Int)) % (7 : Int))
def m_q_row (cell : Int) (modulus : Int) (most : Int) : (List Int) :=
  m_q_row_1 cell modulus most ((([((m_q_stir cell (2 : Int)) % (5 : Int)), ((m_q_stir cell (2 : Int)) % (most + (1 : Int))), most] : List Int)).getD (((m_q_stir cell (3 : Int)) % (3 : Int))).toNat (0 : Int))

theorem post_q_row (cell modulus most : Int) (h : 1 ≤ modulus ∧ modulus ≤ 60 ∧ 0 ≤ most ∧ most ≤ 40) : (m_q_row cell modulus most).length ≤ 40 := by
  unfold m_q_row m_q_row_1 m_q_row_2 m_q_row_4
  rw [lfold_len (c := 1) (fun x s => by
    show (m_q_row_3s _ _ _ x s).length = _
    unfold m_q_row_3s m_q_row_5 m_q_row_6 m_q_row_7 m_q_row_8 m_q_row_9
    simp only [List.length_append, List.length_cons, List.length_nil]), rng_len]
  simp only [List.length_nil]
  split <;> omega

/-! q_rest -/
def m_q_rest (number : Int) (modulus : Int) : Int :=
  (number - ((number / modulus) * modulus))

theorem rest_eq (number modulus : Int) : m_q_rest number modulus = number % modulus := by
  unfold m_q_rest
  rw [Int.emod_def, Int.mul_comm]

/-! q_some -/
def m_q_some_1 (many : Int) (bits : Int) : (List Int) :=
  (((rng 0 many).filter (fun (place : Int) => (decide ((Builtin.bitAnd (bits / 2 ^ (place).toNat) (1 : Int)) = (1 : Int))))).map (fun (place : Int) => place))
def m_q_some (cell : Int) (base_ : Int) (many : Int) : (List Int) :=
  m_q_some_1 many (((m_q_stir cell base_) * (268435456 : Int)) + (m_q_stir cell (base_ + (1 : Int))))

theorem post_q_some (cell base many : Int) (h : 0 ≤ base ∧ 0 ≤ many ∧ many ≤ 63) : (m_q_some cell base many).length ≤ many.toNat ∧ ∀ p ∈ m_q_some cell base many, 0 ≤ p ∧ p < many := by
  unfold m_q_some m_q_some_1
  refine ⟨?_, fun p hp => ?_⟩
  · rw [List.length_map]
    refine Nat.le_trans (List.length_filter_le _ _) ?_
    rw [rng_len]; omega
  · obtain ⟨q, hq, rfl⟩ := List.mem_map.mp hp
    have := mem_rng.mp (List.mem_filter.mp hq).1
    exact this

/-! q_completed -/
def m_q_completed_2s (row : (List Int)) (modulus : Int) (places : (List Int)) (total : Int) (place : Int) : Unit → (LR (List Int) Unit) := fun _ => (if ((!decide (place ∈ places)) && (decide ((m_q_rest (total + ((row).getD (place).toNat (0 : Int))) modulus) = (0 : Int)))) = true then (.ret (isort (places ++ ([place] : List Int)))) else (.nxt ()))
def m_q_completed_4s (row : (List Int)) (modulus : Int) (places : (List Int)) (total : Int) (place : Int) : Unit → (LR (List Int) Unit) := fun _ => (if (decide ((m_q_rest (total - ((row).getD (place).toNat (0 : Int))) modulus) = (0 : Int))) = true then (.ret ((places.filter (fun (one : Int) => (!decide (one = place)))).map (fun (one : Int) => one))) else (.nxt ()))
def m_q_completed_5 (places : (List Int)) : Unit → (List Int) := fun _ => places
def m_q_completed_3 (row : (List Int)) (modulus : Int) (places : (List Int)) (total : Int) : Unit → (List Int) := fun _ => ((lrun (m_q_completed_4s row modulus places total) places ()).out (m_q_completed_5 places))
def m_q_completed_1 (row : (List Int)) (modulus : Int) (places : (List Int)) (total : Int) : (List Int) :=
  ((lrun (m_q_completed_2s row modulus places total) (rng 0 ((row).length : Int)) ()).out (m_q_completed_3 row modulus places total))
def m_q_completed (row : (List Int)) (modulus : Int) (places : (List Int)) : (List Int) :=
  m_q_completed_1 row modulus places (((places.map (fun (place : Int) => ((row).getD (place).toNat (0 : Int))))).sum)

theorem compl_a {row : List Int} {modulus total : Int} {places : List Int} (h : ∀ p ∈ places, 0 ≤ p ∧ p < (row.length : Int)) : ∀ (xs : List Int), (∀ x ∈ xs, 0 ≤ x ∧ x < (row.length : Int)) → ∀ r, lrun (m_q_completed_2s row modulus places total) xs () = .ret r → r.length ≤ places.length + 1 ∧ ∀ p ∈ r, 0 ≤ p ∧ p < (row.length : Int)
  | [], _, r, e => by cases e
  | x :: xs, hx, r, e => by
    rw [lrun_cons] at e
    unfold m_q_completed_2s at e
    split at e
    · rename_i s' h'
      split at h'
      · cases h'
      · exact compl_a h xs (fun y hy => hx y (List.mem_cons_of_mem _ hy)) r e
    · rename_i s' h'
      split at h' <;> cases h'
    · rename_i r' h'
      split at h'
      · cases h'
        cases e
        refine ⟨by rw [isort_len, List.length_append, List.length_singleton]; exact Nat.le_refl _, fun p hp => ?_⟩
        have := (isort_perm _).mem_iff.mp hp
        rcases List.mem_append.mp this with z | z
        · exact h p z
        · rw [List.mem_singleton.mp z]; exact hx x List.mem_cons_self
      · cases h'
theorem compl_b {row : List Int} {modulus total : Int} {places : List Int} (h : ∀ p ∈ places, 0 ≤ p ∧ p < (row.length : Int)) : ∀ (xs : List Int), ∀ r, lrun (m_q_completed_4s row modulus places total) xs () = .ret r → r.length ≤ places.length + 1 ∧ ∀ p ∈ r, 0 ≤ p ∧ p < (row.length : Int)
  | [], r, e => by cases e
  | x :: xs, r, e => by
    rw [lrun_cons] at e
    unfold m_q_completed_4s at e
    split at e
    · rename_i s' h'
      split at h'
      · cases h'
      · exact compl_b h xs r e
    · rename_i s' h'
      split at h' <;> cases h'
    · rename_i r' h'
      split at h'
      · cases h'
        cases e
        refine ⟨by rw [List.length_map]; exact Nat.le_trans (List.length_filter_le _ _) (Nat.le_succ _), fun p hp => ?_⟩
        obtain ⟨q, hq, rfl⟩ := List.mem_map.mp hp
        exact h _ (List.mem_filter.mp hq).1
      · cases h'
theorem compl_all (row : List Int) (modulus : Int) (places : List Int) (h : ∀ p ∈ places, 0 ≤ p ∧ p < (row.length : Int)) : (m_q_completed row modulus places).length ≤ places.length + 1 ∧ ∀ p ∈ m_q_completed row modulus places, 0 ≤ p ∧ p < (row.length : Int) := by
  unfold m_q_completed m_q_completed_1
  cases e : lrun (m_q_completed_2s row modulus places (places.map fun (place : Int) => row.getD place.toNat 0).sum) (rng 0 (row.length : Int)) () with
  | ret r => exact compl_a h _ (fun x hx => mem_rng.mp hx) r e
  | nxt u =>
    show (m_q_completed_3 _ _ _ _ u).length ≤ _ ∧ ∀ p ∈ m_q_completed_3 _ _ _ _ u, _
    unfold m_q_completed_3
    cases e2 : lrun (m_q_completed_4s row modulus places (places.map fun (place : Int) => row.getD place.toNat 0).sum) places () with
    | ret r => exact compl_b h _ r e2
    | nxt v => exact ⟨Nat.le_succ _, h⟩
    | brk v => exact ⟨Nat.le_succ _, h⟩
  | brk u =>
    show (m_q_completed_3 _ _ _ _ u).length ≤ _ ∧ ∀ p ∈ m_q_completed_3 _ _ _ _ u, _
    unfold m_q_completed_3
    cases e2 : lrun (m_q_completed_4s row modulus places (places.map fun (place : Int) => row.getD place.toNat 0).sum) places () with
    | ret r => exact compl_b h _ r e2
    | nxt v => exact ⟨Nat.le_succ _, h⟩
    | brk v => exact ⟨Nat.le_succ _, h⟩
theorem post_q_completed (row : List Int) (modulus : Int) (places : List Int) (h : (1 ≤ modulus ∧ modulus ≤ 60) ∧ (∀ p ∈ places, 0 ≤ p ∧ p < (row.length : Int)) ∧ places.length ≤ 1000 ∧ row.length ≤ 1000) : (m_q_completed row modulus places).length ≤ places.length + 1 ∧ ∀ p ∈ m_q_completed row modulus places, 0 ≤ p ∧ p < (row.length : Int) := compl_all row modulus places h.2.1

/-! q_joined_right -/
def m_q_joined_right_4 (row : (List Int)) (modulus : Int) (other : (List Int)) (both : (List Int)) (hits : (List Bool)) (common : (List Int)) (rest_ : (List Int)) : Bool :=
  (if ((decide (hits = ([true, true] : List Bool))) && ((decide (((common).length : Int) = ((other).length : Int))) && ((!decide (rest_ = ([] : List Int))) && (!(m_q_hit row modulus rest_))))) = true then false else (decide ((m_q_hit row (1 : Int) both) = (!decide (both = ([] : List Int))))))
def m_q_joined_right_3 (row : (List Int)) (modulus : Int) (one : (List Int)) (other : (List Int)) (both : (List Int)) (hits : (List Bool)) (common : (List Int)) : Bool :=
  (if ((decide (hits = ([true, true] : List Bool))) && ((decide (common = ([] : List Int))) && (!(m_q_hit row modulus both)))) = true then false else m_q_joined_right_4 row modulus other both hits common ((one.filter (fun (place : Int) => (!decide (place ∈ other)))).map (fun (place : Int) => place)))
def m_q_joined_right_2 (row : (List Int)) (modulus : Int) (one : (List Int)) (other : (List Int)) (both : (List Int)) (hits : (List Bool)) : Bool :=
  m_q_joined_right_3 row modulus one other both hits ((one.filter (fun (place : Int) => (decide (place ∈ other)))).map (fun (place : Int) => place))
def m_q_joined_right_1 (row : (List Int)) (modulus : Int) (one : (List Int)) (other : (List Int)) (both : (List Int)) : Bool :=
  m_q_joined_right_2 row modulus one other both (([one, other] : List (List Int)).map (fun (places : (List Int)) => (m_q_hit row modulus places)))
def m_q_joined_right (row : (List Int)) (modulus : Int) (one : (List Int)) (other : (List Int)) : Bool :=
  m_q_joined_right_1 row modulus one other (isort (one ++ ((other.filter (fun (place : Int) => (!decide (place ∈ one)))).map (fun (place : Int) => place))))

theorem div60 {m : Int} (h : 1 ≤ m) (h' : m ≤ 60) : 1 ≤ 60 / m := Int.le_ediv_of_mul_le (by omega) (by omega)
theorem div60' {m : Int} (h : 1 ≤ m) (h' : m ≤ 60) : (60 : Int) / m ≠ 0 := by have := div60 h h'; omega
theorem div60p {m : Int} (h : 1 ≤ m) (h' : m ≤ 60) : 0 < (60 : Int) / m := by have := div60 h h'; omega
theorem div60m {m a : Int} (h : 1 ≤ m) (h' : m ≤ 60) : 0 ≤ a % (60 / m) ∧ a % (60 / m) < 60 := by
  have h0 := div60 h h'
  have h1 := Int.emod_nonneg a (div60' h h')
  have h2 := Int.emod_lt_of_pos a (show 0 < 60 / m by omega)
  have h3 : 60 / m ≤ 60 := Int.ediv_le_of_le_mul (by omega) (by omega)
  omega
theorem one_mul1 {a b : Int} (h : 1 ≤ a) (h' : 1 ≤ b) : 1 ≤ a * b := Int.mul_pos (by omega) (by omega)

theorem s64_of {n : Nat} {a b : List Int} (ha : ∀ p ∈ a, 0 ≤ p ∧ p < (n : Int)) (hb : ∀ p ∈ b, 0 ≤ p ∧ p < (n : Int)) (hn : n ≤ 40) : (sset (a ++ b)).length < 64 := by
  have := rising_len (lo := 0) (hi := (n : Int)) (sset_sorted (a ++ b)) fun k hk => (List.mem_append.mp (mem_sset.mp hk)).elim (ha k) (hb k)
  omega
theorem pre_filt {row left : List Int} {m : Int} {f : Int → Bool} (hm : 1 ≤ m ∧ m ≤ 60) (h : ∀ p ∈ left, 0 ≤ p ∧ p < (row.length : Int)) (hl : left.length ≤ 40) (hr : row.length ≤ 40) :
    (1 ≤ m ∧ m ≤ 60) ∧ (∀ p ∈ (left.filter f).map (fun (place : Int) => place), 0 ≤ p ∧ p < (row.length : Int)) ∧ ((left.filter f).map (fun (place : Int) => place)).length ≤ 1000 ∧ row.length ≤ 1000 := by
  have := List.length_filter_le f left
  refine ⟨hm, fun p hp => ?_, by rw [List.length_map]; omega, by omega⟩
  obtain ⟨q, hq, rfl⟩ := List.mem_map.mp hp
  exact h q (List.mem_filter.mp hq).1
theorem left_ok {row hit : List Int} : (∀ p ∈ ((rng 0 (row.length : Int)).filter (fun (place : Int) => (!decide (place ∈ hit)))).map (fun (place : Int) => place), 0 ≤ p ∧ p < (row.length : Int)) ∧ (((rng 0 (row.length : Int)).filter (fun (place : Int) => (!decide (place ∈ hit)))).map (fun (place : Int) => place)).length ≤ row.length := by
  have := List.length_filter_le (fun (place : Int) => (!decide (place ∈ hit))) (rng 0 (row.length : Int))
  rw [rng_len] at this
  refine ⟨fun p hp => ?_, by rw [List.length_map]; omega⟩
  obtain ⟨q, hq, rfl⟩ := List.mem_map.mp hp
  exact mem_rng.mp (List.mem_filter.mp hq).1
theorem other_ok {row left : List Int} {m : Int} {f : Int → Bool} (hm : 1 ≤ m ∧ m ≤ 60) (h : ∀ p ∈ left, 0 ≤ p ∧ p < (row.length : Int)) (hl : left.length ≤ 40) (hr : row.length ≤ 40) :
    (m_q_completed row m ((left.filter f).map (fun (place : Int) => place))).length ≤ 41 ∧ ∀ p ∈ m_q_completed row m ((left.filter f).map (fun (place : Int) => place)), 0 ≤ p ∧ p < (row.length : Int) := by
  have z := post_q_completed _ _ _ (pre_filt (f := f) hm h hl hr)
  have := List.length_filter_le f left
  rw [List.length_map] at z
  exact ⟨by omega, z.2⟩

theorem goes_ge {l : List Int} {p : Int} (hp : p ∈ l) (h : ∀ p ∈ l, 1 ≤ p) : 1 ≤ p := h p hp
theorem goes_ok {m : Int} : ∀ p ∈ (((rng (1 : Int) (m + (1 : Int))).filter (fun (one : Int) => (decide ((m % one) = (0 : Int))))).map (fun (one : Int) => one)), 1 ≤ p := fun p hp => by
  obtain ⟨q, hq, rfl⟩ := List.mem_map.mp hp
  exact (mem_rng.mp (List.mem_filter.mp hq).1).1
theorem times_bd {cell m : Int} (hm : 1 ≤ m ∧ m ≤ 60) : 1 ≤ 1 + m_q_stir cell 149 % (60 / m) ∧ 1 + m_q_stir cell 149 % (60 / m) ≤ 60 := by
  have h1 : 1 ≤ 60 / m := (Int.le_ediv_iff_mul_le (by omega)).mpr (by omega)
  have h2 : 60 / m ≤ 60 := Int.ediv_le_self _ (by omega)
  have := Int.emod_nonneg (m_q_stir cell 149) (show 60 / m ≠ 0 by omega)
  have := Int.emod_lt_of_pos (m_q_stir cell 149) (show 0 < 60 / m by omega)
  omega
theorem mod_bd (cell : Int) : 1 ≤ (([(((m_q_modulus cell) % (7 : Int)) + (1 : Int)), (m_q_modulus cell)] : List Int)).getD (((m_q_stir cell (148 : Int)) % (2 : Int))).toNat (0 : Int) ∧ (([(((m_q_modulus cell) % (7 : Int)) + (1 : Int)), (m_q_modulus cell)] : List Int)).getD (((m_q_stir cell (148 : Int)) % (2 : Int))).toNat (0 : Int) ≤ 60 := by
  have h := post_q_modulus cell trivial
  refine getD_bd' (by simp only [List.length_cons, List.length_nil]; omega) fun x hx => ?_
  simp only [List.mem_cons, List.mem_nil_iff, or_false] at hx
  rcases hx with rfl | rfl <;> omega

/-! q_otherwise_right -/
def m_q_otherwise_right_5 (row : (List Int)) (places : (List Int)) (hit : Bool) (goes : (List Int)) : Bool :=
  ((!hit) || (decide (((goes.filter (fun (one : Int) => (!(m_q_hit row one places)))).map (fun (one : Int) => one)) = ([] : List Int))))
def m_q_otherwise_right_4 (row : (List Int)) (modulus : Int) (places : (List Int)) (hit : Bool) (times : Int) (others : (List (List Int))) : Bool :=
  (if (!decide ((((others ++ [(m_rests row modulus)]).filter (fun (other : (List Int)) => (!decide ((m_q_hit other modulus places) = hit)))).map (fun (other : (List Int)) => other)) = ([] : List (List Int)))) = true then false else (if (!decide ((m_q_hit (row.map (fun (number : Int) => (times * number))) (times * modulus) places) = hit)) = true then false else m_q_otherwise_right_5 row places hit (((rng (1 : Int) (modulus + (1 : Int))).filter (fun (one : Int) => (decide ((modulus % one) = (0 : Int))))).map (fun (one : Int) => one))))
def m_q_otherwise_right_3 (row : (List Int)) (modulus : Int) (places : (List Int)) (hit : Bool) (more : (List Int)) (times : Int) : Bool :=
  m_q_otherwise_right_4 row modulus places hit times ([((List.zip row more).map (fun (z31 : (Int × Int)) => (z31.1 + z31.2))), (row.map (fun (number : Int) => ((0 : Int) - number)))] : List (List Int))
def m_q_otherwise_right_2 (cell : Int) (row : (List Int)) (modulus : Int) (places : (List Int)) (hit : Bool) (more : (List Int)) : Bool :=
  m_q_otherwise_right_3 row modulus places hit more ((1 : Int) + ((m_q_stir cell (149 : Int)) % ((60 : Int) / modulus)))
def m_q_otherwise_right_1 (cell : Int) (row : (List Int)) (modulus : Int) (places : (List Int)) (hit : Bool) : Bool :=
  m_q_otherwise_right_2 cell row modulus places hit ((rng 0 ((row).length : Int)).map (fun (k : Int) => (modulus * (((m_q_stir cell ((150 : Int) + k)) % (1000 : Int)) - (500 : Int)))))
def m_q_otherwise_right (cell : Int) (row : (List Int)) (modulus : Int) (places : (List Int)) : Bool :=
  m_q_otherwise_right_1 cell row modulus places (m_q_hit row modulus places)
/-! law -/
def m_law_9s (cell : Int) (modulus : Int) (row : (List Int)) (z2 : ((List Int) × (List Int))) : Unit → (LR Bool Unit) := fun _ => (if (!(m_q_joined_right row modulus z2.1 z2.2)) = true then (.ret false) else (if (!(m_q_otherwise_right cell row modulus z2.1)) = true then (.ret false) else (.nxt ())))
def m_law_11 (modulus : Int) (row : (List Int)) (places : (List Int)) : (LR Bool Unit) :=
  (if (!decide ((m_q_hit row modulus places) = ((!decide (row = ([] : List Int))) && (decide ((((m_sums_ahead row modulus)).getD (((m_sums_ahead row modulus)).length - 1) (0 : Int)) = (0 : Int)))))) = true then (.ret false) else (.nxt ()))
def m_law_10 (modulus : Int) (row : (List Int)) : Unit → (LR Bool Unit) := fun _ => m_law_11 modulus row (rng 0 ((row).length : Int))
def m_law_8 (cell : Int) (modulus : Int) (row : (List Int)) (drawn : (List Int)) (hit : (List Int)) (left : (List Int)) (other : (List Int)) : (LR Bool Unit) :=
  ((lrun (m_law_9s cell modulus row) ([(hit, other), (hit, drawn), ((sset (hit ++ other)), other), (left, hit)] : List ((List Int) × (List Int))) ()).andThen (m_law_10 modulus row))
def m_law_7 (cell : Int) (modulus : Int) (row : (List Int)) (drawn : (List Int)) (hit : (List Int)) (left : (List Int)) : (LR Bool Unit) :=
  m_law_8 cell modulus row drawn hit left (m_q_completed row modulus ((left.filter (fun (place : Int) => (decide ((place % (3 : Int)) = (0 : Int))))).map (fun (place : Int) => place)))
def m_law_6 (cell : Int) (modulus : Int) (row : (List Int)) (drawn : (List Int)) (hit : (List Int)) : (LR Bool Unit) :=
  m_law_7 cell modulus row drawn hit (((rng 0 ((row).length : Int)).filter (fun (place : Int) => (!decide (place ∈ hit)))).map (fun (place : Int) => place))
def m_law_5 (cell : Int) (modulus : Int) (row : (List Int)) (drawn : (List Int)) : (LR Bool Unit) :=
  m_law_6 cell modulus row drawn (m_q_completed row modulus drawn)
def m_law_4 (cell : Int) (modulus : Int) (row : (List Int)) : (LR Bool Unit) :=
  m_law_5 cell modulus row (m_q_some cell (110 : Int) ((row).length : Int))
def m_law_3 (cell : Int) (modulus : Int) : (LR Bool Unit) :=
  m_law_4 cell modulus ((m_q_row cell modulus (40 : Int)).map (fun (number : Int) => (number % (1000000000000000000000000000 : Int))))
def m_law_1s  (cell : Int) : Unit → (LR Bool Unit) := fun _ => m_law_3 cell ((([(((m_q_modulus cell) % (7 : Int)) + (1 : Int)), (m_q_modulus cell)] : List Int)).getD (((m_q_stir cell (148 : Int)) % (2 : Int))).toNat (0 : Int))
def m_law_2  : Unit → Bool := fun _ => true
def m_law (script : Scr) : Bool :=
  ((lrun (m_law_1s) (m_q_cells script (4 : Int)) ()).out m_law_2)

def sm (row ps : List Int) : Int := (ps.map fun (p : Int) => row.getD p.toNat 0).sum
def Rz (n : Nat) (ps : List Int) : Prop := ps.Pairwise (· < ·) ∧ ∀ p ∈ ps, 0 ≤ p ∧ p < (n : Int)
theorem hit_iff (row : List Int) (m : Int) (ps : List Int) : m_q_hit row m ps = true ↔ ps ≠ [] ∧ Rz row.length ps ∧ sm row ps % m = 0 := by
  unfold m_q_hit m_is_hit sm
  rw [are_eq]
  have e : asc row.length (-1) ps = true ↔ Rz row.length ps := by
    rw [asc_iff]
    exact ⟨fun ⟨a, b⟩ => ⟨a, fun p hp => by have := b p hp; omega⟩, fun ⟨a, b⟩ => ⟨a, fun p hp => by have := b p hp; omega⟩⟩
  by_cases h1 : ps = []
  · simp [h1]
  · by_cases h2 : asc row.length (-1) ps = true
    · simp [h1, h2, e.mp h2]
    · have h3 : ¬ Rz row.length ps := fun z => h2 (e.mpr z)
      simp [h1, h2, h3]
theorem hit_same {row row' : List Int} {m m' : Int} {ps : List Int} (hl : row'.length = row.length) (h : Rz row.length ps → (sm row' ps % m' = 0 ↔ sm row ps % m = 0)) : m_q_hit row' m' ps = m_q_hit row m ps := by
  rw [Bool.eq_iff_iff, hit_iff, hit_iff, hl]
  exact ⟨fun ⟨a, b, c⟩ => ⟨a, b, (h b).mp c⟩, fun ⟨a, b, c⟩ => ⟨a, b, (h b).mpr c⟩⟩
theorem sm_cons (row : List Int) (p : Int) (ps : List Int) : sm row (p :: ps) = row.getD p.toNat 0 + sm row ps := by unfold sm; rw [List.map_cons, List.sum_cons]
theorem sum_perm {a b : List Int} (h : a.Perm b) : a.sum = b.sum := by
  induction h with
  | nil => rfl
  | cons x _ ih => rw [List.sum_cons, List.sum_cons, ih]
  | swap x y l => simp only [List.sum_cons]; omega
  | trans _ _ h1 h2 => exact h1.trans h2
theorem sm_perm {row ps qs : List Int} (h : ps.Perm qs) : sm row ps = sm row qs := sum_perm (h.map _)
theorem sm_app (row ps qs : List Int) : sm row (ps ++ qs) = sm row ps + sm row qs := by unfold sm; rw [List.map_append, List.sum_append]
theorem sm_split (row : List Int) (f : Int → Bool) : ∀ ps : List Int, sm row ps = sm row (ps.filter f) + sm row (ps.filter fun x => !f x)
  | [] => rfl
  | p :: ps => by
    have ih := sm_split row f ps
    by_cases h : f p = true
    · rw [List.filter_cons_of_pos h, List.filter_cons_of_neg (by simp [h]), sm_cons, sm_cons]; omega
    · rw [List.filter_cons_of_neg h, List.filter_cons_of_pos (by simpa using h), sm_cons, sm_cons]; omega
theorem rz_filter {n : Nat} {ps : List Int} (h : Rz n ps) (f : Int → Bool) : Rz n (ps.filter f) := ⟨h.1.filter f, fun p hp => h.2 p (List.mem_filter.mp hp).1⟩
theorem rz_nodup {n : Nat} {ps : List Int} (h : Rz n ps) : ps.Nodup := h.1.imp fun a => Int.ne_of_lt a
theorem rz_sort {n : Nat} {ps : List Int} (h : ps.Nodup) (hb : ∀ p ∈ ps, 0 ≤ p ∧ p < (n : Int)) : Rz n (isort ps) := by
  have h1 := isort_sorted ps
  have h2 : (isort ps).Nodup := (isort_perm ps).nodup_iff.mpr h
  rw [List.nodup_iff_pairwise_ne] at h2
  exact ⟨(h1.and h2).imp fun ⟨a, b⟩ => Int.lt_iff_le_and_ne.mpr ⟨a, b⟩, fun p hp => hb p ((isort_perm ps).mem_iff.mp hp)⟩
theorem map_id' (ps : List Int) : (ps.map fun (place : Int) => place) = ps := List.map_id _
theorem joined_ok {row : List Int} {m : Int} {one other : List Int} (h1 : Rz row.length one) (h2 : Rz row.length other) : m_q_joined_right row m one other = true := by
  unfold m_q_joined_right m_q_joined_right_1 m_q_joined_right_2
  rw [map_id', map_id']
  have hb : Rz row.length (isort (one ++ other.filter fun (place : Int) => !decide (place ∈ one))) := by
    refine rz_sort ?_ fun p hp => ?_
    · rw [List.nodup_append]
      refine ⟨rz_nodup h1, (rz_nodup h2).filter _, fun a ha b hb z => ?_⟩
      subst z
      have := (List.mem_filter.mp hb).2
      simp [ha] at this
    · rcases List.mem_append.mp hp with hp | hp
      · exact h1.2 p hp
      · exact h2.2 p (List.mem_filter.mp hp).1
  have hs : sm row (isort (one ++ other.filter fun (place : Int) => !decide (place ∈ one))) = sm row one + sm row (other.filter fun (place : Int) => !decide (place ∈ one)) := by
    rw [sm_perm (isort_perm _), sm_app]
  have hne : isort (one ++ other.filter fun (place : Int) => !decide (place ∈ one)) = [] → one = [] := fun z => by
    have := (isort_perm (one ++ other.filter fun (place : Int) => !decide (place ∈ one))).length_eq
    rw [z, List.length_append] at this
    have : one.length = 0 := by simp only [List.length_nil] at this; omega
    exact List.length_eq_zero_iff.mp this
  generalize isort (one ++ other.filter fun (place : Int) => !decide (place ∈ one)) = both at hb hs hne ⊢
  have both_hits : (decide (([one, other] : List (List Int)).map (fun places => m_q_hit row m places) = [true, true])) = true → m_q_hit row m one = true ∧ m_q_hit row m other = true := fun z => by
    have z := of_decide_eq_true z
    simpa using z
  unfold m_q_joined_right_3
  rw [if_neg]
  · unfold m_q_joined_right_4
    rw [map_id', if_neg]
    · refine decide_eq_true ?_
      rw [Bool.eq_iff_iff, hit_iff]
      simp only [Int.emod_one, and_true]
      constructor
      · intro z; simp [z.1]
      · intro z
        have : both ≠ [] := by simpa using z
        exact ⟨this, hb⟩
    · intro z
      rw [Bool.and_eq_true, Bool.and_eq_true, Bool.and_eq_true] at z
      obtain ⟨z1, z2, z3, z4⟩ := z
      obtain ⟨a, b⟩ := both_hits z1
      rw [hit_iff] at a b
      have z2 := of_decide_eq_true z2
      have hr := rz_filter h1 fun place => !decide (place ∈ other)
      have ec : one.filter (fun place => decide (place ∈ other)) = other.filter (fun place => decide (place ∈ one)) :=
        rising_ext (h1.1.filter _) (h2.1.filter _) fun k => by simp only [List.mem_filter, decide_eq_true_eq]; exact And.comm
      have eo : other.filter (fun place => decide (place ∈ one)) = other := by
        rw [ec] at z2
        exact List.filter_eq_self.mpr (List.length_filter_eq_length_iff.mp (by omega))
      have es := sm_split row (fun place => decide (place ∈ other)) one
      rw [ec, eo] at es
      have : m_q_hit row m (one.filter fun place => !decide (place ∈ other)) = true := by
        rw [hit_iff]
        refine ⟨by simpa using z3, hr, ?_⟩
        have e : sm row (one.filter fun place => !decide (place ∈ other)) = sm row one - sm row other := by omega
        rw [e]
        exact Int.emod_eq_zero_of_dvd (Int.dvd_sub (Int.dvd_of_emod_eq_zero a.2.2) (Int.dvd_of_emod_eq_zero b.2.2))
      rw [this] at z4
      cases z4
  · intro z
    rw [Bool.and_eq_true, Bool.and_eq_true] at z
    obtain ⟨z1, z2, z3⟩ := z
    obtain ⟨a, b⟩ := both_hits z1
    rw [hit_iff] at a b
    have z2 := of_decide_eq_true z2
    have eo : other.filter (fun place => !decide (place ∈ one)) = other := by
      refine List.filter_eq_self.mpr fun p hp => ?_
      have : p ∉ one := fun h => by
        have : p ∈ one.filter (fun place => decide (place ∈ other)) := List.mem_filter.mpr ⟨h, decide_eq_true hp⟩
        rw [z2] at this
        cases this
      simpa using this
    rw [eo] at hs
    have : m_q_hit row m both = true := by
      rw [hit_iff]
      refine ⟨fun z => a.1 (hne z), hb, ?_⟩
      rw [hs]
      exact Int.emod_eq_zero_of_dvd (Int.dvd_add (Int.dvd_of_emod_eq_zero a.2.2) (Int.dvd_of_emod_eq_zero b.2.2))
    rw [this] at z3
    cases z3
theorem sm_of {row' : List Int} {f : Int → Int} (n : Nat) (g : ∀ p : Int, 0 ≤ p ∧ p < (n : Int) → row'.getD p.toNat 0 = f p) : ∀ {ps : List Int}, (∀ p ∈ ps, 0 ≤ p ∧ p < (n : Int)) → sm row' ps = (ps.map f).sum
  | [], _ => rfl
  | p :: ps, h => by rw [sm_cons, g p (h p List.mem_cons_self), sm_of n g fun q hq => h q (List.mem_cons_of_mem _ hq), List.map_cons, List.sum_cons]
theorem sum_mod_zero {m : Int} {f g : Int → Int} (h : ∀ p, f p % m = g p % m) : ∀ ps : List Int, (ps.map f).sum % m = (ps.map g).sum % m
  | [] => rfl
  | p :: ps => by rw [List.map_cons, List.map_cons, List.sum_cons, List.sum_cons, Int.add_emod, h, sum_mod_zero h ps, ← Int.add_emod]
theorem getD_map_lt {row : List Int} {f : Int → Int} {p : Int} (h : 0 ≤ p ∧ p < (row.length : Int)) : (row.map f).getD p.toNat 0 = f (row.getD p.toNat 0) := by
  have hp : p.toNat < row.length := by omega
  rw [List.getD_eq_getElem?_getD, List.getD_eq_getElem?_getD, List.getElem?_map, List.getElem?_eq_getElem hp]
  rfl
theorem sm_self (row : List Int) (ps : List Int) : sm row ps = (ps.map fun p => row.getD p.toNat 0).sum := rfl
theorem sum_neg (f : Int → Int) : ∀ ps : List Int, (ps.map fun p => 0 - f p).sum = -(ps.map f).sum
  | [] => rfl
  | p :: ps => by rw [List.map_cons, List.map_cons, List.sum_cons, List.sum_cons, sum_neg f ps]; omega
theorem sum_times (t : Int) (f : Int → Int) : ∀ ps : List Int, (ps.map fun p => t * f p).sum = t * (ps.map f).sum
  | [] => by simp
  | p :: ps => by rw [List.map_cons, List.map_cons, List.sum_cons, List.sum_cons, sum_times t f ps, Int.mul_add]
theorem otherwise_ok {cell : Int} {row : List Int} {m : Int} {ps : List Int} (hm : 1 ≤ m ∧ m ≤ 60) : m_q_otherwise_right cell row m ps = true := by
  unfold m_q_otherwise_right m_q_otherwise_right_1 m_q_otherwise_right_2 m_q_otherwise_right_3
  have ht : 1 ≤ 1 + m_q_stir cell 149 % (60 / m) := by
    have h1 : 1 ≤ 60 / m := (Int.le_ediv_iff_mul_le (by omega)).mpr (by omega)
    have := Int.emod_nonneg (m_q_stir cell 149) (show 60 / m ≠ 0 by omega)
    omega
  generalize 1 + m_q_stir cell 149 % (60 / m) = t at ht
  unfold m_q_otherwise_right_4
  rw [if_neg, if_neg]
  · unfold m_q_otherwise_right_5
    by_cases hh : m_q_hit row m ps = true
    · rw [hh]
      simp only [Bool.not_true, Bool.false_or]
      refine decide_eq_true ?_
      rw [map_id', map_id', List.filter_eq_nil_iff]
      intro d hd
      obtain ⟨hd1, hd2⟩ := List.mem_filter.mp hd
      have hd2 := of_decide_eq_true hd2
      obtain ⟨a, b, c⟩ := (hit_iff _ _ _).mp hh
      have : m_q_hit row d ps = true := (hit_iff _ _ _).mpr ⟨a, b, Int.emod_eq_zero_of_dvd (Int.dvd_trans (Int.dvd_of_emod_eq_zero hd2) (Int.dvd_of_emod_eq_zero c))⟩
      simp [this]
    · have hh : m_q_hit row m ps = false := by simpa using hh
      rw [hh]
      rfl
  · have e : m_q_hit (row.map fun number => t * number) (t * m) ps = m_q_hit row m ps := hit_same (List.length_map _) fun hr => by
      rw [sm_of (f := fun p => t * row.getD p.toNat 0) row.length (fun p hp => getD_map_lt hp) hr.2, sum_times, ← sm_self, Int.mul_emod_mul_of_pos _ _ (by omega)]
      constructor
      · intro z
        rcases Int.mul_eq_zero.mp z with z | z
        · omega
        · exact z
      · intro z; rw [z, Int.mul_zero]
    rw [e]
    simp
  · rw [Bool.not_eq_true, Bool.not_eq_false']
    refine decide_eq_true ?_
    rw [List.map_id', List.filter_eq_nil_iff]
    intro other ho
    have e : m_q_hit other m ps = m_q_hit row m ps := by
      simp only [List.mem_append, List.mem_cons, List.mem_nil_iff, or_false] at ho
      rcases ho with (rfl | rfl) | rfl
      · have hl : (List.map (fun (z31 : Int × Int) => z31.1 + z31.2) (row.zip (List.map (fun k => m * (m_q_stir cell (150 + k) % 1000 - 500)) (rng 0 (row.length : Int))))).length = row.length := by
          simp only [List.length_map, List.length_zip, rng_len]; omega
        refine hit_same hl fun hr => ?_
        rw [sm_of (f := fun p => row.getD p.toNat 0 + m * (m_q_stir cell (150 + p) % 1000 - 500)) row.length (fun p hp => ?_) hr.2, sm_self]
        · rw [sum_mod_zero (f := fun p => row.getD p.toNat 0 + m * (m_q_stir cell (150 + p) % 1000 - 500)) (g := fun p => row.getD p.toNat 0) (fun p => Int.add_mul_emod_self_left _ _ _)]
        · have hp' : p.toNat < row.length := by omega
          have e2 : (rng 0 (row.length : Int))[p.toNat]? = some p := by
            rw [rng0_nat, List.getElem?_map, List.getElem?_range hp']
            simp only [Option.map_some]
            congr 1; omega
          rw [List.getD_eq_getElem?_getD, List.getElem?_map, (List.getElem?_zip_eq_some (z := (row[p.toNat]'hp', m * (m_q_stir cell (150 + p) % 1000 - 500)))).mpr ⟨List.getElem?_eq_getElem hp', by rw [List.getElem?_map, e2]; rfl⟩, List.getD_eq_getElem?_getD, List.getElem?_eq_getElem hp']
          rfl
      · refine hit_same (List.length_map _) fun hr => ?_
        rw [sm_of (f := fun p => 0 - row.getD p.toNat 0) row.length (fun p hp => getD_map_lt hp) hr.2, sum_neg, ← sm_self]
        exact ⟨fun z => Int.emod_eq_zero_of_dvd (Int.dvd_neg.mp (Int.dvd_of_emod_eq_zero z)), fun z => Int.emod_eq_zero_of_dvd (Int.dvd_neg.mpr (Int.dvd_of_emod_eq_zero z))⟩
      · refine hit_same (post_rests row m hm.1) fun hr => ?_
        unfold m_rests
        rw [sm_of (f := fun p => row.getD p.toNat 0 % m) row.length (fun p hp => getD_map_lt hp) hr.2, sum_mod_zero (fun p => Int.emod_emod_of_dvd _ (Int.dvd_refl m)), ← sm_self]
    simp [e]
theorem lrun_ret_unit {α R : Type} {step : α → Unit → LR R Unit} : ∀ {xs : List α} {r : R}, lrun step xs () = .ret r → ∃ x ∈ xs, step x () = .ret r
  | [], _, h => by cases h
  | x :: xs, r, h => by
    rw [lrun_cons] at h
    cases e : step x () with
    | ret r' => rw [e] at h; cases h; exact ⟨x, List.mem_cons_self, e⟩
    | nxt u => rw [e] at h; obtain ⟨y, hy, e⟩ := lrun_ret_unit h; exact ⟨y, List.mem_cons_of_mem _ hy, e⟩
    | brk u => rw [e] at h; cases h
theorem rz_completed {row : List Int} {m : Int} {ps : List Int} (h : Rz row.length ps) : Rz row.length (m_q_completed row m ps) := by
  unfold m_q_completed m_q_completed_1
  generalize (ps.map fun (place : Int) => row.getD place.toNat 0).sum = total
  cases e : lrun (m_q_completed_2s row m ps total) (rng 0 (row.length : Int)) () with
  | ret r =>
    obtain ⟨x, hx, e⟩ := lrun_ret_unit e
    have hx := mem_rng.mp hx
    unfold m_q_completed_2s at e
    split at e
    · rename_i c
      cases e
      rw [Bool.and_eq_true, Bool.not_eq_true', decide_eq_false_iff_not] at c
      refine rz_sort ?_ fun p hp => ?_
      · rw [List.nodup_append]
        exact ⟨rz_nodup h, List.nodup_cons.mpr ⟨by simp, List.nodup_nil⟩, fun a ha b hb z => c.1 (by rw [← List.mem_singleton.mp hb, ← z]; exact ha)⟩
      · rcases List.mem_append.mp hp with hp | hp
        · exact h.2 p hp
        · rw [List.mem_singleton.mp hp]; exact hx
    · cases e
  | nxt u =>
    show Rz _ (m_q_completed_3 _ _ _ _ u)
    unfold m_q_completed_3
    cases e2 : lrun (m_q_completed_4s row m ps total) ps () with
    | ret r =>
      obtain ⟨x, hx, e⟩ := lrun_ret_unit e2
      unfold m_q_completed_4s at e
      split at e
      · cases e; rw [map_id']; exact rz_filter h _
      · cases e
    | nxt v => exact h
    | brk v => exact h
  | brk u =>
    show Rz _ (m_q_completed_3 _ _ _ _ u)
    unfold m_q_completed_3
    cases e2 : lrun (m_q_completed_4s row m ps total) ps () with
    | ret r =>
      obtain ⟨x, hx, e⟩ := lrun_ret_unit e2
      unfold m_q_completed_4s at e
      split at e
      · cases e; rw [map_id']; exact rz_filter h _
      · cases e
    | nxt v => exact h
    | brk v => exact h
theorem rz_rng (n : Nat) : Rz n (rng 0 (n : Int)) := by
  refine ⟨?_, fun p hp => mem_rng.mp hp⟩
  rw [rng0_nat]
  exact List.pairwise_map.mpr (List.pairwise_lt_range.imp fun h => by omega)
theorem rz_some (cell : Int) (n : Nat) : Rz n (m_q_some cell 110 (n : Int)) := by
  unfold m_q_some m_q_some_1
  rw [map_id']
  exact rz_filter (rz_rng n) _
theorem rz_sset {n : Nat} {a b : List Int} (ha : Rz n a) (hb : Rz n b) : Rz n (sset (a ++ b)) :=
  ⟨sset_sorted _, fun p hp => (List.mem_append.mp (mem_sset.mp hp)).elim (ha.2 p) (hb.2 p)⟩
theorem sm_all (row : List Int) : sm row (rng 0 (row.length : Int)) = row.sum := by
  unfold sm
  rw [rng0_nat, List.map_map]
  have e : (List.range row.length).map ((fun (p : Int) => row.getD p.toNat 0) ∘ fun (k : Nat) => (k : Int)) = row := by
    refine List.ext_getElem (by simp) fun i h1 h2 => ?_
    simp only [List.getElem_map, List.getElem_range, Function.comp, Int.toNat_natCast]
    rw [List.getD_eq_getElem?_getD, List.getElem?_eq_getElem h2]
    rfl
  rw [e]
theorem law_true (s : Scr) (h : s.ns.length ≤ 63) : m_law s = true := by
  have e : lrun m_law_1s (m_q_cells s 4) () = .nxt () := lrun_unit fun cell _ => by
    have hm0 := post_q_modulus cell trivial
    unfold m_law_1s m_law_3
    have hm : 1 ≤ (([(((m_q_modulus cell) % (7 : Int)) + (1 : Int)), (m_q_modulus cell)] : List Int)).getD (((m_q_stir cell (148 : Int)) % (2 : Int))).toNat (0 : Int) ∧ (([(((m_q_modulus cell) % (7 : Int)) + (1 : Int)), (m_q_modulus cell)] : List Int)).getD (((m_q_stir cell (148 : Int)) % (2 : Int))).toNat (0 : Int) ≤ 60 := mod_bd cell
    generalize (([(((m_q_modulus cell) % (7 : Int)) + (1 : Int)), (m_q_modulus cell)] : List Int)).getD (((m_q_stir cell (148 : Int)) % (2 : Int))).toNat (0 : Int) = m at hm
    generalize (m_q_row cell m 40).map (fun number => number % 1000000000000000000000000000) = row
    unfold m_law_4 m_law_5 m_law_6 m_law_7 m_law_8
    rw [map_id', map_id']
    have r1 := rz_some cell row.length
    generalize m_q_some cell 110 (row.length : Int) = drawn at r1
    have r2 := rz_completed (m := m) r1
    generalize m_q_completed row m drawn = hit at r2
    have r3 := rz_filter (rz_rng row.length) fun place => !decide (place ∈ hit)
    generalize (rng 0 (row.length : Int)).filter (fun place => !decide (place ∈ hit)) = left at r3
    have r4 := rz_completed (m := m) (rz_filter r3 fun place => decide (place % 3 = 0))
    generalize m_q_completed row m (left.filter fun place => decide (place % 3 = 0)) = other at r4
    rw [lrun_unit fun z hz => by
      have hz : Rz row.length z.1 ∧ Rz row.length z.2 := by
        simp only [List.mem_cons, List.mem_nil_iff, or_false] at hz
        rcases hz with rfl | rfl | rfl | rfl
        · exact ⟨r2, r4⟩
        · exact ⟨r2, r1⟩
        · exact ⟨rz_sset r2 r4, r4⟩
        · exact ⟨r3, r2⟩
      unfold m_law_9s
      rw [joined_ok hz.1 hz.2, otherwise_ok hm]
      rfl]
    show m_law_10 _ _ () = _
    unfold m_law_10 m_law_11
    rw [if_neg]
    rw [Bool.not_eq_true, Bool.not_eq_false']
    refine decide_eq_true ?_
    rw [Bool.eq_iff_iff, hit_iff, sm_all, sums_eq _ _ hm.1, List.length_map, List.length_range, Nat.add_sub_cancel]
    have el : ((List.range (row.length + 1)).map fun (k : Nat) => (row.take k).sum % m).getD row.length 0 = row.sum % m := by
      rw [List.getD_eq_getElem?_getD, List.getElem?_map, List.getElem?_range (by omega)]
      show (row.take row.length).sum % m = _
      rw [List.take_length]
    rw [el]
    simp only [Bool.and_eq_true, Bool.not_eq_true', decide_eq_false_iff_not, decide_eq_true_eq]
    have en : rng 0 (row.length : Int) ≠ [] ↔ row ≠ [] := by
      refine ⟨fun z w => z (by rw [w]; rfl), fun z w => z ?_⟩
      have := congrArg List.length w
      rw [rng_len] at this
      exact List.length_eq_zero_iff.mp (by simp only [List.length_nil] at this; omega)
    exact ⟨fun ⟨a, _, c⟩ => ⟨en.mp a, c⟩, fun ⟨a, c⟩ => ⟨en.mpr a, rz_rng _, c⟩⟩
  unfold m_law
  rw [e]
  rfl

local macro_rules | `(tactic| walk_at "ix") => `(tactic| first | exact all_lt (by assumption) (are_all (And.right (by assumption))) | fail)
local macro_rules | `(tactic| walk_at "sc") => `(tactic| first | exact all_ge (by assumption) (are_all (And.right (by assumption))) | fail)
local macro_rules | `(tactic| walk_at "ix") => `(tactic| first | exact all_lt (by assumption) (by assumption) | fail)
local macro_rules | `(tactic| walk_at "sc") => `(tactic| first | exact all_ge (by assumption) (by assumption) | fail)
local macro_rules | `(tactic| walk_at "sc") => `(tactic| first | exact div60p (by omega) (by omega) | fail)
local macro_rules | `(tactic| walk_at "sz") => `(tactic| first | (simp only [List.length_map]; refine Nat.le_trans (Nat.add_le_add_left (List.length_filter_le _ _) _) (by rw [sizeLine_eq]; omega)) | (rw [sizeLine_eq]; omega) | fail)
local macro_rules | `(tactic| walk_at "s4k") => `(tactic| first | (simp only [List.length_append]; omega) | fail)
local macro_rules | `(tactic| walk_at "s64") => `(tactic| first | exact s64_of (by assumption) (by assumption) (by omega) | fail)
local macro_rules | `(tactic| walk_at "pre") => `(tactic| first | exact pre_filt (by omega) (by assumption) (by omega) (by omega) | exact one_mul1 (by omega) (by omega) | exact goes_ge (by assumption) (by assumption) | fail)
local macro_rules | `(tactic| walk_at "sc") => `(tactic| first | omega | assumption | decide | (split <;> omega) | (simp only [mem_rng, List.length_cons, List.length_nil] at *; omega) | (simp at *; omega) | (have hz := enum_mem (by assumption); omega) | fail)
local macro_rules | `(tactic| walk_at "ix") => `(tactic| first | omega | (simp only [List.length_cons, List.length_nil, List.length_append, List.length_set]; omega) | (simp only [mem_rng, rng_len, List.length_map, List.length_set] at *; omega) | (have hz := enum_mem (by assumption); omega) | fail)
local macro_rules | `(tactic| walk_at "ixn") => `(tactic| first | exact ixN_neg' (by omega) (by omega) | exact ixN_neg' (by omega) (by simp only [List.length_cons, List.length_nil, List.length_append]; omega) | fail)
local macro_rules | `(tactic| walk_at "pre") => `(tactic| first | exact trivial | assumption | omega | decide | (simp only [mem_rng] at *; omega) | (refine ⟨?_, ?_⟩ <;> walk_at "sc") | (refine ⟨?_, ?_, ?_⟩ <;> walk_at "sc") | (refine ⟨?_, ?_, ?_, ?_⟩ <;> walk_at "sc") | (refine ⟨?_, ?_, ?_, ?_, ?_⟩ <;> walk_at "sc") | (have hz := enum_mem (by assumption); omega) | fail)
local macro_rules | `(tactic| walk_at "mu") => `(tactic| first | exact .inr ⟨by omega, by omega⟩ | exact .inl ⟨by omega, by omega⟩ | exact .inr ⟨by walk_at "sc", by walk_at "sc"⟩ | exact .inl ⟨by walk_at "sc", by walk_at "sc"⟩ | fail)
local macro_rules | `(tactic| walk_at "pw") => `(tactic| exact ⟨by first | decide | omega, by first | decide | omega, by first | decide | omega⟩)
local macro_rules | `(tactic| walk_at "sz") => `(tactic| first | (rw [sizeLine_eq]; omega) | (simp only [List.length_append, List.length_cons, List.length_nil, rng_len, List.length_map, psort_len, isort_len, rep_len, rep_len2] at *; rw [sizeLine_eq]; omega) | fail)
local macro_rules | `(tactic| walk_at "inv0") => `(tactic| first | omega | (simp; done) | (simp only [List.length_cons, List.length_nil, List.length_append, Nat.zero_add, rng_len, enum_len]; omega) | fail)
local macro_rules | `(tactic| walk_at "inv") => `(tactic| first | omega | (simp only [List.length_cons, List.length_nil, List.length_append] at this ⊢; omega) | fail)
local macro_rules | `(tactic| walk_at "rg") => `(tactic| first | exact ⟨by omega, by omega, by omega, by omega, by omega⟩ | exact ⟨by walk_at "sc", by walk_at "sc", by walk_at "sc", by walk_at "sc", by walk_at "sc"⟩ | fail)
local macro_rules | `(tactic| walk_at "nn") => `(tactic| first | assumption | (simp_all; done) | fail)
local macro_rules | `(tactic| walk_at "dk") => `(tactic| first | assumption | (simp_all; done) | fail)
local macro_rules | `(tactic| walk_at "no") => `(tactic| first | omega | contradiction | (simp_all; done) | fail)
def topS (i : Nat) : Stmt := PySem.Challenge.pw_restsums_k04_whole_hits.main.body.getD i (.Pass ⟨0, 0, 0, 0⟩)
abbrev s_need_modulus : Stmt := topS 4
abbrev s_are_places : Stmt := topS 5
abbrev s_rests : Stmt := topS 6
abbrev s_is_hit : Stmt := topS 7
abbrev s_sums_ahead : Stmt := topS 9
abbrev s__law_hit : Stmt := topS 11
abbrev s__law_stir : Stmt := topS 12
abbrev s__law_cells : Stmt := topS 13
abbrev s__law_modulus : Stmt := topS 14
abbrev s__law_row : Stmt := topS 15
abbrev s__law_rest : Stmt := topS 16
abbrev s__law_some : Stmt := topS 17
abbrev s__law_completed : Stmt := topS 18
abbrev s__law_joined_right : Stmt := topS 19
abbrev s__law_otherwise_right : Stmt := topS 20
abbrev s_law : Stmt := topS 21
theorem nm_base_ : Nm "base" := ⟨by decide +kernel, by decide +kernel, by decide +kernel⟩
theorem nm_bits : Nm "bits" := ⟨by decide +kernel, by decide +kernel, by decide +kernel⟩
theorem nm_both : Nm "both" := ⟨by decide +kernel, by decide +kernel, by decide +kernel⟩
theorem nm_cell : Nm "cell" := ⟨by decide +kernel, by decide +kernel, by decide +kernel⟩
theorem nm_common : Nm "common" := ⟨by decide +kernel, by decide +kernel, by decide +kernel⟩
theorem nm_drawn : Nm "drawn" := ⟨by decide +kernel, by decide +kernel, by decide +kernel⟩
theorem nm_far : Nm "far" := ⟨by decide +kernel, by decide +kernel, by decide +kernel⟩
theorem nm_found : Nm "found" := ⟨by decide +kernel, by decide +kernel, by decide +kernel⟩
theorem nm_goes : Nm "goes" := ⟨by decide +kernel, by decide +kernel, by decide +kernel⟩
theorem nm_hit : Nm "hit" := ⟨by decide +kernel, by decide +kernel, by decide +kernel⟩
theorem nm_hits : Nm "hits" := ⟨by decide +kernel, by decide +kernel, by decide +kernel⟩
theorem nm_k : Nm "k" := ⟨by decide +kernel, by decide +kernel, by decide +kernel⟩
theorem nm_kind : Nm "kind" := ⟨by decide +kernel, by decide +kernel, by decide +kernel⟩
theorem nm_last : Nm "last" := ⟨by decide +kernel, by decide +kernel, by decide +kernel⟩
theorem nm_left : Nm "left" := ⟨by decide +kernel, by decide +kernel, by decide +kernel⟩
theorem nm_many : Nm "many" := ⟨by decide +kernel, by decide +kernel, by decide +kernel⟩
theorem nm_modulus : Nm "modulus" := ⟨by decide +kernel, by decide +kernel, by decide +kernel⟩
theorem nm_more : Nm "more" := ⟨by decide +kernel, by decide +kernel, by decide +kernel⟩
theorem nm_most : Nm "most" := ⟨by decide +kernel, by decide +kernel, by decide +kernel⟩
theorem nm_number : Nm "number" := ⟨by decide +kernel, by decide +kernel, by decide +kernel⟩
theorem nm_one : Nm "one" := ⟨by decide +kernel, by decide +kernel, by decide +kernel⟩
theorem nm_other : Nm "other" := ⟨by decide +kernel, by decide +kernel, by decide +kernel⟩
theorem nm_others : Nm "others" := ⟨by decide +kernel, by decide +kernel, by decide +kernel⟩
theorem nm_place : Nm "place" := ⟨by decide +kernel, by decide +kernel, by decide +kernel⟩
theorem nm_places : Nm "places" := ⟨by decide +kernel, by decide +kernel, by decide +kernel⟩
theorem nm_rest_ : Nm "rest" := ⟨by decide +kernel, by decide +kernel, by decide +kernel⟩
theorem nm_row : Nm "row" := ⟨by decide +kernel, by decide +kernel, by decide +kernel⟩
theorem nm_script : Nm "script" := ⟨by decide +kernel, by decide +kernel, by decide +kernel⟩
theorem nm_some_ : Nm "some" := ⟨by decide +kernel, by decide +kernel, by decide +kernel⟩
theorem nm_times : Nm "times" := ⟨by decide +kernel, by decide +kernel, by decide +kernel⟩
theorem nm_total : Nm "total" := ⟨by decide +kernel, by decide +kernel, by decide +kernel⟩
theorem nm_two : Nm "two" := ⟨by decide +kernel, by decide +kernel, by decide +kernel⟩
structure Txt (K : PySem.W.Frag) (mg : Str → Option Value) : Prop where
  b_int : mg "int" = none
  b_len : mg "len" = none
  b_list : mg "list" = none
  b_max : mg "max" = none
  b_min : mg "min" = none
  b_range : mg "range" = none
  b_set : mg "set" = none
  b_sorted : mg "sorted" = none
  b_sum : mg "sum" = none
  b_zip : mg "zip" = none
abbrev N_need_modulus : List Str := ["modulus"]
theorem sc_need_modulus : FnScope N_need_modulus ["modulus"] (defScope s_need_modulus) := ⟨rfl, rfl, rfl, by decide +kernel, rfl, by decide +kernel, by decide +kernel⟩
theorem sl_need_modulus_modulus {P : Program} {w : World} {K : PySem.W.Frag} {mg : Str → Option Value} {base : Heap} {f : Addr} {cdv : Value} {A : Around} {outer : List Env} {s : Shared} {H : Hp} {E : XK} : Sl (cxOf (L2.CX P w) P w K mg base N_need_modulus "need_modulus" (defScope s_need_modulus) f cdv A outer s H E) 0 "modulus" := ⟨rfl, (by first | exact .inl rfl | exact .inr (.inl rfl)), nm_modulus⟩
theorem cal_need_modulus {P : Program} {w : World} {K : PySem.W.Frag} {mg : Str → Option Value} {base : Heap} {f : Addr} {fd : FuncData} (T : Txt K mg) (F : Fun K "need_modulus" "need_modulus" s_need_modulus f fd) (hm : mg "need_modulus" = some (.ref f)) (hb : Binds K fd ["modulus"] [])  : Cal P w K mg base 1 "need_modulus" (Sp1 K false (fun (modulus : Int) => 1 ≤ modulus) m_need_modulus) := by
  refine fn1 F hm hb sc_need_modulus rfl fun cdv A outer s H0 E hr G0 v_modulus modulus D s0 r_modulus hp fin => ?_
  have x0_0 : Ext G0 H0 G0 H0 := Ext.refl s0
  show tSs _ _ D [some v_modulus] H0
  have tk : m_need_modulus modulus = _ := rfl
  refine b_cons (s_if x0_0.s (et_cmp c_lt (ev_v (sl_need_modulus_modulus) r_modulus) ev_int) (fun h1 G1 H1 x2 l1 => ?_) (fun h1 G1 H1 x2 l1 => ?_))
  · have tk := tk_tt tk h1
    have h1_ := h1; try simp only [Bool.and_eq_true, Bool.or_eq_true, Bool.and_eq_false_iff, Bool.or_eq_false_iff, Bool.not_eq_true', Bool.not_eq_false', decide_eq_true_eq, decide_eq_false_iff_not, Classical.not_not] at h1_
    have x0_1 := x0_0.trans x2
    show tSs _ _ _ [some v_modulus] _
    exfalso
    walk_at "no"
  · have tk := tk_ff tk h1
    have h1_ := h1; try simp only [Bool.and_eq_true, Bool.or_eq_true, Bool.and_eq_false_iff, Bool.or_eq_false_iff, Bool.not_eq_true', Bool.not_eq_false', decide_eq_true_eq, decide_eq_false_iff_not, Classical.not_not] at h1_
    have x0_1 := x0_0.trans x2
    show tSs _ _ _ [some v_modulus] _
    refine b_nil ?_
    show tSs _ _ _ [some v_modulus] _
    refine b_nil ?_
    exact fin.nx _ _ _ x0_1 (rep_of tk rfl)

abbrev N_are_places : List Str := ["row", "places", "last", "place"]
theorem sc_are_places : FnScope N_are_places ["row", "places"] (defScope s_are_places) := ⟨rfl, rfl, rfl, by decide +kernel, rfl, by decide +kernel, by decide +kernel⟩
theorem sl_are_places_last {P : Program} {w : World} {K : PySem.W.Frag} {mg : Str → Option Value} {base : Heap} {f : Addr} {cdv : Value} {A : Around} {outer : List Env} {s : Shared} {H : Hp} {E : XK} : Sl (cxOf (L2.CX P w) P w K mg base N_are_places "are_places" (defScope s_are_places) f cdv A outer s H E) 2 "last" := ⟨rfl, (by first | exact .inl rfl | exact .inr (.inl rfl)), nm_last⟩
theorem sl_are_places_place {P : Program} {w : World} {K : PySem.W.Frag} {mg : Str → Option Value} {base : Heap} {f : Addr} {cdv : Value} {A : Around} {outer : List Env} {s : Shared} {H : Hp} {E : XK} : Sl (cxOf (L2.CX P w) P w K mg base N_are_places "are_places" (defScope s_are_places) f cdv A outer s H E) 3 "place" := ⟨rfl, (by first | exact .inl rfl | exact .inr (.inl rfl)), nm_place⟩
theorem sl_are_places_places {P : Program} {w : World} {K : PySem.W.Frag} {mg : Str → Option Value} {base : Heap} {f : Addr} {cdv : Value} {A : Around} {outer : List Env} {s : Shared} {H : Hp} {E : XK} : Sl (cxOf (L2.CX P w) P w K mg base N_are_places "are_places" (defScope s_are_places) f cdv A outer s H E) 1 "places" := ⟨rfl, (by first | exact .inl rfl | exact .inr (.inl rfl)), nm_places⟩
theorem sl_are_places_row {P : Program} {w : World} {K : PySem.W.Frag} {mg : Str → Option Value} {base : Heap} {f : Addr} {cdv : Value} {A : Around} {outer : List Env} {s : Shared} {H : Hp} {E : XK} : Sl (cxOf (L2.CX P w) P w K mg base N_are_places "are_places" (defScope s_are_places) f cdv A outer s H E) 0 "row" := ⟨rfl, (by first | exact .inl rfl | exact .inr (.inl rfl)), nm_row⟩
theorem ss_are_places_last {P : Program} {w : World} {K : PySem.W.Frag} {mg : Str → Option Value} {base : Heap} {f : Addr} {cdv : Value} {A : Around} {outer : List Env} {s : Shared} {H : Hp} {E : XK} : Ss (cxOf (L2.CX P w) P w K mg base N_are_places "are_places" (defScope s_are_places) f cdv A outer s H E) 2 "last" := ⟨rfl, (by first | exact .inl rfl | exact .inr rfl), .inl rfl⟩
theorem ss_are_places_place {P : Program} {w : World} {K : PySem.W.Frag} {mg : Str → Option Value} {base : Heap} {f : Addr} {cdv : Value} {A : Around} {outer : List Env} {s : Shared} {H : Hp} {E : XK} : Ss (cxOf (L2.CX P w) P w K mg base N_are_places "are_places" (defScope s_are_places) f cdv A outer s H E) 3 "place" := ⟨rfl, (by first | exact .inl rfl | exact .inr rfl), .inl rfl⟩
theorem gl_are_places_len {P : Program} {w : World} {K : PySem.W.Frag} {mg : Str → Option Value} {base : Heap} {f : Addr} {cdv : Value} {A : Around} {outer : List Env} {s : Shared} {H : Hp} {E : XK} : Gl (cxOf (L2.CX P w) P w K mg base N_are_places "are_places" (defScope s_are_places) f cdv A outer s H E) "len" := by rfl
theorem cal_are_places {P : Program} {w : World} {K : PySem.W.Frag} {mg : Str → Option Value} {base : Heap} {f : Addr} {fd : FuncData} (T : Txt K mg) (F : Fun K "are_places" "are_places" s_are_places f fd) (hm : mg "are_places" = some (.ref f)) (hb : Binds K fd ["row", "places"] [])  : Cal P w K mg base 1 "are_places" (Sp2 K false (fun (row : (List Int)) (places : (List Int)) => True) m_are_places) := by
  refine fn2 F hm hb sc_are_places rfl fun cdv A outer s H0 E hr G0 v_row v_places row places D s0 r_row r_places hp fin => ?_
  have x0_0 : Ext G0 H0 G0 H0 := Ext.refl s0
  show tSs _ _ D [some v_row, some v_places, none, none] H0
  have tk : m_are_places row places = _ := rfl
  refine b_cons (s_set sc_are_places.nd ss_are_places_last x0_0.s (Ev.to (y := (-1 : Int)) (ev_neg ev_int) (by decide)) fun G1 H1 v1_last x1 l1 r1_last => ?_)
  have x0_1 := x0_0.trans x1
  show tSs _ _ _ [some v_row, some v_places, some v1_last, none] _
  refine b_cons (s_for (T := (T1 K 3)) (passes_of rfl) rfl (pg_name (i := 3) sc_are_places.nd rfl ss_are_places_place.hx) acts1 x0_1.s (ei_list (ev_v (sl_are_places_places) (up x1.g r_places))) (fun rest σ G H => ∃ (last : Int), lrun (m_are_places_1s row) rest last = lrun (m_are_places_1s row) places (-1 : Int) ∧ Ext G0 H0 G H ∧ ∃ (u1_last : V) (y1_3 : Option V), σ = [some v_row, some v_places, some u1_last, y1_3] ∧ rep K G u1_last last) (fun _ _ x => ⟨(-1 : Int), rfl, x0_1.trans x, v1_last, none, rfl, up x.g r1_last⟩) ?_ ?_)
  · intro place rest σ1 G2 H2 G3 H3 σ2 hx1 sgA3 sh1 I_ x2 l3 hT
    obtain ⟨last, es1, x0_2, u1_last, y1_3, rfl, ru1_last⟩ := I_
    have x0_3 := x0_2.trans x2
    obtain ⟨t1, rt1, rfl⟩ := hT
    have mem1 := mem_of hx1.1
    have hlx1 := hx1.2; rw [sizeLine_eq] at hlx1
    have hlr1 := mem_len hx1.1
    have tk1 := tk
    have tk : m_are_places_1s row place last = _ := rfl
    show tSs _ _ _ [some v_row, some v_places, some u1_last, some t1] _
    refine b_cons (s_if x0_3.s (et_not (et_chain c_lt c_lt (ev_v (sl_are_places_last) (up x2.g ru1_last)) (ev_v (sl_are_places_place) rt1) fun c3 => (ev_len ⟨gl_are_places_len, T.b_len⟩ (ev_v (sl_are_places_row) (up (x1.g.trans (sgA3.trans x2.g)) r_row))))) (fun h4 G4 H4 x5 l4 => ?_) (fun h4 G4 H4 x5 l4 => ?_))
    · have tk := tk_tt tk h4
      have h4_ := h4; try simp only [Bool.and_eq_true, Bool.or_eq_true, Bool.and_eq_false_iff, Bool.or_eq_false_iff, Bool.not_eq_true', Bool.not_eq_false', decide_eq_true_eq, decide_eq_false_iff_not, Classical.not_not] at h4_
      have x0_4 := x0_3.trans x5
      show tSs _ _ _ [some v_row, some v_places, some u1_last, some t1] _
      refine b_cons (s_ret x0_4.s ev_bl fun G_ H_ v7 x6 _ r_ => ?_)
      exact fin.rt _ _ _ (x0_4.trans x6) (rep_of (tk_outR tk1 (lrun_ret es1 tk)) r_) (fun z => nomatch z)
    · have tk := tk_ff tk h4
      have h4_ := h4; try simp only [Bool.and_eq_true, Bool.or_eq_true, Bool.and_eq_false_iff, Bool.or_eq_false_iff, Bool.not_eq_true', Bool.not_eq_false', decide_eq_true_eq, decide_eq_false_iff_not, Classical.not_not] at h4_
      have x0_4 := x0_3.trans x5
      show tSs _ _ _ [some v_row, some v_places, some u1_last, some t1] _
      refine b_nil ?_
      show tSs _ _ _ [some v_row, some v_places, some u1_last, some t1] _
      refine b_cons (s_set sc_are_places.nd ss_are_places_last x0_4.s (ev_v (sl_are_places_place) (up x5.g rt1)) fun G5 H5 v5_last x8 l5 r5_last => ?_)
      have x0_5 := x0_4.trans x8
      show tSs _ _ _ [some v_row, some v_places, some v5_last, some t1] _
      refine b_nil ?_
      exact ⟨_, x5.g.trans x8.g, x0_5.s, place, lrun_nxt es1 tk, x0_5, v5_last, some t1, rfl, r5_last⟩
  · intro σ1 G6 H6 sgC6 sh1 I_
    obtain ⟨last, es1, x0_6, u1_last, y1_3, rfl, ru1_last⟩ := I_
    have tk := tk_outN (k := m_are_places_2) tk es1
    show tSs _ _ _ [some v_row, some v_places, some u1_last, y1_3] _
    refine b_cons (s_ret x0_6.s ev_bl fun G_ H_ v10 x9 _ r_ => ?_)
    exact fin.rt _ _ _ (x0_6.trans x9) (rep_of tk r_) (fun z => nomatch z)

abbrev N_rests : List Str := ["row", "modulus", "number"]
theorem sc_rests : FnScope N_rests ["row", "modulus"] (defScope s_rests) := ⟨rfl, rfl, rfl, by decide +kernel, rfl, by decide +kernel, by decide +kernel⟩
theorem sl_rests_modulus {P : Program} {w : World} {K : PySem.W.Frag} {mg : Str → Option Value} {base : Heap} {f : Addr} {cdv : Value} {A : Around} {outer : List Env} {s : Shared} {H : Hp} {E : XK} : Sl (cxOf (L2.CX P w) P w K mg base N_rests "rests" (defScope s_rests) f cdv A outer s H E) 1 "modulus" := ⟨rfl, (by first | exact .inl rfl | exact .inr (.inl rfl)), nm_modulus⟩
theorem sl_rests_row {P : Program} {w : World} {K : PySem.W.Frag} {mg : Str → Option Value} {base : Heap} {f : Addr} {cdv : Value} {A : Around} {outer : List Env} {s : Shared} {H : Hp} {E : XK} : Sl (cxOf (L2.CX P w) P w K mg base N_rests "rests" (defScope s_rests) f cdv A outer s H E) 0 "row" := ⟨rfl, (by first | exact .inl rfl | exact .inr (.inl rfl)), nm_row⟩
theorem gl_rests_need_modulus {P : Program} {w : World} {K : PySem.W.Frag} {mg : Str → Option Value} {base : Heap} {f : Addr} {cdv : Value} {A : Around} {outer : List Env} {s : Shared} {H : Hp} {E : XK} : Gl (cxOf (L2.CX P w) P w K mg base N_rests "rests" (defScope s_rests) f cdv A outer s H E) "need_modulus" := by rfl
theorem cal_rests {P : Program} {w : World} {K : PySem.W.Frag} {mg : Str → Option Value} {base : Heap} {f : Addr} {fd : FuncData} (T : Txt K mg) (F : Fun K "rests" "rests" s_rests f fd) (hm : mg "rests" = some (.ref f)) (hb : Binds K fd ["row", "modulus"] []) (C_need_modulus : Cal P w K mg base 1 "need_modulus" (Sp1 K false (fun (modulus : Int) => 1 ≤ modulus) m_need_modulus)) : Cal P w K mg base 2 "rests" (Sp2 K true (fun (row : (List Int)) (modulus : Int) => 1 ≤ modulus) m_rests) := by
  refine fn2 F hm hb sc_rests rfl fun cdv A outer s H0 E hr G0 v_row v_modulus row modulus D s0 r_row r_modulus hp fin => ?_
  have x0_0 : Ext G0 H0 G0 H0 := Ext.refl s0
  show tSs _ _ D [some v_row, some v_modulus, none] H0
  have tk : m_rests row modulus = _ := rfl
  refine b_cons (s_expr x0_0.s (ev_c1 C_need_modulus (hr.mono (by decide)) gl_rests_need_modulus (ev_v (sl_rests_modulus) r_modulus) (by walk_at "pre")) fun G1 H1 v2 x1 l1 _ => ?_)
  have x0_1 := x0_0.trans x1
  show tSs _ _ _ [some v_row, some v_modulus, none] _
  refine b_cons (s_retN_ x0_1.s (evN_lc (lc1A (fun (number : Int) => (number % modulus)) rfl sc_rests.nd (ei_list (ev_v (sl_rests_row) (up x1.g r_row))) [("number", 2)] (blkOk_by (N := N_rests) (sc := defScope s_rests) (by decide +kernel)) (fun _ _ _ _ _ => pg_name (i := 2) sc_rests.nd rfl (.inl rfl)) (fun number v14 G4 H5 hx6 x3 r15 s8 s9 s10 s11 s12 => (ev_bin (b_mod (by walk_at "sc")) (ev_v ((⟨rfl, .inl rfl, nm_number⟩ : Sl _ 2 _)) r15) (ev_v ((⟨rfl, (by first | exact .inr (.inl rfl) | exact .inr (.inr rfl)), nm_modulus⟩ : Sl _ 1 _)) (up (x1.g.trans x3.g) r_modulus)))))) fun G_ H_ v17 x16 _ r_ n_ => ?_)
  exact fin.rt _ _ _ (x0_1.trans x16) (rep_of tk r_) (fun _ p z => x0_1.h.free (n_ p z))

abbrev N_is_hit : List Str := ["row", "modulus", "places", "place"]
theorem sc_is_hit : FnScope N_is_hit ["row", "modulus", "places"] (defScope s_is_hit) := ⟨rfl, rfl, rfl, by decide +kernel, rfl, by decide +kernel, by decide +kernel⟩
theorem sl_is_hit_modulus {P : Program} {w : World} {K : PySem.W.Frag} {mg : Str → Option Value} {base : Heap} {f : Addr} {cdv : Value} {A : Around} {outer : List Env} {s : Shared} {H : Hp} {E : XK} : Sl (cxOf (L2.CX P w) P w K mg base N_is_hit "is_hit" (defScope s_is_hit) f cdv A outer s H E) 1 "modulus" := ⟨rfl, (by first | exact .inl rfl | exact .inr (.inl rfl)), nm_modulus⟩
theorem sl_is_hit_places {P : Program} {w : World} {K : PySem.W.Frag} {mg : Str → Option Value} {base : Heap} {f : Addr} {cdv : Value} {A : Around} {outer : List Env} {s : Shared} {H : Hp} {E : XK} : Sl (cxOf (L2.CX P w) P w K mg base N_is_hit "is_hit" (defScope s_is_hit) f cdv A outer s H E) 2 "places" := ⟨rfl, (by first | exact .inl rfl | exact .inr (.inl rfl)), nm_places⟩
theorem sl_is_hit_row {P : Program} {w : World} {K : PySem.W.Frag} {mg : Str → Option Value} {base : Heap} {f : Addr} {cdv : Value} {A : Around} {outer : List Env} {s : Shared} {H : Hp} {E : XK} : Sl (cxOf (L2.CX P w) P w K mg base N_is_hit "is_hit" (defScope s_is_hit) f cdv A outer s H E) 0 "row" := ⟨rfl, (by first | exact .inl rfl | exact .inr (.inl rfl)), nm_row⟩
theorem gl_is_hit_are_places {P : Program} {w : World} {K : PySem.W.Frag} {mg : Str → Option Value} {base : Heap} {f : Addr} {cdv : Value} {A : Around} {outer : List Env} {s : Shared} {H : Hp} {E : XK} : Gl (cxOf (L2.CX P w) P w K mg base N_is_hit "is_hit" (defScope s_is_hit) f cdv A outer s H E) "are_places" := by rfl
theorem gl_is_hit_need_modulus {P : Program} {w : World} {K : PySem.W.Frag} {mg : Str → Option Value} {base : Heap} {f : Addr} {cdv : Value} {A : Around} {outer : List Env} {s : Shared} {H : Hp} {E : XK} : Gl (cxOf (L2.CX P w) P w K mg base N_is_hit "is_hit" (defScope s_is_hit) f cdv A outer s H E) "need_modulus" := by rfl
theorem gl_is_hit_sum {P : Program} {w : World} {K : PySem.W.Frag} {mg : Str → Option Value} {base : Heap} {f : Addr} {cdv : Value} {A : Around} {outer : List Env} {s : Shared} {H : Hp} {E : XK} : Gl (cxOf (L2.CX P w) P w K mg base N_is_hit "is_hit" (defScope s_is_hit) f cdv A outer s H E) "sum" := by rfl
theorem cal_is_hit {P : Program} {w : World} {K : PySem.W.Frag} {mg : Str → Option Value} {base : Heap} {f : Addr} {fd : FuncData} (T : Txt K mg) (F : Fun K "is_hit" "is_hit" s_is_hit f fd) (hm : mg "is_hit" = some (.ref f)) (hb : Binds K fd ["row", "modulus", "places"] []) (C_need_modulus : Cal P w K mg base 1 "need_modulus" (Sp1 K false (fun (modulus : Int) => 1 ≤ modulus) m_need_modulus)) (C_are_places : Cal P w K mg base 1 "are_places" (Sp2 K false (fun (row : (List Int)) (places : (List Int)) => True) m_are_places)) : Cal P w K mg base 2 "is_hit" (Sp3 K false (fun (row : (List Int)) (modulus : Int) (places : (List Int)) => 1 ≤ modulus) m_is_hit) := by
  refine fn3 F hm hb sc_is_hit rfl fun cdv A outer s H0 E hr G0 v_row v_modulus v_places row modulus places D s0 r_row r_modulus r_places hp fin => ?_
  have x0_0 : Ext G0 H0 G0 H0 := Ext.refl s0
  show tSs _ _ D [some v_row, some v_modulus, some v_places, none] H0
  have tk : m_is_hit row modulus places = _ := rfl
  refine b_cons (s_expr x0_0.s (ev_c1 C_need_modulus (hr.mono (by decide)) gl_is_hit_need_modulus (ev_v (sl_is_hit_modulus) r_modulus) (by walk_at "pre")) fun G1 H1 v2 x1 l1 _ => ?_)
  have x0_1 := x0_0.trans x1
  show tSs _ _ _ [some v_row, some v_modulus, some v_places, none] _
  refine b_cons (s_if x0_1.s (et_w (ew_or (et_cmp (c_eqD (hu_of64 hr)) (ev_v (sl_is_hit_places) (up x1.g r_places)) (ev_list (es_nil (α := Int)))) fun c3 => (ew_or1 (et_not (et_val (ev_c2 C_are_places (hr.mono (by decide)) gl_is_hit_are_places (ev_v (sl_is_hit_row) (up x1.g r_row)) (ev_v (sl_is_hit_places) (up x1.g r_places)) (by walk_at "pre"))))))) (fun h4 G2 H2 x5 l2 => ?_) (fun h4 G2 H2 x5 l2 => ?_))
  · have tk := tk_tt tk h4
    have h4_ := h4; try simp only [Bool.and_eq_true, Bool.or_eq_true, Bool.and_eq_false_iff, Bool.or_eq_false_iff, Bool.not_eq_true', Bool.not_eq_false', decide_eq_true_eq, decide_eq_false_iff_not, Classical.not_not] at h4_
    have x0_2 := x0_1.trans x5
    show tSs _ _ _ [some v_row, some v_modulus, some v_places, none] _
    refine b_cons (s_ret x0_2.s ev_bl fun G_ H_ v7 x6 _ r_ => ?_)
    exact fin.rt _ _ _ (x0_2.trans x6) (rep_of tk r_) (fun z => nomatch z)
  · have tk := tk_ff tk h4
    have h4_ := h4; try simp only [Bool.and_eq_true, Bool.or_eq_true, Bool.and_eq_false_iff, Bool.or_eq_false_iff, Bool.not_eq_true', Bool.not_eq_false', decide_eq_true_eq, decide_eq_false_iff_not, Classical.not_not] at h4_
    have x0_2 := x0_1.trans x5
    show tSs _ _ _ [some v_row, some v_modulus, some v_places, none] _
    refine b_nil ?_
    show tSs _ _ _ [some v_row, some v_modulus, some v_places, none] _
    refine b_cons (s_ret x0_2.s (ev_cmp c_eq (ev_bin (b_mod (by walk_at "sc")) (ev_sum ⟨gl_is_hit_sum, T.b_sum⟩ rfl (ev_lc (lc1A (fun (place : Int) => ((row).getD (place).toNat (0 : Int))) rfl sc_is_hit.nd (ei_list (ev_v (sl_is_hit_places) (up (x1.g.trans x5.g) r_places))) [("place", 3)] (blkOk_by (N := N_is_hit) (sc := defScope s_is_hit) (by decide +kernel)) (fun _ _ _ _ _ => pg_name (i := 3) sc_is_hit.nd rfl (.inl rfl)) (fun place v19 G9 H10 hx11 x8 r20 s13 s14 s15 s16 s17 => (ev_ix (0 : Int) (ev_v ((⟨rfl, (by first | exact .inr (.inl rfl) | exact .inr (.inr rfl)), nm_row⟩ : Sl _ 0 _)) (up (x1.g.trans (x5.g.trans x8.g)) r_row)) (ev_v ((⟨rfl, .inl rfl, nm_place⟩ : Sl _ 3 _)) r20) (by walk_at "sc") (by walk_at "ix")))))) (ev_v (sl_is_hit_modulus) (up (x1.g.trans x5.g) r_modulus))) ev_int) fun G_ H_ v22 x21 _ r_ => ?_)
    exact fin.rt _ _ _ (x0_2.trans x21) (rep_of tk r_) (fun z => nomatch z)

abbrev N_sums_ahead : List Str := ["row", "modulus", "found", "rest"]
theorem sc_sums_ahead : FnScope N_sums_ahead ["row", "modulus"] (defScope s_sums_ahead) := ⟨rfl, rfl, rfl, by decide +kernel, rfl, by decide +kernel, by decide +kernel⟩
theorem sl_sums_ahead_found {P : Program} {w : World} {K : PySem.W.Frag} {mg : Str → Option Value} {base : Heap} {f : Addr} {cdv : Value} {A : Around} {outer : List Env} {s : Shared} {H : Hp} {E : XK} : Sl (cxOf (L2.CX P w) P w K mg base N_sums_ahead "sums_ahead" (defScope s_sums_ahead) f cdv A outer s H E) 2 "found" := ⟨rfl, (by first | exact .inl rfl | exact .inr (.inl rfl)), nm_found⟩
theorem sl_sums_ahead_modulus {P : Program} {w : World} {K : PySem.W.Frag} {mg : Str → Option Value} {base : Heap} {f : Addr} {cdv : Value} {A : Around} {outer : List Env} {s : Shared} {H : Hp} {E : XK} : Sl (cxOf (L2.CX P w) P w K mg base N_sums_ahead "sums_ahead" (defScope s_sums_ahead) f cdv A outer s H E) 1 "modulus" := ⟨rfl, (by first | exact .inl rfl | exact .inr (.inl rfl)), nm_modulus⟩
theorem sl_sums_ahead_rest_ {P : Program} {w : World} {K : PySem.W.Frag} {mg : Str → Option Value} {base : Heap} {f : Addr} {cdv : Value} {A : Around} {outer : List Env} {s : Shared} {H : Hp} {E : XK} : Sl (cxOf (L2.CX P w) P w K mg base N_sums_ahead "sums_ahead" (defScope s_sums_ahead) f cdv A outer s H E) 3 "rest" := ⟨rfl, (by first | exact .inl rfl | exact .inr (.inl rfl)), nm_rest_⟩
theorem sl_sums_ahead_row {P : Program} {w : World} {K : PySem.W.Frag} {mg : Str → Option Value} {base : Heap} {f : Addr} {cdv : Value} {A : Around} {outer : List Env} {s : Shared} {H : Hp} {E : XK} : Sl (cxOf (L2.CX P w) P w K mg base N_sums_ahead "sums_ahead" (defScope s_sums_ahead) f cdv A outer s H E) 0 "row" := ⟨rfl, (by first | exact .inl rfl | exact .inr (.inl rfl)), nm_row⟩
theorem ss_sums_ahead_found {P : Program} {w : World} {K : PySem.W.Frag} {mg : Str → Option Value} {base : Heap} {f : Addr} {cdv : Value} {A : Around} {outer : List Env} {s : Shared} {H : Hp} {E : XK} : Ss (cxOf (L2.CX P w) P w K mg base N_sums_ahead "sums_ahead" (defScope s_sums_ahead) f cdv A outer s H E) 2 "found" := ⟨rfl, (by first | exact .inl rfl | exact .inr rfl), .inl rfl⟩
theorem ss_sums_ahead_rest_ {P : Program} {w : World} {K : PySem.W.Frag} {mg : Str → Option Value} {base : Heap} {f : Addr} {cdv : Value} {A : Around} {outer : List Env} {s : Shared} {H : Hp} {E : XK} : Ss (cxOf (L2.CX P w) P w K mg base N_sums_ahead "sums_ahead" (defScope s_sums_ahead) f cdv A outer s H E) 3 "rest" := ⟨rfl, (by first | exact .inl rfl | exact .inr rfl), .inl rfl⟩
theorem gl_sums_ahead_rests {P : Program} {w : World} {K : PySem.W.Frag} {mg : Str → Option Value} {base : Heap} {f : Addr} {cdv : Value} {A : Around} {outer : List Env} {s : Shared} {H : Hp} {E : XK} : Gl (cxOf (L2.CX P w) P w K mg base N_sums_ahead "sums_ahead" (defScope s_sums_ahead) f cdv A outer s H E) "rests" := by rfl
theorem cal_sums_ahead {P : Program} {w : World} {K : PySem.W.Frag} {mg : Str → Option Value} {base : Heap} {f : Addr} {fd : FuncData} (T : Txt K mg) (F : Fun K "sums_ahead" "sums_ahead" s_sums_ahead f fd) (hm : mg "sums_ahead" = some (.ref f)) (hb : Binds K fd ["row", "modulus"] []) (C_rests : Cal P w K mg base 2 "rests" (Sp2 K true (fun (row : (List Int)) (modulus : Int) => 1 ≤ modulus) m_rests)) : Cal P w K mg base 3 "sums_ahead" (Sp2 K true (fun (row : (List Int)) (modulus : Int) => 1 ≤ modulus ∧ row.length ≤ 1000) m_sums_ahead) := by
  refine fn2 F hm hb sc_sums_ahead rfl fun cdv A outer s H0 E hr G0 v_row v_modulus row modulus D s0 r_row r_modulus hp fin => ?_
  have x0_0 : Ext G0 H0 G0 H0 := Ext.refl s0
  show tSs _ _ D [some v_row, some v_modulus, none, none] H0
  have hpc := hp; obtain ⟨hp_0, hp_1⟩ := hpc
  have tk : m_sums_ahead row modulus = _ := rfl
  refine b_cons (s_setO sc_sums_ahead.nd ss_sums_ahead_found x0_0.s (evN_list (es_cons ev_int es_nil)) fun G1 H1 q_found x1 l1 n_q_found o1_found => ?_)
  have x0_1 := x0_0.trans x1
  have m_q_found := x0_0.h.free n_q_found
  show tSs _ _ _ [some v_row, some v_modulus, some (.ref q_found), none] _
  have fc2 := post_rests row modulus (by walk_at "pre")
  refine b_cons (s_for (T := (T1 K 3)) (passes_of rfl) rfl (pg_name (i := 3) sc_sums_ahead.nd rfl ss_sums_ahead_rest_.hx) acts1 x0_1.s (ei_list (ev_c2 C_rests (hr.mono (by decide)) gl_sums_ahead_rests (ev_v (sl_sums_ahead_row) (up x1.g r_row)) (ev_v (sl_sums_ahead_modulus) (up x1.g r_modulus)) (by walk_at "pre"))) (fun rest σ G H => ∃ (found : (List Int)), lfold (m_sums_ahead_1s modulus) rest found = lfold (m_sums_ahead_1s modulus) (m_rests row modulus) ([(0 : Int)] : List Int) ∧ Ext G0 H0 G H ∧ ∃ (y1_3 : Option V), σ = [some v_row, some v_modulus, some (.ref q_found), y1_3] ∧ Own K G H q_found found ∧ found.length + 1 * rest.length ≤ ([(0 : Int)] : List Int).length + 1 * (m_rests row modulus).length ∧ 1 ≤ found.length) (fun _ _ x => ⟨([(0 : Int)] : List Int), rfl, x0_1.trans x, none, rfl, o1_found.mono x, by walk_at "inv0", by walk_at "inv0"⟩) ?_ ?_)
  · intro rest_ rest σ1 G2 H2 G3 H3 σ2 hx1 sgA3 sh1 I_ x3 l3 hT
    obtain ⟨found, es1, x0_2, y1_3, rfl, o2_found, inv1_0, inv1_1⟩ := I_
    have x0_3 := x0_2.trans x3
    have o3_found := o2_found.mono x3
    obtain ⟨t1, rt1, rfl⟩ := hT
    have inv1_0_ := inv1_0; try simp only [List.length_cons, List.length_nil] at inv1_0_
    have inv1_1_ := inv1_1; try simp only [List.length_cons, List.length_nil] at inv1_1_
    have mem1 := mem_of hx1.1
    have hlx1 := hx1.2; rw [sizeLine_eq] at hlx1
    have hlr1 := mem_len hx1.1
    have tk1 := tk
    have tk : m_sums_ahead_1s modulus rest_ found = _ := rfl
    show tSs _ _ _ [some v_row, some v_modulus, some (.ref q_found), some t1] _
    refine b_cons (s_append (sl_sums_ahead_found) x0_3.s o3_found (ev_bin (b_mod (by walk_at "sc")) (ev_bin b_add (ev_ixN (0 : Int) (j := (found).length - 1) (ev_vO (sl_sums_ahead_found) o3_found) (Ev.to (y := (-1 : Int)) (ev_neg ev_int) (by decide)) (by walk_at "ixn")) (ev_v (sl_sums_ahead_rest_) rt1)) (ev_v (sl_sums_ahead_modulus) (up (x1.g.trans (sgA3.trans x3.g)) r_modulus))) (by walk_at "sz") fun G4 H4_ us5 x4 l4 o4_found => ?_)
    have x0_4 := (x0_3.trans x4).wr (o := .lst us5) m_q_found o4_found.off
    show tSs _ _ _ [some v_row, some v_modulus, some (.ref q_found), some t1] _
    refine b_nil ?_
    exact ⟨_, x4.g, x0_4.s, (found ++ [((((found).getD ((found).length - 1) (0 : Int)) + rest_) % modulus)]), lfold_nxt es1 tk, x0_4, some t1, rfl, o4_found, by have hi := inv1_0; (try simp only [List.length_cons, List.length_nil, List.length_append, rng_len, enum_len] at hi ⊢); omega, by have hi := inv1_1; (try simp only [List.length_cons, List.length_nil, List.length_append, rng_len, enum_len] at hi ⊢); omega⟩
  · intro σ1 G5 H5 sgC5 sh1 I_
    obtain ⟨found, es1, x0_5, y1_3, rfl, o5_found, inv1_0, inv1_1⟩ := I_
    have tk := tk_fold (k := m_sums_ahead_2) tk es1
    have inv1_0_ := inv1_0; try simp only [List.length_cons, List.length_nil, rng_len, enum_len] at inv1_0_
    have inv1_1_ := inv1_1; try simp only [List.length_cons, List.length_nil, rng_len, enum_len] at inv1_1_
    show tSs _ _ _ [some v_row, some v_modulus, some (.ref q_found), y1_3] _
    obtain ⟨G6, x0_6, sg6, r6_found⟩ := o5_found.frz x0_5 m_q_found
    refine b_cons (s_retV (sl_sums_ahead_found) x0_6.s ?_)
    exact fin.rt _ _ _ x0_6 (rep_of tk r6_found) (fun _ p z => by cases z; exact m_q_found)

abbrev N_q_hit : List Str := ["row", "modulus", "places"]
theorem sc_q_hit : FnScope N_q_hit ["row", "modulus", "places"] (defScope s__law_hit) := ⟨rfl, rfl, rfl, by decide +kernel, rfl, by decide +kernel, by decide +kernel⟩
theorem sl_q_hit_modulus {P : Program} {w : World} {K : PySem.W.Frag} {mg : Str → Option Value} {base : Heap} {f : Addr} {cdv : Value} {A : Around} {outer : List Env} {s : Shared} {H : Hp} {E : XK} : Sl (cxOf (L2.CX P w) P w K mg base N_q_hit "_law_hit" (defScope s__law_hit) f cdv A outer s H E) 1 "modulus" := ⟨rfl, (by first | exact .inl rfl | exact .inr (.inl rfl)), nm_modulus⟩
theorem sl_q_hit_places {P : Program} {w : World} {K : PySem.W.Frag} {mg : Str → Option Value} {base : Heap} {f : Addr} {cdv : Value} {A : Around} {outer : List Env} {s : Shared} {H : Hp} {E : XK} : Sl (cxOf (L2.CX P w) P w K mg base N_q_hit "_law_hit" (defScope s__law_hit) f cdv A outer s H E) 2 "places" := ⟨rfl, (by first | exact .inl rfl | exact .inr (.inl rfl)), nm_places⟩
theorem sl_q_hit_row {P : Program} {w : World} {K : PySem.W.Frag} {mg : Str → Option Value} {base : Heap} {f : Addr} {cdv : Value} {A : Around} {outer : List Env} {s : Shared} {H : Hp} {E : XK} : Sl (cxOf (L2.CX P w) P w K mg base N_q_hit "_law_hit" (defScope s__law_hit) f cdv A outer s H E) 0 "row" := ⟨rfl, (by first | exact .inl rfl | exact .inr (.inl rfl)), nm_row⟩
theorem gl_q_hit_is_hit {P : Program} {w : World} {K : PySem.W.Frag} {mg : Str → Option Value} {base : Heap} {f : Addr} {cdv : Value} {A : Around} {outer : List Env} {s : Shared} {H : Hp} {E : XK} : Gl (cxOf (L2.CX P w) P w K mg base N_q_hit "_law_hit" (defScope s__law_hit) f cdv A outer s H E) "is_hit" := by rfl
theorem gl_q_hit_list {P : Program} {w : World} {K : PySem.W.Frag} {mg : Str → Option Value} {base : Heap} {f : Addr} {cdv : Value} {A : Around} {outer : List Env} {s : Shared} {H : Hp} {E : XK} : Gl (cxOf (L2.CX P w) P w K mg base N_q_hit "_law_hit" (defScope s__law_hit) f cdv A outer s H E) "list" := by rfl
theorem cal_q_hit {P : Program} {w : World} {K : PySem.W.Frag} {mg : Str → Option Value} {base : Heap} {f : Addr} {fd : FuncData} (T : Txt K mg) (F : Fun K "_law_hit" "_law_hit" s__law_hit f fd) (hm : mg "_law_hit" = some (.ref f)) (hb : Binds K fd ["row", "modulus", "places"] []) (C_is_hit : Cal P w K mg base 2 "is_hit" (Sp3 K false (fun (row : (List Int)) (modulus : Int) (places : (List Int)) => 1 ≤ modulus) m_is_hit)) : Cal P w K mg base 3 "_law_hit" (Sp3 K false (fun (row : (List Int)) (modulus : Int) (places : (List Int)) => 1 ≤ modulus) m_q_hit) := by
  refine fn3 F hm hb sc_q_hit rfl fun cdv A outer s H0 E hr G0 v_row v_modulus v_places row modulus places D s0 r_row r_modulus r_places hp fin => ?_
  have x0_0 : Ext G0 H0 G0 H0 := Ext.refl s0
  show tSs _ _ D [some v_row, some v_modulus, some v_places] H0
  have tk : m_q_hit row modulus places = _ := rfl
  refine b_cons (s_ret x0_0.s (ev_c3 C_is_hit (hr.mono (by decide)) gl_q_hit_is_hit (ev_copy ⟨gl_q_hit_list, T.b_list⟩ (ev_v (sl_q_hit_row) r_row)) (ev_v (sl_q_hit_modulus) r_modulus) (ev_copy ⟨gl_q_hit_list, T.b_list⟩ (ev_v (sl_q_hit_places) r_places)) (by walk_at "pre")) fun G_ H_ v2 x1 _ r_ => ?_)
  exact fin.rt _ _ _ (x0_0.trans x1) (rep_of tk r_) (fun z => nomatch z)

abbrev N_q_stir : List Str := ["cell", "k", "number"]
theorem sc_q_stir : FnScope N_q_stir ["cell", "k"] (defScope s__law_stir) := ⟨rfl, rfl, rfl, by decide +kernel, rfl, by decide +kernel, by decide +kernel⟩
theorem sl_q_stir_cell {P : Program} {w : World} {K : PySem.W.Frag} {mg : Str → Option Value} {base : Heap} {f : Addr} {cdv : Value} {A : Around} {outer : List Env} {s : Shared} {H : Hp} {E : XK} : Sl (cxOf (L2.CX P w) P w K mg base N_q_stir "_law_stir" (defScope s__law_stir) f cdv A outer s H E) 0 "cell" := ⟨rfl, (by first | exact .inl rfl | exact .inr (.inl rfl)), nm_cell⟩
theorem sl_q_stir_k {P : Program} {w : World} {K : PySem.W.Frag} {mg : Str → Option Value} {base : Heap} {f : Addr} {cdv : Value} {A : Around} {outer : List Env} {s : Shared} {H : Hp} {E : XK} : Sl (cxOf (L2.CX P w) P w K mg base N_q_stir "_law_stir" (defScope s__law_stir) f cdv A outer s H E) 1 "k" := ⟨rfl, (by first | exact .inl rfl | exact .inr (.inl rfl)), nm_k⟩
theorem sl_q_stir_number {P : Program} {w : World} {K : PySem.W.Frag} {mg : Str → Option Value} {base : Heap} {f : Addr} {cdv : Value} {A : Around} {outer : List Env} {s : Shared} {H : Hp} {E : XK} : Sl (cxOf (L2.CX P w) P w K mg base N_q_stir "_law_stir" (defScope s__law_stir) f cdv A outer s H E) 2 "number" := ⟨rfl, (by first | exact .inl rfl | exact .inr (.inl rfl)), nm_number⟩
theorem ss_q_stir_number {P : Program} {w : World} {K : PySem.W.Frag} {mg : Str → Option Value} {base : Heap} {f : Addr} {cdv : Value} {A : Around} {outer : List Env} {s : Shared} {H : Hp} {E : XK} : Ss (cxOf (L2.CX P w) P w K mg base N_q_stir "_law_stir" (defScope s__law_stir) f cdv A outer s H E) 2 "number" := ⟨rfl, (by first | exact .inl rfl | exact .inr rfl), .inl rfl⟩
theorem cal_q_stir {P : Program} {w : World} {K : PySem.W.Frag} {mg : Str → Option Value} {base : Heap} {f : Addr} {fd : FuncData} (T : Txt K mg) (F : Fun K "_law_stir" "_law_stir" s__law_stir f fd) (hm : mg "_law_stir" = some (.ref f)) (hb : Binds K fd ["cell", "k"] [])  : Cal P w K mg base 1 "_law_stir" (Sp2 K false (fun (cell : Int) (k : Int) => 0 ≤ k) m_q_stir) := by
  refine fn2 F hm hb sc_q_stir rfl fun cdv A outer s H0 E hr G0 v_cell v_k cell k D s0 r_cell r_k hp fin => ?_
  have x0_0 : Ext G0 H0 G0 H0 := Ext.refl s0
  show tSs _ _ D [some v_cell, some v_k, none] H0
  have tk : m_q_stir cell k = _ := rfl
  refine b_cons (s_if x0_0.s (et_cmp c_ge (ev_v (sl_q_stir_cell) r_cell) (Ev.to (y := (1000000000000000000 : Int)) (ev_bin (b_pow (by walk_at "pw")) ev_int ev_int) (by decide))) (fun h1 G1 H1 x2 l1 => ?_) (fun h1 G1 H1 x2 l1 => ?_))
  · have tk := tk_tt tk h1
    have h1_ := h1; try simp only [Bool.and_eq_true, Bool.or_eq_true, Bool.and_eq_false_iff, Bool.or_eq_false_iff, Bool.not_eq_true', Bool.not_eq_false', decide_eq_true_eq, decide_eq_false_iff_not, Classical.not_not] at h1_
    have x0_1 := x0_0.trans x2
    show tSs _ _ _ [some v_cell, some v_k, none] _
    refine b_cons (s_ret x0_1.s (ev_bin (b_mod (by walk_at "sc")) (ev_bin (b_shr (by walk_at "sc")) (ev_bin b_sub (ev_v (sl_q_stir_cell) (up x2.g r_cell)) (Ev.to (y := (1000000000000000000 : Int)) (ev_bin (b_pow (by walk_at "pw")) ev_int ev_int) (by decide))) (ev_bin (b_mul (by walk_at "mu")) ev_int (ev_v (sl_q_stir_k) (up x2.g r_k)))) ev_int) fun G_ H_ v4 x3 _ r_ => ?_)
    exact fin.rt _ _ _ (x0_1.trans x3) (rep_of tk r_) (fun z => nomatch z)
  · have tk := tk_ff tk h1
    have h1_ := h1; try simp only [Bool.and_eq_true, Bool.or_eq_true, Bool.and_eq_false_iff, Bool.or_eq_false_iff, Bool.not_eq_true', Bool.not_eq_false', decide_eq_true_eq, decide_eq_false_iff_not, Classical.not_not] at h1_
    have x0_1 := x0_0.trans x2
    show tSs _ _ _ [some v_cell, some v_k, none] _
    refine b_nil ?_
    show tSs _ _ _ [some v_cell, some v_k, none] _
    refine b_cons (s_set sc_q_stir.nd ss_q_stir_number x0_1.s (ev_bin (b_mod (by walk_at "sc")) (ev_bin (b_mul (by walk_at "mu")) (ev_bin b_add (ev_bin b_add (ev_bin (b_mod (by walk_at "sc")) (ev_v (sl_q_stir_cell) (up x2.g r_cell)) ev_int) (ev_bin (b_mul (by walk_at "mu")) ev_int (ev_v (sl_q_stir_k) (up x2.g r_k)))) ev_int) ev_int) ev_int) fun G2 H2 v2_number x5 l2 r2_number => ?_)
    have x0_2 := x0_1.trans x5
    show tSs _ _ _ [some v_cell, some v_k, some v2_number] _
    obtain ⟨number, e6⟩ : ∃ z, z = (((((cell % (2147483629 : Int)) + ((1013 : Int) * k)) + (1 : Int)) * (16807 : Int)) % (2147483647 : Int)) := ⟨_, rfl⟩
    rw [← e6] at r2_number
    have tk : _ = m_q_stir_1 number := tk.trans (by rw [e6] <;> rfl)
    refine b_cons (s_set sc_q_stir.nd ss_q_stir_number x0_2.s (ev_bin (b_mod (by walk_at "sc")) (ev_bin (b_mul (by walk_at "mu")) (ev_v (sl_q_stir_number) r2_number) (ev_v (sl_q_stir_number) r2_number)) ev_int) fun G3 H3 v3_number x7 l3 r3_number => ?_)
    have x0_3 := x0_2.trans x7
    show tSs _ _ _ [some v_cell, some v_k, some v3_number] _
    obtain ⟨number, e8⟩ : ∃ z, z = ((number * number) % (2147483629 : Int)) := ⟨_, rfl⟩
    rw [← e8] at r3_number
    have tk : _ = m_q_stir_2 number := tk.trans (by rw [e8] <;> rfl)
    refine b_cons (s_ret x0_3.s (ev_bin (b_div ⟨(by walk_at "sc"), (by walk_at "sc")⟩) (ev_bin (b_mod (by walk_at "sc")) (ev_bin (b_mul (by walk_at "mu")) (ev_v (sl_q_stir_number) r3_number) ev_int) ev_int) ev_int) fun G_ H_ v10 x9 _ r_ => ?_)
    exact fin.rt _ _ _ (x0_3.trans x9) (rep_of tk r_) (fun z => nomatch z)

abbrev N_q_cells : List Str := ["script", "many"]
theorem sc_q_cells : FnScope N_q_cells ["script", "many"] (defScope s__law_cells) := ⟨rfl, rfl, rfl, by decide +kernel, rfl, by decide +kernel, by decide +kernel⟩
theorem sl_q_cells_many {P : Program} {w : World} {K : PySem.W.Frag} {mg : Str → Option Value} {base : Heap} {f : Addr} {cdv : Value} {A : Around} {outer : List Env} {s : Shared} {H : Hp} {E : XK} : Sl (cxOf (L2.CX P w) P w K mg base N_q_cells "_law_cells" (defScope s__law_cells) f cdv A outer s H E) 1 "many" := ⟨rfl, (by first | exact .inl rfl | exact .inr (.inl rfl)), nm_many⟩
theorem sl_q_cells_script {P : Program} {w : World} {K : PySem.W.Frag} {mg : Str → Option Value} {base : Heap} {f : Addr} {cdv : Value} {A : Around} {outer : List Env} {s : Shared} {H : Hp} {E : XK} : Sl (cxOf (L2.CX P w) P w K mg base N_q_cells "_law_cells" (defScope s__law_cells) f cdv A outer s H E) 0 "script" := ⟨rfl, (by first | exact .inl rfl | exact .inr (.inl rfl)), nm_script⟩
theorem gl_q_cells_len {P : Program} {w : World} {K : PySem.W.Frag} {mg : Str → Option Value} {base : Heap} {f : Addr} {cdv : Value} {A : Around} {outer : List Env} {s : Shared} {H : Hp} {E : XK} : Gl (cxOf (L2.CX P w) P w K mg base N_q_cells "_law_cells" (defScope s__law_cells) f cdv A outer s H E) "len" := by rfl
theorem gl_q_cells_max {P : Program} {w : World} {K : PySem.W.Frag} {mg : Str → Option Value} {base : Heap} {f : Addr} {cdv : Value} {A : Around} {outer : List Env} {s : Shared} {H : Hp} {E : XK} : Gl (cxOf (L2.CX P w) P w K mg base N_q_cells "_law_cells" (defScope s__law_cells) f cdv A outer s H E) "max" := by rfl
theorem gl_q_cells_min {P : Program} {w : World} {K : PySem.W.Frag} {mg : Str → Option Value} {base : Heap} {f : Addr} {cdv : Value} {A : Around} {outer : List Env} {s : Shared} {H : Hp} {E : XK} : Gl (cxOf (L2.CX P w) P w K mg base N_q_cells "_law_cells" (defScope s__law_cells) f cdv A outer s H E) "min" := by rfl
theorem cal_q_cells {P : Program} {w : World} {K : PySem.W.Frag} {mg : Str → Option Value} {base : Heap} {f : Addr} {fd : FuncData} (T : Txt K mg) (F : Fun K "_law_cells" "_law_cells" s__law_cells f fd) (hm : mg "_law_cells" = some (.ref f)) (hb : Binds K fd ["script", "many"] [])  : Cal P w K mg base 1 "_law_cells" (Sp2 K true (fun (script : Scr) (many : Int) => script.ns.length ≤ 63 ∧ 0 ≤ many ∧ many ≤ 63) m_q_cells) := by
  refine fn2 F hm hb sc_q_cells rfl fun cdv A outer s H0 E hr G0 v_script v_many script many D s0 r_script r_many hp fin => ?_
  have x0_0 : Ext G0 H0 G0 H0 := Ext.refl s0
  show tSs _ _ D [some v_script, some v_many] H0
  have hpc := hp; obtain ⟨hp_0, hp_1, hp_2⟩ := hpc
  have tk : m_q_cells script many = _ := rfl
  refine b_cons (s_retN_ x0_0.s (evN_sl (ev_cat (by have := cut_le script.ns none (some many); walk_at "sz") (ev_sl (ev_v (sl_q_cells_script) r_script) eo_none (eo_some (ev_v (sl_q_cells_many) r_many))) (ev_list (es_cons ev_int es_nil))) eo_none (eo_some (ev_max ⟨gl_q_cells_max, T.b_max⟩ rfl ev_int (ev_min ⟨gl_q_cells_min, T.b_min⟩ rfl (ev_v (sl_q_cells_many) r_many) (ev_len ⟨gl_q_cells_len, T.b_len⟩ (ev_v (sl_q_cells_script) r_script)))))) fun G_ H_ v2 x1 _ r_ n_ => ?_)
  exact fin.rt _ _ _ (x0_0.trans x1) (rep_of tk r_) (fun _ p z => x0_0.h.free (n_ p z))

abbrev N_q_modulus : List Str := ["cell", "one"]
theorem sc_q_modulus : FnScope N_q_modulus ["cell"] (defScope s__law_modulus) := ⟨rfl, rfl, rfl, by decide +kernel, rfl, by decide +kernel, by decide +kernel⟩
theorem sl_q_modulus_cell {P : Program} {w : World} {K : PySem.W.Frag} {mg : Str → Option Value} {base : Heap} {f : Addr} {cdv : Value} {A : Around} {outer : List Env} {s : Shared} {H : Hp} {E : XK} : Sl (cxOf (L2.CX P w) P w K mg base N_q_modulus "_law_modulus" (defScope s__law_modulus) f cdv A outer s H E) 0 "cell" := ⟨rfl, (by first | exact .inl rfl | exact .inr (.inl rfl)), nm_cell⟩
theorem sl_q_modulus_one {P : Program} {w : World} {K : PySem.W.Frag} {mg : Str → Option Value} {base : Heap} {f : Addr} {cdv : Value} {A : Around} {outer : List Env} {s : Shared} {H : Hp} {E : XK} : Sl (cxOf (L2.CX P w) P w K mg base N_q_modulus "_law_modulus" (defScope s__law_modulus) f cdv A outer s H E) 1 "one" := ⟨rfl, (by first | exact .inl rfl | exact .inr (.inl rfl)), nm_one⟩
theorem ss_q_modulus_one {P : Program} {w : World} {K : PySem.W.Frag} {mg : Str → Option Value} {base : Heap} {f : Addr} {cdv : Value} {A : Around} {outer : List Env} {s : Shared} {H : Hp} {E : XK} : Ss (cxOf (L2.CX P w) P w K mg base N_q_modulus "_law_modulus" (defScope s__law_modulus) f cdv A outer s H E) 1 "one" := ⟨rfl, (by first | exact .inl rfl | exact .inr rfl), .inl rfl⟩
theorem gl_q_modulus__law_stir {P : Program} {w : World} {K : PySem.W.Frag} {mg : Str → Option Value} {base : Heap} {f : Addr} {cdv : Value} {A : Around} {outer : List Env} {s : Shared} {H : Hp} {E : XK} : Gl (cxOf (L2.CX P w) P w K mg base N_q_modulus "_law_modulus" (defScope s__law_modulus) f cdv A outer s H E) "_law_stir" := by rfl
theorem cal_q_modulus {P : Program} {w : World} {K : PySem.W.Frag} {mg : Str → Option Value} {base : Heap} {f : Addr} {fd : FuncData} (T : Txt K mg) (F : Fun K "_law_modulus" "_law_modulus" s__law_modulus f fd) (hm : mg "_law_modulus" = some (.ref f)) (hb : Binds K fd ["cell"] []) (C_q_stir : Cal P w K mg base 1 "_law_stir" (Sp2 K false (fun (cell : Int) (k : Int) => 0 ≤ k) m_q_stir)) : Cal P w K mg base 2 "_law_modulus" (Sp1 K false (fun (cell : Int) => True) m_q_modulus) := by
  refine fn1 F hm hb sc_q_modulus rfl fun cdv A outer s H0 E hr G0 v_cell cell D s0 r_cell hp fin => ?_
  have x0_0 : Ext G0 H0 G0 H0 := Ext.refl s0
  show tSs _ _ D [some v_cell, none] H0
  have tk : m_q_modulus cell = _ := rfl
  have fc1 := post_q_stir cell (1 : Int) (by walk_at "pre")
  refine b_cons (s_set sc_q_modulus.nd ss_q_modulus_one x0_0.s (ev_c2 C_q_stir (hr.mono (by decide)) gl_q_modulus__law_stir (ev_v (sl_q_modulus_cell) r_cell) ev_int (by walk_at "pre")) fun G1 H1 v1_one x2 l1 r1_one => ?_)
  have x0_1 := x0_0.trans x2
  show tSs _ _ _ [some v_cell, some v1_one] _
  obtain ⟨one, e3⟩ : ∃ z, z = (m_q_stir cell (1 : Int)) := ⟨_, rfl⟩
  rw [← e3] at r1_one
  have tk : _ = m_q_modulus_1 cell one := tk.trans (by rw [e3] <;> rfl)
  have p_e3 := post_q_stir cell (1 : Int) (by walk_at "pre"); rw [← e3] at p_e3; (try simp only [rep_len, rep_len2] at p_e3)
  refine b_cons (s_ret x0_1.s (ev_ix (0 : Int) (ev_list (es_cons ev_int (es_cons (ev_bin b_add ev_int (ev_bin (b_mod (by walk_at "sc")) (ev_v (sl_q_modulus_one) r1_one) ev_int)) (es_cons (ev_bin b_add ev_int (ev_bin (b_mod (by walk_at "sc")) (ev_v (sl_q_modulus_one) r1_one) ev_int)) (es_cons (ev_bin b_add ev_int (ev_bin (b_mod (by walk_at "sc")) (ev_v (sl_q_modulus_one) r1_one) ev_int)) (es_cons (ev_bin b_sub ev_int (ev_bin (b_mod (by walk_at "sc")) (ev_v (sl_q_modulus_one) r1_one) ev_int)) es_nil)))))) (ev_bin (b_mod (by walk_at "sc")) (ev_c2 C_q_stir (hr.mono (by decide)) gl_q_modulus__law_stir (ev_v (sl_q_modulus_cell) (up x2.g r_cell)) ev_int (by walk_at "pre")) ev_int) (by walk_at "sc") (by have := post_q_stir cell (0 : Int) (by walk_at "pre"); walk_at "ix")) fun G_ H_ v5 x4 _ r_ => ?_)
  exact fin.rt _ _ _ (x0_1.trans x4) (rep_of tk r_) (fun z => nomatch z)

abbrev N_q_row : List Str := ["cell", "modulus", "most", "many", "kind", "found", "k", "one", "two", "far", "some"]
theorem sc_q_row : FnScope N_q_row ["cell", "modulus", "most"] (defScope s__law_row) := ⟨rfl, rfl, rfl, by decide +kernel, rfl, by decide +kernel, by decide +kernel⟩
theorem sl_q_row_cell {P : Program} {w : World} {K : PySem.W.Frag} {mg : Str → Option Value} {base : Heap} {f : Addr} {cdv : Value} {A : Around} {outer : List Env} {s : Shared} {H : Hp} {E : XK} : Sl (cxOf (L2.CX P w) P w K mg base N_q_row "_law_row" (defScope s__law_row) f cdv A outer s H E) 0 "cell" := ⟨rfl, (by first | exact .inl rfl | exact .inr (.inl rfl)), nm_cell⟩
theorem sl_q_row_far {P : Program} {w : World} {K : PySem.W.Frag} {mg : Str → Option Value} {base : Heap} {f : Addr} {cdv : Value} {A : Around} {outer : List Env} {s : Shared} {H : Hp} {E : XK} : Sl (cxOf (L2.CX P w) P w K mg base N_q_row "_law_row" (defScope s__law_row) f cdv A outer s H E) 9 "far" := ⟨rfl, (by first | exact .inl rfl | exact .inr (.inl rfl)), nm_far⟩
theorem sl_q_row_found {P : Program} {w : World} {K : PySem.W.Frag} {mg : Str → Option Value} {base : Heap} {f : Addr} {cdv : Value} {A : Around} {outer : List Env} {s : Shared} {H : Hp} {E : XK} : Sl (cxOf (L2.CX P w) P w K mg base N_q_row "_law_row" (defScope s__law_row) f cdv A outer s H E) 5 "found" := ⟨rfl, (by first | exact .inl rfl | exact .inr (.inl rfl)), nm_found⟩
theorem sl_q_row_k {P : Program} {w : World} {K : PySem.W.Frag} {mg : Str → Option Value} {base : Heap} {f : Addr} {cdv : Value} {A : Around} {outer : List Env} {s : Shared} {H : Hp} {E : XK} : Sl (cxOf (L2.CX P w) P w K mg base N_q_row "_law_row" (defScope s__law_row) f cdv A outer s H E) 6 "k" := ⟨rfl, (by first | exact .inl rfl | exact .inr (.inl rfl)), nm_k⟩
theorem sl_q_row_kind {P : Program} {w : World} {K : PySem.W.Frag} {mg : Str → Option Value} {base : Heap} {f : Addr} {cdv : Value} {A : Around} {outer : List Env} {s : Shared} {H : Hp} {E : XK} : Sl (cxOf (L2.CX P w) P w K mg base N_q_row "_law_row" (defScope s__law_row) f cdv A outer s H E) 4 "kind" := ⟨rfl, (by first | exact .inl rfl | exact .inr (.inl rfl)), nm_kind⟩
theorem sl_q_row_many {P : Program} {w : World} {K : PySem.W.Frag} {mg : Str → Option Value} {base : Heap} {f : Addr} {cdv : Value} {A : Around} {outer : List Env} {s : Shared} {H : Hp} {E : XK} : Sl (cxOf (L2.CX P w) P w K mg base N_q_row "_law_row" (defScope s__law_row) f cdv A outer s H E) 3 "many" := ⟨rfl, (by first | exact .inl rfl | exact .inr (.inl rfl)), nm_many⟩
theorem sl_q_row_modulus {P : Program} {w : World} {K : PySem.W.Frag} {mg : Str → Option Value} {base : Heap} {f : Addr} {cdv : Value} {A : Around} {outer : List Env} {s : Shared} {H : Hp} {E : XK} : Sl (cxOf (L2.CX P w) P w K mg base N_q_row "_law_row" (defScope s__law_row) f cdv A outer s H E) 1 "modulus" := ⟨rfl, (by first | exact .inl rfl | exact .inr (.inl rfl)), nm_modulus⟩
theorem sl_q_row_most {P : Program} {w : World} {K : PySem.W.Frag} {mg : Str → Option Value} {base : Heap} {f : Addr} {cdv : Value} {A : Around} {outer : List Env} {s : Shared} {H : Hp} {E : XK} : Sl (cxOf (L2.CX P w) P w K mg base N_q_row "_law_row" (defScope s__law_row) f cdv A outer s H E) 2 "most" := ⟨rfl, (by first | exact .inl rfl | exact .inr (.inl rfl)), nm_most⟩
theorem sl_q_row_one {P : Program} {w : World} {K : PySem.W.Frag} {mg : Str → Option Value} {base : Heap} {f : Addr} {cdv : Value} {A : Around} {outer : List Env} {s : Shared} {H : Hp} {E : XK} : Sl (cxOf (L2.CX P w) P w K mg base N_q_row "_law_row" (defScope s__law_row) f cdv A outer s H E) 7 "one" := ⟨rfl, (by first | exact .inl rfl | exact .inr (.inl rfl)), nm_one⟩
theorem sl_q_row_some_ {P : Program} {w : World} {K : PySem.W.Frag} {mg : Str → Option Value} {base : Heap} {f : Addr} {cdv : Value} {A : Around} {outer : List Env} {s : Shared} {H : Hp} {E : XK} : Sl (cxOf (L2.CX P w) P w K mg base N_q_row "_law_row" (defScope s__law_row) f cdv A outer s H E) 10 "some" := ⟨rfl, (by first | exact .inl rfl | exact .inr (.inl rfl)), nm_some_⟩
theorem sl_q_row_two {P : Program} {w : World} {K : PySem.W.Frag} {mg : Str → Option Value} {base : Heap} {f : Addr} {cdv : Value} {A : Around} {outer : List Env} {s : Shared} {H : Hp} {E : XK} : Sl (cxOf (L2.CX P w) P w K mg base N_q_row "_law_row" (defScope s__law_row) f cdv A outer s H E) 8 "two" := ⟨rfl, (by first | exact .inl rfl | exact .inr (.inl rfl)), nm_two⟩
theorem ss_q_row_many {P : Program} {w : World} {K : PySem.W.Frag} {mg : Str → Option Value} {base : Heap} {f : Addr} {cdv : Value} {A : Around} {outer : List Env} {s : Shared} {H : Hp} {E : XK} : Ss (cxOf (L2.CX P w) P w K mg base N_q_row "_law_row" (defScope s__law_row) f cdv A outer s H E) 3 "many" := ⟨rfl, (by first | exact .inl rfl | exact .inr rfl), .inl rfl⟩
theorem ss_q_row_kind {P : Program} {w : World} {K : PySem.W.Frag} {mg : Str → Option Value} {base : Heap} {f : Addr} {cdv : Value} {A : Around} {outer : List Env} {s : Shared} {H : Hp} {E : XK} : Ss (cxOf (L2.CX P w) P w K mg base N_q_row "_law_row" (defScope s__law_row) f cdv A outer s H E) 4 "kind" := ⟨rfl, (by first | exact .inl rfl | exact .inr rfl), .inl rfl⟩
theorem ss_q_row_found {P : Program} {w : World} {K : PySem.W.Frag} {mg : Str → Option Value} {base : Heap} {f : Addr} {cdv : Value} {A : Around} {outer : List Env} {s : Shared} {H : Hp} {E : XK} : Ss (cxOf (L2.CX P w) P w K mg base N_q_row "_law_row" (defScope s__law_row) f cdv A outer s H E) 5 "found" := ⟨rfl, (by first | exact .inl rfl | exact .inr rfl), .inl rfl⟩
theorem ss_q_row_k {P : Program} {w : World} {K : PySem.W.Frag} {mg : Str → Option Value} {base : Heap} {f : Addr} {cdv : Value} {A : Around} {outer : List Env} {s : Shared} {H : Hp} {E : XK} : Ss (cxOf (L2.CX P w) P w K mg base N_q_row "_law_row" (defScope s__law_row) f cdv A outer s H E) 6 "k" := ⟨rfl, (by first | exact .inl rfl | exact .inr rfl), .inl rfl⟩
theorem ss_q_row_one {P : Program} {w : World} {K : PySem.W.Frag} {mg : Str → Option Value} {base : Heap} {f : Addr} {cdv : Value} {A : Around} {outer : List Env} {s : Shared} {H : Hp} {E : XK} : Ss (cxOf (L2.CX P w) P w K mg base N_q_row "_law_row" (defScope s__law_row) f cdv A outer s H E) 7 "one" := ⟨rfl, (by first | exact .inl rfl | exact .inr rfl), .inl rfl⟩
theorem ss_q_row_two {P : Program} {w : World} {K : PySem.W.Frag} {mg : Str → Option Value} {base : Heap} {f : Addr} {cdv : Value} {A : Around} {outer : List Env} {s : Shared} {H : Hp} {E : XK} : Ss (cxOf (L2.CX P w) P w K mg base N_q_row "_law_row" (defScope s__law_row) f cdv A outer s H E) 8 "two" := ⟨rfl, (by first | exact .inl rfl | exact .inr rfl), .inl rfl⟩
theorem ss_q_row_far {P : Program} {w : World} {K : PySem.W.Frag} {mg : Str → Option Value} {base : Heap} {f : Addr} {cdv : Value} {A : Around} {outer : List Env} {s : Shared} {H : Hp} {E : XK} : Ss (cxOf (L2.CX P w) P w K mg base N_q_row "_law_row" (defScope s__law_row) f cdv A outer s H E) 9 "far" := ⟨rfl, (by first | exact .inl rfl | exact .inr rfl), .inl rfl⟩
theorem ss_q_row_some_ {P : Program} {w : World} {K : PySem.W.Frag} {mg : Str → Option Value} {base : Heap} {f : Addr} {cdv : Value} {A : Around} {outer : List Env} {s : Shared} {H : Hp} {E : XK} : Ss (cxOf (L2.CX P w) P w K mg base N_q_row "_law_row" (defScope s__law_row) f cdv A outer s H E) 10 "some" := ⟨rfl, (by first | exact .inl rfl | exact .inr rfl), .inl rfl⟩
theorem gl_q_row__law_stir {P : Program} {w : World} {K : PySem.W.Frag} {mg : Str → Option Value} {base : Heap} {f : Addr} {cdv : Value} {A : Around} {outer : List Env} {s : Shared} {H : Hp} {E : XK} : Gl (cxOf (L2.CX P w) P w K mg base N_q_row "_law_row" (defScope s__law_row) f cdv A outer s H E) "_law_stir" := by rfl
theorem gl_q_row_int {P : Program} {w : World} {K : PySem.W.Frag} {mg : Str → Option Value} {base : Heap} {f : Addr} {cdv : Value} {A : Around} {outer : List Env} {s : Shared} {H : Hp} {E : XK} : Gl (cxOf (L2.CX P w) P w K mg base N_q_row "_law_row" (defScope s__law_row) f cdv A outer s H E) "int" := by rfl
theorem gl_q_row_min {P : Program} {w : World} {K : PySem.W.Frag} {mg : Str → Option Value} {base : Heap} {f : Addr} {cdv : Value} {A : Around} {outer : List Env} {s : Shared} {H : Hp} {E : XK} : Gl (cxOf (L2.CX P w) P w K mg base N_q_row "_law_row" (defScope s__law_row) f cdv A outer s H E) "min" := by rfl
theorem gl_q_row_range {P : Program} {w : World} {K : PySem.W.Frag} {mg : Str → Option Value} {base : Heap} {f : Addr} {cdv : Value} {A : Around} {outer : List Env} {s : Shared} {H : Hp} {E : XK} : Gl (cxOf (L2.CX P w) P w K mg base N_q_row "_law_row" (defScope s__law_row) f cdv A outer s H E) "range" := by rfl
theorem cal_q_row {P : Program} {w : World} {K : PySem.W.Frag} {mg : Str → Option Value} {base : Heap} {f : Addr} {fd : FuncData} (T : Txt K mg) (F : Fun K "_law_row" "_law_row" s__law_row f fd) (hm : mg "_law_row" = some (.ref f)) (hb : Binds K fd ["cell", "modulus", "most"] []) (C_q_stir : Cal P w K mg base 1 "_law_stir" (Sp2 K false (fun (cell : Int) (k : Int) => 0 ≤ k) m_q_stir)) : Cal P w K mg base 2 "_law_row" (Sp3 K true (fun (cell : Int) (modulus : Int) (most : Int) => 1 ≤ modulus ∧ modulus ≤ 60 ∧ 0 ≤ most ∧ most ≤ 40) m_q_row) := by
  refine fn3 F hm hb sc_q_row rfl fun cdv A outer s H0 E hr G0 v_cell v_modulus v_most cell modulus most D s0 r_cell r_modulus r_most hp fin => ?_
  have x0_0 : Ext G0 H0 G0 H0 := Ext.refl s0
  show tSs _ _ D [some v_cell, some v_modulus, some v_most, none, none, none, none, none, none, none, none] H0
  have hpc := hp; obtain ⟨hp_0, hp_1, hp_2, hp_3⟩ := hpc
  have tk : m_q_row cell modulus most = _ := rfl
  have fc1 := post_q_stir cell (2 : Int) (by walk_at "pre")
  have fc2 := post_q_stir cell (3 : Int) (by walk_at "pre")
  refine b_cons (s_set sc_q_row.nd ss_q_row_many x0_0.s (ev_ix (0 : Int) (ev_list (es_cons (ev_bin (b_mod (by walk_at "sc")) (ev_c2 C_q_stir (hr.mono (by decide)) gl_q_row__law_stir (ev_v (sl_q_row_cell) r_cell) ev_int (by walk_at "pre")) ev_int) (es_cons (ev_bin (b_mod (by walk_at "sc")) (ev_c2 C_q_stir (hr.mono (by decide)) gl_q_row__law_stir (ev_v (sl_q_row_cell) r_cell) ev_int (by walk_at "pre")) (ev_bin b_add (ev_v (sl_q_row_most) r_most) ev_int)) (es_cons (ev_v (sl_q_row_most) r_most) es_nil)))) (ev_bin (b_mod (by walk_at "sc")) (ev_c2 C_q_stir (hr.mono (by decide)) gl_q_row__law_stir (ev_v (sl_q_row_cell) r_cell) ev_int (by walk_at "pre")) ev_int) (by walk_at "sc") (by have := post_q_stir cell (2 : Int) (by walk_at "pre"); have := post_q_stir cell (2 : Int) (by walk_at "pre"); have := post_q_stir cell (3 : Int) (by walk_at "pre"); walk_at "ix")) fun G1 H1 v1_many x3 l1 r1_many => ?_)
  have x0_1 := x0_0.trans x3
  show tSs _ _ _ [some v_cell, some v_modulus, some v_most, some v1_many, none, none, none, none, none, none, none] _
  obtain ⟨many, e4⟩ : ∃ z, z = ((([((m_q_stir cell (2 : Int)) % (5 : Int)), ((m_q_stir cell (2 : Int)) % (most + (1 : Int))), most] : List Int)).getD (((m_q_stir cell (3 : Int)) % (3 : Int))).toNat (0 : Int)) := ⟨_, rfl⟩
  rw [← e4] at r1_many
  have tk : _ = m_q_row_1 cell modulus most many := tk.trans (by rw [e4] <;> rfl)
  have f_e4 : 0 ≤ many ∧ many ≤ 40 := by rw [e4]; have h1 := Int.emod_nonneg (m_q_stir cell 2) (show most + 1 ≠ 0 by omega); have h2 := Int.emod_lt_of_pos (m_q_stir cell 2) (show 0 < most + 1 by omega); exact getD_bd _ (by simp; omega) (by omega)
  have fc5 := post_q_stir cell (4 : Int) (by walk_at "pre")
  refine b_cons (s_set sc_q_row.nd ss_q_row_kind x0_1.s (ev_bin (b_mod (by walk_at "sc")) (ev_c2 C_q_stir (hr.mono (by decide)) gl_q_row__law_stir (ev_v (sl_q_row_cell) (up x3.g r_cell)) ev_int (by walk_at "pre")) ev_int) fun G2 H2 v2_kind x6 l2 r2_kind => ?_)
  have x0_2 := x0_1.trans x6
  show tSs _ _ _ [some v_cell, some v_modulus, some v_most, some v1_many, some v2_kind, none, none, none, none, none, none] _
  obtain ⟨kind, e7⟩ : ∃ z, z = ((m_q_stir cell (4 : Int)) % (7 : Int)) := ⟨_, rfl⟩
  rw [← e7] at r2_kind
  have tk : _ = m_q_row_2 cell modulus most many kind := tk.trans (by rw [e7] <;> rfl)
  have f_e7 : 0 ≤ kind ∧ kind < 7 := by rw [e7]; omega
  refine b_cons (s_nil (α := Int) sc_q_row.nd ss_q_row_found x0_2.s fun H3 q_found x8 l3 n_q_found o3_found => ?_)
  have x0_3 := x0_2.trans x8
  have m_q_found := x0_2.h.free n_q_found
  show tSs _ _ _ [some v_cell, some v_modulus, some v_most, some v1_many, some v2_kind, some (.ref q_found), none, none, none, none, none] _
  refine b_cons (s_for (T := (T1 K 6)) (passes_of rfl) rfl (pg_name (i := 6) sc_q_row.nd rfl ss_q_row_k.hx) acts1 x0_3.s (ei_range1 ⟨gl_q_row_range, T.b_range⟩ (ev_min ⟨gl_q_row_min, T.b_min⟩ rfl (ev_v (sl_q_row_most) (up (x3.g.trans (x6.g.trans (Same.refl _))) r_most)) (ev_v (sl_q_row_many) (up (x6.g.trans (Same.refl _)) r1_many))) (by walk_at "sc") (by walk_at "sc")) (fun rest σ G H => ∃ (found : (List Int)), lfold (m_q_row_3s cell modulus kind) rest found = lfold (m_q_row_3s cell modulus kind) (rng 0 (if many < most then many else most)) ([] : (List Int)) ∧ Ext G0 H0 G H ∧ ∃ (y1_6 y1_7 y1_8 y1_9 y1_10 : Option V), σ = [some v_cell, some v_modulus, some v_most, some v1_many, some v2_kind, some (.ref q_found), y1_6, y1_7, y1_8, y1_9, y1_10] ∧ Own K G H q_found found ∧ found.length + 1 * rest.length ≤ ([] : (List Int)).length + 1 * (rng 0 (if many < most then many else most)).length) (fun _ _ x => ⟨([] : (List Int)), rfl, x0_3.trans x, none, none, none, none, none, rfl, o3_found.mono x, by walk_at "inv0"⟩) ?_ ?_)
  · intro k rest σ1 G4 H4 G5 H5 σ2 hx1 sgA5 sh1 I_ x9 l5 hT
    obtain ⟨found, es1, x0_4, y1_6, y1_7, y1_8, y1_9, y1_10, rfl, o4_found, inv1_0⟩ := I_
    have x0_5 := x0_4.trans x9
    have o5_found := o4_found.mono x9
    obtain ⟨t1, rt1, rfl⟩ := hT
    have inv1_0_ := inv1_0; try simp only [List.length_cons, List.length_nil] at inv1_0_
    have mem1 := mem_of hx1.1
    have hlx1 := hx1.2; rw [sizeLine_eq] at hlx1
    have hlr1 := mem_len hx1.1
    have tk1 := tk
    have mem1_ := mem_rng.mp mem1
    have tk : m_q_row_3s cell modulus kind k found = _ := rfl
    show tSs _ _ _ [some v_cell, some v_modulus, some v_most, some v1_many, some v2_kind, some (.ref q_found), some t1, y1_7, y1_8, y1_9, y1_10] _
    have fc10 := post_q_stir cell ((10 : Int) + k) (by walk_at "pre")
    refine b_cons (s_set sc_q_row.nd ss_q_row_one x0_5.s (ev_c2 C_q_stir (hr.mono (by decide)) gl_q_row__law_stir (ev_v (sl_q_row_cell) (up (x3.g.trans (x6.g.trans ((Same.refl _).trans (sgA5.trans x9.g)))) r_cell)) (ev_bin b_add ev_int (ev_v (sl_q_row_k) rt1)) (by walk_at "pre")) fun G6 H6 v6_one x11 l6 r6_one => ?_)
    have x0_6 := x0_5.trans x11
    have o6_found := o5_found.mono x11
    show tSs _ _ _ [some v_cell, some v_modulus, some v_most, some v1_many, some v2_kind, some (.ref q_found), some t1, some v6_one, y1_8, y1_9, y1_10] _
    obtain ⟨one, e12⟩ : ∃ z, z = (m_q_stir cell ((10 : Int) + k)) := ⟨_, rfl⟩
    rw [← e12] at r6_one
    have tk : _ = m_q_row_5 cell modulus kind found k one := tk.trans (by rw [e12] <;> rfl)
    have p_e12 := post_q_stir cell ((10 : Int) + k) (by walk_at "pre"); rw [← e12] at p_e12; (try simp only [rep_len, rep_len2] at p_e12)
    have fc13 := post_q_stir cell ((60 : Int) + k) (by walk_at "pre")
    refine b_cons (s_set sc_q_row.nd ss_q_row_two x0_6.s (ev_c2 C_q_stir (hr.mono (by decide)) gl_q_row__law_stir (ev_v (sl_q_row_cell) (up (x3.g.trans (x6.g.trans ((Same.refl _).trans (sgA5.trans (x9.g.trans x11.g))))) r_cell)) (ev_bin b_add ev_int (ev_v (sl_q_row_k) (up x11.g rt1))) (by walk_at "pre")) fun G7 H7 v7_two x14 l7 r7_two => ?_)
    have x0_7 := x0_6.trans x14
    have o7_found := o6_found.mono x14
    show tSs _ _ _ [some v_cell, some v_modulus, some v_most, some v1_many, some v2_kind, some (.ref q_found), some t1, some v6_one, some v7_two, y1_9, y1_10] _
    obtain ⟨two, e15⟩ : ∃ z, z = (m_q_stir cell ((60 : Int) + k)) := ⟨_, rfl⟩
    rw [← e15] at r7_two
    have tk : _ = m_q_row_6 cell modulus kind found one two := tk.trans (by rw [e15] <;> rfl)
    have p_e15 := post_q_stir cell ((60 : Int) + k) (by walk_at "pre"); rw [← e15] at p_e15; (try simp only [rep_len, rep_len2] at p_e15)
    refine b_cons (s_set sc_q_row.nd ss_q_row_far x0_7.s (ev_bin (b_mul (by walk_at "mu")) (ev_bin b_sub (ev_bin (b_mul (by walk_at "mu")) (ev_bin (b_mod (by walk_at "sc")) (ev_v (sl_q_row_two) r7_two) ev_int) ev_int) ev_int) (ev_bin b_add (ev_bin (b_mul (by walk_at "mu")) (ev_v (sl_q_row_one) (up x14.g r6_one)) (Ev.to (y := (1000000000000000000000 : Int)) (ev_bin (b_pow (by walk_at "pw")) ev_int ev_int) (by decide))) (ev_v (sl_q_row_two) r7_two))) fun G8 H8 v8_far x16 l8 r8_far => ?_)
    have x0_8 := x0_7.trans x16
    have o8_found := o7_found.mono x16
    show tSs _ _ _ [some v_cell, some v_modulus, some v_most, some v1_many, some v2_kind, some (.ref q_found), some t1, some v6_one, some v7_two, some v8_far, y1_10] _
    obtain ⟨far, e17⟩ : ∃ z, z = ((((two % (2 : Int)) * (2 : Int)) - (1 : Int)) * ((one * (1000000000000000000000 : Int)) + two)) := ⟨_, rfl⟩
    rw [← e17] at r8_far
    have tk : _ = m_q_row_7 cell modulus kind found one two far := tk.trans (by rw [e17] <;> rfl)
    have fc18 := post_q_stir cell (10 : Int) (by walk_at "pre")
    refine b_cons (s_set sc_q_row.nd ss_q_row_some_ x0_8.s (ev_list (es_cons (ev_bin (b_mod (by walk_at "sc")) (ev_v (sl_q_row_one) (up (x14.g.trans x16.g) r6_one)) ev_int) (es_cons (ev_bin b_sub (ev_bin (b_mod (by walk_at "sc")) (ev_v (sl_q_row_one) (up (x14.g.trans x16.g) r6_one)) ev_int) ev_int) (es_cons (ev_v (sl_q_row_far) r8_far) (es_cons (ev_bin b_sub (ev_bin (b_mod (by walk_at "sc")) (ev_c2 C_q_stir (hr.mono (by decide)) gl_q_row__law_stir (ev_v (sl_q_row_cell) (up (x3.g.trans (x6.g.trans ((Same.refl _).trans (sgA5.trans (x9.g.trans (x11.g.trans (x14.g.trans x16.g))))))) r_cell)) ev_int (by walk_at "pre")) ev_int) ev_int) (es_cons (ev_bin (b_mod (by walk_at "sc")) (ev_v (sl_q_row_one) (up (x14.g.trans x16.g) r6_one)) (ev_v (sl_q_row_modulus) (up (x3.g.trans (x6.g.trans ((Same.refl _).trans (sgA5.trans (x9.g.trans (x11.g.trans (x14.g.trans x16.g))))))) r_modulus))) es_nil)))))) fun G9 H9 v9_some_ x19 l9 r9_some_ => ?_)
    have x0_9 := x0_8.trans x19
    have o9_found := o8_found.mono x19
    show tSs _ _ _ [some v_cell, some v_modulus, some v_most, some v1_many, some v2_kind, some (.ref q_found), some t1, some v6_one, some v7_two, some v8_far, some v9_some_] _
    obtain ⟨some_, e20⟩ : ∃ z, z = ([(one % (7 : Int)), ((one % (2001 : Int)) - (1000 : Int)), far, (((m_q_stir cell (10 : Int)) % (200 : Int)) - (99 : Int)), (one % modulus)] : List Int) := ⟨_, rfl⟩
    rw [← e20] at r9_some_
    have tk : _ = m_q_row_8 modulus kind found one two some_ := tk.trans (by rw [e20] <;> rfl)
    have g_e20 := congrArg List.length e20; try simp only [List.length_append, List.length_cons, List.length_nil, rng_len, List.length_map, List.length_reverse, psort_len, isort_len] at g_e20
    refine b_cons (s_set sc_q_row.nd ss_q_row_some_ x0_9.s (ev_cat (by walk_at "sz") (ev_v (sl_q_row_some_) r9_some_) (ev_list (es_cons (ev_bin b_add (ev_bin (b_mul (by walk_at "mu")) (ev_v (sl_q_row_modulus) (up (x3.g.trans (x6.g.trans ((Same.refl _).trans (sgA5.trans (x9.g.trans (x11.g.trans (x14.g.trans (x16.g.trans x19.g)))))))) r_modulus)) (ev_bin b_sub (ev_bin (b_mod (by walk_at "sc")) (ev_v (sl_q_row_two) (up (x16.g.trans x19.g) r7_two)) ev_int) ev_int)) (ev_bin (b_mod (by walk_at "sc")) (ev_v (sl_q_row_one) (up (x14.g.trans (x16.g.trans x19.g)) r6_one)) ev_int)) (es_cons (ev_bin b_add (ev_intB ⟨gl_q_row_int, T.b_int⟩ (ev_cmp c_gt (ev_bin (b_mod (by walk_at "sc")) (ev_v (sl_q_row_one) (up (x14.g.trans (x16.g.trans x19.g)) r6_one)) ev_int) ev_int)) (ev_bin (b_mul (by walk_at "mu")) (ev_v (sl_q_row_modulus) (up (x3.g.trans (x6.g.trans ((Same.refl _).trans (sgA5.trans (x9.g.trans (x11.g.trans (x14.g.trans (x16.g.trans x19.g)))))))) r_modulus)) (ev_bin (b_mod (by walk_at "sc")) (ev_v (sl_q_row_two) (up (x16.g.trans x19.g) r7_two)) ev_int))) es_nil)))) fun G10 H10 v10_some_ x21 l10 r10_some_ => ?_)
    have x0_10 := x0_9.trans x21
    have o10_found := o9_found.mono x21
    show tSs _ _ _ [some v_cell, some v_modulus, some v_most, some v1_many, some v2_kind, some (.ref q_found), some t1, some v6_one, some v7_two, some v8_far, some v10_some_] _
    obtain ⟨some_, e22⟩ : ∃ z, z = (some_ ++ ([((modulus * ((two % (1000 : Int)) - (500 : Int))) + (one % (3 : Int))), ((if (decide ((one % (8 : Int)) > (0 : Int))) = true then 1 else 0 : Int) + (modulus * (two % (5 : Int))))] : List Int)) := ⟨_, rfl⟩
    rw [← e22] at r10_some_
    have tk : _ = m_q_row_9 kind found some_ := tk.trans (by rw [e22] <;> rfl)
    have g_e22 := congrArg List.length e22; try simp only [List.length_append, List.length_cons, List.length_nil, rng_len, List.length_map, List.length_reverse, psort_len, isort_len] at g_e22
    refine b_cons (s_append (sl_q_row_found) x0_10.s o10_found (ev_ix (0 : Int) (ev_v (sl_q_row_some_) r10_some_) (ev_v (sl_q_row_kind) (up ((Same.refl _).trans (sgA5.trans (x9.g.trans (x11.g.trans (x14.g.trans (x16.g.trans (x19.g.trans x21.g))))))) r2_kind)) (by walk_at "sc") (by walk_at "ix")) (by walk_at "sz") fun G11 H11_ us24 x23 l11 o11_found => ?_)
    have x0_11 := (x0_10.trans x23).wr (o := .lst us24) m_q_found o11_found.off
    show tSs _ _ _ [some v_cell, some v_modulus, some v_most, some v1_many, some v2_kind, some (.ref q_found), some t1, some v6_one, some v7_two, some v8_far, some v10_some_] _
    refine b_nil ?_
    exact ⟨_, x11.g.trans (x14.g.trans (x16.g.trans (x19.g.trans (x21.g.trans x23.g)))), x0_11.s, (found ++ [((some_).getD (kind).toNat (0 : Int))]), lfold_nxt es1 tk, x0_11, some t1, some v6_one, some v7_two, some v8_far, some v10_some_, rfl, o11_found, by have hi := inv1_0; (try simp only [List.length_cons, List.length_nil, List.length_append, rng_len, enum_len] at hi ⊢); omega⟩
  · intro σ1 G12 H12 sgC12 sh1 I_
    obtain ⟨found, es1, x0_12, y1_6, y1_7, y1_8, y1_9, y1_10, rfl, o12_found, inv1_0⟩ := I_
    have tk := tk_fold (k := m_q_row_4) tk es1
    have inv1_0_ := inv1_0; try simp only [List.length_cons, List.length_nil, rng_len, enum_len] at inv1_0_
    show tSs _ _ _ [some v_cell, some v_modulus, some v_most, some v1_many, some v2_kind, some (.ref q_found), y1_6, y1_7, y1_8, y1_9, y1_10] _
    obtain ⟨G13, x0_13, sg13, r13_found⟩ := o12_found.frz x0_12 m_q_found
    refine b_cons (s_retV (sl_q_row_found) x0_13.s ?_)
    exact fin.rt _ _ _ x0_13 (rep_of tk r13_found) (fun _ p z => by cases z; exact m_q_found)

abbrev N_q_rest : List Str := ["number", "modulus"]
theorem sc_q_rest : FnScope N_q_rest ["number", "modulus"] (defScope s__law_rest) := ⟨rfl, rfl, rfl, by decide +kernel, rfl, by decide +kernel, by decide +kernel⟩
theorem sl_q_rest_modulus {P : Program} {w : World} {K : PySem.W.Frag} {mg : Str → Option Value} {base : Heap} {f : Addr} {cdv : Value} {A : Around} {outer : List Env} {s : Shared} {H : Hp} {E : XK} : Sl (cxOf (L2.CX P w) P w K mg base N_q_rest "_law_rest" (defScope s__law_rest) f cdv A outer s H E) 1 "modulus" := ⟨rfl, (by first | exact .inl rfl | exact .inr (.inl rfl)), nm_modulus⟩
theorem sl_q_rest_number {P : Program} {w : World} {K : PySem.W.Frag} {mg : Str → Option Value} {base : Heap} {f : Addr} {cdv : Value} {A : Around} {outer : List Env} {s : Shared} {H : Hp} {E : XK} : Sl (cxOf (L2.CX P w) P w K mg base N_q_rest "_law_rest" (defScope s__law_rest) f cdv A outer s H E) 0 "number" := ⟨rfl, (by first | exact .inl rfl | exact .inr (.inl rfl)), nm_number⟩
theorem cal_q_rest {P : Program} {w : World} {K : PySem.W.Frag} {mg : Str → Option Value} {base : Heap} {f : Addr} {fd : FuncData} (T : Txt K mg) (F : Fun K "_law_rest" "_law_rest" s__law_rest f fd) (hm : mg "_law_rest" = some (.ref f)) (hb : Binds K fd ["number", "modulus"] [])  : Cal P w K mg base 1 "_law_rest" (Sp2 K false (fun (number : Int) (modulus : Int) => 1 ≤ modulus ∧ modulus ≤ 60) m_q_rest) := by
  refine fn2 F hm hb sc_q_rest rfl fun cdv A outer s H0 E hr G0 v_number v_modulus number modulus D s0 r_number r_modulus hp fin => ?_
  have x0_0 : Ext G0 H0 G0 H0 := Ext.refl s0
  show tSs _ _ D [some v_number, some v_modulus] H0
  have hpc := hp; obtain ⟨hp_0, hp_1⟩ := hpc
  have tk : m_q_rest number modulus = _ := rfl
  refine b_cons (s_ret x0_0.s (ev_bin b_sub (ev_v (sl_q_rest_number) r_number) (ev_bin (b_mul (by walk_at "mu")) (ev_bin (b_div ⟨(by walk_at "sc"), (by walk_at "sc")⟩) (ev_v (sl_q_rest_number) r_number) (ev_v (sl_q_rest_modulus) r_modulus)) (ev_v (sl_q_rest_modulus) r_modulus))) fun G_ H_ v2 x1 _ r_ => ?_)
  exact fin.rt _ _ _ (x0_0.trans x1) (rep_of tk r_) (fun z => nomatch z)

abbrev N_q_some : List Str := ["cell", "base", "many", "bits", "place"]
theorem sc_q_some : FnScope N_q_some ["cell", "base", "many"] (defScope s__law_some) := ⟨rfl, rfl, rfl, by decide +kernel, rfl, by decide +kernel, by decide +kernel⟩
theorem sl_q_some_base_ {P : Program} {w : World} {K : PySem.W.Frag} {mg : Str → Option Value} {base : Heap} {f : Addr} {cdv : Value} {A : Around} {outer : List Env} {s : Shared} {H : Hp} {E : XK} : Sl (cxOf (L2.CX P w) P w K mg base N_q_some "_law_some" (defScope s__law_some) f cdv A outer s H E) 1 "base" := ⟨rfl, (by first | exact .inl rfl | exact .inr (.inl rfl)), nm_base_⟩
theorem sl_q_some_cell {P : Program} {w : World} {K : PySem.W.Frag} {mg : Str → Option Value} {base : Heap} {f : Addr} {cdv : Value} {A : Around} {outer : List Env} {s : Shared} {H : Hp} {E : XK} : Sl (cxOf (L2.CX P w) P w K mg base N_q_some "_law_some" (defScope s__law_some) f cdv A outer s H E) 0 "cell" := ⟨rfl, (by first | exact .inl rfl | exact .inr (.inl rfl)), nm_cell⟩
theorem sl_q_some_many {P : Program} {w : World} {K : PySem.W.Frag} {mg : Str → Option Value} {base : Heap} {f : Addr} {cdv : Value} {A : Around} {outer : List Env} {s : Shared} {H : Hp} {E : XK} : Sl (cxOf (L2.CX P w) P w K mg base N_q_some "_law_some" (defScope s__law_some) f cdv A outer s H E) 2 "many" := ⟨rfl, (by first | exact .inl rfl | exact .inr (.inl rfl)), nm_many⟩
theorem ss_q_some_bits {P : Program} {w : World} {K : PySem.W.Frag} {mg : Str → Option Value} {base : Heap} {f : Addr} {cdv : Value} {A : Around} {outer : List Env} {s : Shared} {H : Hp} {E : XK} : Ss (cxOf (L2.CX P w) P w K mg base N_q_some "_law_some" (defScope s__law_some) f cdv A outer s H E) 3 "bits" := ⟨rfl, (by first | exact .inl rfl | exact .inr rfl), .inl rfl⟩
theorem gl_q_some__law_stir {P : Program} {w : World} {K : PySem.W.Frag} {mg : Str → Option Value} {base : Heap} {f : Addr} {cdv : Value} {A : Around} {outer : List Env} {s : Shared} {H : Hp} {E : XK} : Gl (cxOf (L2.CX P w) P w K mg base N_q_some "_law_some" (defScope s__law_some) f cdv A outer s H E) "_law_stir" := by rfl
theorem gl_q_some_range {P : Program} {w : World} {K : PySem.W.Frag} {mg : Str → Option Value} {base : Heap} {f : Addr} {cdv : Value} {A : Around} {outer : List Env} {s : Shared} {H : Hp} {E : XK} : Gl (cxOf (L2.CX P w) P w K mg base N_q_some "_law_some" (defScope s__law_some) f cdv A outer s H E) "range" := by rfl
theorem cal_q_some {P : Program} {w : World} {K : PySem.W.Frag} {mg : Str → Option Value} {base : Heap} {f : Addr} {fd : FuncData} (T : Txt K mg) (F : Fun K "_law_some" "_law_some" s__law_some f fd) (hm : mg "_law_some" = some (.ref f)) (hb : Binds K fd ["cell", "base", "many"] []) (C_q_stir : Cal P w K mg base 1 "_law_stir" (Sp2 K false (fun (cell : Int) (k : Int) => 0 ≤ k) m_q_stir)) : Cal P w K mg base 2 "_law_some" (Sp3 K true (fun (cell : Int) (base_ : Int) (many : Int) => 0 ≤ base_ ∧ 0 ≤ many ∧ many ≤ 63) m_q_some) := by
  refine fn3 F hm hb sc_q_some rfl fun cdv A outer s H0 E hr G0 v_cell v_base_ v_many cell base_ many D s0 r_cell r_base_ r_many hp fin => ?_
  have x0_0 : Ext G0 H0 G0 H0 := Ext.refl s0
  show tSs _ _ D [some v_cell, some v_base_, some v_many, none, none] H0
  have hpc := hp; obtain ⟨hp_0, hp_1, hp_2⟩ := hpc
  have tk : m_q_some cell base_ many = _ := rfl
  have fc1 := post_q_stir cell base_ (by walk_at "pre")
  have fc2 := post_q_stir cell (base_ + (1 : Int)) (by walk_at "pre")
  refine b_cons (s_set sc_q_some.nd ss_q_some_bits x0_0.s (ev_bin b_add (ev_bin (b_mul (by walk_at "mu")) (ev_c2 C_q_stir (hr.mono (by decide)) gl_q_some__law_stir (ev_v (sl_q_some_cell) r_cell) (ev_v (sl_q_some_base_) r_base_) (by walk_at "pre")) ev_int) (ev_c2 C_q_stir (hr.mono (by decide)) gl_q_some__law_stir (ev_v (sl_q_some_cell) r_cell) (ev_bin b_add (ev_v (sl_q_some_base_) r_base_) ev_int) (by walk_at "pre"))) fun G1 H1 v1_bits x3 l1 r1_bits => ?_)
  have x0_1 := x0_0.trans x3
  show tSs _ _ _ [some v_cell, some v_base_, some v_many, some v1_bits, none] _
  obtain ⟨bits, e4⟩ : ∃ z, z = (((m_q_stir cell base_) * (268435456 : Int)) + (m_q_stir cell (base_ + (1 : Int)))) := ⟨_, rfl⟩
  rw [← e4] at r1_bits
  have tk : _ = m_q_some_1 many bits := tk.trans (by rw [e4] <;> rfl)
  refine b_cons (s_retN_ x0_1.s (evN_lc (lc1 (fun (place : Int) => place) (fun (place : Int) => (decide ((Builtin.bitAnd (bits / 2 ^ (place).toNat) (1 : Int)) = (1 : Int)))) rfl sc_q_some.nd (ei_range1 ⟨gl_q_some_range, T.b_range⟩ (ev_v (sl_q_some_many) (up x3.g r_many)) (by walk_at "sc") (by walk_at "sc")) [("place", 4)] (blkOk_by (N := N_q_some) (sc := defScope s__law_some) (by decide +kernel)) (fun _ _ _ _ _ => pg_name (i := 4) sc_q_some.nd rfl (.inl rfl)) (fun place v16 G6 H7 hx8 x5 r17 s10 s11 s12 s13 s14 => (ets_one (et_cmp c_eq (ev_bin b_and (ev_bin (b_shr (by walk_at "sc")) (ev_v ((⟨rfl, (by first | exact .inr (.inl rfl) | exact .inr (.inr rfl)), nm_bits⟩ : Sl _ 3 _)) (up x5.g r1_bits)) (ev_v ((⟨rfl, .inl rfl, nm_place⟩ : Sl _ 4 _)) r17)) ev_int) ev_int))) (fun place v16 G6 H7 hx8 ht9 x5 r17 s10 s11 s12 s13 s14 => (ev_v ((⟨rfl, .inl rfl, nm_place⟩ : Sl _ 4 _)) r17)))) fun G_ H_ v19 x18 _ r_ n_ => ?_)
  exact fin.rt _ _ _ (x0_1.trans x18) (rep_of tk r_) (fun _ p z => x0_1.h.free (n_ p z))

abbrev N_q_completed : List Str := ["row", "modulus", "places", "total", "place", "one"]
theorem sc_q_completed : FnScope N_q_completed ["row", "modulus", "places"] (defScope s__law_completed) := ⟨rfl, rfl, rfl, by decide +kernel, rfl, by decide +kernel, by decide +kernel⟩
theorem sl_q_completed_modulus {P : Program} {w : World} {K : PySem.W.Frag} {mg : Str → Option Value} {base : Heap} {f : Addr} {cdv : Value} {A : Around} {outer : List Env} {s : Shared} {H : Hp} {E : XK} : Sl (cxOf (L2.CX P w) P w K mg base N_q_completed "_law_completed" (defScope s__law_completed) f cdv A outer s H E) 1 "modulus" := ⟨rfl, (by first | exact .inl rfl | exact .inr (.inl rfl)), nm_modulus⟩
theorem sl_q_completed_place {P : Program} {w : World} {K : PySem.W.Frag} {mg : Str → Option Value} {base : Heap} {f : Addr} {cdv : Value} {A : Around} {outer : List Env} {s : Shared} {H : Hp} {E : XK} : Sl (cxOf (L2.CX P w) P w K mg base N_q_completed "_law_completed" (defScope s__law_completed) f cdv A outer s H E) 4 "place" := ⟨rfl, (by first | exact .inl rfl | exact .inr (.inl rfl)), nm_place⟩
theorem sl_q_completed_places {P : Program} {w : World} {K : PySem.W.Frag} {mg : Str → Option Value} {base : Heap} {f : Addr} {cdv : Value} {A : Around} {outer : List Env} {s : Shared} {H : Hp} {E : XK} : Sl (cxOf (L2.CX P w) P w K mg base N_q_completed "_law_completed" (defScope s__law_completed) f cdv A outer s H E) 2 "places" := ⟨rfl, (by first | exact .inl rfl | exact .inr (.inl rfl)), nm_places⟩
theorem sl_q_completed_row {P : Program} {w : World} {K : PySem.W.Frag} {mg : Str → Option Value} {base : Heap} {f : Addr} {cdv : Value} {A : Around} {outer : List Env} {s : Shared} {H : Hp} {E : XK} : Sl (cxOf (L2.CX P w) P w K mg base N_q_completed "_law_completed" (defScope s__law_completed) f cdv A outer s H E) 0 "row" := ⟨rfl, (by first | exact .inl rfl | exact .inr (.inl rfl)), nm_row⟩
theorem sl_q_completed_total {P : Program} {w : World} {K : PySem.W.Frag} {mg : Str → Option Value} {base : Heap} {f : Addr} {cdv : Value} {A : Around} {outer : List Env} {s : Shared} {H : Hp} {E : XK} : Sl (cxOf (L2.CX P w) P w K mg base N_q_completed "_law_completed" (defScope s__law_completed) f cdv A outer s H E) 3 "total" := ⟨rfl, (by first | exact .inl rfl | exact .inr (.inl rfl)), nm_total⟩
theorem ss_q_completed_total {P : Program} {w : World} {K : PySem.W.Frag} {mg : Str → Option Value} {base : Heap} {f : Addr} {cdv : Value} {A : Around} {outer : List Env} {s : Shared} {H : Hp} {E : XK} : Ss (cxOf (L2.CX P w) P w K mg base N_q_completed "_law_completed" (defScope s__law_completed) f cdv A outer s H E) 3 "total" := ⟨rfl, (by first | exact .inl rfl | exact .inr rfl), .inl rfl⟩
theorem ss_q_completed_place {P : Program} {w : World} {K : PySem.W.Frag} {mg : Str → Option Value} {base : Heap} {f : Addr} {cdv : Value} {A : Around} {outer : List Env} {s : Shared} {H : Hp} {E : XK} : Ss (cxOf (L2.CX P w) P w K mg base N_q_completed "_law_completed" (defScope s__law_completed) f cdv A outer s H E) 4 "place" := ⟨rfl, (by first | exact .inl rfl | exact .inr rfl), .inl rfl⟩
theorem gl_q_completed__law_rest {P : Program} {w : World} {K : PySem.W.Frag} {mg : Str → Option Value} {base : Heap} {f : Addr} {cdv : Value} {A : Around} {outer : List Env} {s : Shared} {H : Hp} {E : XK} : Gl (cxOf (L2.CX P w) P w K mg base N_q_completed "_law_completed" (defScope s__law_completed) f cdv A outer s H E) "_law_rest" := by rfl
theorem gl_q_completed_len {P : Program} {w : World} {K : PySem.W.Frag} {mg : Str → Option Value} {base : Heap} {f : Addr} {cdv : Value} {A : Around} {outer : List Env} {s : Shared} {H : Hp} {E : XK} : Gl (cxOf (L2.CX P w) P w K mg base N_q_completed "_law_completed" (defScope s__law_completed) f cdv A outer s H E) "len" := by rfl
theorem gl_q_completed_range {P : Program} {w : World} {K : PySem.W.Frag} {mg : Str → Option Value} {base : Heap} {f : Addr} {cdv : Value} {A : Around} {outer : List Env} {s : Shared} {H : Hp} {E : XK} : Gl (cxOf (L2.CX P w) P w K mg base N_q_completed "_law_completed" (defScope s__law_completed) f cdv A outer s H E) "range" := by rfl
theorem gl_q_completed_sorted {P : Program} {w : World} {K : PySem.W.Frag} {mg : Str → Option Value} {base : Heap} {f : Addr} {cdv : Value} {A : Around} {outer : List Env} {s : Shared} {H : Hp} {E : XK} : Gl (cxOf (L2.CX P w) P w K mg base N_q_completed "_law_completed" (defScope s__law_completed) f cdv A outer s H E) "sorted" := by rfl
theorem gl_q_completed_sum {P : Program} {w : World} {K : PySem.W.Frag} {mg : Str → Option Value} {base : Heap} {f : Addr} {cdv : Value} {A : Around} {outer : List Env} {s : Shared} {H : Hp} {E : XK} : Gl (cxOf (L2.CX P w) P w K mg base N_q_completed "_law_completed" (defScope s__law_completed) f cdv A outer s H E) "sum" := by rfl
theorem cal_q_completed {P : Program} {w : World} {K : PySem.W.Frag} {mg : Str → Option Value} {base : Heap} {f : Addr} {fd : FuncData} (T : Txt K mg) (F : Fun K "_law_completed" "_law_completed" s__law_completed f fd) (hm : mg "_law_completed" = some (.ref f)) (hb : Binds K fd ["row", "modulus", "places"] []) (C_q_rest : Cal P w K mg base 1 "_law_rest" (Sp2 K false (fun (number : Int) (modulus : Int) => 1 ≤ modulus ∧ modulus ≤ 60) m_q_rest)) : Cal P w K mg base 2 "_law_completed" (Sp3 K false (fun (row : (List Int)) (modulus : Int) (places : (List Int)) => (1 ≤ modulus ∧ modulus ≤ 60) ∧ (∀ p ∈ places, 0 ≤ p ∧ p < (row.length : Int)) ∧ places.length ≤ 1000 ∧ row.length ≤ 1000) m_q_completed) := by
  refine fn3 F hm hb sc_q_completed rfl fun cdv A outer s H0 E hr G0 v_row v_modulus v_places row modulus places D s0 r_row r_modulus r_places hp fin => ?_
  have x0_0 : Ext G0 H0 G0 H0 := Ext.refl s0
  show tSs _ _ D [some v_row, some v_modulus, some v_places, none, none, none] H0
  have hpc := hp; obtain ⟨hp_0, hp_1, hp_2, hp_3⟩ := hpc
  have tk : m_q_completed row modulus places = _ := rfl
  refine b_cons (s_set sc_q_completed.nd ss_q_completed_total x0_0.s (ev_sum ⟨gl_q_completed_sum, T.b_sum⟩ rfl (ev_lc (lc1A (fun (place : Int) => ((row).getD (place).toNat (0 : Int))) rfl sc_q_completed.nd (ei_list (ev_v (sl_q_completed_places) r_places)) [("place", 4)] (blkOk_by (N := N_q_completed) (sc := defScope s__law_completed) (by decide +kernel)) (fun _ _ _ _ _ => pg_name (i := 4) sc_q_completed.nd rfl (.inl rfl)) (fun place v12 G2 H3 hx4 x1 r13 s6 s7 s8 s9 s10 => (ev_ix (0 : Int) (ev_v ((⟨rfl, (by first | exact .inr (.inl rfl) | exact .inr (.inr rfl)), nm_row⟩ : Sl _ 0 _)) (up x1.g r_row)) (ev_v ((⟨rfl, .inl rfl, nm_place⟩ : Sl _ 4 _)) r13) (by walk_at "sc") (by walk_at "ix")))))) fun G2 H2 v2_total x14 l2 r2_total => ?_)
  have x0_2 := x0_0.trans x14
  show tSs _ _ _ [some v_row, some v_modulus, some v_places, some v2_total, none, none] _
  obtain ⟨total, e15⟩ : ∃ z, z = ((places.map (fun (place : Int) => ((row).getD (place).toNat (0 : Int))))).sum := ⟨_, rfl⟩
  rw [← e15] at r2_total
  have tk : _ = m_q_completed_1 row modulus places total := tk.trans (by rw [e15] <;> rfl)
  refine b_cons (s_for (T := (T1 K 4)) (passes_of rfl) rfl (pg_name (i := 4) sc_q_completed.nd rfl ss_q_completed_place.hx) acts1 x0_2.s (ei_range1 ⟨gl_q_completed_range, T.b_range⟩ (ev_len ⟨gl_q_completed_len, T.b_len⟩ (ev_v (sl_q_completed_row) (up x14.g r_row))) (by walk_at "sc") (by walk_at "sc")) (fun rest σ G H => lrun (m_q_completed_2s row modulus places total) rest () = lrun (m_q_completed_2s row modulus places total) (rng 0 ((row).length : Int)) () ∧ Ext G0 H0 G H ∧ ∃ (y1_4 : Option V), σ = [some v_row, some v_modulus, some v_places, some v2_total, y1_4, none]) (fun _ _ x => ⟨rfl, x0_2.trans x, none, rfl⟩) ?_ ?_)
  · intro place rest σ1 G3 H3 G4 H4 σ2 hx1 sgA4 sh1 I_ x16 l4 hT
    obtain ⟨es1, x0_3, y1_4, rfl⟩ := I_
    have x0_4 := x0_3.trans x16
    obtain ⟨t1, rt1, rfl⟩ := hT
    have mem1 := mem_of hx1.1
    have hlx1 := hx1.2; rw [sizeLine_eq] at hlx1
    have hlr1 := mem_len hx1.1
    have tk1 := tk
    have mem1_ := mem_rng.mp mem1
    have tk : m_q_completed_2s row modulus places total place () = _ := rfl
    show tSs _ _ _ [some v_row, some v_modulus, some v_places, some v2_total, some t1, none] _
    refine b_cons (s_if x0_4.s (et_w (ew_and (et_cmp c_nin (ev_v (sl_q_completed_place) rt1) (ev_v (sl_q_completed_places) (up (x14.g.trans (sgA4.trans x16.g)) r_places))) fun c17 => (ew_and1 (et_cmp c_eq (ev_c2 C_q_rest (hr.mono (by decide)) gl_q_completed__law_rest (ev_bin b_add (ev_v (sl_q_completed_total) (up (sgA4.trans x16.g) r2_total)) (ev_ix (0 : Int) (ev_v (sl_q_completed_row) (up (x14.g.trans (sgA4.trans x16.g)) r_row)) (ev_v (sl_q_completed_place) rt1) (by walk_at "sc") (by walk_at "ix"))) (ev_v (sl_q_completed_modulus) (up (x14.g.trans (sgA4.trans x16.g)) r_modulus)) (by walk_at "pre")) ev_int)))) (fun h18 G5 H5 x19 l5 => ?_) (fun h18 G5 H5 x19 l5 => ?_))
    · have tk := tk_tt tk h18
      have h18_ := h18; try simp only [Bool.and_eq_true, Bool.or_eq_true, Bool.and_eq_false_iff, Bool.or_eq_false_iff, Bool.not_eq_true', Bool.not_eq_false', decide_eq_true_eq, decide_eq_false_iff_not, Classical.not_not] at h18_
      have x0_5 := x0_4.trans x19
      show tSs _ _ _ [some v_row, some v_modulus, some v_places, some v2_total, some t1, none] _
      refine b_cons (s_ret x0_5.s (ev_sorted ⟨gl_q_completed_sorted, T.b_sorted⟩ (ev_cat (by walk_at "sz") (ev_v (sl_q_completed_places) (up (x14.g.trans (sgA4.trans (x16.g.trans x19.g))) r_places)) (ev_list (es_cons (ev_v (sl_q_completed_place) (up x19.g rt1)) es_nil)))) fun G_ H_ v21 x20 _ r_ => ?_)
      exact fin.rt _ _ _ (x0_5.trans x20) (rep_of (tk_outR tk1 (lrun_ret es1 tk)) r_) (fun z => nomatch z)
    · have tk := tk_ff tk h18
      have h18_ := h18; try simp only [Bool.and_eq_true, Bool.or_eq_true, Bool.and_eq_false_iff, Bool.or_eq_false_iff, Bool.not_eq_true', Bool.not_eq_false', decide_eq_true_eq, decide_eq_false_iff_not, Classical.not_not] at h18_
      have x0_5 := x0_4.trans x19
      show tSs _ _ _ [some v_row, some v_modulus, some v_places, some v2_total, some t1, none] _
      refine b_nil ?_
      show tSs _ _ _ [some v_row, some v_modulus, some v_places, some v2_total, some t1, none] _
      refine b_nil ?_
      exact ⟨_, x19.g, x0_5.s, lrun_nxt es1 tk, x0_5, some t1, rfl⟩
  · intro σ1 G6 H6 sgC6 sh1 I_
    obtain ⟨es1, x0_6, y1_4, rfl⟩ := I_
    have tk := tk_outN (k := (m_q_completed_3 row modulus places total)) tk es1
    show tSs _ _ _ [some v_row, some v_modulus, some v_places, some v2_total, y1_4, none] _
    refine b_cons (s_for (T := (T1 K 4)) (passes_of rfl) rfl (pg_name (i := 4) sc_q_completed.nd rfl ss_q_completed_place.hx) acts1 x0_6.s (ei_list (ev_v (sl_q_completed_places) (up (x14.g.trans sgC6) r_places))) (fun rest σ G H => lrun (m_q_completed_4s row modulus places total) rest () = lrun (m_q_completed_4s row modulus places total) places () ∧ Ext G0 H0 G H ∧ ∃ (y1_4 : Option V), σ = [some v_row, some v_modulus, some v_places, some v2_total, y1_4, none]) (fun _ _ x => ⟨rfl, x0_6.trans x, y1_4, rfl⟩) ?_ ?_)
    · intro place rest σ1 G7 H7 G8 H8 σ2 hx1 sgA8 sh1 I_ x22 l8 hT
      obtain ⟨es1, x0_7, y1_4, rfl⟩ := I_
      have x0_8 := x0_7.trans x22
      obtain ⟨t1, rt1, rfl⟩ := hT
      have mem1 := mem_of hx1.1
      have hlx1 := hx1.2; rw [sizeLine_eq] at hlx1
      have hlr1 := mem_len hx1.1
      have tk1 := tk
      have tk : m_q_completed_4s row modulus places total place () = _ := rfl
      show tSs _ _ _ [some v_row, some v_modulus, some v_places, some v2_total, some t1, none] _
      refine b_cons (s_if x0_8.s (et_cmp c_eq (ev_c2 C_q_rest (hr.mono (by decide)) gl_q_completed__law_rest (ev_bin b_sub (ev_v (sl_q_completed_total) (up (sgC6.trans (sgA8.trans x22.g)) r2_total)) (ev_ix (0 : Int) (ev_v (sl_q_completed_row) (up (x14.g.trans (sgC6.trans (sgA8.trans x22.g))) r_row)) (ev_v (sl_q_completed_place) rt1) (by walk_at "sc") (by walk_at "ix"))) (ev_v (sl_q_completed_modulus) (up (x14.g.trans (sgC6.trans (sgA8.trans x22.g))) r_modulus)) (by walk_at "pre")) ev_int) (fun h23 G9 H9 x24 l9 => ?_) (fun h23 G9 H9 x24 l9 => ?_))
      · have tk := tk_tt tk h23
        have h23_ := h23; try simp only [Bool.and_eq_true, Bool.or_eq_true, Bool.and_eq_false_iff, Bool.or_eq_false_iff, Bool.not_eq_true', Bool.not_eq_false', decide_eq_true_eq, decide_eq_false_iff_not, Classical.not_not] at h23_
        have x0_9 := x0_8.trans x24
        show tSs _ _ _ [some v_row, some v_modulus, some v_places, some v2_total, some t1, none] _
        refine b_cons (s_ret x0_9.s (ev_lc (lc1 (fun (one : Int) => one) (fun (one : Int) => (!decide (one = place))) rfl sc_q_completed.nd (ei_list (ev_v (sl_q_completed_places) (up (x14.g.trans (sgC6.trans (sgA8.trans (x22.g.trans x24.g)))) r_places))) [("one", 5)] (blkOk_by (N := N_q_completed) (sc := defScope s__law_completed) (by decide +kernel)) (fun _ _ _ _ _ => pg_name (i := 5) sc_q_completed.nd rfl (.inl rfl)) (fun one v36 G26 H27 hx28 x25 r37 s30 s31 s32 s33 s34 => (ets_one (et_cmp c_ne (ev_v ((⟨rfl, .inl rfl, nm_one⟩ : Sl _ 5 _)) r37) (ev_v ((⟨rfl, (by first | exact .inr (.inl rfl) | exact .inr (.inr rfl)), nm_place⟩ : Sl _ 4 _)) (up (x24.g.trans x25.g) rt1))))) (fun one v36 G26 H27 hx28 ht29 x25 r37 s30 s31 s32 s33 s34 => (ev_v ((⟨rfl, .inl rfl, nm_one⟩ : Sl _ 5 _)) r37)))) fun G_ H_ v39 x38 _ r_ => ?_)
        exact fin.rt _ _ _ (x0_9.trans x38) (rep_of (tk_outR tk1 (lrun_ret es1 tk)) r_) (fun z => nomatch z)
      · have tk := tk_ff tk h23
        have h23_ := h23; try simp only [Bool.and_eq_true, Bool.or_eq_true, Bool.and_eq_false_iff, Bool.or_eq_false_iff, Bool.not_eq_true', Bool.not_eq_false', decide_eq_true_eq, decide_eq_false_iff_not, Classical.not_not] at h23_
        have x0_9 := x0_8.trans x24
        show tSs _ _ _ [some v_row, some v_modulus, some v_places, some v2_total, some t1, none] _
        refine b_nil ?_
        show tSs _ _ _ [some v_row, some v_modulus, some v_places, some v2_total, some t1, none] _
        refine b_nil ?_
        exact ⟨_, x24.g, x0_9.s, lrun_nxt es1 tk, x0_9, some t1, rfl⟩
    · intro σ1 G11 H11 sgC11 sh1 I_
      obtain ⟨es1, x0_11, y1_4, rfl⟩ := I_
      have tk := tk_outN (k := (m_q_completed_5 places)) tk es1
      show tSs _ _ _ [some v_row, some v_modulus, some v_places, some v2_total, y1_4, none] _
      refine b_cons (s_ret x0_11.s (ev_v (sl_q_completed_places) (up (x14.g.trans (sgC6.trans sgC11)) r_places)) fun G_ H_ v41 x40 _ r_ => ?_)
      exact fin.rt _ _ _ (x0_11.trans x40) (rep_of tk r_) (fun z => nomatch z)

abbrev N_q_joined_right : List Str := ["row", "modulus", "one", "other", "both", "place", "hits", "places", "common", "rest"]
theorem sc_q_joined_right : FnScope N_q_joined_right ["row", "modulus", "one", "other"] (defScope s__law_joined_right) := ⟨rfl, rfl, rfl, by decide +kernel, rfl, by decide +kernel, by decide +kernel⟩
theorem sl_q_joined_right_both {P : Program} {w : World} {K : PySem.W.Frag} {mg : Str → Option Value} {base : Heap} {f : Addr} {cdv : Value} {A : Around} {outer : List Env} {s : Shared} {H : Hp} {E : XK} : Sl (cxOf (L2.CX P w) P w K mg base N_q_joined_right "_law_joined_right" (defScope s__law_joined_right) f cdv A outer s H E) 4 "both" := ⟨rfl, (by first | exact .inl rfl | exact .inr (.inl rfl)), nm_both⟩
theorem sl_q_joined_right_common {P : Program} {w : World} {K : PySem.W.Frag} {mg : Str → Option Value} {base : Heap} {f : Addr} {cdv : Value} {A : Around} {outer : List Env} {s : Shared} {H : Hp} {E : XK} : Sl (cxOf (L2.CX P w) P w K mg base N_q_joined_right "_law_joined_right" (defScope s__law_joined_right) f cdv A outer s H E) 8 "common" := ⟨rfl, (by first | exact .inl rfl | exact .inr (.inl rfl)), nm_common⟩
theorem sl_q_joined_right_hits {P : Program} {w : World} {K : PySem.W.Frag} {mg : Str → Option Value} {base : Heap} {f : Addr} {cdv : Value} {A : Around} {outer : List Env} {s : Shared} {H : Hp} {E : XK} : Sl (cxOf (L2.CX P w) P w K mg base N_q_joined_right "_law_joined_right" (defScope s__law_joined_right) f cdv A outer s H E) 6 "hits" := ⟨rfl, (by first | exact .inl rfl | exact .inr (.inl rfl)), nm_hits⟩
theorem sl_q_joined_right_modulus {P : Program} {w : World} {K : PySem.W.Frag} {mg : Str → Option Value} {base : Heap} {f : Addr} {cdv : Value} {A : Around} {outer : List Env} {s : Shared} {H : Hp} {E : XK} : Sl (cxOf (L2.CX P w) P w K mg base N_q_joined_right "_law_joined_right" (defScope s__law_joined_right) f cdv A outer s H E) 1 "modulus" := ⟨rfl, (by first | exact .inl rfl | exact .inr (.inl rfl)), nm_modulus⟩
theorem sl_q_joined_right_one {P : Program} {w : World} {K : PySem.W.Frag} {mg : Str → Option Value} {base : Heap} {f : Addr} {cdv : Value} {A : Around} {outer : List Env} {s : Shared} {H : Hp} {E : XK} : Sl (cxOf (L2.CX P w) P w K mg base N_q_joined_right "_law_joined_right" (defScope s__law_joined_right) f cdv A outer s H E) 2 "one" := ⟨rfl, (by first | exact .inl rfl | exact .inr (.inl rfl)), nm_one⟩
theorem sl_q_joined_right_other {P : Program} {w : World} {K : PySem.W.Frag} {mg : Str → Option Value} {base : Heap} {f : Addr} {cdv : Value} {A : Around} {outer : List Env} {s : Shared} {H : Hp} {E : XK} : Sl (cxOf (L2.CX P w) P w K mg base N_q_joined_right "_law_joined_right" (defScope s__law_joined_right) f cdv A outer s H E) 3 "other" := ⟨rfl, (by first | exact .inl rfl | exact .inr (.inl rfl)), nm_other⟩
theorem sl_q_joined_right_rest_ {P : Program} {w : World} {K : PySem.W.Frag} {mg : Str → Option Value} {base : Heap} {f : Addr} {cdv : Value} {A : Around} {outer : List Env} {s : Shared} {H : Hp} {E : XK} : Sl (cxOf (L2.CX P w) P w K mg base N_q_joined_right "_law_joined_right" (defScope s__law_joined_right) f cdv A outer s H E) 9 "rest" := ⟨rfl, (by first | exact .inl rfl | exact .inr (.inl rfl)), nm_rest_⟩
theorem sl_q_joined_right_row {P : Program} {w : World} {K : PySem.W.Frag} {mg : Str → Option Value} {base : Heap} {f : Addr} {cdv : Value} {A : Around} {outer : List Env} {s : Shared} {H : Hp} {E : XK} : Sl (cxOf (L2.CX P w) P w K mg base N_q_joined_right "_law_joined_right" (defScope s__law_joined_right) f cdv A outer s H E) 0 "row" := ⟨rfl, (by first | exact .inl rfl | exact .inr (.inl rfl)), nm_row⟩
theorem ss_q_joined_right_both {P : Program} {w : World} {K : PySem.W.Frag} {mg : Str → Option Value} {base : Heap} {f : Addr} {cdv : Value} {A : Around} {outer : List Env} {s : Shared} {H : Hp} {E : XK} : Ss (cxOf (L2.CX P w) P w K mg base N_q_joined_right "_law_joined_right" (defScope s__law_joined_right) f cdv A outer s H E) 4 "both" := ⟨rfl, (by first | exact .inl rfl | exact .inr rfl), .inl rfl⟩
theorem ss_q_joined_right_hits {P : Program} {w : World} {K : PySem.W.Frag} {mg : Str → Option Value} {base : Heap} {f : Addr} {cdv : Value} {A : Around} {outer : List Env} {s : Shared} {H : Hp} {E : XK} : Ss (cxOf (L2.CX P w) P w K mg base N_q_joined_right "_law_joined_right" (defScope s__law_joined_right) f cdv A outer s H E) 6 "hits" := ⟨rfl, (by first | exact .inl rfl | exact .inr rfl), .inl rfl⟩
theorem ss_q_joined_right_common {P : Program} {w : World} {K : PySem.W.Frag} {mg : Str → Option Value} {base : Heap} {f : Addr} {cdv : Value} {A : Around} {outer : List Env} {s : Shared} {H : Hp} {E : XK} : Ss (cxOf (L2.CX P w) P w K mg base N_q_joined_right "_law_joined_right" (defScope s__law_joined_right) f cdv A outer s H E) 8 "common" := ⟨rfl, (by first | exact .inl rfl | exact .inr rfl), .inl rfl⟩
theorem ss_q_joined_right_rest_ {P : Program} {w : World} {K : PySem.W.Frag} {mg : Str → Option Value} {base : Heap} {f : Addr} {cdv : Value} {A : Around} {outer : List Env} {s : Shared} {H : Hp} {E : XK} : Ss (cxOf (L2.CX P w) P w K mg base N_q_joined_right "_law_joined_right" (defScope s__law_joined_right) f cdv A outer s H E) 9 "rest" := ⟨rfl, (by first | exact .inl rfl | exact .inr rfl), .inl rfl⟩
theorem gl_q_joined_right__law_hit {P : Program} {w : World} {K : PySem.W.Frag} {mg : Str → Option Value} {base : Heap} {f : Addr} {cdv : Value} {A : Around} {outer : List Env} {s : Shared} {H : Hp} {E : XK} : Gl (cxOf (L2.CX P w) P w K mg base N_q_joined_right "_law_joined_right" (defScope s__law_joined_right) f cdv A outer s H E) "_law_hit" := by rfl
theorem gl_q_joined_right_len {P : Program} {w : World} {K : PySem.W.Frag} {mg : Str → Option Value} {base : Heap} {f : Addr} {cdv : Value} {A : Around} {outer : List Env} {s : Shared} {H : Hp} {E : XK} : Gl (cxOf (L2.CX P w) P w K mg base N_q_joined_right "_law_joined_right" (defScope s__law_joined_right) f cdv A outer s H E) "len" := by rfl
theorem gl_q_joined_right_sorted {P : Program} {w : World} {K : PySem.W.Frag} {mg : Str → Option Value} {base : Heap} {f : Addr} {cdv : Value} {A : Around} {outer : List Env} {s : Shared} {H : Hp} {E : XK} : Gl (cxOf (L2.CX P w) P w K mg base N_q_joined_right "_law_joined_right" (defScope s__law_joined_right) f cdv A outer s H E) "sorted" := by rfl
theorem cal_q_joined_right {P : Program} {w : World} {K : PySem.W.Frag} {mg : Str → Option Value} {base : Heap} {f : Addr} {fd : FuncData} (T : Txt K mg) (F : Fun K "_law_joined_right" "_law_joined_right" s__law_joined_right f fd) (hm : mg "_law_joined_right" = some (.ref f)) (hb : Binds K fd ["row", "modulus", "one", "other"] []) (C_q_hit : Cal P w K mg base 3 "_law_hit" (Sp3 K false (fun (row : (List Int)) (modulus : Int) (places : (List Int)) => 1 ≤ modulus) m_q_hit)) : Cal P w K mg base 4 "_law_joined_right" (Sp4 K false (fun (row : (List Int)) (modulus : Int) (one : (List Int)) (other : (List Int)) => (1 ≤ modulus ∧ modulus ≤ 60) ∧ one.length ≤ 100 ∧ other.length ≤ 100) m_q_joined_right) := by
  refine fn4 F hm hb sc_q_joined_right rfl fun cdv A outer s H0 E hr G0 v_row v_modulus v_one v_other row modulus one other D s0 r_row r_modulus r_one r_other hp fin => ?_
  have x0_0 : Ext G0 H0 G0 H0 := Ext.refl s0
  show tSs _ _ D [some v_row, some v_modulus, some v_one, some v_other, none, none, none, none, none, none] H0
  have hpc := hp; obtain ⟨hp_0, hp_1, hp_2⟩ := hpc
  have tk : m_q_joined_right row modulus one other = _ := rfl
  refine b_cons (s_set sc_q_joined_right.nd ss_q_joined_right_both x0_0.s (ev_sorted ⟨gl_q_joined_right_sorted, T.b_sorted⟩ (ev_cat (by walk_at "sz") (ev_v (sl_q_joined_right_one) r_one) (ev_lc (lc1 (fun (place : Int) => place) (fun (place : Int) => (!decide (place ∈ one))) rfl sc_q_joined_right.nd (ei_list (ev_v (sl_q_joined_right_other) r_other)) [("place", 5)] (blkOk_by (N := N_q_joined_right) (sc := defScope s__law_joined_right) (by decide +kernel)) (fun _ _ _ _ _ => pg_name (i := 5) sc_q_joined_right.nd rfl (.inl rfl)) (fun place v12 G2 H3 hx4 x1 r13 s6 s7 s8 s9 s10 => (ets_one (et_cmp c_nin (ev_v ((⟨rfl, .inl rfl, nm_place⟩ : Sl _ 5 _)) r13) (ev_v ((⟨rfl, (by first | exact .inr (.inl rfl) | exact .inr (.inr rfl)), nm_one⟩ : Sl _ 2 _)) (up x1.g r_one))))) (fun place v12 G2 H3 hx4 ht5 x1 r13 s6 s7 s8 s9 s10 => (ev_v ((⟨rfl, .inl rfl, nm_place⟩ : Sl _ 5 _)) r13)))))) fun G2 H2 v2_both x14 l2 r2_both => ?_)
  have x0_2 := x0_0.trans x14
  show tSs _ _ _ [some v_row, some v_modulus, some v_one, some v_other, some v2_both, none, none, none, none, none] _
  obtain ⟨both, e15⟩ : ∃ z, z = (isort (one ++ ((other.filter (fun (place : Int) => (!decide (place ∈ one)))).map (fun (place : Int) => place)))) := ⟨_, rfl⟩
  rw [← e15] at r2_both
  have tk : _ = m_q_joined_right_1 row modulus one other both := tk.trans (by rw [e15] <;> rfl)
  have g_e15 := congrArg List.length e15; try simp only [List.length_append, List.length_cons, List.length_nil, rng_len, List.length_map, List.length_reverse, psort_len, isort_len] at g_e15
  refine b_cons (s_setLc sc_q_joined_right.nd ss_q_joined_right_hits x0_2.s ((lc1A (fun (places : (List Int)) => (m_q_hit row modulus places)) rfl sc_q_joined_right.nd (ei_list (ev_list (es_cons (ev_v (sl_q_joined_right_one) (up x14.g r_one)) (es_cons (ev_v (sl_q_joined_right_other) (up x14.g r_other)) es_nil)))) [("places", 7)] (blkOk_by (N := N_q_joined_right) (sc := defScope s__law_joined_right) (by decide +kernel)) (fun _ _ _ _ _ => pg_name (i := 7) sc_q_joined_right.nd rfl (.inl rfl)) (fun places v27 G17 H18 hx19 x16 r28 s21 s22 s23 s24 s25 => (ev_c3 C_q_hit (hr.mono (by decide)) (by rfl) (ev_v ((⟨rfl, (by first | exact .inr (.inl rfl) | exact .inr (.inr rfl)), nm_row⟩ : Sl _ 0 _)) (up (x14.g.trans x16.g) r_row)) (ev_v ((⟨rfl, (by first | exact .inr (.inl rfl) | exact .inr (.inr rfl)), nm_modulus⟩ : Sl _ 1 _)) (up (x14.g.trans x16.g) r_modulus)) (ev_v ((⟨rfl, .inl rfl, nm_places⟩ : Sl _ 7 _)) r28) (by walk_at "pre"))))) fun G4 H4 v4_hits x29 l4 r4_hits n4 => ?_)
  have x0_4 := x0_2.trans x29
  show tSs _ _ _ [some v_row, some v_modulus, some v_one, some v_other, some v2_both, none, some v4_hits, none, none, none] _
  obtain ⟨hits, e30⟩ : ∃ z, z = (([one, other] : List (List Int)).map (fun (places : (List Int)) => (m_q_hit row modulus places))) := ⟨_, rfl⟩
  rw [← e30] at r4_hits
  have tk : _ = m_q_joined_right_2 row modulus one other both hits := tk.trans (by rw [e30] <;> rfl)
  have g_e30 := congrArg List.length e30; try simp only [List.length_append, List.length_cons, List.length_nil, rng_len, List.length_map, List.length_reverse, psort_len, isort_len] at g_e30
  refine b_cons (s_setLc sc_q_joined_right.nd ss_q_joined_right_common x0_4.s ((lc1 (fun (place : Int) => place) (fun (place : Int) => (decide (place ∈ other))) rfl sc_q_joined_right.nd (ei_list (ev_v (sl_q_joined_right_one) (up (x14.g.trans x29.g) r_one))) [("place", 5)] (blkOk_by (N := N_q_joined_right) (sc := defScope s__law_joined_right) (by decide +kernel)) (fun _ _ _ _ _ => pg_name (i := 5) sc_q_joined_right.nd rfl (.inl rfl)) (fun place v42 G32 H33 hx34 x31 r43 s36 s37 s38 s39 s40 => (ets_one (et_cmp c_in (ev_v ((⟨rfl, .inl rfl, nm_place⟩ : Sl _ 5 _)) r43) (ev_v ((⟨rfl, (by first | exact .inr (.inl rfl) | exact .inr (.inr rfl)), nm_other⟩ : Sl _ 3 _)) (up (x14.g.trans (x29.g.trans x31.g)) r_other))))) (fun place v42 G32 H33 hx34 ht35 x31 r43 s36 s37 s38 s39 s40 => (ev_v ((⟨rfl, .inl rfl, nm_place⟩ : Sl _ 5 _)) r43)))) fun G6 H6 v6_common x44 l6 r6_common n6 => ?_)
  have x0_6 := x0_4.trans x44
  show tSs _ _ _ [some v_row, some v_modulus, some v_one, some v_other, some v2_both, none, some v4_hits, none, some v6_common, none] _
  obtain ⟨common, e45⟩ : ∃ z, z = ((one.filter (fun (place : Int) => (decide (place ∈ other)))).map (fun (place : Int) => place)) := ⟨_, rfl⟩
  rw [← e45] at r6_common
  have tk : _ = m_q_joined_right_3 row modulus one other both hits common := tk.trans (by rw [e45] <;> rfl)
  have g_e45 := congrArg List.length e45; try simp only [List.length_append, List.length_cons, List.length_nil, rng_len, List.length_map, List.length_reverse, psort_len, isort_len] at g_e45
  refine b_cons (s_if x0_6.s (et_w (ew_and (et_cmp (c_eqD (hu_of64 hr)) (ev_v (sl_q_joined_right_hits) (up x44.g r4_hits)) (ev_list (es_cons ev_bl (es_cons ev_bl es_nil)))) fun c47 => (ew_and (et_cmp (c_eqD (hu_of64 hr)) (ev_v (sl_q_joined_right_common) r6_common) (ev_list (es_nil (α := Int)))) fun c46 => (ew_and1 (et_not (et_val (ev_c3 C_q_hit (hr.mono (by decide)) gl_q_joined_right__law_hit (ev_v (sl_q_joined_right_row) (up (x14.g.trans (x29.g.trans x44.g)) r_row)) (ev_v (sl_q_joined_right_modulus) (up (x14.g.trans (x29.g.trans x44.g)) r_modulus)) (ev_v (sl_q_joined_right_both) (up (x29.g.trans x44.g) r2_both)) (by walk_at "pre")))))))) (fun h48 G7 H7 x49 l7 => ?_) (fun h48 G7 H7 x49 l7 => ?_))
  · have tk := tk_tt tk h48
    have h48_ := h48; try simp only [Bool.and_eq_true, Bool.or_eq_true, Bool.and_eq_false_iff, Bool.or_eq_false_iff, Bool.not_eq_true', Bool.not_eq_false', decide_eq_true_eq, decide_eq_false_iff_not, Classical.not_not] at h48_
    have x0_7 := x0_6.trans x49
    show tSs _ _ _ [some v_row, some v_modulus, some v_one, some v_other, some v2_both, none, some v4_hits, none, some v6_common, none] _
    refine b_cons (s_ret x0_7.s ev_bl fun G_ H_ v51 x50 _ r_ => ?_)
    exact fin.rt _ _ _ (x0_7.trans x50) (rep_of tk r_) (fun z => nomatch z)
  · have tk := tk_ff tk h48
    have h48_ := h48; try simp only [Bool.and_eq_true, Bool.or_eq_true, Bool.and_eq_false_iff, Bool.or_eq_false_iff, Bool.not_eq_true', Bool.not_eq_false', decide_eq_true_eq, decide_eq_false_iff_not, Classical.not_not] at h48_
    have x0_7 := x0_6.trans x49
    show tSs _ _ _ [some v_row, some v_modulus, some v_one, some v_other, some v2_both, none, some v4_hits, none, some v6_common, none] _
    refine b_nil ?_
    show tSs _ _ _ [some v_row, some v_modulus, some v_one, some v_other, some v2_both, none, some v4_hits, none, some v6_common, none] _
    refine b_cons (s_setLc sc_q_joined_right.nd ss_q_joined_right_rest_ x0_7.s ((lc1 (fun (place : Int) => place) (fun (place : Int) => (!decide (place ∈ other))) rfl sc_q_joined_right.nd (ei_list (ev_v (sl_q_joined_right_one) (up (x14.g.trans (x29.g.trans (x44.g.trans x49.g))) r_one))) [("place", 5)] (blkOk_by (N := N_q_joined_right) (sc := defScope s__law_joined_right) (by decide +kernel)) (fun _ _ _ _ _ => pg_name (i := 5) sc_q_joined_right.nd rfl (.inl rfl)) (fun place v63 G53 H54 hx55 x52 r64 s57 s58 s59 s60 s61 => (ets_one (et_cmp c_nin (ev_v ((⟨rfl, .inl rfl, nm_place⟩ : Sl _ 5 _)) r64) (ev_v ((⟨rfl, (by first | exact .inr (.inl rfl) | exact .inr (.inr rfl)), nm_other⟩ : Sl _ 3 _)) (up (x14.g.trans (x29.g.trans (x44.g.trans (x49.g.trans x52.g)))) r_other))))) (fun place v63 G53 H54 hx55 ht56 x52 r64 s57 s58 s59 s60 s61 => (ev_v ((⟨rfl, .inl rfl, nm_place⟩ : Sl _ 5 _)) r64)))) fun G9 H9 v9_rest_ x65 l9 r9_rest_ n9 => ?_)
    have x0_9 := x0_7.trans x65
    show tSs _ _ _ [some v_row, some v_modulus, some v_one, some v_other, some v2_both, none, some v4_hits, none, some v6_common, some v9_rest_] _
    obtain ⟨rest_, e66⟩ : ∃ z, z = ((one.filter (fun (place : Int) => (!decide (place ∈ other)))).map (fun (place : Int) => place)) := ⟨_, rfl⟩
    rw [← e66] at r9_rest_
    have tk : _ = m_q_joined_right_4 row modulus other both hits common rest_ := tk.trans (by rw [e66] <;> rfl)
    have g_e66 := congrArg List.length e66; try simp only [List.length_append, List.length_cons, List.length_nil, rng_len, List.length_map, List.length_reverse, psort_len, isort_len] at g_e66
    refine b_cons (s_if x0_9.s (et_w (ew_and (et_cmp (c_eqD (hu_of64 hr)) (ev_v (sl_q_joined_right_hits) (up (x44.g.trans (x49.g.trans x65.g)) r4_hits)) (ev_list (es_cons ev_bl (es_cons ev_bl es_nil)))) fun c69 => (ew_and (et_cmp c_eq (ev_len ⟨gl_q_joined_right_len, T.b_len⟩ (ev_v (sl_q_joined_right_common) (up (x49.g.trans x65.g) r6_common))) (ev_len ⟨gl_q_joined_right_len, T.b_len⟩ (ev_v (sl_q_joined_right_other) (up (x14.g.trans (x29.g.trans (x44.g.trans (x49.g.trans x65.g)))) r_other)))) fun c68 => (ew_and (et_cmp (c_neD (hu_of64 hr)) (ev_v (sl_q_joined_right_rest_) r9_rest_) (ev_list (es_nil (α := Int)))) fun c67 => (ew_and1 (et_not (et_val (ev_c3 C_q_hit (hr.mono (by decide)) gl_q_joined_right__law_hit (ev_v (sl_q_joined_right_row) (up (x14.g.trans (x29.g.trans (x44.g.trans (x49.g.trans x65.g)))) r_row)) (ev_v (sl_q_joined_right_modulus) (up (x14.g.trans (x29.g.trans (x44.g.trans (x49.g.trans x65.g)))) r_modulus)) (ev_v (sl_q_joined_right_rest_) r9_rest_) (by walk_at "pre"))))))))) (fun h70 G10 H10 x71 l10 => ?_) (fun h70 G10 H10 x71 l10 => ?_))
    · have tk := tk_tt tk h70
      have h70_ := h70; try simp only [Bool.and_eq_true, Bool.or_eq_true, Bool.and_eq_false_iff, Bool.or_eq_false_iff, Bool.not_eq_true', Bool.not_eq_false', decide_eq_true_eq, decide_eq_false_iff_not, Classical.not_not] at h70_
      have x0_10 := x0_9.trans x71
      show tSs _ _ _ [some v_row, some v_modulus, some v_one, some v_other, some v2_both, none, some v4_hits, none, some v6_common, some v9_rest_] _
      refine b_cons (s_ret x0_10.s ev_bl fun G_ H_ v73 x72 _ r_ => ?_)
      exact fin.rt _ _ _ (x0_10.trans x72) (rep_of tk r_) (fun z => nomatch z)
    · have tk := tk_ff tk h70
      have h70_ := h70; try simp only [Bool.and_eq_true, Bool.or_eq_true, Bool.and_eq_false_iff, Bool.or_eq_false_iff, Bool.not_eq_true', Bool.not_eq_false', decide_eq_true_eq, decide_eq_false_iff_not, Classical.not_not] at h70_
      have x0_10 := x0_9.trans x71
      show tSs _ _ _ [some v_row, some v_modulus, some v_one, some v_other, some v2_both, none, some v4_hits, none, some v6_common, some v9_rest_] _
      refine b_nil ?_
      show tSs _ _ _ [some v_row, some v_modulus, some v_one, some v_other, some v2_both, none, some v4_hits, none, some v6_common, some v9_rest_] _
      refine b_cons (s_ret x0_10.s (ev_cmp c_eqB (ev_c3 C_q_hit (hr.mono (by decide)) gl_q_joined_right__law_hit (ev_v (sl_q_joined_right_row) (up (x14.g.trans (x29.g.trans (x44.g.trans (x49.g.trans (x65.g.trans x71.g))))) r_row)) ev_int (ev_v (sl_q_joined_right_both) (up (x29.g.trans (x44.g.trans (x49.g.trans (x65.g.trans x71.g)))) r2_both)) (by walk_at "pre")) (ev_cmp (c_neD (hu_of64 hr)) (ev_v (sl_q_joined_right_both) (up (x29.g.trans (x44.g.trans (x49.g.trans (x65.g.trans x71.g)))) r2_both)) (ev_list (es_nil (α := Int))))) fun G_ H_ v75 x74 _ r_ => ?_)
      exact fin.rt _ _ _ (x0_10.trans x74) (rep_of tk r_) (fun z => nomatch z)

abbrev N_q_otherwise_right : List Str := ["cell", "row", "modulus", "places", "hit", "more", "k", "times", "others", "number", "far", "other", "goes", "one"]
theorem sc_q_otherwise_right : FnScope N_q_otherwise_right ["cell", "row", "modulus", "places"] (defScope s__law_otherwise_right) := ⟨rfl, rfl, rfl, by decide +kernel, rfl, by decide +kernel, by decide +kernel⟩
theorem sl_q_otherwise_right_cell {P : Program} {w : World} {K : PySem.W.Frag} {mg : Str → Option Value} {base : Heap} {f : Addr} {cdv : Value} {A : Around} {outer : List Env} {s : Shared} {H : Hp} {E : XK} : Sl (cxOf (L2.CX P w) P w K mg base N_q_otherwise_right "_law_otherwise_right" (defScope s__law_otherwise_right) f cdv A outer s H E) 0 "cell" := ⟨rfl, (by first | exact .inl rfl | exact .inr (.inl rfl)), nm_cell⟩
theorem sl_q_otherwise_right_goes {P : Program} {w : World} {K : PySem.W.Frag} {mg : Str → Option Value} {base : Heap} {f : Addr} {cdv : Value} {A : Around} {outer : List Env} {s : Shared} {H : Hp} {E : XK} : Sl (cxOf (L2.CX P w) P w K mg base N_q_otherwise_right "_law_otherwise_right" (defScope s__law_otherwise_right) f cdv A outer s H E) 12 "goes" := ⟨rfl, (by first | exact .inl rfl | exact .inr (.inl rfl)), nm_goes⟩
theorem sl_q_otherwise_right_hit {P : Program} {w : World} {K : PySem.W.Frag} {mg : Str → Option Value} {base : Heap} {f : Addr} {cdv : Value} {A : Around} {outer : List Env} {s : Shared} {H : Hp} {E : XK} : Sl (cxOf (L2.CX P w) P w K mg base N_q_otherwise_right "_law_otherwise_right" (defScope s__law_otherwise_right) f cdv A outer s H E) 4 "hit" := ⟨rfl, (by first | exact .inl rfl | exact .inr (.inl rfl)), nm_hit⟩
theorem sl_q_otherwise_right_modulus {P : Program} {w : World} {K : PySem.W.Frag} {mg : Str → Option Value} {base : Heap} {f : Addr} {cdv : Value} {A : Around} {outer : List Env} {s : Shared} {H : Hp} {E : XK} : Sl (cxOf (L2.CX P w) P w K mg base N_q_otherwise_right "_law_otherwise_right" (defScope s__law_otherwise_right) f cdv A outer s H E) 2 "modulus" := ⟨rfl, (by first | exact .inl rfl | exact .inr (.inl rfl)), nm_modulus⟩
theorem sl_q_otherwise_right_more {P : Program} {w : World} {K : PySem.W.Frag} {mg : Str → Option Value} {base : Heap} {f : Addr} {cdv : Value} {A : Around} {outer : List Env} {s : Shared} {H : Hp} {E : XK} : Sl (cxOf (L2.CX P w) P w K mg base N_q_otherwise_right "_law_otherwise_right" (defScope s__law_otherwise_right) f cdv A outer s H E) 5 "more" := ⟨rfl, (by first | exact .inl rfl | exact .inr (.inl rfl)), nm_more⟩
theorem sl_q_otherwise_right_others {P : Program} {w : World} {K : PySem.W.Frag} {mg : Str → Option Value} {base : Heap} {f : Addr} {cdv : Value} {A : Around} {outer : List Env} {s : Shared} {H : Hp} {E : XK} : Sl (cxOf (L2.CX P w) P w K mg base N_q_otherwise_right "_law_otherwise_right" (defScope s__law_otherwise_right) f cdv A outer s H E) 8 "others" := ⟨rfl, (by first | exact .inl rfl | exact .inr (.inl rfl)), nm_others⟩
theorem sl_q_otherwise_right_places {P : Program} {w : World} {K : PySem.W.Frag} {mg : Str → Option Value} {base : Heap} {f : Addr} {cdv : Value} {A : Around} {outer : List Env} {s : Shared} {H : Hp} {E : XK} : Sl (cxOf (L2.CX P w) P w K mg base N_q_otherwise_right "_law_otherwise_right" (defScope s__law_otherwise_right) f cdv A outer s H E) 3 "places" := ⟨rfl, (by first | exact .inl rfl | exact .inr (.inl rfl)), nm_places⟩
theorem sl_q_otherwise_right_row {P : Program} {w : World} {K : PySem.W.Frag} {mg : Str → Option Value} {base : Heap} {f : Addr} {cdv : Value} {A : Around} {outer : List Env} {s : Shared} {H : Hp} {E : XK} : Sl (cxOf (L2.CX P w) P w K mg base N_q_otherwise_right "_law_otherwise_right" (defScope s__law_otherwise_right) f cdv A outer s H E) 1 "row" := ⟨rfl, (by first | exact .inl rfl | exact .inr (.inl rfl)), nm_row⟩
theorem sl_q_otherwise_right_times {P : Program} {w : World} {K : PySem.W.Frag} {mg : Str → Option Value} {base : Heap} {f : Addr} {cdv : Value} {A : Around} {outer : List Env} {s : Shared} {H : Hp} {E : XK} : Sl (cxOf (L2.CX P w) P w K mg base N_q_otherwise_right "_law_otherwise_right" (defScope s__law_otherwise_right) f cdv A outer s H E) 7 "times" := ⟨rfl, (by first | exact .inl rfl | exact .inr (.inl rfl)), nm_times⟩
theorem ss_q_otherwise_right_hit {P : Program} {w : World} {K : PySem.W.Frag} {mg : Str → Option Value} {base : Heap} {f : Addr} {cdv : Value} {A : Around} {outer : List Env} {s : Shared} {H : Hp} {E : XK} : Ss (cxOf (L2.CX P w) P w K mg base N_q_otherwise_right "_law_otherwise_right" (defScope s__law_otherwise_right) f cdv A outer s H E) 4 "hit" := ⟨rfl, (by first | exact .inl rfl | exact .inr rfl), .inl rfl⟩
theorem ss_q_otherwise_right_more {P : Program} {w : World} {K : PySem.W.Frag} {mg : Str → Option Value} {base : Heap} {f : Addr} {cdv : Value} {A : Around} {outer : List Env} {s : Shared} {H : Hp} {E : XK} : Ss (cxOf (L2.CX P w) P w K mg base N_q_otherwise_right "_law_otherwise_right" (defScope s__law_otherwise_right) f cdv A outer s H E) 5 "more" := ⟨rfl, (by first | exact .inl rfl | exact .inr rfl), .inl rfl⟩
theorem ss_q_otherwise_right_times {P : Program} {w : World} {K : PySem.W.Frag} {mg : Str → Option Value} {base : Heap} {f : Addr} {cdv : Value} {A : Around} {outer : List Env} {s : Shared} {H : Hp} {E : XK} : Ss (cxOf (L2.CX P w) P w K mg base N_q_otherwise_right "_law_otherwise_right" (defScope s__law_otherwise_right) f cdv A outer s H E) 7 "times" := ⟨rfl, (by first | exact .inl rfl | exact .inr rfl), .inl rfl⟩
theorem ss_q_otherwise_right_others {P : Program} {w : World} {K : PySem.W.Frag} {mg : Str → Option Value} {base : Heap} {f : Addr} {cdv : Value} {A : Around} {outer : List Env} {s : Shared} {H : Hp} {E : XK} : Ss (cxOf (L2.CX P w) P w K mg base N_q_otherwise_right "_law_otherwise_right" (defScope s__law_otherwise_right) f cdv A outer s H E) 8 "others" := ⟨rfl, (by first | exact .inl rfl | exact .inr rfl), .inl rfl⟩
theorem ss_q_otherwise_right_goes {P : Program} {w : World} {K : PySem.W.Frag} {mg : Str → Option Value} {base : Heap} {f : Addr} {cdv : Value} {A : Around} {outer : List Env} {s : Shared} {H : Hp} {E : XK} : Ss (cxOf (L2.CX P w) P w K mg base N_q_otherwise_right "_law_otherwise_right" (defScope s__law_otherwise_right) f cdv A outer s H E) 12 "goes" := ⟨rfl, (by first | exact .inl rfl | exact .inr rfl), .inl rfl⟩
theorem gl_q_otherwise_right__law_hit {P : Program} {w : World} {K : PySem.W.Frag} {mg : Str → Option Value} {base : Heap} {f : Addr} {cdv : Value} {A : Around} {outer : List Env} {s : Shared} {H : Hp} {E : XK} : Gl (cxOf (L2.CX P w) P w K mg base N_q_otherwise_right "_law_otherwise_right" (defScope s__law_otherwise_right) f cdv A outer s H E) "_law_hit" := by rfl
theorem gl_q_otherwise_right__law_stir {P : Program} {w : World} {K : PySem.W.Frag} {mg : Str → Option Value} {base : Heap} {f : Addr} {cdv : Value} {A : Around} {outer : List Env} {s : Shared} {H : Hp} {E : XK} : Gl (cxOf (L2.CX P w) P w K mg base N_q_otherwise_right "_law_otherwise_right" (defScope s__law_otherwise_right) f cdv A outer s H E) "_law_stir" := by rfl
theorem gl_q_otherwise_right_len {P : Program} {w : World} {K : PySem.W.Frag} {mg : Str → Option Value} {base : Heap} {f : Addr} {cdv : Value} {A : Around} {outer : List Env} {s : Shared} {H : Hp} {E : XK} : Gl (cxOf (L2.CX P w) P w K mg base N_q_otherwise_right "_law_otherwise_right" (defScope s__law_otherwise_right) f cdv A outer s H E) "len" := by rfl
theorem gl_q_otherwise_right_list {P : Program} {w : World} {K : PySem.W.Frag} {mg : Str → Option Value} {base : Heap} {f : Addr} {cdv : Value} {A : Around} {outer : List Env} {s : Shared} {H : Hp} {E : XK} : Gl (cxOf (L2.CX P w) P w K mg base N_q_otherwise_right "_law_otherwise_right" (defScope s__law_otherwise_right) f cdv A outer s H E) "list" := by rfl
theorem gl_q_otherwise_right_range {P : Program} {w : World} {K : PySem.W.Frag} {mg : Str → Option Value} {base : Heap} {f : Addr} {cdv : Value} {A : Around} {outer : List Env} {s : Shared} {H : Hp} {E : XK} : Gl (cxOf (L2.CX P w) P w K mg base N_q_otherwise_right "_law_otherwise_right" (defScope s__law_otherwise_right) f cdv A outer s H E) "range" := by rfl
theorem gl_q_otherwise_right_rests {P : Program} {w : World} {K : PySem.W.Frag} {mg : Str → Option Value} {base : Heap} {f : Addr} {cdv : Value} {A : Around} {outer : List Env} {s : Shared} {H : Hp} {E : XK} : Gl (cxOf (L2.CX P w) P w K mg base N_q_otherwise_right "_law_otherwise_right" (defScope s__law_otherwise_right) f cdv A outer s H E) "rests" := by rfl
theorem gl_q_otherwise_right_zip {P : Program} {w : World} {K : PySem.W.Frag} {mg : Str → Option Value} {base : Heap} {f : Addr} {cdv : Value} {A : Around} {outer : List Env} {s : Shared} {H : Hp} {E : XK} : Gl (cxOf (L2.CX P w) P w K mg base N_q_otherwise_right "_law_otherwise_right" (defScope s__law_otherwise_right) f cdv A outer s H E) "zip" := by rfl
theorem cal_q_otherwise_right {P : Program} {w : World} {K : PySem.W.Frag} {mg : Str → Option Value} {base : Heap} {f : Addr} {fd : FuncData} (T : Txt K mg) (F : Fun K "_law_otherwise_right" "_law_otherwise_right" s__law_otherwise_right f fd) (hm : mg "_law_otherwise_right" = some (.ref f)) (hb : Binds K fd ["cell", "row", "modulus", "places"] []) (C_q_hit : Cal P w K mg base 3 "_law_hit" (Sp3 K false (fun (row : (List Int)) (modulus : Int) (places : (List Int)) => 1 ≤ modulus) m_q_hit)) (C_q_stir : Cal P w K mg base 1 "_law_stir" (Sp2 K false (fun (cell : Int) (k : Int) => 0 ≤ k) m_q_stir)) (C_rests : Cal P w K mg base 2 "rests" (Sp2 K true (fun (row : (List Int)) (modulus : Int) => 1 ≤ modulus) m_rests)) : Cal P w K mg base 4 "_law_otherwise_right" (Sp4 K false (fun (cell : Int) (row : (List Int)) (modulus : Int) (places : (List Int)) => (1 ≤ modulus ∧ modulus ≤ 60) ∧ row.length ≤ 100) m_q_otherwise_right) := by
  refine fn4 F hm hb sc_q_otherwise_right rfl fun cdv A outer s H0 E hr G0 v_cell v_row v_modulus v_places cell row modulus places D s0 r_cell r_row r_modulus r_places hp fin => ?_
  have x0_0 : Ext G0 H0 G0 H0 := Ext.refl s0
  show tSs _ _ D [some v_cell, some v_row, some v_modulus, some v_places, none, none, none, none, none, none, none, none, none, none] H0
  have hpc := hp; obtain ⟨hp_0, hp_1⟩ := hpc
  have tk : m_q_otherwise_right cell row modulus places = _ := rfl
  refine b_cons (s_set sc_q_otherwise_right.nd ss_q_otherwise_right_hit x0_0.s (ev_c3 C_q_hit (hr.mono (by decide)) gl_q_otherwise_right__law_hit (ev_v (sl_q_otherwise_right_row) r_row) (ev_v (sl_q_otherwise_right_modulus) r_modulus) (ev_v (sl_q_otherwise_right_places) r_places) (by walk_at "pre")) fun G1 H1 v1_hit x1 l1 r1_hit => ?_)
  have x0_1 := x0_0.trans x1
  show tSs _ _ _ [some v_cell, some v_row, some v_modulus, some v_places, some v1_hit, none, none, none, none, none, none, none, none, none] _
  obtain ⟨hit, e2⟩ : ∃ z, z = (m_q_hit row modulus places) := ⟨_, rfl⟩
  rw [← e2] at r1_hit
  have tk : _ = m_q_otherwise_right_1 cell row modulus places hit := tk.trans (by rw [e2] <;> rfl)
  refine b_cons (s_setLc sc_q_otherwise_right.nd ss_q_otherwise_right_more x0_1.s ((lc1A (fun (k : Int) => (modulus * (((m_q_stir cell ((150 : Int) + k)) % (1000 : Int)) - (500 : Int)))) rfl sc_q_otherwise_right.nd (ei_range1 ⟨gl_q_otherwise_right_range, T.b_range⟩ (ev_len ⟨gl_q_otherwise_right_len, T.b_len⟩ (ev_v (sl_q_otherwise_right_row) (up x1.g r_row))) (by walk_at "sc") (by walk_at "sc")) [("k", 6)] (blkOk_by (N := N_q_otherwise_right) (sc := defScope s__law_otherwise_right) (by decide +kernel)) (fun _ _ _ _ _ => pg_name (i := 6) sc_q_otherwise_right.nd rfl (.inl rfl)) (fun k v14 G4 H5 hx6 x3 r15 s8 s9 s10 s11 s12 => (ev_bin (b_mul (by walk_at "mu")) (ev_v ((⟨rfl, (by first | exact .inr (.inl rfl) | exact .inr (.inr rfl)), nm_modulus⟩ : Sl _ 2 _)) (up (x1.g.trans x3.g) r_modulus)) (ev_bin b_sub (ev_bin (b_mod (by walk_at "sc")) (ev_c2 C_q_stir (hr.mono (by decide)) (by rfl) (ev_v ((⟨rfl, (by first | exact .inr (.inl rfl) | exact .inr (.inr rfl)), nm_cell⟩ : Sl _ 0 _)) (up (x1.g.trans x3.g) r_cell)) (ev_bin b_add ev_int (ev_v ((⟨rfl, .inl rfl, nm_k⟩ : Sl _ 6 _)) r15)) (by walk_at "pre")) ev_int) ev_int))))) fun G3 H3 v3_more x16 l3 r3_more n3 => ?_)
  have x0_3 := x0_1.trans x16
  show tSs _ _ _ [some v_cell, some v_row, some v_modulus, some v_places, some v1_hit, some v3_more, none, none, none, none, none, none, none, none] _
  obtain ⟨more, e17⟩ : ∃ z, z = ((rng 0 ((row).length : Int)).map (fun (k : Int) => (modulus * (((m_q_stir cell ((150 : Int) + k)) % (1000 : Int)) - (500 : Int))))) := ⟨_, rfl⟩
  rw [← e17] at r3_more
  have tk : _ = m_q_otherwise_right_2 cell row modulus places hit more := tk.trans (by rw [e17] <;> rfl)
  have g_e17 := congrArg List.length e17; try simp only [List.length_append, List.length_cons, List.length_nil, rng_len, List.length_map, List.length_reverse, psort_len, isort_len] at g_e17
  have fc18 := post_q_stir cell (149 : Int) (by walk_at "pre")
  refine b_cons (s_set sc_q_otherwise_right.nd ss_q_otherwise_right_times x0_3.s (ev_bin b_add ev_int (ev_bin (b_mod (by walk_at "sc")) (ev_c2 C_q_stir (hr.mono (by decide)) gl_q_otherwise_right__law_stir (ev_v (sl_q_otherwise_right_cell) (up (x1.g.trans x16.g) r_cell)) ev_int (by walk_at "pre")) (ev_bin (b_div ⟨(by walk_at "sc"), (by walk_at "sc")⟩) ev_int (ev_v (sl_q_otherwise_right_modulus) (up (x1.g.trans x16.g) r_modulus))))) fun G4 H4 v4_times x19 l4 r4_times => ?_)
  have x0_4 := x0_3.trans x19
  show tSs _ _ _ [some v_cell, some v_row, some v_modulus, some v_places, some v1_hit, some v3_more, none, some v4_times, none, none, none, none, none, none] _
  obtain ⟨times, e20⟩ : ∃ z, z = ((1 : Int) + ((m_q_stir cell (149 : Int)) % ((60 : Int) / modulus))) := ⟨_, rfl⟩
  rw [← e20] at r4_times
  have tk : _ = m_q_otherwise_right_3 row modulus places hit more times := tk.trans (by rw [e20] <;> rfl)
  have f_e20 : 1 ≤ times ∧ times ≤ 60 := by rw [e20]; exact times_bd (by omega)
  refine b_cons (s_listO sc_q_otherwise_right.nd ss_q_otherwise_right_others x0_4.s (es_cons (ev_lc (lc2A (fun (z31 : (Int × Int)) => (z31.1 + z31.2)) rfl sc_q_otherwise_right.nd (ei_zip ⟨gl_q_otherwise_right_zip, T.b_zip⟩ (ev_v (sl_q_otherwise_right_row) (up (x1.g.trans (x16.g.trans x19.g)) r_row)) (ev_v (sl_q_otherwise_right_more) (up x19.g r3_more))) [("number", 9), ("far", 10)] (blkOk_by (N := N_q_otherwise_right) (sc := defScope s__law_otherwise_right) (by decide +kernel)) (fun _ _ _ _ _ => pg_tup rfl (pgs_cons (pg_name (i := 9) sc_q_otherwise_right.nd rfl (.inl rfl)) (pgs_cons (pg_name (i := 10) sc_q_otherwise_right.nd rfl (.inl rfl)) pgs_nil))) (fun z31 v32 v33 G22 H23 hx24 x21 r34 r35 s26 s27 s28 s29 s30 => (ev_bin b_add (ev_v ((⟨rfl, .inl rfl, nm_number⟩ : Sl _ 9 _)) r34) (ev_v ((⟨rfl, .inl rfl, nm_far⟩ : Sl _ 10 _)) r35))))) (es_cons (ev_lc (lc1A (fun (number : Int) => ((0 : Int) - number)) rfl sc_q_otherwise_right.nd (ei_list (ev_v (sl_q_otherwise_right_row) (up (x1.g.trans (x16.g.trans x19.g)) r_row))) [("number", 9)] (blkOk_by (N := N_q_otherwise_right) (sc := defScope s__law_otherwise_right) (by decide +kernel)) (fun _ _ _ _ _ => pg_name (i := 9) sc_q_otherwise_right.nd rfl (.inl rfl)) (fun number v47 G37 H38 hx39 x36 r48 s41 s42 s43 s44 s45 => (ev_bin b_sub ev_int (ev_v ((⟨rfl, .inl rfl, nm_number⟩ : Sl _ 9 _)) r48))))) es_nil)) fun G7 H7 q_others x49 l7 n_q_others o7_others => ?_)
  have x0_7 := x0_4.trans x49
  have m_q_others := x0_4.h.free n_q_others
  show tSs _ _ _ [some v_cell, some v_row, some v_modulus, some v_places, some v1_hit, some v3_more, none, some v4_times, some (.ref q_others), none, none, none, none, none] _
  obtain ⟨others, e50⟩ : ∃ z, z = ([((List.zip row more).map (fun (z31 : (Int × Int)) => (z31.1 + z31.2))), (row.map (fun (number : Int) => ((0 : Int) - number)))] : List (List Int)) := ⟨_, rfl⟩
  rw [← e50] at o7_others
  have tk : _ = m_q_otherwise_right_4 row modulus places hit times others := tk.trans (by rw [e50] <;> rfl)
  have g_e50 := congrArg List.length e50; try simp only [List.length_append, List.length_cons, List.length_nil, rng_len, List.length_map, List.length_reverse, List.length_set] at g_e50
  refine b_cons (s_append (sl_q_otherwise_right_others) x0_7.s o7_others (ev_c2 C_rests (hr.mono (by decide)) gl_q_otherwise_right_rests (ev_copy ⟨gl_q_otherwise_right_list, T.b_list⟩ (ev_v (sl_q_otherwise_right_row) (up (x1.g.trans (x16.g.trans (x19.g.trans x49.g))) r_row))) (ev_v (sl_q_otherwise_right_modulus) (up (x1.g.trans (x16.g.trans (x19.g.trans x49.g))) r_modulus)) (by walk_at "pre")) (by walk_at "sz") fun G8 H8_ us52 x51 l8 o8_others => ?_)
  have x0_8 := (x0_7.trans x51).wr (o := .lst us52) m_q_others o8_others.off
  show tSs _ _ _ [some v_cell, some v_row, some v_modulus, some v_places, some v1_hit, some v3_more, none, some v4_times, some (.ref q_others), none, none, none, none, none] _
  obtain ⟨G9, x0_9, sg9, r9_others⟩ := o8_others.frz x0_8 m_q_others
  show tSs _ _ _ [some v_cell, some v_row, some v_modulus, some v_places, some v1_hit, some v3_more, none, some v4_times, some (.ref q_others), none, none, none, none, none] _
  refine b_cons (s_if x0_9.s (et_cmp (c_neD (hu_of64 hr)) (ev_lc (lc1 (fun (other : (List Int)) => other) (fun (other : (List Int)) => (!decide ((m_q_hit other modulus places) = hit))) rfl sc_q_otherwise_right.nd (ei_list (ev_v (sl_q_otherwise_right_others) r9_others)) [("other", 11)] (blkOk_by (N := N_q_otherwise_right) (sc := defScope s__law_otherwise_right) (by decide +kernel)) (fun _ _ _ _ _ => pg_name (i := 11) sc_q_otherwise_right.nd rfl (.inl rfl)) (fun other v64 G54 H55 hx56 x53 r65 s58 s59 s60 s61 s62 => (ets_one (et_cmp c_neB (ev_c3 C_q_hit (hr.mono (by decide)) (by rfl) (ev_v ((⟨rfl, .inl rfl, nm_other⟩ : Sl _ 11 _)) r65) (ev_v ((⟨rfl, (by first | exact .inr (.inl rfl) | exact .inr (.inr rfl)), nm_modulus⟩ : Sl _ 2 _)) (up (x1.g.trans (x16.g.trans (x19.g.trans (x49.g.trans (x51.g.trans (sg9.trans x53.g)))))) r_modulus)) (ev_v ((⟨rfl, (by first | exact .inr (.inl rfl) | exact .inr (.inr rfl)), nm_places⟩ : Sl _ 3 _)) (up (x1.g.trans (x16.g.trans (x19.g.trans (x49.g.trans (x51.g.trans (sg9.trans x53.g)))))) r_places)) (by walk_at "pre")) (ev_v ((⟨rfl, (by first | exact .inr (.inl rfl) | exact .inr (.inr rfl)), nm_hit⟩ : Sl _ 4 _)) (up (x16.g.trans (x19.g.trans (x49.g.trans (x51.g.trans (sg9.trans x53.g))))) r1_hit))))) (fun other v64 G54 H55 hx56 ht57 x53 r65 s58 s59 s60 s61 s62 => (ev_v ((⟨rfl, .inl rfl, nm_other⟩ : Sl _ 11 _)) r65)))) (ev_list (es_nil (α := (List Int))))) (fun h66 G11 H11 x67 l11 => ?_) (fun h66 G11 H11 x67 l11 => ?_))
  · have tk := tk_tt tk h66
    have h66_ := h66; try simp only [Bool.and_eq_true, Bool.or_eq_true, Bool.and_eq_false_iff, Bool.or_eq_false_iff, Bool.not_eq_true', Bool.not_eq_false', decide_eq_true_eq, decide_eq_false_iff_not, Classical.not_not] at h66_
    have x0_11 := x0_9.trans x67
    show tSs _ _ _ [some v_cell, some v_row, some v_modulus, some v_places, some v1_hit, some v3_more, none, some v4_times, some (.ref q_others), none, none, none, none, none] _
    refine b_cons (s_ret x0_11.s ev_bl fun G_ H_ v69 x68 _ r_ => ?_)
    exact fin.rt _ _ _ (x0_11.trans x68) (rep_of tk r_) (fun z => nomatch z)
  · have tk := tk_ff tk h66
    have h66_ := h66; try simp only [Bool.and_eq_true, Bool.or_eq_true, Bool.and_eq_false_iff, Bool.or_eq_false_iff, Bool.not_eq_true', Bool.not_eq_false', decide_eq_true_eq, decide_eq_false_iff_not, Classical.not_not] at h66_
    have x0_11 := x0_9.trans x67
    show tSs _ _ _ [some v_cell, some v_row, some v_modulus, some v_places, some v1_hit, some v3_more, none, some v4_times, some (.ref q_others), none, none, none, none, none] _
    refine b_nil ?_
    show tSs _ _ _ [some v_cell, some v_row, some v_modulus, some v_places, some v1_hit, some v3_more, none, some v4_times, some (.ref q_others), none, none, none, none, none] _
    refine b_cons (s_if x0_11.s (et_cmp c_neB (ev_c3 C_q_hit (hr.mono (by decide)) gl_q_otherwise_right__law_hit (ev_lc (lc1A (fun (number : Int) => (times * number)) rfl sc_q_otherwise_right.nd (ei_list (ev_v (sl_q_otherwise_right_row) (up (x1.g.trans (x16.g.trans (x19.g.trans (x49.g.trans (x51.g.trans (sg9.trans x67.g)))))) r_row))) [("number", 9)] (blkOk_by (N := N_q_otherwise_right) (sc := defScope s__law_otherwise_right) (by decide +kernel)) (fun _ _ _ _ _ => pg_name (i := 9) sc_q_otherwise_right.nd rfl (.inl rfl)) (fun number v81 G71 H72 hx73 x70 r82 s75 s76 s77 s78 s79 => (ev_bin (b_mul (by walk_at "mu")) (ev_v ((⟨rfl, (by first | exact .inr (.inl rfl) | exact .inr (.inr rfl)), nm_times⟩ : Sl _ 7 _)) (up (x49.g.trans (x51.g.trans (sg9.trans (x67.g.trans x70.g)))) r4_times)) (ev_v ((⟨rfl, .inl rfl, nm_number⟩ : Sl _ 9 _)) r82))))) (ev_bin (b_mul (by walk_at "mu")) (ev_v (sl_q_otherwise_right_times) (up (x49.g.trans (x51.g.trans (sg9.trans x67.g))) r4_times)) (ev_v (sl_q_otherwise_right_modulus) (up (x1.g.trans (x16.g.trans (x19.g.trans (x49.g.trans (x51.g.trans (sg9.trans x67.g)))))) r_modulus))) (ev_v (sl_q_otherwise_right_places) (up (x1.g.trans (x16.g.trans (x19.g.trans (x49.g.trans (x51.g.trans (sg9.trans x67.g)))))) r_places)) (by walk_at "pre")) (ev_v (sl_q_otherwise_right_hit) (up (x16.g.trans (x19.g.trans (x49.g.trans (x51.g.trans (sg9.trans x67.g))))) r1_hit))) (fun h83 G13 H13 x84 l13 => ?_) (fun h83 G13 H13 x84 l13 => ?_))
    · have tk := tk_tt tk h83
      have h83_ := h83; try simp only [Bool.and_eq_true, Bool.or_eq_true, Bool.and_eq_false_iff, Bool.or_eq_false_iff, Bool.not_eq_true', Bool.not_eq_false', decide_eq_true_eq, decide_eq_false_iff_not, Classical.not_not] at h83_
      have x0_13 := x0_11.trans x84
      show tSs _ _ _ [some v_cell, some v_row, some v_modulus, some v_places, some v1_hit, some v3_more, none, some v4_times, some (.ref q_others), none, none, none, none, none] _
      refine b_cons (s_ret x0_13.s ev_bl fun G_ H_ v86 x85 _ r_ => ?_)
      exact fin.rt _ _ _ (x0_13.trans x85) (rep_of tk r_) (fun z => nomatch z)
    · have tk := tk_ff tk h83
      have h83_ := h83; try simp only [Bool.and_eq_true, Bool.or_eq_true, Bool.and_eq_false_iff, Bool.or_eq_false_iff, Bool.not_eq_true', Bool.not_eq_false', decide_eq_true_eq, decide_eq_false_iff_not, Classical.not_not] at h83_
      have x0_13 := x0_11.trans x84
      show tSs _ _ _ [some v_cell, some v_row, some v_modulus, some v_places, some v1_hit, some v3_more, none, some v4_times, some (.ref q_others), none, none, none, none, none] _
      refine b_nil ?_
      show tSs _ _ _ [some v_cell, some v_row, some v_modulus, some v_places, some v1_hit, some v3_more, none, some v4_times, some (.ref q_others), none, none, none, none, none] _
      refine b_cons (s_setLc sc_q_otherwise_right.nd ss_q_otherwise_right_goes x0_13.s ((lc1 (fun (one : Int) => one) (fun (one : Int) => (decide ((modulus % one) = (0 : Int)))) rfl sc_q_otherwise_right.nd (ei_range2 ⟨gl_q_otherwise_right_range, T.b_range⟩ ev_int (ev_bin b_add (ev_v (sl_q_otherwise_right_modulus) (up (x1.g.trans (x16.g.trans (x19.g.trans (x49.g.trans (x51.g.trans (sg9.trans (x67.g.trans x84.g))))))) r_modulus)) ev_int) ⟨⟨(by walk_at "sc"), (by walk_at "sc")⟩, (by walk_at "sc"), (by walk_at "sc"), (by walk_at "sc")⟩) [("one", 13)] (blkOk_by (N := N_q_otherwise_right) (sc := defScope s__law_otherwise_right) (by decide +kernel)) (fun _ _ _ _ _ => pg_name (i := 13) sc_q_otherwise_right.nd rfl (.inl rfl)) (fun one v98 G88 H89 hx90 x87 r99 s92 s93 s94 s95 s96 => (ets_one (et_cmp c_eq (ev_bin (b_mod (by walk_at "sc")) (ev_v ((⟨rfl, (by first | exact .inr (.inl rfl) | exact .inr (.inr rfl)), nm_modulus⟩ : Sl _ 2 _)) (up (x1.g.trans (x16.g.trans (x19.g.trans (x49.g.trans (x51.g.trans (sg9.trans (x67.g.trans (x84.g.trans x87.g)))))))) r_modulus)) (ev_v ((⟨rfl, .inl rfl, nm_one⟩ : Sl _ 13 _)) r99)) ev_int))) (fun one v98 G88 H89 hx90 ht91 x87 r99 s92 s93 s94 s95 s96 => (ev_v ((⟨rfl, .inl rfl, nm_one⟩ : Sl _ 13 _)) r99)))) fun G15 H15 v15_goes x100 l15 r15_goes n15 => ?_)
      have x0_15 := x0_13.trans x100
      show tSs _ _ _ [some v_cell, some v_row, some v_modulus, some v_places, some v1_hit, some v3_more, none, some v4_times, some (.ref q_others), none, none, none, some v15_goes, none] _
      obtain ⟨goes, e101⟩ : ∃ z, z = (((rng (1 : Int) (modulus + (1 : Int))).filter (fun (one : Int) => (decide ((modulus % one) = (0 : Int))))).map (fun (one : Int) => one)) := ⟨_, rfl⟩
      rw [← e101] at r15_goes
      have tk : _ = m_q_otherwise_right_5 row places hit goes := tk.trans (by rw [e101] <;> rfl)
      have g_e101 := congrArg List.length e101; try simp only [List.length_append, List.length_cons, List.length_nil, rng_len, List.length_map, List.length_reverse, psort_len, isort_len] at g_e101
      have f_e101 : ∀ p ∈ goes, 1 ≤ p := by rw [e101]; exact goes_ok
      refine b_cons (s_ret x0_15.s (ev_or (ev_not (ev_v (sl_q_otherwise_right_hit) (up (x16.g.trans (x19.g.trans (x49.g.trans (x51.g.trans (sg9.trans (x67.g.trans (x84.g.trans x100.g))))))) r1_hit))) fun c115 => (ev_bo1 (ev_cmp (c_eqD (hu_of64 hr)) (ev_lc (lc1 (fun (one : Int) => one) (fun (one : Int) => (!(m_q_hit row one places))) rfl sc_q_otherwise_right.nd (ei_list (ev_v (sl_q_otherwise_right_goes) r15_goes)) [("one", 13)] (blkOk_by (N := N_q_otherwise_right) (sc := defScope s__law_otherwise_right) (by decide +kernel)) (fun _ _ _ _ _ => pg_name (i := 13) sc_q_otherwise_right.nd rfl (.inl rfl)) (fun one v113 G103 H104 hx105 x102 r114 s107 s108 s109 s110 s111 => (ets_one (et_not (et_val (ev_c3 C_q_hit (hr.mono (by decide)) (by rfl) (ev_v ((⟨rfl, (by first | exact .inr (.inl rfl) | exact .inr (.inr rfl)), nm_row⟩ : Sl _ 1 _)) (up (x1.g.trans (x16.g.trans (x19.g.trans (x49.g.trans (x51.g.trans (sg9.trans (x67.g.trans (x84.g.trans (x100.g.trans x102.g))))))))) r_row)) (ev_v ((⟨rfl, .inl rfl, nm_one⟩ : Sl _ 13 _)) r114) (ev_v ((⟨rfl, (by first | exact .inr (.inl rfl) | exact .inr (.inr rfl)), nm_places⟩ : Sl _ 3 _)) (up (x1.g.trans (x16.g.trans (x19.g.trans (x49.g.trans (x51.g.trans (sg9.trans (x67.g.trans (x84.g.trans (x100.g.trans x102.g))))))))) r_places)) (by walk_at "pre")))))) (fun one v113 G103 H104 hx105 ht106 x102 r114 s107 s108 s109 s110 s111 => (ev_v ((⟨rfl, .inl rfl, nm_one⟩ : Sl _ 13 _)) r114)))) (ev_list (es_nil (α := Int)))))) fun G_ H_ v117 x116 _ r_ => ?_)
      exact fin.rt _ _ _ (x0_15.trans x116) (rep_of tk r_) (fun z => nomatch z)

abbrev N_law : List Str := ["script", "cell", "modulus", "row", "number", "drawn", "hit", "left", "place", "other", "one", "two", "places"]
theorem sc_law : FnScope N_law ["script"] (defScope s_law) := ⟨rfl, rfl, rfl, by decide +kernel, rfl, by decide +kernel, by decide +kernel⟩
theorem sl_law_cell {P : Program} {w : World} {K : PySem.W.Frag} {mg : Str → Option Value} {base : Heap} {f : Addr} {cdv : Value} {A : Around} {outer : List Env} {s : Shared} {H : Hp} {E : XK} : Sl (cxOf (L2.CX P w) P w K mg base N_law "law" (defScope s_law) f cdv A outer s H E) 1 "cell" := ⟨rfl, (by first | exact .inl rfl | exact .inr (.inl rfl)), nm_cell⟩
theorem sl_law_drawn {P : Program} {w : World} {K : PySem.W.Frag} {mg : Str → Option Value} {base : Heap} {f : Addr} {cdv : Value} {A : Around} {outer : List Env} {s : Shared} {H : Hp} {E : XK} : Sl (cxOf (L2.CX P w) P w K mg base N_law "law" (defScope s_law) f cdv A outer s H E) 5 "drawn" := ⟨rfl, (by first | exact .inl rfl | exact .inr (.inl rfl)), nm_drawn⟩
theorem sl_law_hit {P : Program} {w : World} {K : PySem.W.Frag} {mg : Str → Option Value} {base : Heap} {f : Addr} {cdv : Value} {A : Around} {outer : List Env} {s : Shared} {H : Hp} {E : XK} : Sl (cxOf (L2.CX P w) P w K mg base N_law "law" (defScope s_law) f cdv A outer s H E) 6 "hit" := ⟨rfl, (by first | exact .inl rfl | exact .inr (.inl rfl)), nm_hit⟩
theorem sl_law_left {P : Program} {w : World} {K : PySem.W.Frag} {mg : Str → Option Value} {base : Heap} {f : Addr} {cdv : Value} {A : Around} {outer : List Env} {s : Shared} {H : Hp} {E : XK} : Sl (cxOf (L2.CX P w) P w K mg base N_law "law" (defScope s_law) f cdv A outer s H E) 7 "left" := ⟨rfl, (by first | exact .inl rfl | exact .inr (.inl rfl)), nm_left⟩
theorem sl_law_modulus {P : Program} {w : World} {K : PySem.W.Frag} {mg : Str → Option Value} {base : Heap} {f : Addr} {cdv : Value} {A : Around} {outer : List Env} {s : Shared} {H : Hp} {E : XK} : Sl (cxOf (L2.CX P w) P w K mg base N_law "law" (defScope s_law) f cdv A outer s H E) 2 "modulus" := ⟨rfl, (by first | exact .inl rfl | exact .inr (.inl rfl)), nm_modulus⟩
theorem sl_law_one {P : Program} {w : World} {K : PySem.W.Frag} {mg : Str → Option Value} {base : Heap} {f : Addr} {cdv : Value} {A : Around} {outer : List Env} {s : Shared} {H : Hp} {E : XK} : Sl (cxOf (L2.CX P w) P w K mg base N_law "law" (defScope s_law) f cdv A outer s H E) 10 "one" := ⟨rfl, (by first | exact .inl rfl | exact .inr (.inl rfl)), nm_one⟩
theorem sl_law_other {P : Program} {w : World} {K : PySem.W.Frag} {mg : Str → Option Value} {base : Heap} {f : Addr} {cdv : Value} {A : Around} {outer : List Env} {s : Shared} {H : Hp} {E : XK} : Sl (cxOf (L2.CX P w) P w K mg base N_law "law" (defScope s_law) f cdv A outer s H E) 9 "other" := ⟨rfl, (by first | exact .inl rfl | exact .inr (.inl rfl)), nm_other⟩
theorem sl_law_places {P : Program} {w : World} {K : PySem.W.Frag} {mg : Str → Option Value} {base : Heap} {f : Addr} {cdv : Value} {A : Around} {outer : List Env} {s : Shared} {H : Hp} {E : XK} : Sl (cxOf (L2.CX P w) P w K mg base N_law "law" (defScope s_law) f cdv A outer s H E) 12 "places" := ⟨rfl, (by first | exact .inl rfl | exact .inr (.inl rfl)), nm_places⟩
theorem sl_law_row {P : Program} {w : World} {K : PySem.W.Frag} {mg : Str → Option Value} {base : Heap} {f : Addr} {cdv : Value} {A : Around} {outer : List Env} {s : Shared} {H : Hp} {E : XK} : Sl (cxOf (L2.CX P w) P w K mg base N_law "law" (defScope s_law) f cdv A outer s H E) 3 "row" := ⟨rfl, (by first | exact .inl rfl | exact .inr (.inl rfl)), nm_row⟩
theorem sl_law_script {P : Program} {w : World} {K : PySem.W.Frag} {mg : Str → Option Value} {base : Heap} {f : Addr} {cdv : Value} {A : Around} {outer : List Env} {s : Shared} {H : Hp} {E : XK} : Sl (cxOf (L2.CX P w) P w K mg base N_law "law" (defScope s_law) f cdv A outer s H E) 0 "script" := ⟨rfl, (by first | exact .inl rfl | exact .inr (.inl rfl)), nm_script⟩
theorem sl_law_two {P : Program} {w : World} {K : PySem.W.Frag} {mg : Str → Option Value} {base : Heap} {f : Addr} {cdv : Value} {A : Around} {outer : List Env} {s : Shared} {H : Hp} {E : XK} : Sl (cxOf (L2.CX P w) P w K mg base N_law "law" (defScope s_law) f cdv A outer s H E) 11 "two" := ⟨rfl, (by first | exact .inl rfl | exact .inr (.inl rfl)), nm_two⟩
theorem ss_law_cell {P : Program} {w : World} {K : PySem.W.Frag} {mg : Str → Option Value} {base : Heap} {f : Addr} {cdv : Value} {A : Around} {outer : List Env} {s : Shared} {H : Hp} {E : XK} : Ss (cxOf (L2.CX P w) P w K mg base N_law "law" (defScope s_law) f cdv A outer s H E) 1 "cell" := ⟨rfl, (by first | exact .inl rfl | exact .inr rfl), .inl rfl⟩
theorem ss_law_modulus {P : Program} {w : World} {K : PySem.W.Frag} {mg : Str → Option Value} {base : Heap} {f : Addr} {cdv : Value} {A : Around} {outer : List Env} {s : Shared} {H : Hp} {E : XK} : Ss (cxOf (L2.CX P w) P w K mg base N_law "law" (defScope s_law) f cdv A outer s H E) 2 "modulus" := ⟨rfl, (by first | exact .inl rfl | exact .inr rfl), .inl rfl⟩
theorem ss_law_row {P : Program} {w : World} {K : PySem.W.Frag} {mg : Str → Option Value} {base : Heap} {f : Addr} {cdv : Value} {A : Around} {outer : List Env} {s : Shared} {H : Hp} {E : XK} : Ss (cxOf (L2.CX P w) P w K mg base N_law "law" (defScope s_law) f cdv A outer s H E) 3 "row" := ⟨rfl, (by first | exact .inl rfl | exact .inr rfl), .inl rfl⟩
theorem ss_law_drawn {P : Program} {w : World} {K : PySem.W.Frag} {mg : Str → Option Value} {base : Heap} {f : Addr} {cdv : Value} {A : Around} {outer : List Env} {s : Shared} {H : Hp} {E : XK} : Ss (cxOf (L2.CX P w) P w K mg base N_law "law" (defScope s_law) f cdv A outer s H E) 5 "drawn" := ⟨rfl, (by first | exact .inl rfl | exact .inr rfl), .inl rfl⟩
theorem ss_law_hit {P : Program} {w : World} {K : PySem.W.Frag} {mg : Str → Option Value} {base : Heap} {f : Addr} {cdv : Value} {A : Around} {outer : List Env} {s : Shared} {H : Hp} {E : XK} : Ss (cxOf (L2.CX P w) P w K mg base N_law "law" (defScope s_law) f cdv A outer s H E) 6 "hit" := ⟨rfl, (by first | exact .inl rfl | exact .inr rfl), .inl rfl⟩
theorem ss_law_left {P : Program} {w : World} {K : PySem.W.Frag} {mg : Str → Option Value} {base : Heap} {f : Addr} {cdv : Value} {A : Around} {outer : List Env} {s : Shared} {H : Hp} {E : XK} : Ss (cxOf (L2.CX P w) P w K mg base N_law "law" (defScope s_law) f cdv A outer s H E) 7 "left" := ⟨rfl, (by first | exact .inl rfl | exact .inr rfl), .inl rfl⟩
theorem ss_law_other {P : Program} {w : World} {K : PySem.W.Frag} {mg : Str → Option Value} {base : Heap} {f : Addr} {cdv : Value} {A : Around} {outer : List Env} {s : Shared} {H : Hp} {E : XK} : Ss (cxOf (L2.CX P w) P w K mg base N_law "law" (defScope s_law) f cdv A outer s H E) 9 "other" := ⟨rfl, (by first | exact .inl rfl | exact .inr rfl), .inl rfl⟩
theorem ss_law_one {P : Program} {w : World} {K : PySem.W.Frag} {mg : Str → Option Value} {base : Heap} {f : Addr} {cdv : Value} {A : Around} {outer : List Env} {s : Shared} {H : Hp} {E : XK} : Ss (cxOf (L2.CX P w) P w K mg base N_law "law" (defScope s_law) f cdv A outer s H E) 10 "one" := ⟨rfl, (by first | exact .inl rfl | exact .inr rfl), .inl rfl⟩
theorem ss_law_two {P : Program} {w : World} {K : PySem.W.Frag} {mg : Str → Option Value} {base : Heap} {f : Addr} {cdv : Value} {A : Around} {outer : List Env} {s : Shared} {H : Hp} {E : XK} : Ss (cxOf (L2.CX P w) P w K mg base N_law "law" (defScope s_law) f cdv A outer s H E) 11 "two" := ⟨rfl, (by first | exact .inl rfl | exact .inr rfl), .inl rfl⟩
theorem ss_law_places {P : Program} {w : World} {K : PySem.W.Frag} {mg : Str → Option Value} {base : Heap} {f : Addr} {cdv : Value} {A : Around} {outer : List Env} {s : Shared} {H : Hp} {E : XK} : Ss (cxOf (L2.CX P w) P w K mg base N_law "law" (defScope s_law) f cdv A outer s H E) 12 "places" := ⟨rfl, (by first | exact .inl rfl | exact .inr rfl), .inl rfl⟩
theorem gl_law__law_cells {P : Program} {w : World} {K : PySem.W.Frag} {mg : Str → Option Value} {base : Heap} {f : Addr} {cdv : Value} {A : Around} {outer : List Env} {s : Shared} {H : Hp} {E : XK} : Gl (cxOf (L2.CX P w) P w K mg base N_law "law" (defScope s_law) f cdv A outer s H E) "_law_cells" := by rfl
theorem gl_law__law_completed {P : Program} {w : World} {K : PySem.W.Frag} {mg : Str → Option Value} {base : Heap} {f : Addr} {cdv : Value} {A : Around} {outer : List Env} {s : Shared} {H : Hp} {E : XK} : Gl (cxOf (L2.CX P w) P w K mg base N_law "law" (defScope s_law) f cdv A outer s H E) "_law_completed" := by rfl
theorem gl_law__law_hit {P : Program} {w : World} {K : PySem.W.Frag} {mg : Str → Option Value} {base : Heap} {f : Addr} {cdv : Value} {A : Around} {outer : List Env} {s : Shared} {H : Hp} {E : XK} : Gl (cxOf (L2.CX P w) P w K mg base N_law "law" (defScope s_law) f cdv A outer s H E) "_law_hit" := by rfl
theorem gl_law__law_joined_right {P : Program} {w : World} {K : PySem.W.Frag} {mg : Str → Option Value} {base : Heap} {f : Addr} {cdv : Value} {A : Around} {outer : List Env} {s : Shared} {H : Hp} {E : XK} : Gl (cxOf (L2.CX P w) P w K mg base N_law "law" (defScope s_law) f cdv A outer s H E) "_law_joined_right" := by rfl
theorem gl_law__law_modulus {P : Program} {w : World} {K : PySem.W.Frag} {mg : Str → Option Value} {base : Heap} {f : Addr} {cdv : Value} {A : Around} {outer : List Env} {s : Shared} {H : Hp} {E : XK} : Gl (cxOf (L2.CX P w) P w K mg base N_law "law" (defScope s_law) f cdv A outer s H E) "_law_modulus" := by rfl
theorem gl_law__law_otherwise_right {P : Program} {w : World} {K : PySem.W.Frag} {mg : Str → Option Value} {base : Heap} {f : Addr} {cdv : Value} {A : Around} {outer : List Env} {s : Shared} {H : Hp} {E : XK} : Gl (cxOf (L2.CX P w) P w K mg base N_law "law" (defScope s_law) f cdv A outer s H E) "_law_otherwise_right" := by rfl
theorem gl_law__law_row {P : Program} {w : World} {K : PySem.W.Frag} {mg : Str → Option Value} {base : Heap} {f : Addr} {cdv : Value} {A : Around} {outer : List Env} {s : Shared} {H : Hp} {E : XK} : Gl (cxOf (L2.CX P w) P w K mg base N_law "law" (defScope s_law) f cdv A outer s H E) "_law_row" := by rfl
theorem gl_law__law_some {P : Program} {w : World} {K : PySem.W.Frag} {mg : Str → Option Value} {base : Heap} {f : Addr} {cdv : Value} {A : Around} {outer : List Env} {s : Shared} {H : Hp} {E : XK} : Gl (cxOf (L2.CX P w) P w K mg base N_law "law" (defScope s_law) f cdv A outer s H E) "_law_some" := by rfl
theorem gl_law__law_stir {P : Program} {w : World} {K : PySem.W.Frag} {mg : Str → Option Value} {base : Heap} {f : Addr} {cdv : Value} {A : Around} {outer : List Env} {s : Shared} {H : Hp} {E : XK} : Gl (cxOf (L2.CX P w) P w K mg base N_law "law" (defScope s_law) f cdv A outer s H E) "_law_stir" := by rfl
theorem gl_law_len {P : Program} {w : World} {K : PySem.W.Frag} {mg : Str → Option Value} {base : Heap} {f : Addr} {cdv : Value} {A : Around} {outer : List Env} {s : Shared} {H : Hp} {E : XK} : Gl (cxOf (L2.CX P w) P w K mg base N_law "law" (defScope s_law) f cdv A outer s H E) "len" := by rfl
theorem gl_law_list {P : Program} {w : World} {K : PySem.W.Frag} {mg : Str → Option Value} {base : Heap} {f : Addr} {cdv : Value} {A : Around} {outer : List Env} {s : Shared} {H : Hp} {E : XK} : Gl (cxOf (L2.CX P w) P w K mg base N_law "law" (defScope s_law) f cdv A outer s H E) "list" := by rfl
theorem gl_law_range {P : Program} {w : World} {K : PySem.W.Frag} {mg : Str → Option Value} {base : Heap} {f : Addr} {cdv : Value} {A : Around} {outer : List Env} {s : Shared} {H : Hp} {E : XK} : Gl (cxOf (L2.CX P w) P w K mg base N_law "law" (defScope s_law) f cdv A outer s H E) "range" := by rfl
theorem gl_law_set {P : Program} {w : World} {K : PySem.W.Frag} {mg : Str → Option Value} {base : Heap} {f : Addr} {cdv : Value} {A : Around} {outer : List Env} {s : Shared} {H : Hp} {E : XK} : Gl (cxOf (L2.CX P w) P w K mg base N_law "law" (defScope s_law) f cdv A outer s H E) "set" := by rfl
theorem gl_law_sorted {P : Program} {w : World} {K : PySem.W.Frag} {mg : Str → Option Value} {base : Heap} {f : Addr} {cdv : Value} {A : Around} {outer : List Env} {s : Shared} {H : Hp} {E : XK} : Gl (cxOf (L2.CX P w) P w K mg base N_law "law" (defScope s_law) f cdv A outer s H E) "sorted" := by rfl
theorem gl_law_sums_ahead {P : Program} {w : World} {K : PySem.W.Frag} {mg : Str → Option Value} {base : Heap} {f : Addr} {cdv : Value} {A : Around} {outer : List Env} {s : Shared} {H : Hp} {E : XK} : Gl (cxOf (L2.CX P w) P w K mg base N_law "law" (defScope s_law) f cdv A outer s H E) "sums_ahead" := by rfl
theorem cal_law {P : Program} {w : World} {K : PySem.W.Frag} {mg : Str → Option Value} {base : Heap} {f : Addr} {fd : FuncData} (T : Txt K mg) (F : Fun K "law" "law" s_law f fd) (hm : mg "law" = some (.ref f)) (hb : Binds K fd ["script"] []) (C_q_cells : Cal P w K mg base 1 "_law_cells" (Sp2 K true (fun (script : Scr) (many : Int) => script.ns.length ≤ 63 ∧ 0 ≤ many ∧ many ≤ 63) m_q_cells)) (C_q_modulus : Cal P w K mg base 2 "_law_modulus" (Sp1 K false (fun (cell : Int) => True) m_q_modulus)) (C_q_stir : Cal P w K mg base 1 "_law_stir" (Sp2 K false (fun (cell : Int) (k : Int) => 0 ≤ k) m_q_stir)) (C_q_row : Cal P w K mg base 2 "_law_row" (Sp3 K true (fun (cell : Int) (modulus : Int) (most : Int) => 1 ≤ modulus ∧ modulus ≤ 60 ∧ 0 ≤ most ∧ most ≤ 40) m_q_row)) (C_q_some : Cal P w K mg base 2 "_law_some" (Sp3 K true (fun (cell : Int) (base_ : Int) (many : Int) => 0 ≤ base_ ∧ 0 ≤ many ∧ many ≤ 63) m_q_some)) (C_q_completed : Cal P w K mg base 2 "_law_completed" (Sp3 K false (fun (row : (List Int)) (modulus : Int) (places : (List Int)) => (1 ≤ modulus ∧ modulus ≤ 60) ∧ (∀ p ∈ places, 0 ≤ p ∧ p < (row.length : Int)) ∧ places.length ≤ 1000 ∧ row.length ≤ 1000) m_q_completed)) (C_q_joined_right : Cal P w K mg base 4 "_law_joined_right" (Sp4 K false (fun (row : (List Int)) (modulus : Int) (one : (List Int)) (other : (List Int)) => (1 ≤ modulus ∧ modulus ≤ 60) ∧ one.length ≤ 100 ∧ other.length ≤ 100) m_q_joined_right)) (C_q_otherwise_right : Cal P w K mg base 4 "_law_otherwise_right" (Sp4 K false (fun (cell : Int) (row : (List Int)) (modulus : Int) (places : (List Int)) => (1 ≤ modulus ∧ modulus ≤ 60) ∧ row.length ≤ 100) m_q_otherwise_right)) (C_q_hit : Cal P w K mg base 3 "_law_hit" (Sp3 K false (fun (row : (List Int)) (modulus : Int) (places : (List Int)) => 1 ≤ modulus) m_q_hit)) (C_sums_ahead : Cal P w K mg base 3 "sums_ahead" (Sp2 K true (fun (row : (List Int)) (modulus : Int) => 1 ≤ modulus ∧ row.length ≤ 1000) m_sums_ahead)) : FnOk P w K mg base (L2.CX P w) 5 f fd ["script"] (Sp1 K false (fun (script : Scr) => script.ns.length ≤ 63) m_law) := by
  refine fn1F F hm hb sc_law rfl fun cdv A outer s H0 E hr G0 v_script script D s0 r_script hp fin => ?_
  have x0_0 : Ext G0 H0 G0 H0 := Ext.refl s0
  show tSs _ _ D [some v_script, none, none, none, none, none, none, none, none, none, none, none, none] H0
  have tk : m_law script = _ := rfl
  refine b_cons (s_for (T := (T1 K 1)) (passes_of rfl) rfl (pg_name (i := 1) sc_law.nd rfl ss_law_cell.hx) acts1 x0_0.s (ei_list (ev_c2 C_q_cells (hr.mono (by decide)) gl_law__law_cells (ev_v (sl_law_script) r_script) ev_int (by walk_at "pre"))) (fun rest σ G H => lrun (m_law_1s) rest () = lrun (m_law_1s) (m_q_cells script (4 : Int)) () ∧ Ext G0 H0 G H ∧ ∃ (y1_1 y1_2 y1_3 y1_5 y1_6 y1_7 y1_9 y1_10 y1_11 y1_12 : Option V), σ = [some v_script, y1_1, y1_2, y1_3, none, y1_5, y1_6, y1_7, none, y1_9, y1_10, y1_11, y1_12]) (fun _ _ x => ⟨rfl, x0_0.trans x, none, none, none, none, none, none, none, none, none, none, rfl⟩) ?_ ?_)
  · intro cell rest σ1 G1 H1 G2 H2 σ2 hx1 sgA2 sh1 I_ x1 l2 hT
    obtain ⟨es1, x0_1, y1_1, y1_2, y1_3, y1_5, y1_6, y1_7, y1_9, y1_10, y1_11, y1_12, rfl⟩ := I_
    have x0_2 := x0_1.trans x1
    obtain ⟨t1, rt1, rfl⟩ := hT
    have mem1 := mem_of hx1.1
    have hlx1 := hx1.2; rw [sizeLine_eq] at hlx1
    have hlr1 := mem_len hx1.1
    have tk1 := tk
    have tk : m_law_1s cell () = _ := rfl
    show tSs _ _ _ [some v_script, some t1, y1_2, y1_3, none, y1_5, y1_6, y1_7, none, y1_9, y1_10, y1_11, y1_12] _
    have fc2 := post_q_modulus cell (by walk_at "pre")
    have fc3 := post_q_stir cell (148 : Int) (by walk_at "pre")
    refine b_cons (s_set sc_law.nd ss_law_modulus x0_2.s (ev_ix (0 : Int) (ev_list (es_cons (ev_bin b_add (ev_bin (b_mod (by walk_at "sc")) (ev_c1 C_q_modulus (hr.mono (by decide)) gl_law__law_modulus (ev_v (sl_law_cell) rt1) (by walk_at "pre")) ev_int) ev_int) (es_cons (ev_c1 C_q_modulus (hr.mono (by decide)) gl_law__law_modulus (ev_v (sl_law_cell) rt1) (by walk_at "pre")) es_nil))) (ev_bin (b_mod (by walk_at "sc")) (ev_c2 C_q_stir (hr.mono (by decide)) gl_law__law_stir (ev_v (sl_law_cell) rt1) ev_int (by walk_at "pre")) ev_int) (by walk_at "sc") (by have := post_q_modulus cell (by walk_at "pre"); have := post_q_modulus cell (by walk_at "pre"); have := post_q_stir cell (148 : Int) (by walk_at "pre"); walk_at "ix")) fun G3 H3 v3_modulus x4 l3 r3_modulus => ?_)
    have x0_3 := x0_2.trans x4
    show tSs _ _ _ [some v_script, some t1, some v3_modulus, y1_3, none, y1_5, y1_6, y1_7, none, y1_9, y1_10, y1_11, y1_12] _
    obtain ⟨modulus, e5⟩ : ∃ z, z = ((([(((m_q_modulus cell) % (7 : Int)) + (1 : Int)), (m_q_modulus cell)] : List Int)).getD (((m_q_stir cell (148 : Int)) % (2 : Int))).toNat (0 : Int)) := ⟨_, rfl⟩
    rw [← e5] at r3_modulus
    have tk : _ = m_law_3 cell modulus := tk.trans (by rw [e5] <;> rfl)
    have f_e5 : 1 ≤ modulus ∧ modulus ≤ 60 := by rw [e5]; exact mod_bd cell
    have fc19 := post_q_row cell modulus (40 : Int) (by walk_at "pre")
    refine b_cons (s_setLc sc_law.nd ss_law_row x0_3.s ((lc1A (fun (number : Int) => (number % (1000000000000000000000000000 : Int))) rfl sc_law.nd (ei_list (ev_c3 C_q_row (hr.mono (by decide)) gl_law__law_row (ev_v (sl_law_cell) (up x4.g rt1)) (ev_v (sl_law_modulus) r3_modulus) ev_int (by walk_at "pre"))) [("number", 4)] (blkOk_by (N := N_law) (sc := defScope s_law) (by decide +kernel)) (fun _ _ _ _ _ => pg_name (i := 4) sc_law.nd rfl (.inl rfl)) (fun number v17 G7 H8 hx9 x6 r18 s11 s12 s13 s14 s15 => (ev_bin (b_mod (by walk_at "sc")) (ev_v ((⟨rfl, .inl rfl, nm_number⟩ : Sl _ 4 _)) r18) (Ev.to (y := (1000000000000000000000000000 : Int)) (ev_bin (b_pow (by walk_at "pw")) ev_int ev_int) (by decide)))))) fun G5 H5 v5_row x20 l5 r5_row n5 => ?_)
    have x0_5 := x0_3.trans x20
    show tSs _ _ _ [some v_script, some t1, some v3_modulus, some v5_row, none, y1_5, y1_6, y1_7, none, y1_9, y1_10, y1_11, y1_12] _
    obtain ⟨row, e21⟩ : ∃ z, z = ((m_q_row cell modulus (40 : Int)).map (fun (number : Int) => (number % (1000000000000000000000000000 : Int)))) := ⟨_, rfl⟩
    rw [← e21] at r5_row
    have tk : _ = m_law_4 cell modulus row := tk.trans (by rw [e21] <;> rfl)
    have g_e21 := congrArg List.length e21; try simp only [List.length_append, List.length_cons, List.length_nil, rng_len, List.length_map, List.length_reverse, psort_len, isort_len] at g_e21
    have fc22 := post_q_some cell (110 : Int) ((row).length : Int) (by walk_at "pre")
    have fc22_ := fc22; obtain ⟨fc22_1, fc22_2⟩ := fc22_
    refine b_cons (s_set sc_law.nd ss_law_drawn x0_5.s (ev_c3 C_q_some (hr.mono (by decide)) gl_law__law_some (ev_v (sl_law_cell) (up (x4.g.trans x20.g) rt1)) ev_int (ev_len ⟨gl_law_len, T.b_len⟩ (ev_v (sl_law_row) r5_row)) (by walk_at "pre")) fun G6 H6 v6_drawn x23 l6 r6_drawn => ?_)
    have x0_6 := x0_5.trans x23
    show tSs _ _ _ [some v_script, some t1, some v3_modulus, some v5_row, none, some v6_drawn, y1_6, y1_7, none, y1_9, y1_10, y1_11, y1_12] _
    obtain ⟨drawn, e24⟩ : ∃ z, z = (m_q_some cell (110 : Int) ((row).length : Int)) := ⟨_, rfl⟩
    rw [← e24] at r6_drawn
    have tk : _ = m_law_5 cell modulus row drawn := tk.trans (by rw [e24] <;> rfl)
    have p_e24 := post_q_some cell (110 : Int) ((row).length : Int) (by walk_at "pre"); rw [← e24] at p_e24; (try simp only [rep_len, rep_len2] at p_e24); have p_e24_ := p_e24; obtain ⟨p_e24_1, p_e24_2⟩ := p_e24_
    have g_e24 := congrArg List.length e24; try simp only [List.length_append, List.length_cons, List.length_nil, rng_len, List.length_map, List.length_reverse, psort_len, isort_len] at g_e24
    have fc25 := post_q_completed row modulus drawn (by walk_at "pre")
    have fc25_ := fc25; obtain ⟨fc25_1, fc25_2⟩ := fc25_
    refine b_cons (s_set sc_law.nd ss_law_hit x0_6.s (ev_c3 C_q_completed (hr.mono (by decide)) gl_law__law_completed (ev_v (sl_law_row) (up x23.g r5_row)) (ev_v (sl_law_modulus) (up (x20.g.trans x23.g) r3_modulus)) (ev_v (sl_law_drawn) r6_drawn) (by walk_at "pre")) fun G7 H7 v7_hit x26 l7 r7_hit => ?_)
    have x0_7 := x0_6.trans x26
    show tSs _ _ _ [some v_script, some t1, some v3_modulus, some v5_row, none, some v6_drawn, some v7_hit, y1_7, none, y1_9, y1_10, y1_11, y1_12] _
    obtain ⟨hit, e27⟩ : ∃ z, z = (m_q_completed row modulus drawn) := ⟨_, rfl⟩
    rw [← e27] at r7_hit
    have tk : _ = m_law_6 cell modulus row drawn hit := tk.trans (by rw [e27] <;> rfl)
    have p_e27 := post_q_completed row modulus drawn (by walk_at "pre"); rw [← e27] at p_e27; (try simp only [rep_len, rep_len2] at p_e27); have p_e27_ := p_e27; obtain ⟨p_e27_1, p_e27_2⟩ := p_e27_
    have g_e27 := congrArg List.length e27; try simp only [List.length_append, List.length_cons, List.length_nil, rng_len, List.length_map, List.length_reverse, psort_len, isort_len] at g_e27
    refine b_cons (s_setLc sc_law.nd ss_law_left x0_7.s ((lc1 (fun (place : Int) => place) (fun (place : Int) => (!decide (place ∈ hit))) rfl sc_law.nd (ei_range1 ⟨gl_law_range, T.b_range⟩ (ev_len ⟨gl_law_len, T.b_len⟩ (ev_v (sl_law_row) (up (x23.g.trans x26.g) r5_row))) (by walk_at "sc") (by walk_at "sc")) [("place", 8)] (blkOk_by (N := N_law) (sc := defScope s_law) (by decide +kernel)) (fun _ _ _ _ _ => pg_name (i := 8) sc_law.nd rfl (.inl rfl)) (fun place v39 G29 H30 hx31 x28 r40 s33 s34 s35 s36 s37 => (ets_one (et_cmp c_nin (ev_v ((⟨rfl, .inl rfl, nm_place⟩ : Sl _ 8 _)) r40) (ev_v ((⟨rfl, (by first | exact .inr (.inl rfl) | exact .inr (.inr rfl)), nm_hit⟩ : Sl _ 6 _)) (up x28.g r7_hit))))) (fun place v39 G29 H30 hx31 ht32 x28 r40 s33 s34 s35 s36 s37 => (ev_v ((⟨rfl, .inl rfl, nm_place⟩ : Sl _ 8 _)) r40)))) fun G9 H9 v9_left x41 l9 r9_left n9 => ?_)
    have x0_9 := x0_7.trans x41
    show tSs _ _ _ [some v_script, some t1, some v3_modulus, some v5_row, none, some v6_drawn, some v7_hit, some v9_left, none, y1_9, y1_10, y1_11, y1_12] _
    obtain ⟨left, e42⟩ : ∃ z, z = (((rng 0 ((row).length : Int)).filter (fun (place : Int) => (!decide (place ∈ hit)))).map (fun (place : Int) => place)) := ⟨_, rfl⟩
    rw [← e42] at r9_left
    have tk : _ = m_law_7 cell modulus row drawn hit left := tk.trans (by rw [e42] <;> rfl)
    have g_e42 := congrArg List.length e42; try simp only [List.length_append, List.length_cons, List.length_nil, rng_len, List.length_map, List.length_reverse, psort_len, isort_len] at g_e42
    have f_e42 : (∀ p ∈ left, 0 ≤ p ∧ p < (row.length : Int)) ∧ left.length ≤ row.length := by rw [e42]; exact left_ok
    have f_ := f_e42; obtain ⟨f_e42_1, f_e42_2⟩ := f_
    have fc56 := post_q_completed row modulus ((left.filter (fun (place : Int) => (decide ((place % (3 : Int)) = (0 : Int))))).map (fun (place : Int) => place)) (by walk_at "pre")
    have fc56_ := fc56; obtain ⟨fc56_1, fc56_2⟩ := fc56_
    refine b_cons (s_set sc_law.nd ss_law_other x0_9.s (ev_c3 C_q_completed (hr.mono (by decide)) gl_law__law_completed (ev_v (sl_law_row) (up (x23.g.trans (x26.g.trans x41.g)) r5_row)) (ev_v (sl_law_modulus) (up (x20.g.trans (x23.g.trans (x26.g.trans x41.g))) r3_modulus)) (ev_lc (lc1 (fun (place : Int) => place) (fun (place : Int) => (decide ((place % (3 : Int)) = (0 : Int)))) rfl sc_law.nd (ei_list (ev_v (sl_law_left) r9_left)) [("place", 8)] (blkOk_by (N := N_law) (sc := defScope s_law) (by decide +kernel)) (fun _ _ _ _ _ => pg_name (i := 8) sc_law.nd rfl (.inl rfl)) (fun place v54 G44 H45 hx46 x43 r55 s48 s49 s50 s51 s52 => (ets_one (et_cmp c_eq (ev_bin (b_mod (by walk_at "sc")) (ev_v ((⟨rfl, .inl rfl, nm_place⟩ : Sl _ 8 _)) r55) ev_int) ev_int))) (fun place v54 G44 H45 hx46 ht47 x43 r55 s48 s49 s50 s51 s52 => (ev_v ((⟨rfl, .inl rfl, nm_place⟩ : Sl _ 8 _)) r55)))) (by walk_at "pre")) fun G11 H11 v11_other x57 l11 r11_other => ?_)
    have x0_11 := x0_9.trans x57
    show tSs _ _ _ [some v_script, some t1, some v3_modulus, some v5_row, none, some v6_drawn, some v7_hit, some v9_left, none, some v11_other, y1_10, y1_11, y1_12] _
    obtain ⟨other, e58⟩ : ∃ z, z = (m_q_completed row modulus ((left.filter (fun (place : Int) => (decide ((place % (3 : Int)) = (0 : Int))))).map (fun (place : Int) => place))) := ⟨_, rfl⟩
    rw [← e58] at r11_other
    have tk : _ = m_law_8 cell modulus row drawn hit left other := tk.trans (by rw [e58] <;> rfl)
    have p_e58 := post_q_completed row modulus ((left.filter (fun (place : Int) => (decide ((place % (3 : Int)) = (0 : Int))))).map (fun (place : Int) => place)) (by walk_at "pre"); rw [← e58] at p_e58; (try simp only [rep_len, rep_len2] at p_e58); have p_e58_ := p_e58; obtain ⟨p_e58_1, p_e58_2⟩ := p_e58_
    have g_e58 := congrArg List.length e58; try simp only [List.length_append, List.length_cons, List.length_nil, rng_len, List.length_map, List.length_reverse, psort_len, isort_len] at g_e58
    have f_e58 : other.length ≤ 41 ∧ ∀ p ∈ other, 0 ≤ p ∧ p < (row.length : Int) := by rw [e58]; exact other_ok (by omega) (by assumption) (by omega) (by omega)
    have f_ := f_e58; obtain ⟨f_e58_1, f_e58_2⟩ := f_
    refine b_cons (s_for (T := (T2 K 10 11)) (passes_of rfl) rfl (pg_tup rfl (pgs_cons (pg_name (i := 10) sc_law.nd rfl ss_law_one.hx) (pgs_cons (pg_name (i := 11) sc_law.nd rfl ss_law_two.hx) pgs_nil))) acts2 x0_11.s (ei_list (ev_list (es_cons (ev_tup (ev_v (sl_law_hit) (up (x41.g.trans x57.g) r7_hit)) (ev_v (sl_law_other) r11_other)) (es_cons (ev_tup (ev_v (sl_law_hit) (up (x41.g.trans x57.g) r7_hit)) (ev_v (sl_law_drawn) (up (x26.g.trans (x41.g.trans x57.g)) r6_drawn))) (es_cons (ev_tup (ev_sset rfl ⟨gl_law_sorted, T.b_sorted⟩ ⟨gl_law_set, T.b_set⟩ (by walk_at "s4k") (by walk_at "s64") (ev_cat (by walk_at "sz") (ev_v (sl_law_hit) (up (x41.g.trans x57.g) r7_hit)) (ev_v (sl_law_other) r11_other))) (ev_v (sl_law_other) r11_other)) (es_cons (ev_tup (ev_v (sl_law_left) (up x57.g r9_left)) (ev_v (sl_law_hit) (up (x41.g.trans x57.g) r7_hit))) es_nil)))))) (fun rest σ G H => lrun (m_law_9s cell modulus row) rest () = lrun (m_law_9s cell modulus row) ([(hit, other), (hit, drawn), ((sset (hit ++ other)), other), (left, hit)] : List ((List Int) × (List Int))) () ∧ Ext G0 H0 G H ∧ ∃ (y2_10 y2_11 : Option V), σ = [some v_script, some t1, some v3_modulus, some v5_row, none, some v6_drawn, some v7_hit, some v9_left, none, some v11_other, y2_10, y2_11, y1_12]) (fun _ _ x => ⟨rfl, x0_11.trans x, y1_10, y1_11, rfl⟩) ?_ ?_)
    · intro z2 rest σ1 G12 H12 G13 H13 σ2 hx2 sgA13 sh2 I_ x59 l13 hT
      obtain ⟨es2, x0_12, y2_10, y2_11, rfl⟩ := I_
      have x0_13 := x0_12.trans x59
      obtain ⟨t2a, t2b, rt2a, rt2b, rfl⟩ := hT
      have mem2 := mem_of hx2.1
      have hlx2 := hx2.2; rw [sizeLine_eq] at hlx2
      have hlr2 := mem_len hx2.1
      have fi2 : z2.1.length ≤ 100 ∧ z2.2.length ≤ 100 := by have hss := sset_le (hit ++ other); simp only [List.length_append] at hss; simp only [List.mem_cons, List.mem_nil_iff, or_false] at mem2; rcases mem2 with rfl | rfl | rfl | rfl <;> (show _ ∧ _; constructor <;> (dsimp only; omega))
      have tk2 := tk
      have tk : m_law_9s cell modulus row z2 () = _ := rfl
      show tSs _ _ _ [some v_script, some t1, some v3_modulus, some v5_row, none, some v6_drawn, some v7_hit, some v9_left, none, some v11_other, some t2a, some t2b, y1_12] _
      refine b_cons (s_if x0_13.s (et_not (et_val (ev_c4 C_q_joined_right (hr.mono (by decide)) gl_law__law_joined_right (ev_v (sl_law_row) (up (x23.g.trans (x26.g.trans (x41.g.trans (x57.g.trans (sgA13.trans x59.g))))) r5_row)) (ev_v (sl_law_modulus) (up (x20.g.trans (x23.g.trans (x26.g.trans (x41.g.trans (x57.g.trans (sgA13.trans x59.g)))))) r3_modulus)) (ev_v (sl_law_one) rt2a) (ev_v (sl_law_two) rt2b) (by walk_at "pre")))) (fun h60 G14 H14 x61 l14 => ?_) (fun h60 G14 H14 x61 l14 => ?_))
      · have tk := tk_tt tk h60
        have h60_ := h60; try simp only [Bool.and_eq_true, Bool.or_eq_true, Bool.and_eq_false_iff, Bool.or_eq_false_iff, Bool.not_eq_true', Bool.not_eq_false', decide_eq_true_eq, decide_eq_false_iff_not, Classical.not_not] at h60_
        have x0_14 := x0_13.trans x61
        show tSs _ _ _ [some v_script, some t1, some v3_modulus, some v5_row, none, some v6_drawn, some v7_hit, some v9_left, none, some v11_other, some t2a, some t2b, y1_12] _
        refine b_cons (s_ret x0_14.s ev_bl fun G_ H_ v63 x62 _ r_ => ?_)
        exact fin.rt _ _ _ (x0_14.trans x62) (rep_of (tk_outR tk1 (lrun_ret es1 (tk_anR tk2 (lrun_ret es2 tk)))) r_) (fun z => nomatch z)
      · have tk := tk_ff tk h60
        have h60_ := h60; try simp only [Bool.and_eq_true, Bool.or_eq_true, Bool.and_eq_false_iff, Bool.or_eq_false_iff, Bool.not_eq_true', Bool.not_eq_false', decide_eq_true_eq, decide_eq_false_iff_not, Classical.not_not] at h60_
        have x0_14 := x0_13.trans x61
        show tSs _ _ _ [some v_script, some t1, some v3_modulus, some v5_row, none, some v6_drawn, some v7_hit, some v9_left, none, some v11_other, some t2a, some t2b, y1_12] _
        refine b_nil ?_
        show tSs _ _ _ [some v_script, some t1, some v3_modulus, some v5_row, none, some v6_drawn, some v7_hit, some v9_left, none, some v11_other, some t2a, some t2b, y1_12] _
        refine b_cons (s_if x0_14.s (et_not (et_val (ev_c4 C_q_otherwise_right (hr.mono (by decide)) gl_law__law_otherwise_right (ev_v (sl_law_cell) (up (x4.g.trans (x20.g.trans (x23.g.trans (x26.g.trans (x41.g.trans (x57.g.trans (sgA13.trans (x59.g.trans x61.g)))))))) rt1)) (ev_v (sl_law_row) (up (x23.g.trans (x26.g.trans (x41.g.trans (x57.g.trans (sgA13.trans (x59.g.trans x61.g)))))) r5_row)) (ev_v (sl_law_modulus) (up (x20.g.trans (x23.g.trans (x26.g.trans (x41.g.trans (x57.g.trans (sgA13.trans (x59.g.trans x61.g))))))) r3_modulus)) (ev_v (sl_law_one) (up x61.g rt2a)) (by walk_at "pre")))) (fun h64 G15 H15 x65 l15 => ?_) (fun h64 G15 H15 x65 l15 => ?_))
        · have tk := tk_tt tk h64
          have h64_ := h64; try simp only [Bool.and_eq_true, Bool.or_eq_true, Bool.and_eq_false_iff, Bool.or_eq_false_iff, Bool.not_eq_true', Bool.not_eq_false', decide_eq_true_eq, decide_eq_false_iff_not, Classical.not_not] at h64_
          have x0_15 := x0_14.trans x65
          show tSs _ _ _ [some v_script, some t1, some v3_modulus, some v5_row, none, some v6_drawn, some v7_hit, some v9_left, none, some v11_other, some t2a, some t2b, y1_12] _
          refine b_cons (s_ret x0_15.s ev_bl fun G_ H_ v67 x66 _ r_ => ?_)
          exact fin.rt _ _ _ (x0_15.trans x66) (rep_of (tk_outR tk1 (lrun_ret es1 (tk_anR tk2 (lrun_ret es2 tk)))) r_) (fun z => nomatch z)
        · have tk := tk_ff tk h64
          have h64_ := h64; try simp only [Bool.and_eq_true, Bool.or_eq_true, Bool.and_eq_false_iff, Bool.or_eq_false_iff, Bool.not_eq_true', Bool.not_eq_false', decide_eq_true_eq, decide_eq_false_iff_not, Classical.not_not] at h64_
          have x0_15 := x0_14.trans x65
          show tSs _ _ _ [some v_script, some t1, some v3_modulus, some v5_row, none, some v6_drawn, some v7_hit, some v9_left, none, some v11_other, some t2a, some t2b, y1_12] _
          refine b_nil ?_
          show tSs _ _ _ [some v_script, some t1, some v3_modulus, some v5_row, none, some v6_drawn, some v7_hit, some v9_left, none, some v11_other, some t2a, some t2b, y1_12] _
          refine b_nil ?_
          exact ⟨_, x61.g.trans x65.g, x0_15.s, lrun_nxt es2 tk, x0_15, some t2a, some t2b, rfl⟩
    · intro σ1 G16 H16 sgC16 sh2 I_
      obtain ⟨es2, x0_16, y2_10, y2_11, rfl⟩ := I_
      have tk := tk_anN (k := (m_law_10 modulus row)) tk es2
      show tSs _ _ _ [some v_script, some t1, some v3_modulus, some v5_row, none, some v6_drawn, some v7_hit, some v9_left, none, some v11_other, y2_10, y2_11, y1_12] _
      refine b_cons (s_set sc_law.nd ss_law_places x0_16.s (ev_lrg1 rfl ⟨gl_law_list, T.b_list⟩ ⟨gl_law_range, T.b_range⟩ (ev_len ⟨gl_law_len, T.b_len⟩ (ev_v (sl_law_row) (up (x23.g.trans (x26.g.trans (x41.g.trans (x57.g.trans sgC16)))) r5_row))) (by walk_at "rg")) fun G17 H17 v17_places x68 l17 r17_places => ?_)
      have x0_17 := x0_16.trans x68
      show tSs _ _ _ [some v_script, some t1, some v3_modulus, some v5_row, none, some v6_drawn, some v7_hit, some v9_left, none, some v11_other, y2_10, y2_11, some v17_places] _
      obtain ⟨places, e69⟩ : ∃ z, z = (rng 0 ((row).length : Int)) := ⟨_, rfl⟩
      rw [← e69] at r17_places
      have tk : _ = m_law_11 modulus row places := tk.trans (by rw [e69] <;> rfl)
      have g_e69 := congrArg List.length e69; try simp only [List.length_append, List.length_cons, List.length_nil, rng_len, List.length_map, List.length_reverse, psort_len, isort_len] at g_e69
      have fc71 := post_sums_ahead row modulus (by walk_at "pre")
      refine b_cons (s_if x0_17.s (et_cmp c_neB (ev_c3 C_q_hit (hr.mono (by decide)) gl_law__law_hit (ev_v (sl_law_row) (up (x23.g.trans (x26.g.trans (x41.g.trans (x57.g.trans (sgC16.trans x68.g))))) r5_row)) (ev_v (sl_law_modulus) (up (x20.g.trans (x23.g.trans (x26.g.trans (x41.g.trans (x57.g.trans (sgC16.trans x68.g)))))) r3_modulus)) (ev_v (sl_law_places) r17_places) (by walk_at "pre")) (ev_and (ev_cmp (c_neD (hu_of64 hr)) (ev_v (sl_law_row) (up (x23.g.trans (x26.g.trans (x41.g.trans (x57.g.trans (sgC16.trans x68.g))))) r5_row)) (ev_list (es_nil (α := Int)))) fun c70 => (ev_bo1 (ev_cmp c_eq (ev_ixN (0 : Int) (j := ((m_sums_ahead row modulus)).length - 1) (ev_c2 C_sums_ahead (hr.mono (by decide)) gl_law_sums_ahead (ev_v (sl_law_row) (up (x23.g.trans (x26.g.trans (x41.g.trans (x57.g.trans (sgC16.trans x68.g))))) r5_row)) (ev_v (sl_law_modulus) (up (x20.g.trans (x23.g.trans (x26.g.trans (x41.g.trans (x57.g.trans (sgC16.trans x68.g)))))) r3_modulus)) (by walk_at "pre")) (Ev.to (y := (-1 : Int)) (ev_neg ev_int) (by decide)) (by have := post_sums_ahead row modulus (by walk_at "pre"); walk_at "ixn")) ev_int)))) (fun h72 G18 H18 x73 l18 => ?_) (fun h72 G18 H18 x73 l18 => ?_))
      · have tk := tk_tt tk h72
        have h72_ := h72; try simp only [Bool.and_eq_true, Bool.or_eq_true, Bool.and_eq_false_iff, Bool.or_eq_false_iff, Bool.not_eq_true', Bool.not_eq_false', decide_eq_true_eq, decide_eq_false_iff_not, Classical.not_not] at h72_
        have x0_18 := x0_17.trans x73
        show tSs _ _ _ [some v_script, some t1, some v3_modulus, some v5_row, none, some v6_drawn, some v7_hit, some v9_left, none, some v11_other, y2_10, y2_11, some v17_places] _
        refine b_cons (s_ret x0_18.s ev_bl fun G_ H_ v75 x74 _ r_ => ?_)
        exact fin.rt _ _ _ (x0_18.trans x74) (rep_of (tk_outR tk1 (lrun_ret es1 tk)) r_) (fun z => nomatch z)
      · have tk := tk_ff tk h72
        have h72_ := h72; try simp only [Bool.and_eq_true, Bool.or_eq_true, Bool.and_eq_false_iff, Bool.or_eq_false_iff, Bool.not_eq_true', Bool.not_eq_false', decide_eq_true_eq, decide_eq_false_iff_not, Classical.not_not] at h72_
        have x0_18 := x0_17.trans x73
        show tSs _ _ _ [some v_script, some t1, some v3_modulus, some v5_row, none, some v6_drawn, some v7_hit, some v9_left, none, some v11_other, y2_10, y2_11, some v17_places] _
        refine b_nil ?_
        show tSs _ _ _ [some v_script, some t1, some v3_modulus, some v5_row, none, some v6_drawn, some v7_hit, some v9_left, none, some v11_other, y2_10, y2_11, some v17_places] _
        refine b_nil ?_
        exact ⟨_, x4.g.trans (x20.g.trans (x23.g.trans (x26.g.trans (x41.g.trans (x57.g.trans (sgC16.trans (x68.g.trans x73.g))))))), x0_18.s, lrun_nxt es1 tk, x0_18, some t1, some v3_modulus, some v5_row, some v6_drawn, some v7_hit, some v9_left, some v11_other, y2_10, y2_11, some v17_places, rfl⟩
  · intro σ1 G19 H19 sgC19 sh1 I_
    obtain ⟨es1, x0_19, y1_1, y1_2, y1_3, y1_5, y1_6, y1_7, y1_9, y1_10, y1_11, y1_12, rfl⟩ := I_
    have tk := tk_outN (k := m_law_2) tk es1
    show tSs _ _ _ [some v_script, y1_1, y1_2, y1_3, none, y1_5, y1_6, y1_7, none, y1_9, y1_10, y1_11, y1_12] _
    refine b_cons (s_ret x0_19.s ev_bl fun G_ H_ v77 x76 _ r_ => ?_)
    exact fin.rt _ _ _ (x0_19.trans x76) (rep_of tk r_) (fun z => nomatch z)

theorem all_mk {l : PySem.W.OpenLaw} {w : World} {K : PySem.W.Frag} {h : Heap} {mg : Str → Option Value} {fa f1 f2 f3 f4 f5 f6 f7 f8 f9 f10 f11 f12 f13 f14 f15 f16 : Addr} (X : K.In h) (G : h.Ns mainGlobals mg) (hfa : mg "law" = some (.ref fa))
    {od1 an1 od2 an2 od3 an3 od4 an4 od5 an5 od6 an6 od7 an7 od8 an8 od9 an9 od10 an10 od11 an11 od12 an12 od13 an13 od14 an14 od15 an15 od16 an16 : Option Addr} {sl1 sl2 sl3 sl4 sl5 sl6 sl7 sl8 sl9 sl10 sl11 sl12 sl13 sl14 sl15 sl16 : Array (Option Value)} {oc1 kV1 dc1 pm1 cd1 ct1 oc2 kV2 dc2 pm2 cd2 ct2 oc3 kV3 dc3 pm3 cd3 ct3 oc4 kV4 dc4 pm4 cd4 ct4 oc5 kV5 dc5 pm5 cd5 ct5 oc6 kV6 dc6 pm6 cd6 ct6 oc7 kV7 dc7 pm7 cd7 ct7 oc8 kV8 dc8 pm8 cd8 ct8 oc9 kV9 dc9 pm9 cd9 ct9 oc10 kV10 dc10 pm10 cd10 ct10 oc11 kV11 dc11 pm11 cd11 ct11 oc12 kV12 dc12 pm12 cd12 ct12 oc13 kV13 dc13 pm13 cd13 ct13 oc14 kV14 dc14 pm14 cd14 ct14 oc15 kV15 dc15 pm15 cd15 ct15 oc16 kV16 dc16 pm16 cd16 ct16 : Value}
    (a1 : PySem.W.nsIn K mainGlobals "need_modulus" = some (some (.ref f1))) (l1 : K.lookup f1 = some ⟨oc1, od1, .func (PySem.W.fnOf "need_modulus" "need_modulus" (defArgs s_need_modulus) (defBody s_need_modulus) (defScope s_need_modulus) .none kV1 dc1 pm1 an1 cd1 ct1), sl1⟩) (c1 : PySem.W.codeIn K cd1 "need_modulus" = true) (k1 : PySem.W.keepIn K (.ref f1) = true)
    (a2 : PySem.W.nsIn K mainGlobals "are_places" = some (some (.ref f2))) (l2 : K.lookup f2 = some ⟨oc2, od2, .func (PySem.W.fnOf "are_places" "are_places" (defArgs s_are_places) (defBody s_are_places) (defScope s_are_places) .none kV2 dc2 pm2 an2 cd2 ct2), sl2⟩) (c2 : PySem.W.codeIn K cd2 "are_places" = true) (k2 : PySem.W.keepIn K (.ref f2) = true)
    (a3 : PySem.W.nsIn K mainGlobals "rests" = some (some (.ref f3))) (l3 : K.lookup f3 = some ⟨oc3, od3, .func (PySem.W.fnOf "rests" "rests" (defArgs s_rests) (defBody s_rests) (defScope s_rests) .none kV3 dc3 pm3 an3 cd3 ct3), sl3⟩) (c3 : PySem.W.codeIn K cd3 "rests" = true) (k3 : PySem.W.keepIn K (.ref f3) = true)
    (a4 : PySem.W.nsIn K mainGlobals "is_hit" = some (some (.ref f4))) (l4 : K.lookup f4 = some ⟨oc4, od4, .func (PySem.W.fnOf "is_hit" "is_hit" (defArgs s_is_hit) (defBody s_is_hit) (defScope s_is_hit) .none kV4 dc4 pm4 an4 cd4 ct4), sl4⟩) (c4 : PySem.W.codeIn K cd4 "is_hit" = true) (k4 : PySem.W.keepIn K (.ref f4) = true)
    (a5 : PySem.W.nsIn K mainGlobals "sums_ahead" = some (some (.ref f5))) (l5 : K.lookup f5 = some ⟨oc5, od5, .func (PySem.W.fnOf "sums_ahead" "sums_ahead" (defArgs s_sums_ahead) (defBody s_sums_ahead) (defScope s_sums_ahead) .none kV5 dc5 pm5 an5 cd5 ct5), sl5⟩) (c5 : PySem.W.codeIn K cd5 "sums_ahead" = true) (k5 : PySem.W.keepIn K (.ref f5) = true)
    (a6 : PySem.W.nsIn K mainGlobals "_law_hit" = some (some (.ref f6))) (l6 : K.lookup f6 = some ⟨oc6, od6, .func (PySem.W.fnOf "_law_hit" "_law_hit" (defArgs s__law_hit) (defBody s__law_hit) (defScope s__law_hit) .none kV6 dc6 pm6 an6 cd6 ct6), sl6⟩) (c6 : PySem.W.codeIn K cd6 "_law_hit" = true) (k6 : PySem.W.keepIn K (.ref f6) = true)
    (a7 : PySem.W.nsIn K mainGlobals "_law_stir" = some (some (.ref f7))) (l7 : K.lookup f7 = some ⟨oc7, od7, .func (PySem.W.fnOf "_law_stir" "_law_stir" (defArgs s__law_stir) (defBody s__law_stir) (defScope s__law_stir) .none kV7 dc7 pm7 an7 cd7 ct7), sl7⟩) (c7 : PySem.W.codeIn K cd7 "_law_stir" = true) (k7 : PySem.W.keepIn K (.ref f7) = true)
    (a8 : PySem.W.nsIn K mainGlobals "_law_cells" = some (some (.ref f8))) (l8 : K.lookup f8 = some ⟨oc8, od8, .func (PySem.W.fnOf "_law_cells" "_law_cells" (defArgs s__law_cells) (defBody s__law_cells) (defScope s__law_cells) .none kV8 dc8 pm8 an8 cd8 ct8), sl8⟩) (c8 : PySem.W.codeIn K cd8 "_law_cells" = true) (k8 : PySem.W.keepIn K (.ref f8) = true)
    (a9 : PySem.W.nsIn K mainGlobals "_law_modulus" = some (some (.ref f9))) (l9 : K.lookup f9 = some ⟨oc9, od9, .func (PySem.W.fnOf "_law_modulus" "_law_modulus" (defArgs s__law_modulus) (defBody s__law_modulus) (defScope s__law_modulus) .none kV9 dc9 pm9 an9 cd9 ct9), sl9⟩) (c9 : PySem.W.codeIn K cd9 "_law_modulus" = true) (k9 : PySem.W.keepIn K (.ref f9) = true)
    (a10 : PySem.W.nsIn K mainGlobals "_law_row" = some (some (.ref f10))) (l10 : K.lookup f10 = some ⟨oc10, od10, .func (PySem.W.fnOf "_law_row" "_law_row" (defArgs s__law_row) (defBody s__law_row) (defScope s__law_row) .none kV10 dc10 pm10 an10 cd10 ct10), sl10⟩) (c10 : PySem.W.codeIn K cd10 "_law_row" = true) (k10 : PySem.W.keepIn K (.ref f10) = true)
    (a11 : PySem.W.nsIn K mainGlobals "_law_rest" = some (some (.ref f11))) (l11 : K.lookup f11 = some ⟨oc11, od11, .func (PySem.W.fnOf "_law_rest" "_law_rest" (defArgs s__law_rest) (defBody s__law_rest) (defScope s__law_rest) .none kV11 dc11 pm11 an11 cd11 ct11), sl11⟩) (c11 : PySem.W.codeIn K cd11 "_law_rest" = true) (k11 : PySem.W.keepIn K (.ref f11) = true)
    (a12 : PySem.W.nsIn K mainGlobals "_law_some" = some (some (.ref f12))) (l12 : K.lookup f12 = some ⟨oc12, od12, .func (PySem.W.fnOf "_law_some" "_law_some" (defArgs s__law_some) (defBody s__law_some) (defScope s__law_some) .none kV12 dc12 pm12 an12 cd12 ct12), sl12⟩) (c12 : PySem.W.codeIn K cd12 "_law_some" = true) (k12 : PySem.W.keepIn K (.ref f12) = true)
    (a13 : PySem.W.nsIn K mainGlobals "_law_completed" = some (some (.ref f13))) (l13 : K.lookup f13 = some ⟨oc13, od13, .func (PySem.W.fnOf "_law_completed" "_law_completed" (defArgs s__law_completed) (defBody s__law_completed) (defScope s__law_completed) .none kV13 dc13 pm13 an13 cd13 ct13), sl13⟩) (c13 : PySem.W.codeIn K cd13 "_law_completed" = true) (k13 : PySem.W.keepIn K (.ref f13) = true)
    (a14 : PySem.W.nsIn K mainGlobals "_law_joined_right" = some (some (.ref f14))) (l14 : K.lookup f14 = some ⟨oc14, od14, .func (PySem.W.fnOf "_law_joined_right" "_law_joined_right" (defArgs s__law_joined_right) (defBody s__law_joined_right) (defScope s__law_joined_right) .none kV14 dc14 pm14 an14 cd14 ct14), sl14⟩) (c14 : PySem.W.codeIn K cd14 "_law_joined_right" = true) (k14 : PySem.W.keepIn K (.ref f14) = true)
    (a15 : PySem.W.nsIn K mainGlobals "_law_otherwise_right" = some (some (.ref f15))) (l15 : K.lookup f15 = some ⟨oc15, od15, .func (PySem.W.fnOf "_law_otherwise_right" "_law_otherwise_right" (defArgs s__law_otherwise_right) (defBody s__law_otherwise_right) (defScope s__law_otherwise_right) .none kV15 dc15 pm15 an15 cd15 ct15), sl15⟩) (c15 : PySem.W.codeIn K cd15 "_law_otherwise_right" = true) (k15 : PySem.W.keepIn K (.ref f15) = true)
    (a16 : PySem.W.nsIn K mainGlobals "law" = some (some (.ref f16))) (l16 : K.lookup f16 = some ⟨oc16, od16, .func (PySem.W.fnOf "law" "law" (defArgs s_law) (defBody s_law) (defScope s_law) .none kV16 dc16 pm16 an16 cd16 ct16), sl16⟩) (c16 : PySem.W.codeIn K cd16 "law" = true) (k16 : PySem.W.keepIn K (.ref f16) = true)
    (z_int : PySem.W.nsIn K mainGlobals "int" = some none)
    (z_len : PySem.W.nsIn K mainGlobals "len" = some none)
    (z_list : PySem.W.nsIn K mainGlobals "list" = some none)
    (z_max : PySem.W.nsIn K mainGlobals "max" = some none)
    (z_min : PySem.W.nsIn K mainGlobals "min" = some none)
    (z_range : PySem.W.nsIn K mainGlobals "range" = some none)
    (z_set : PySem.W.nsIn K mainGlobals "set" = some none)
    (z_sorted : PySem.W.nsIn K mainGlobals "sorted" = some none)
    (z_sum : PySem.W.nsIn K mainGlobals "sum" = some none)
    (z_zip : PySem.W.nsIn K mainGlobals "zip" = some none) :
    ∃ fd : FuncData, (∀ (s : Shared) (v : Value), BindsTo s fd ⟨[v], []⟩ [("script", v)]) ∧ ∀ base : Heap, K.In base → base.Ns mainGlobals mg → FnOk l.prog w K mg base (L2.CX l.prog w) 5 fa fd ["script"] (Sp1 K false (fun (script : Scr) => script.ns.length ≤ 63) m_law) := by
  have e := hfa.symm.trans (PySem.W.mg_of X G a16)
  cases e
  have T : Txt K mg := ⟨PySem.W.mg_none_of X G z_int, PySem.W.mg_none_of X G z_len, PySem.W.mg_none_of X G z_list, PySem.W.mg_none_of X G z_max, PySem.W.mg_none_of X G z_min, PySem.W.mg_none_of X G z_range, PySem.W.mg_none_of X G z_set, PySem.W.mg_none_of X G z_sorted, PySem.W.mg_none_of X G z_sum, PySem.W.mg_none_of X G z_zip⟩
  have F1 := fun_mk (st := s_need_modulus) l1 c1 k1
  have b1 := F1.binds (ps := ["modulus"]) fun _ _ _ _ _ _ us hl => match us, hl with | [_], _ => rfl
  have F2 := fun_mk (st := s_are_places) l2 c2 k2
  have b2 := F2.binds (ps := ["row", "places"]) fun _ _ _ _ _ _ us hl => match us, hl with | [_, _], _ => rfl
  have F3 := fun_mk (st := s_rests) l3 c3 k3
  have b3 := F3.binds (ps := ["row", "modulus"]) fun _ _ _ _ _ _ us hl => match us, hl with | [_, _], _ => rfl
  have F4 := fun_mk (st := s_is_hit) l4 c4 k4
  have b4 := F4.binds (ps := ["row", "modulus", "places"]) fun _ _ _ _ _ _ us hl => match us, hl with | [_, _, _], _ => rfl
  have F5 := fun_mk (st := s_sums_ahead) l5 c5 k5
  have b5 := F5.binds (ps := ["row", "modulus"]) fun _ _ _ _ _ _ us hl => match us, hl with | [_, _], _ => rfl
  have F6 := fun_mk (st := s__law_hit) l6 c6 k6
  have b6 := F6.binds (ps := ["row", "modulus", "places"]) fun _ _ _ _ _ _ us hl => match us, hl with | [_, _, _], _ => rfl
  have F7 := fun_mk (st := s__law_stir) l7 c7 k7
  have b7 := F7.binds (ps := ["cell", "k"]) fun _ _ _ _ _ _ us hl => match us, hl with | [_, _], _ => rfl
  have F8 := fun_mk (st := s__law_cells) l8 c8 k8
  have b8 := F8.binds (ps := ["script", "many"]) fun _ _ _ _ _ _ us hl => match us, hl with | [_, _], _ => rfl
  have F9 := fun_mk (st := s__law_modulus) l9 c9 k9
  have b9 := F9.binds (ps := ["cell"]) fun _ _ _ _ _ _ us hl => match us, hl with | [_], _ => rfl
  have F10 := fun_mk (st := s__law_row) l10 c10 k10
  have b10 := F10.binds (ps := ["cell", "modulus", "most"]) fun _ _ _ _ _ _ us hl => match us, hl with | [_, _, _], _ => rfl
  have F11 := fun_mk (st := s__law_rest) l11 c11 k11
  have b11 := F11.binds (ps := ["number", "modulus"]) fun _ _ _ _ _ _ us hl => match us, hl with | [_, _], _ => rfl
  have F12 := fun_mk (st := s__law_some) l12 c12 k12
  have b12 := F12.binds (ps := ["cell", "base", "many"]) fun _ _ _ _ _ _ us hl => match us, hl with | [_, _, _], _ => rfl
  have F13 := fun_mk (st := s__law_completed) l13 c13 k13
  have b13 := F13.binds (ps := ["row", "modulus", "places"]) fun _ _ _ _ _ _ us hl => match us, hl with | [_, _, _], _ => rfl
  have F14 := fun_mk (st := s__law_joined_right) l14 c14 k14
  have b14 := F14.binds (ps := ["row", "modulus", "one", "other"]) fun _ _ _ _ _ _ us hl => match us, hl with | [_, _, _, _], _ => rfl
  have F15 := fun_mk (st := s__law_otherwise_right) l15 c15 k15
  have b15 := F15.binds (ps := ["cell", "row", "modulus", "places"]) fun _ _ _ _ _ _ us hl => match us, hl with | [_, _, _, _], _ => rfl
  have F16 := fun_mk (st := s_law) l16 c16 k16
  have b16 := F16.binds (ps := ["script"]) fun _ _ _ _ _ _ us hl => match us, hl with | [_], _ => rfl
  refine ⟨PySem.W.fnOf "law" "law" (defArgs s_law) (defBody s_law) (defScope s_law) .none kV16 dc16 pm16 an16 cd16 ct16, fun s v => .of_eq rfl, fun base _ _ => ?_⟩
  have C_need_modulus : Cal l.prog w K mg base 1 "need_modulus" (Sp1 K false (fun (modulus : Int) => 1 ≤ modulus) m_need_modulus) := cal_need_modulus T F1 (PySem.W.mg_of X G a1) b1 
  have C_are_places : Cal l.prog w K mg base 1 "are_places" (Sp2 K false (fun (row : (List Int)) (places : (List Int)) => True) m_are_places) := cal_are_places T F2 (PySem.W.mg_of X G a2) b2 
  have C_rests : Cal l.prog w K mg base 2 "rests" (Sp2 K true (fun (row : (List Int)) (modulus : Int) => 1 ≤ modulus) m_rests) := cal_rests T F3 (PySem.W.mg_of X G a3) b3 C_need_modulus
  have C_is_hit : Cal l.prog w K mg base 2 "is_hit" (Sp3 K false (fun (row : (List Int)) (modulus : Int) (places : (List Int)) => 1 ≤ modulus) m_is_hit) := cal_is_hit T F4 (PySem.W.mg_of X G a4) b4 C_need_modulus C_are_places
  have C_sums_ahead : Cal l.prog w K mg base 3 "sums_ahead" (Sp2 K true (fun (row : (List Int)) (modulus : Int) => 1 ≤ modulus ∧ row.length ≤ 1000) m_sums_ahead) := cal_sums_ahead T F5 (PySem.W.mg_of X G a5) b5 C_rests
  have C_q_hit : Cal l.prog w K mg base 3 "_law_hit" (Sp3 K false (fun (row : (List Int)) (modulus : Int) (places : (List Int)) => 1 ≤ modulus) m_q_hit) := cal_q_hit T F6 (PySem.W.mg_of X G a6) b6 C_is_hit
  have C_q_stir : Cal l.prog w K mg base 1 "_law_stir" (Sp2 K false (fun (cell : Int) (k : Int) => 0 ≤ k) m_q_stir) := cal_q_stir T F7 (PySem.W.mg_of X G a7) b7 
  have C_q_cells : Cal l.prog w K mg base 1 "_law_cells" (Sp2 K true (fun (script : Scr) (many : Int) => script.ns.length ≤ 63 ∧ 0 ≤ many ∧ many ≤ 63) m_q_cells) := cal_q_cells T F8 (PySem.W.mg_of X G a8) b8 
  have C_q_modulus : Cal l.prog w K mg base 2 "_law_modulus" (Sp1 K false (fun (cell : Int) => True) m_q_modulus) := cal_q_modulus T F9 (PySem.W.mg_of X G a9) b9 C_q_stir
  have C_q_row : Cal l.prog w K mg base 2 "_law_row" (Sp3 K true (fun (cell : Int) (modulus : Int) (most : Int) => 1 ≤ modulus ∧ modulus ≤ 60 ∧ 0 ≤ most ∧ most ≤ 40) m_q_row) := cal_q_row T F10 (PySem.W.mg_of X G a10) b10 C_q_stir
  have C_q_rest : Cal l.prog w K mg base 1 "_law_rest" (Sp2 K false (fun (number : Int) (modulus : Int) => 1 ≤ modulus ∧ modulus ≤ 60) m_q_rest) := cal_q_rest T F11 (PySem.W.mg_of X G a11) b11 
  have C_q_some : Cal l.prog w K mg base 2 "_law_some" (Sp3 K true (fun (cell : Int) (base_ : Int) (many : Int) => 0 ≤ base_ ∧ 0 ≤ many ∧ many ≤ 63) m_q_some) := cal_q_some T F12 (PySem.W.mg_of X G a12) b12 C_q_stir
  have C_q_completed : Cal l.prog w K mg base 2 "_law_completed" (Sp3 K false (fun (row : (List Int)) (modulus : Int) (places : (List Int)) => (1 ≤ modulus ∧ modulus ≤ 60) ∧ (∀ p ∈ places, 0 ≤ p ∧ p < (row.length : Int)) ∧ places.length ≤ 1000 ∧ row.length ≤ 1000) m_q_completed) := cal_q_completed T F13 (PySem.W.mg_of X G a13) b13 C_q_rest
  have C_q_joined_right : Cal l.prog w K mg base 4 "_law_joined_right" (Sp4 K false (fun (row : (List Int)) (modulus : Int) (one : (List Int)) (other : (List Int)) => (1 ≤ modulus ∧ modulus ≤ 60) ∧ one.length ≤ 100 ∧ other.length ≤ 100) m_q_joined_right) := cal_q_joined_right T F14 (PySem.W.mg_of X G a14) b14 C_q_hit
  have C_q_otherwise_right : Cal l.prog w K mg base 4 "_law_otherwise_right" (Sp4 K false (fun (cell : Int) (row : (List Int)) (modulus : Int) (places : (List Int)) => (1 ≤ modulus ∧ modulus ≤ 60) ∧ row.length ≤ 100) m_q_otherwise_right) := cal_q_otherwise_right T F15 (PySem.W.mg_of X G a15) b15 C_q_hit C_q_stir C_rests
  exact cal_law (P := l.prog) (w := w) (base := base) T F16 (PySem.W.mg_of X G a16) b16 C_q_cells C_q_modulus C_q_stir C_q_row C_q_some C_q_completed C_q_joined_right C_q_otherwise_right C_q_hit C_sums_ahead
end Q
open PySem PySem.W PyProof.Rows
set_option maxHeartbeats 0 in
theorem PySem.Challenge.cw_restsums_k04_whole_hits_holds : PySem.Challenge.rw_restsums_k04_whole_hits.Holds := by
  w_on; o_law; k_head; (case hw => w_witness2)
  k_fill
  refine L2.walk_of (l := PySem.Challenge.rw_restsums_k04_whole_hits) (n := 63) (k := 5) (x := "script") (CX := fun w => L2.CX (PySem.Challenge.rw_restsums_k04_whole_hits).prog w) (sp := fun w => RL.Sp1 _ false (fun (script : RL.Scr) => script.ns.length ≤ 63) Q.m_law) rfl (by decide) rfl ⟨rfl, by decide, by decide⟩ (fun w h Y => PySem.W.kIn_of Y) ?F (fun _ H a ns hl _ hS => RL.law_sp Q.law_true hl hS) (fun _ _ _ _ _ h => RL.law_cx h)
  case F =>
    intro w mg fa h KX G hmg
    refine' Q.all_mk KX G hmg ?a1 ?l1 ?c1 ?k1 ?a2 ?l2 ?c2 ?k2 ?a3 ?l3 ?c3 ?k3 ?a4 ?l4 ?c4 ?k4 ?a5 ?l5 ?c5 ?k5 ?a6 ?l6 ?c6 ?k6 ?a7 ?l7 ?c7 ?k7 ?a8 ?l8 ?c8 ?k8 ?a9 ?l9 ?c9 ?k9 ?a10 ?l10 ?c10 ?k10 ?a11 ?l11 ?c11 ?k11 ?a12 ?l12 ?c12 ?k12 ?a13 ?l13 ?c13 ?k13 ?a14 ?l14 ?c14 ?k14 ?a15 ?l15 ?c15 ?k15 ?a16 ?l16 ?c16 ?k16 ?z_int ?z_len ?z_list ?z_max ?z_min ?z_range ?z_set ?z_sorted ?z_sum ?z_zip
    (case a1 => k_is)
    (case l1 => k_is)
    (case c1 => k_is)
    (case k1 => k_is)
    (case a2 => k_is)
    (case l2 => k_is)
    (case c2 => k_is)
    (case k2 => k_is)
    (case a3 => k_is)
    (case l3 => k_is)
    (case c3 => k_is)
    (case k3 => k_is)
    (case a4 => k_is)
    (case l4 => k_is)
    (case c4 => k_is)
    (case k4 => k_is)
    (case a5 => k_is)
    (case l5 => k_is)
    (case c5 => k_is)
    (case k5 => k_is)
    (case a6 => k_is)
    (case l6 => k_is)
    (case c6 => k_is)
    (case k6 => k_is)
    (case a7 => k_is)
    (case l7 => k_is)
    (case c7 => k_is)
    (case k7 => k_is)
    (case a8 => k_is)
    (case l8 => k_is)
    (case c8 => k_is)
    (case k8 => k_is)
    (case a9 => k_is)
    (case l9 => k_is)
    (case c9 => k_is)
    (case k9 => k_is)
    (case a10 => k_is)
    (case l10 => k_is)
    (case c10 => k_is)
    (case k10 => k_is)
    (case a11 => k_is)
    (case l11 => k_is)
    (case c11 => k_is)
    (case k11 => k_is)
    (case a12 => k_is)
    (case l12 => k_is)
    (case c12 => k_is)
    (case k12 => k_is)
    (case a13 => k_is)
    (case l13 => k_is)
    (case c13 => k_is)
    (case k13 => k_is)
    (case a14 => k_is)
    (case l14 => k_is)
    (case c14 => k_is)
    (case k14 => k_is)
    (case a15 => k_is)
    (case l15 => k_is)
    (case c15 => k_is)
    (case k15 => k_is)
    (case a16 => k_is)
    (case l16 => k_is)
    (case c16 => k_is)
    (case k16 => k_is)
    (case z_int => k_is)
    (case z_len => k_is)
    (case z_list => k_is)
    (case z_max => k_is)
    (case z_min => k_is)
    (case z_range => k_is)
    (case z_set => k_is)
    (case z_sorted => k_is)
    (case z_sum => k_is)
    (case z_zip => k_is)
