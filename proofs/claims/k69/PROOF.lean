import PyProof.Rows.All
import Wide.All
import OpenK.AllK
import Wide.FinOn
import HandS.ForMost
import HandS.Exc
import HandS.ExcOwn
import HandS.TryMany
import HandS.ExcInit
import KE.KExcInit
import HandS.Zip
import HandS.WordsExc
import HandS.Defaults
import HandS.TupAny
import HandS.TupMul
import HandS.Wide
import HandS.Deep
import PyProof.CollectIter
import PyProof.WalksMore
import KE.GoesMore
import HandS.Walk
import KE.GoesEnum
import HandS.IsInst
import KE.KExcIs
import HandS.Head0
import HandS.Head1
import HandS.Head2
import HandS.HeadEnd
import HandS.HeadHook1
import HandS.HeadHook2
import PySem.Challenge.RW_hidelater_k69_classes_apart
set_option Elab.async false
set_option linter.all false
set_option maxRecDepth 100000
set_option maxHeartbeats 4100000
/-! DMA: data, store, results; how data stand in the heap. -/
namespace DM
open PySem L2

/-- data: what a name holds; loc n: the n-th object of the store; scr: the script -/
inductive D where
  | non | bl (b : Bool) | int (i : Int) | str (x : Str) | tup (ds : List D) | loc (n : Nat) | scr
/-- objects that may change -/
inductive O where
  | lst (ds : List D)
  | dct (fz : Bool) (kvs : List (Key × D))
  | dtt (kvs : List (List Key × D))
  | ins (c : Nat) (fs : List (Str × D))
  | exn (c : Nat) (fs : List (Str × D))
abbrev Store := List O
/-- an exception: its class, its fields -/
structure Exn where
  c : Nat
  fs : List (Str × D)
inductive R (α : Type) where
  | ok (a : α) (S : Store)
  | err (x : Exn) (S : Store)
  | stuck
abbrev Env := List (Option D)
inductive RS where
  | nx (ρ : Env) (S : Store)
  | bk (ρ : Env) (S : Store)
  | ct (ρ : Env) (S : Store)
  | rt (d : D) (S : Store)
  | err (x : Exn) (ρ : Env) (S : Store)
  | stuck
abbrev XF := Env → Store → R D
abbrev XT := Env → Store → R Bool
abbrev XA := Env → Store → R (List D)
abbrev SF := Env → Store → RS
abbrev DF := List D → Store → R D

/-- what stands fixed through a law: the written part, the script, the classes -/
structure Tx where
  K : PySem.W.Frag
  ns : List Int
  scr : Addr
  cls : Nat → Addr
/-- where the store's objects stand -/
structure Rp where
  ad : List Addr
def Rp.le (r r' : Rp) : Prop := r.ad <+: r'.ad
theorem Rp.le_refl (r : Rp) : r.le r := List.prefix_rfl
theorem Rp.le.trans {r r1 r2 : Rp} (a : r.le r1) (b : r1.le r2) : r.le r2 := List.IsPrefix.trans a b
theorem Rp.le.get {r r' : Rp} (h : r.le r') {n : Nat} {a : Addr} (e : r.ad[n]? = some a) : r'.ad[n]? = some a := by
  obtain ⟨t, e'⟩ := h
  rw [← e']
  have hl := (List.getElem?_eq_some_iff.mp e).1
  rw [List.getElem?_append_left hl]
  exact e

section
variable (T : Tx) (r : Rp) (H : Hp)
mutual
def VR : D → V → Prop
  | .non, v => v = .non
  | .bl b, v => v = .bl b
  | .int i, v => v = .int i
  | .str x, v => v = .str x
  | .tup ds, v => ∃ a xs, v = .ref a ∧ SqT T.K H a xs ∧ VRs ds xs
  | .loc n, v => ∃ a, r.ad[n]? = some a ∧ v = .ref a
  | .scr, v => v = .ref T.scr
def VRs : List D → List V → Prop
  | [], xs => xs = []
  | d :: ds, xs => ∃ x ys, xs = x :: ys ∧ VR d x ∧ VRs ds ys
end
def KVR {κ : Type} : List (κ × D) → List (κ × V) → Prop := Paired fun p q => p.1 = q.1 ∧ VR T r H p.2 q.2
abbrev FR : List (Str × D) → List (Str × V) → Prop := KVR T r H
def OR : O → Addr → Prop
  | .lst ds, a => ∃ xs, H a = some (.lst xs) ∧ VRs T r H ds xs
  | .dct false kvs, a => ∃ ks, H a = some (.dK ks) ∧ KVR T r H kvs ks
  | .dct true kvs, a => ∃ o ks, H a = some (.frz o (.dK ks)) ∧ KVR T r H kvs ks
  | .dtt kvs, a => ∃ ks, H a = some (.dT ks) ∧ KVR T r H kvs ks
  | .ins c fs, a => ∃ dx gs, H a = some (.ins (T.cls c) dx gs) ∧ FR T r H fs gs
  | .exn c fs, a => ∃ d gs, H a = some (exo a (T.cls c) (some d)) ∧ H d = some (exd d gs) ∧ FR T r H fs gs
end
def KSq (T : Tx) : Prop := ∃ o its n, T.K.lookup T.scr = some o ∧ o.cls = .type "list" ∧ o.dict = none ∧ o.data = .seq its n ∧ its.size ≤ sizeLine ∧ Vals (T.ns.map V.int) its.toList
structure Sim (T : Tx) (r : Rp) (S : Store) (H : Hp) : Prop where
  len : r.ad.length = S.length
  nd : r.ad.Nodup
  ob : ∀ (n : Nat) (o : O), S[n]? = some o → ∃ a, r.ad[n]? = some a ∧ OR T r H o a
  scr : SqL T.K H T.scr (T.ns.map V.int)
  sck : T.scr ∈ r.ad → KSq T
/-- tuples stay, the dicts of exceptions stay -/
def Stay (T : Tx) (H H' : Hp) : Prop := (∀ a xs, SqT T.K H a xs → SqT T.K H' a xs) ∧ (∀ d gs, H d = some (exd d gs) → H' d = some (exd d gs)) ∧ ∀ d gs, H d = some (.xd gs) → H' d = some (.xd gs)
theorem Stay.refl {T : Tx} (H : Hp) : Stay T H H := ⟨fun _ _ h => h, fun _ _ h => h, fun _ _ h => h⟩
theorem Stay.trans {T : Tx} {H H1 H2 : Hp} (a : Stay T H H1) (b : Stay T H1 H2) : Stay T H H2 := ⟨fun c xs h => b.1 c xs (a.1 c xs h), fun c xs h => b.2.1 c xs (a.2.1 c xs h), fun c xs h => b.2.2 c xs (a.2.2 c xs h)⟩
theorem SqT.new {K : PySem.W.Frag} {H : Hp} {p a : Addr} {o : HO} {xs : List V} (n : H p = none) (h : SqT K H a xs) : SqT K (upd H p o) a xs := by
  rcases h with (h | ⟨u, h⟩) | h
  · exact .inl (.inl (by rw [upd_ne (ne_of_none h n)]; exact h))
  · exact .inl (.inr ⟨u, by rw [upd_ne (ne_of_none h n)]; exact h⟩)
  · exact .inr h
theorem SqL.new {K : PySem.W.Frag} {H : Hp} {p a : Addr} {o : HO} {xs : List V} (n : H p = none) (h : SqL K H a xs) : SqL K (upd H p o) a xs := by
  rcases h with (h | ⟨u, h⟩) | h
  · exact .inl (.inl (by rw [upd_ne (ne_of_none h n)]; exact h))
  · exact .inl (.inr ⟨u, by rw [upd_ne (ne_of_none h n)]; exact h⟩)
  · exact .inr h
/-- an object that is no tuple -/
def NoTup : HO → Prop
  | .tup _ => False
  | .frz _ (.tup _) => False
  | .ext _ => False
  | .xd _ => False
  | _ => True
theorem SqT.upd {K : PySem.W.Frag} {H : Hp} {p a : Addr} {o u : HO} {xs : List V} (n : H p = some u) (nt : NoTup u) (h : SqT K H a xs) : SqT K (upd H p o) a xs := by
  rcases h with (h | ⟨w, h⟩) | h
  · refine .inl (.inl ?_)
    have ne : a ≠ p := fun e => by subst e; rw [n] at h; cases h; exact nt
    rw [upd_ne ne]; exact h
  · refine .inl (.inr ⟨w, ?_⟩)
    have ne : a ≠ p := fun e => by subst e; rw [n] at h; cases h; exact nt
    rw [upd_ne ne]; exact h
  · exact .inr h
theorem Stay.new {T : Tx} {H : Hp} {p : Addr} {o : HO} (n : H p = none) : Stay T H (upd H p o) := ⟨fun _ _ h => SqT.new n h, fun _ _ h => by rw [upd_ne (ne_of_none h n)]; exact h, fun _ _ h => by rw [upd_ne (ne_of_none h n)]; exact h⟩
theorem Stay.upd {T : Tx} {H : Hp} {p : Addr} {o u : HO} (n : H p = some u) (nt : NoTup u) : Stay T H (upd H p o) :=
  ⟨fun _ _ h => SqT.upd n nt h, fun d gs h => by
    rw [upd_ne fun e => by subst e; rw [n] at h; cases h; exact nt]; exact h, fun d gs h => by
    rw [upd_ne fun e => by subst e; rw [n] at h; cases h; exact nt]; exact h⟩

section
variable {T : Tx} {r r' : Rp} {H H' : Hp}
mutual
theorem VR.mono (hr : r.le r') (hs : Stay T H H') : ∀ (d : D) {v : V}, VR T r H d v → VR T r' H' d v
  | .non, _, h => by simpa only [VR] using h
  | .bl b, _, h => by simpa only [VR] using h
  | .int i, _, h => by simpa only [VR] using h
  | .str x, _, h => by simpa only [VR] using h
  | .tup ds, v, h => by
    simp only [VR] at h ⊢
    obtain ⟨a, xs, e, t, q⟩ := h
    exact ⟨a, xs, e, hs.1 _ _ t, VRs.mono hr hs ds q⟩
  | .loc n, _, h => by
    simp only [VR] at h ⊢
    obtain ⟨a, e, q⟩ := h
    exact ⟨a, hr.get e, q⟩
  | .scr, _, h => by simpa only [VR] using h
theorem VRs.mono (hr : r.le r') (hs : Stay T H H') : ∀ (ds : List D) {xs : List V}, VRs T r H ds xs → VRs T r' H' ds xs
  | [], _, h => by simpa only [VRs] using h
  | d :: ds, xs, h => by
    simp only [VRs] at h ⊢
    obtain ⟨x, ys, e, a, b⟩ := h
    exact ⟨x, ys, e, VR.mono hr hs d a, VRs.mono hr hs ds b⟩
end
theorem Paired.mp {α β : Type} {F G : α → β → Prop} {l₁ : List α} {l₂ : List β} (h : Paired F l₁ l₂) (f : ∀ a b, F a b → G a b) : Paired G l₁ l₂ := Paired.mapP h f
theorem KVR.mono {κ : Type} (hr : r.le r') (hs : Stay T H H') {kvs : List (κ × D)} {ks : List (κ × V)} (h : KVR T r H kvs ks) : KVR T r' H' kvs ks :=
  Paired.mapP h fun _ _ q => ⟨q.1, VR.mono hr hs _ q.2⟩
theorem VRs.len : ∀ {ds : List D} {xs : List V}, VRs T r H ds xs → ds.length = xs.length
  | [], _, h => by simp only [VRs] at h; subst h; rfl
  | d :: ds, _, h => by
    simp only [VRs] at h
    obtain ⟨x, ys, rfl, _, b⟩ := h
    simp [VRs.len b]
theorem VRs.nil : VRs T r H [] [] := by simp only [VRs]
theorem VRs.cons {d : D} {x : V} {ds : List D} {xs : List V} (a : VR T r H d x) (b : VRs T r H ds xs) : VRs T r H (d :: ds) (x :: xs) := by
  simp only [VRs]; exact ⟨x, xs, rfl, a, b⟩
theorem VRs.app : ∀ {ds es : List D} {xs ys : List V}, VRs T r H ds xs → VRs T r H es ys → VRs T r H (ds ++ es) (xs ++ ys)
  | [], _, _, _, h, k => by simp only [VRs] at h; subst h; exact k
  | d :: ds, _, _, _, h, k => by
    simp only [VRs] at h
    obtain ⟨x, zs, rfl, a, b⟩ := h
    exact VRs.cons a (VRs.app b k)
theorem VRs.get : ∀ {ds : List D} {xs : List V} {i : Nat} {d : D}, VRs T r H ds xs → ds[i]? = some d → ∃ x, xs[i]? = some x ∧ VR T r H d x
  | [], _, _, _, _, e => by simp at e
  | d :: ds, _, 0, _, h, e => by
    simp only [VRs] at h
    obtain ⟨x, zs, rfl, a, b⟩ := h
    simp at e; subst e
    exact ⟨x, rfl, a⟩
  | d :: ds, _, i + 1, _, h, e => by
    simp only [VRs] at h
    obtain ⟨x, zs, rfl, a, b⟩ := h
    exact VRs.get (i := i) b (by simpa using e)
theorem VRs.getV : ∀ {ds : List D} {xs : List V} {i : Nat} {x : V}, VRs T r H ds xs → xs[i]? = some x → ∃ d, ds[i]? = some d ∧ VR T r H d x
  | [], _, _, _, h, e => by simp only [VRs] at h; subst h; simp at e
  | d :: ds, _, 0, _, h, e => by
    simp only [VRs] at h
    obtain ⟨x, zs, rfl, a, b⟩ := h
    simp at e; subst e
    exact ⟨d, rfl, a⟩
  | d :: ds, _, i + 1, _, h, e => by
    simp only [VRs] at h
    obtain ⟨x, zs, rfl, a, b⟩ := h
    exact VRs.getV (i := i) b (by simpa using e)
theorem VRs.take : ∀ {ds : List D} {xs : List V} (n : Nat), VRs T r H ds xs → VRs T r H (ds.take n) (xs.take n)
  | _, _, 0, _ => by simp only [List.take_zero]; exact VRs.nil
  | [], _, n + 1, h => by simp only [VRs] at h; subst h; exact VRs.nil
  | d :: ds, _, n + 1, h => by
    simp only [VRs] at h
    obtain ⟨x, zs, rfl, a, b⟩ := h
    exact VRs.cons a (VRs.take n b)
theorem VRs.drop : ∀ {ds : List D} {xs : List V} (n : Nat), VRs T r H ds xs → VRs T r H (ds.drop n) (xs.drop n)
  | _, _, 0, h => h
  | [], _, n + 1, h => by simp only [VRs] at h; subst h; exact VRs.nil
  | d :: ds, _, n + 1, h => by
    simp only [VRs] at h
    obtain ⟨x, zs, rfl, a, b⟩ := h
    exact VRs.drop n b
theorem VRs.set {d : D} {x : V} (q : VR T r H d x) : ∀ {ds : List D} {xs : List V} (n : Nat), VRs T r H ds xs → VRs T r H (ds.set n d) (xs.set n x)
  | [], _, _, h => by simp only [VRs] at h; subst h; exact VRs.nil
  | e :: ds, _, 0, h => by
    simp only [VRs] at h
    obtain ⟨y, zs, rfl, a, b⟩ := h
    exact VRs.cons q b
  | e :: ds, _, n + 1, h => by
    simp only [VRs] at h
    obtain ⟨y, zs, rfl, a, b⟩ := h
    exact VRs.cons a (VRs.set q n b)
theorem VRs.rev : ∀ {ds : List D} {xs : List V}, VRs T r H ds xs → VRs T r H ds.reverse xs.reverse
  | [], _, h => by simp only [VRs] at h; subst h; exact VRs.nil
  | e :: ds, _, h => by
    simp only [VRs] at h
    obtain ⟨y, zs, rfl, a, b⟩ := h
    rw [List.reverse_cons, List.reverse_cons]
    exact VRs.app (VRs.rev b) (VRs.cons a VRs.nil)
end
end DM

/-! DMB: the judgements: a piece of the text does what a plain function says. -/
namespace DM
open PySem L2

def R.bind {α β : Type} (x : R α) (f : α → Store → R β) : R β := match x with
  | .ok a S => f a S
  | .err e S => .err e S
  | .stuck => .stuck
/-- an exception as it lies -/
def XR (T : Tx) (r : Rp) (H : Hp) (x : Exn) (c : Value) (dd : Option Addr) : Prop :=
  c = .ref (T.cls x.c) ∧ ∃ dx fv, dd = some dx ∧ H dx = some (.xd fv) ∧ ∀ f d, x.fs.lookup f = some d → ∃ v, fv.lookup f = some v ∧ VR T r H d v

abbrev Rel (α β : Type) := Rp → Hp → α → β → Prop
def PostG {α β : Type} (rel : Rel α β) (T : Tx) (W : WX) (r : Rp) (σ : St) (H : Hp) (x : R α) (Q : β → Hp → Prop) : Prop := match x with
  | .ok d S' => ∀ (r' : Rp) (H' : Hp) (v : β), r.le r' → Stay T H H' → Sim T r' S' H' → rel r' H' d v → Q v H'
  | .err x S' => ∀ (r' : Rp) (H' : Hp) (c : Value) (dd : Option Addr), r.le r' → Stay T H H' → Sim T r' S' H' → XR T r' H' x c dd → W c dd σ H'
  | .stuck => False
theorem PostG.mono {α β : Type} {rel : Rel α β} {T : Tx} {W : WX} {r r' : Rp} {σ : St} {H H' : Hp} {x : R α} {Q : β → Hp → Prop} (h : PostG rel T W r σ H x Q) (hr : r.le r') (hs : Stay T H H') : PostG rel T W r' σ H' x Q := by
  cases x with
  | ok d S => exact fun r1 H1 v a b c d => h r1 H1 v (hr.trans a) (hs.trans b) c d
  | err x S => exact fun r1 H1 v dd a b c d => h r1 H1 v dd (hr.trans a) (hs.trans b) c d
  | stuck => exact h
theorem PostG.bind {α β γ δ : Type} {rel : Rel α β} {rel2 : Rel γ δ} {T : Tx} {W : WX} {r : Rp} {σ : St} {H : Hp} {x : R α} {f : α → Store → R γ} {Q : δ → Hp → Prop} {Q1 : β → Hp → Prop} (h : PostG rel2 T W r σ H (x.bind f) Q)
    (k : ∀ (d : α) (S1 : Store) (r1 : Rp) (H1 : Hp) (v : β), r.le r1 → Stay T H H1 → Sim T r1 S1 H1 → rel r1 H1 d v → PostG rel2 T W r1 σ H1 (f d S1) Q → Q1 v H1) : PostG rel T W r σ H x Q1 := by
  cases x with
  | ok d S => exact fun r1 H1 v a b c e => k d S r1 H1 v a b c e (h.mono a b)
  | err x S => exact h
  | stuck => exact h

abbrev vr (T : Tx) : Rel D V := fun r H d v => VR T r H d v
abbrev vrs (T : Tx) : Rel (List D) (List V) := fun r H d v => VRs T r H d v
abbrev beq : Rel Bool Bool := fun _ _ b c => b = c
structure ER (T : Tx) (r : Rp) (H : Hp) (ρ : Env) (σ : St) : Prop where
  len : ρ.length = σ.length
  at_ : ∀ (i : Nat) (d : D), ρ[i]? = some (some d) → ∃ v, σ[i]? = some (some v) ∧ VR T r H d v
theorem ER.mono {T : Tx} {r r' : Rp} {H H' : Hp} {ρ : Env} {σ : St} (h : ER T r H ρ σ) (hr : r.le r') (hs : Stay T H H') : ER T r' H' ρ σ :=
  ⟨h.len, fun i d e => let ⟨v, a, b⟩ := h.at_ i d e; ⟨v, a, b.mono hr hs⟩⟩
theorem ER.set {T : Tx} {r : Rp} {H : Hp} {ρ : Env} {σ : St} (h : ER T r H ρ σ) {d : D} {v : V} (q : VR T r H d v) (i : Nat) : ER T r H (ρ.set i (some d)) (σ.set i (some v)) := by
  refine ⟨by rw [List.length_set, List.length_set]; exact h.len, fun j e hj => ?_⟩
  by_cases hij : i = j
  · subst hij
    have hl : i < ρ.length := by
      have := (List.getElem?_eq_some_iff.mp hj).1
      rw [List.length_set] at this; exact this
    rw [List.getElem?_set_self hl] at hj
    cases hj
    exact ⟨v, by rw [List.getElem?_set_self (by rw [← h.len]; exact hl)], q⟩
  · rw [List.getElem?_set_ne hij] at hj
    obtain ⟨w, a, b⟩ := h.at_ j e hj
    exact ⟨w, by rw [List.getElem?_set_ne hij]; exact a, b⟩

/-- t does what F says -/
def AdE (T : Tx) (W : WX) (t : TE) (F : XF) : Prop := ∀ (σ : St) (H : Hp) (r : Rp) (S : Store) (ρ : Env) (Q : VK), Sim T r S H → ER T r H ρ σ → PostG (vr T) T W r σ H (F ρ S) Q → t σ H Q
def AdT (T : Tx) (W : WX) (t : TT) (F : XT) : Prop := ∀ (σ : St) (H : Hp) (r : Rp) (S : Store) (ρ : Env) (Q : Bool → Hp → Prop), Sim T r S H → ER T r H ρ σ → PostG beq T W r σ H (F ρ S) Q → t σ H Q
def AdA (T : Tx) (W : WX) (t : TA) (F : XA) : Prop := ∀ (σ : St) (H : Hp) (r : Rp) (S : Store) (ρ : Env) (Q : List V → Hp → Prop), Sim T r S H → ER T r H ρ σ → PostG (vrs T) T W r σ H (F ρ S) Q → t σ H Q
structure SE (T : Tx) (X : Cx) (W : WX) (e : Expr) (F : XF) : Prop where
  ex : ∃ t, PE X e t ∧ AdE T W t F
structure ST (T : Tx) (X : Cx) (W : WX) (e : Expr) (F : XT) : Prop where
  ex : ∃ t, PT X e t ∧ AdT T W t F
structure SA (T : Tx) (X : Cx) (W : WX) (e : List Expr) (F : XA) : Prop where
  ex : ∃ t, PA X e t ∧ AdA T W t F

section
variable {T : Tx} {X : Cx} {W : WX}
/-! ### names, constants -/
def xVar (i : Nat) : XF := fun ρ S => match ρ[i]? with
  | some (some d) => .ok d S
  | _ => .stuck
def xC (d : D) : XF := fun _ S => .ok d S
theorem ad_var (i : Nat) : AdE T W (tVar i) (xVar i) := fun σ H r S ρ Q sim er h => by
  unfold xVar at h
  split at h
  · rename_i d e
    obtain ⟨v, a, b⟩ := er.at_ i d e
    exact ⟨v, a, h r H v (Rp.le_refl r) (Stay.refl H) sim b⟩
  · exact h.elim
theorem ad_c {d : D} {v : V} (q : ∀ r H, VR T r H d v) : AdE T W (tC v) (xC d) := fun σ H r S ρ Q sim er h => h r H v (Rp.le_refl r) (Stay.refl H) sim (q r H)
theorem se_var (i : Nat) {x : Str} {pos : Pos} (hN : X.N[i]? = some x := by rfl) (hv : Vis X.env.scope x := by first | exact Or.inl rfl | exact Or.inr (Or.inl rfl) | exact Or.inr (Or.inr rfl)) (hd : (x == ("__debug__" : Str)) = false := by decide)
    (hcd : (x == ("__classdict__" : Str)) = false := by decide) : SE T X W (.Name x pos) (xVar i) := ⟨⟨_, pe_var hN hv hd hcd, ad_var i⟩⟩
theorem se_int {i : Int} {j pos} : SE T X W (.Constant (.int i) j pos) (xC (.int i)) := ⟨⟨_, pe_int, ad_c fun _ _ => by simp only [VR]⟩⟩
theorem se_bl {b : Bool} {j pos} : SE T X W (.Constant (.bool b) j pos) (xC (.bl b)) := ⟨⟨_, pe_bl, ad_c fun _ _ => by simp only [VR]⟩⟩
theorem se_non {j pos} : SE T X W (.Constant .none j pos) (xC .non) := ⟨⟨_, pe_non, ad_c fun _ _ => by simp only [VR]⟩⟩
theorem se_str {x : Str} {j pos} : SE T X W (.Constant (.str x) j pos) (xC (.str x)) := ⟨⟨_, pe_str, ad_c fun _ _ => by simp only [VR]⟩⟩
/-- a constant of the module: an int, a text -/
theorem se_globI {x : Str} {i : Int} {pos : Pos} (hg : Gl X x) (hm : ∃ t, X.mg x = some (.int i t)) (hd : (x == ("__debug__" : Str)) = false := by decide) : SE T X W (.Name x pos) (xC (.int i)) := by
  obtain ⟨t, e⟩ := hm
  exact ⟨⟨_, pe_glob (v := .int i) hg e ⟨t, rfl⟩ hd, ad_c fun _ _ => by simp only [VR]⟩⟩
theorem se_globS {x y : Str} {pos : Pos} (hg : Gl X x) (hm : ∃ t, X.mg x = some (.str y t)) (hd : (x == ("__debug__" : Str)) = false := by decide) : SE T X W (.Name x pos) (xC (.str y)) := by
  obtain ⟨t, e⟩ := hm
  exact ⟨⟨_, pe_glob (v := .str y) hg e ⟨t, rfl⟩ hd, ad_c fun _ _ => by simp only [VR]⟩⟩

/-! ### operators -/
abbrev G2 := D → D → Store → R D
abbrev G1 := D → Store → R D
abbrev GA := List D → Store → R D
def OpA (T : Tx) (rd : R2) (g : G2) : Prop := ∀ (W : WX) (σ : St) (r : Rp) (S : Store) (H : Hp) (d e : D) (x y : V) (Q : VK), Sim T r S H → VR T r H d x → VR T r H e y → PostG (vr T) T W r σ H (g d e S) Q → rd x y H Q
def UnA (T : Tx) (rd : V → Hp → VK → Prop) (g : G1) : Prop := ∀ (W : WX) (σ : St) (r : Rp) (S : Store) (H : Hp) (d : D) (x : V) (Q : VK), Sim T r S H → VR T r H d x → PostG (vr T) T W r σ H (g d S) Q → rd x H Q
def ArA (T : Tx) (rd : List V → Hp → VK → Prop) (g : GA) : Prop := ∀ (W : WX) (σ : St) (r : Rp) (S : Store) (H : Hp) (ds : List D) (xs : List V) (Q : VK), Sim T r S H → VRs T r H ds xs → PostG (vr T) T W r σ H (g ds S) Q → rd xs H Q
def xOp (g : G2) (a b : XF) : XF := fun ρ S => (a ρ S).bind fun d S1 => (b ρ S1).bind fun e S2 => g d e S2
def xUn (g : G1) (a : XF) : XF := fun ρ S => (a ρ S).bind fun d S1 => g d S1
def xAr (g : GA) (a : XA) : XF := fun ρ S => (a ρ S).bind fun d S1 => g d S1
theorem ad_op {ta tb : TE} {Fa Fb : XF} {rd : R2} {g : G2} (ha : AdE T W ta Fa) (hb : AdE T W tb Fb) (hg : OpA T rd g) : AdE T W (tOp rd ta tb) (xOp g Fa Fb) := fun σ H r S ρ Q sim er h =>
  ha σ H r S ρ _ sim er (PostG.bind h fun d S1 r1 H1 v l1 s1 sim1 v1 h1 => hb σ H1 r1 S1 ρ _ sim1 (er.mono l1 s1) (PostG.bind h1 fun e S2 r2 H2 w l2 s2 sim2 v2 h2 => hg W σ r2 S2 H2 d e v w Q sim2 (v1.mono l2 s2) v2 h2))
theorem ad_un {ta : TE} {Fa : XF} {rd : V → Hp → VK → Prop} {g : G1} (ha : AdE T W ta Fa) (hg : UnA T rd g) : AdE T W (tUn rd ta) (xUn g Fa) := fun σ H r S ρ Q sim er h =>
  ha σ H r S ρ _ sim er (PostG.bind h fun d S1 r1 H1 v l1 s1 sim1 v1 h1 => hg W σ r1 S1 H1 d v Q sim1 v1 h1)
theorem ad_ar {ta : TA} {Fa : XA} {rd : List V → Hp → VK → Prop} {g : GA} (ha : AdA T W ta Fa) (hg : ArA T rd g) : AdE T W (tCB rd ta) (xAr g Fa) := fun σ H r S ρ Q sim er h =>
  ha σ H r S ρ _ sim er (PostG.bind h fun d S1 r1 H1 v l1 s1 sim1 v1 h1 => hg W σ r1 S1 H1 d v Q sim1 v1 h1)
theorem se_op {op : Operator} {a b : Expr} {pos : Pos} {rd : R2} {g : G2} {Fa Fb : XF} (ho : OpR X (binaryOp op) rd) (hg : OpA T rd g) (ha : SE T X W a Fa) (hb : SE T X W b Fb) : SE T X W (.BinOp a op b pos) (xOp g Fa Fb) := by
  obtain ⟨ta, pa, aa⟩ := ha.ex
  obtain ⟨tb, pb, ab⟩ := hb.ex
  exact ⟨⟨_, pe_op ho pa pb, ad_op aa ab hg⟩⟩
theorem se_un {op : UnaryOp} {a : Expr} {pos : Pos} {rd : V → Hp → VK → Prop} {g : G1} {Fa : XF} (ho : UnR X (unaryOp op) rd) (hg : UnA T rd g) (ha : SE T X W a Fa) : SE T X W (.UnaryOp op a pos) (xUn g Fa) := by
  obtain ⟨ta, pa, aa⟩ := ha.ex
  exact ⟨⟨_, pe_un ho pa, ad_un aa hg⟩⟩
theorem se_cmp {op : CmpOp} {a b : Expr} {pos : Pos} {rd : R2} {g : G2} {Fa Fb : XF} (ho : OpR X (compareOp op) rd) (hg : OpA T rd g) (ha : SE T X W a Fa) (hb : SE T X W b Fb) (hm : behindInMarks op b = false := by first | exact nomark _ | rfl) : SE T X W (.Compare a [op] [b] pos) (xOp g Fa Fb) := by
  obtain ⟨ta, pa, aa⟩ := ha.ex
  obtain ⟨tb, pb, ab⟩ := hb.ex
  exact ⟨⟨_, pe_cmpR ho pa pb hm, ad_op aa ab hg⟩⟩
/-- a value as a test: a bool -/
def asB (x : R D) : R Bool := x.bind fun d S => match d with
  | .bl b => .ok b S
  | _ => .stuck
theorem ad_test {t : TE} {F : XF} (h : AdE T W t F) : AdT T W (tTest t) (fun ρ S => asB (F ρ S)) := fun σ H r S ρ Q sim er hq =>
  h σ H r S ρ _ sim er (PostG.bind hq fun d S1 r1 H1 v l1 s1 sim1 v1 h1 => by
    cases d with
    | bl b =>
      simp only [vr, VR] at v1
      exact ⟨b, v1, h1 r1 H1 b (Rp.le_refl _) (Stay.refl _) sim1 rfl⟩
    | _ => exact h1.elim)
theorem st_cmp {op : CmpOp} {a b : Expr} {pos : Pos} {rd : R2} {g : G2} {Fa Fb : XF} (ho : OpR X (compareOp op) rd) (hg : OpA T rd g) (ha : SE T X W a Fa) (hb : SE T X W b Fb) (hm : behindInMarks op b = false := by first | exact nomark _ | rfl) :
    ST T X W (.Compare a [op] [b] pos) (fun ρ S => asB (xOp g Fa Fb ρ S)) := by
  obtain ⟨ta, pa, aa⟩ := ha.ex
  obtain ⟨tb, pb, ab⟩ := hb.ex
  exact ⟨⟨_, pt_cmpR ho pa pb hm, ad_test (ad_op aa ab hg)⟩⟩
/-- a op b op' c -/
def xChain (g g' : G2) (a b c : XF) : XF := fun ρ S => (a ρ S).bind fun d S1 => (b ρ S1).bind fun e S2 => (asB (g d e S2)).bind fun k S3 => if k = true then (c ρ S3).bind fun f S4 => g' e f S4 else .ok (.bl false) S3
theorem ad_chain {ta tb tc : TE} {Fa Fb Fc : XF} {rd rd' : R2} {g g' : G2} (ha : AdE T W ta Fa) (hb : AdE T W tb Fb) (hc : AdE T W tc Fc) (hg : OpA T rd g) (hg' : OpA T rd' g') : AdE T W (tChain rd rd' ta tb tc) (xChain g g' Fa Fb Fc) := fun σ H r S ρ Q sim er h =>
  ha σ H r S ρ _ sim er (PostG.bind h fun d S1 r1 H1 v l1 s1 sim1 v1 h1 => hb σ H1 r1 S1 ρ _ sim1 (er.mono l1 s1) (PostG.bind h1 fun e S2 r2 H2 w l2 s2 sim2 v2 h2 =>
    hg W σ r2 S2 H2 d e v w _ sim2 (v1.mono l2 s2) v2 (PostG.bind (rel := vr T) (PostG.bind (rel := vr T) (γ := D) (x := g d e S2) (f := fun d S => .ok d S) (rel2 := vr T) (Q := fun _ _ => True) (by
      cases q : g d e S2 with
      | ok a b => exact fun _ _ _ _ _ _ _ => True.intro
      | err a b => rw [q] at h2; exact h2
      | stuck => rw [q] at h2; exact h2.elim) (fun _ _ _ _ _ _ _ _ _ _ => True.intro) |> fun _ => (show PostG (vr T) T W r2 σ H2 ((g d e S2).bind fun k S3 => match k with
        | .bl k => if k = true then (Fc ρ S3).bind fun f S4 => g' e f S4 else .ok (.bl false) S3
        | _ => .stuck) Q from by
          cases q : g d e S2 with
          | ok a b => rw [q] at h2; cases a <;> exact h2
          | err a b => rw [q] at h2; exact h2
          | stuck => rw [q] at h2; exact h2)) fun k S3 r3 H3 z l3 s3 sim3 v3 h3 => by
      cases k with
      | bl k =>
        simp only [vr, VR] at v3
        refine ⟨k, v3, ?_⟩
        cases k with
        | true =>
          simp only [if_true] at h3 ⊢
          exact hc σ H3 r3 S3 ρ _ sim3 (er.mono (l1.trans (l2.trans l3)) (s1.trans (s2.trans s3))) (PostG.bind h3 fun f S4 r4 H4 u l4 s4 sim4 v4 h4 => hg' W σ r4 S4 H4 e f w u Q sim4 (v2.mono (l3.trans l4) (s3.trans s4)) v4 h4)
        | false =>
          simp only [Bool.false_eq_true, if_false] at h3 ⊢
          exact h3 r3 H3 _ (Rp.le_refl _) (Stay.refl _) sim3 (by simp only [VR])
      | _ => exact h3.elim)))
end
end DM

/-! DMC: tests, arguments, statements, targets, loops, comprehensions. -/
namespace DM
open PySem L2

section
variable {T : Tx} {X : Cx} {W : WX}
/-! ### tests -/
theorem st_chain {op op' : CmpOp} {a b c : Expr} {pos : Pos} {rd rd' : R2} {g g' : G2} {Fa Fb Fc : XF} (ho : OpR X (compareOp op) rd) (ho' : OpR X (compareOp op') rd') (hg : OpA T rd g) (hg' : OpA T rd' g') (ha : SE T X W a Fa) (hb : SE T X W b Fb) (hc : SE T X W c Fc)
    (hm : lastMarks [op, op'] [b, c] = false := by with_unfolding_all rfl) : ST T X W (.Compare a [op, op'] [b, c] pos) (fun ρ S => asB (xChain g g' Fa Fb Fc ρ S)) := by
  obtain ⟨ta, pa, aa⟩ := ha.ex
  obtain ⟨tb, pb, ab⟩ := hb.ex
  obtain ⟨tc, pc, ac⟩ := hc.ex
  exact ⟨⟨_, pt_chain ho ho' pa pb pc hm, ad_test (ad_chain aa ab ac hg hg')⟩⟩
theorem se_chain {op op' : CmpOp} {a b c : Expr} {pos : Pos} {rd rd' : R2} {g g' : G2} {Fa Fb Fc : XF} (ho : OpR X (compareOp op) rd) (ho' : OpR X (compareOp op') rd') (hg : OpA T rd g) (hg' : OpA T rd' g') (ha : SE T X W a Fa) (hb : SE T X W b Fb) (hc : SE T X W c Fc)
    (hm : lastMarks [op, op'] [b, c] = false := by with_unfolding_all rfl) : SE T X W (.Compare a [op, op'] [b, c] pos) (xChain g g' Fa Fb Fc) := by
  obtain ⟨ta, pa, aa⟩ := ha.ex
  obtain ⟨tb, pb, ab⟩ := hb.ex
  obtain ⟨tc, pc, ac⟩ := hc.ex
  exact ⟨⟨_, pe_chain ho ho' pa pb pc hm, ad_chain aa ab ac hg hg'⟩⟩
/-- a value that is a bool, as a test -/
theorem st_val {e : Expr} {F : XF} (h : SE T X W e F) (he : ∀ whole, isTrue e X.env whole = (do let v ← whole; standAt e.pos; holding [v] (truthy v)) := by intro _; rfl) : ST T X W e (fun ρ S => asB (F ρ S)) := by
  obtain ⟨t, p, a⟩ := h.ex
  exact ⟨⟨_, pt_val p he, ad_test (t := t) a⟩⟩
def xNotT (a : XT) : XT := fun ρ S => (a ρ S).bind fun b S1 => .ok (!b) S1
def xAndT (a b : XT) : XT := fun ρ S => (a ρ S).bind fun k S1 => if k = true then b ρ S1 else .ok false S1
def xOrT (a b : XT) : XT := fun ρ S => (a ρ S).bind fun k S1 => if k = true then .ok true S1 else b ρ S1
theorem st_not {e : Expr} {pos : Pos} {F : XT} (h : ST T X W e F) : ST T X W (.UnaryOp .Not e pos) (xNotT F) := by
  obtain ⟨t, p, a⟩ := h.ex
  exact ⟨⟨_, pt_not p, fun σ H r S ρ Q sim er hq => a σ H r S ρ _ sim er (PostG.bind hq fun d S1 r1 H1 v l1 s1 sim1 v1 h1 => by
    have e : d = v := v1
    subst e
    exact h1 r1 H1 _ (Rp.le_refl _) (Stay.refl _) sim1 rfl)⟩⟩
/-- and, or: lists of tests -/
structure SW (T : Tx) (X : Cx) (W : WX) (e : Expr) (F : XT) : Prop where
  ex : ∃ t, PW X e t ∧ AdT T W t F
theorem SW.st {e : Expr} {F : XT} (h : SW T X W e F) : ST T X W e F := by
  obtain ⟨t, p, a⟩ := h.ex
  exact ⟨⟨t, p.pt, a⟩⟩
theorem sw_and1 {a : Expr} {pos : Pos} {F : XT} (h : ST T X W a F) : SW T X W (.BoolOp .And [a] pos) F := by
  obtain ⟨t, p, ad⟩ := h.ex
  exact ⟨⟨_, pw_and1 p, ad⟩⟩
theorem sw_or1 {a : Expr} {pos : Pos} {F : XT} (h : ST T X W a F) : SW T X W (.BoolOp .Or [a] pos) F := by
  obtain ⟨t, p, ad⟩ := h.ex
  exact ⟨⟨_, pw_or1 p, ad⟩⟩
theorem sw_and {a b : Expr} {rest : List Expr} {pos : Pos} {F G : XT} (h : ST T X W a F) (k : SW T X W (.BoolOp .And (b :: rest) pos) G) : SW T X W (.BoolOp .And (a :: b :: rest) pos) (xAndT F G) := by
  obtain ⟨t, p, ad⟩ := h.ex
  obtain ⟨u, q, bd⟩ := k.ex
  refine ⟨⟨_, pw_and p q, fun σ H r S ρ Q sim er hq => ad σ H r S ρ _ sim er (PostG.bind hq fun d S1 r1 H1 v l1 s1 sim1 v1 h1 => ?_)⟩⟩
  have e : d = v := v1
  subst e
  cases d with
  | true => simp only [if_true] at h1 ⊢; exact bd σ H1 r1 S1 ρ Q sim1 (er.mono l1 s1) h1
  | false => simp only [Bool.false_eq_true, if_false] at h1 ⊢; exact h1 r1 H1 _ (Rp.le_refl _) (Stay.refl _) sim1 rfl
theorem sw_or {a b : Expr} {rest : List Expr} {pos : Pos} {F G : XT} (h : ST T X W a F) (k : SW T X W (.BoolOp .Or (b :: rest) pos) G) : SW T X W (.BoolOp .Or (a :: b :: rest) pos) (xOrT F G) := by
  obtain ⟨t, p, ad⟩ := h.ex
  obtain ⟨u, q, bd⟩ := k.ex
  refine ⟨⟨_, pw_or p q, fun σ H r S ρ Q sim er hq => ad σ H r S ρ _ sim er (PostG.bind hq fun d S1 r1 H1 v l1 s1 sim1 v1 h1 => ?_)⟩⟩
  have e : d = v := v1
  subst e
  cases d with
  | true => simp only [if_true] at h1 ⊢; exact h1 r1 H1 _ (Rp.le_refl _) (Stay.refl _) sim1 rfl
  | false => simp only [Bool.false_eq_true, if_false] at h1 ⊢; exact bd σ H1 r1 S1 ρ Q sim1 (er.mono l1 s1) h1
/-- and, or, not as values, all bools -/
def asD (x : R Bool) : R D := x.bind fun b S => .ok (.bl b) S
def xAndV (a b : XF) : XF := fun ρ S => (asB (a ρ S)).bind fun k S1 => if k = true then b ρ S1 else .ok (.bl false) S1
def xOrV (a b : XF) : XF := fun ρ S => (asB (a ρ S)).bind fun k S1 => if k = true then .ok (.bl true) S1 else b ρ S1
theorem asB_bind {γ : Type} (x : R D) (f : Bool → Store → R γ) : (asB x).bind f = x.bind fun d S => match d with
    | .bl b => f b S
    | _ => .stuck := by
  cases x with
  | ok a S => cases a <;> rfl
  | err e S => rfl
  | stuck => rfl
theorem se_one {op} {a : Expr} {pos : Pos} {F : XF} (h : SE T X W a F) : SE T X W (.BoolOp op [a] pos) F := by
  obtain ⟨t, p, ad⟩ := h.ex
  exact ⟨⟨_, pe_one p, ad⟩⟩
theorem se_and {a b : Expr} {rest : List Expr} {pos : Pos} {F G : XF} (h : SE T X W a F) (k : SE T X W (.BoolOp .And (b :: rest) pos) G) : SE T X W (.BoolOp .And (a :: b :: rest) pos) (xAndV F G) := by
  obtain ⟨t, p, ad⟩ := h.ex
  obtain ⟨u, q, bd⟩ := k.ex
  refine ⟨⟨_, pe_and p q, fun σ H r S ρ Q sim er hq => ?_⟩⟩
  unfold xAndV at hq
  rw [asB_bind] at hq
  refine ad σ H r S ρ _ sim er (PostG.bind hq fun d S1 r1 H1 v l1 s1 sim1 v1 h1 => ?_)
  cases d with
  | bl c =>
    simp only [vr, VR] at v1
    refine ⟨c, v1, ?_⟩
    cases c with
    | true => simp only [if_true] at h1 ⊢; exact bd σ H1 r1 S1 ρ Q sim1 (er.mono l1 s1) h1
    | false => simp only [Bool.false_eq_true, if_false] at h1 ⊢; exact h1 r1 H1 _ (Rp.le_refl _) (Stay.refl _) sim1 (by simp only [VR])
  | _ => exact h1.elim
theorem se_or {a b : Expr} {rest : List Expr} {pos : Pos} {F G : XF} (h : SE T X W a F) (k : SE T X W (.BoolOp .Or (b :: rest) pos) G) : SE T X W (.BoolOp .Or (a :: b :: rest) pos) (xOrV F G) := by
  obtain ⟨t, p, ad⟩ := h.ex
  obtain ⟨u, q, bd⟩ := k.ex
  refine ⟨⟨_, pe_or p q, fun σ H r S ρ Q sim er hq => ?_⟩⟩
  unfold xOrV at hq
  rw [asB_bind] at hq
  refine ad σ H r S ρ _ sim er (PostG.bind hq fun d S1 r1 H1 v l1 s1 sim1 v1 h1 => ?_)
  cases d with
  | bl c =>
    simp only [vr, VR] at v1
    refine ⟨c, v1, ?_⟩
    cases c with
    | true => simp only [if_true] at h1 ⊢; exact h1 r1 H1 _ (Rp.le_refl _) (Stay.refl _) sim1 (by simp only [VR])
    | false => simp only [Bool.false_eq_true, if_false] at h1 ⊢; exact bd σ H1 r1 S1 ρ Q sim1 (er.mono l1 s1) h1
  | _ => exact h1.elim
def xNotV (a : XF) : XF := fun ρ S => (asB (a ρ S)).bind fun k S1 => .ok (.bl (!k)) S1
theorem se_not {a : Expr} {pos : Pos} {F : XF} (h : SE T X W a F) : SE T X W (.UnaryOp .Not a pos) (xNotV F) := by
  obtain ⟨t, p, ad⟩ := h.ex
  refine ⟨⟨_, pe_not p, fun σ H r S ρ Q sim er hq => ?_⟩⟩
  unfold xNotV at hq
  rw [asB_bind] at hq
  refine ad σ H r S ρ _ sim er (PostG.bind hq fun d S1 r1 H1 v l1 s1 sim1 v1 h1 => ?_)
  cases d with
  | bl c =>
    simp only [vr, VR] at v1
    exact ⟨c, v1, h1 r1 H1 _ (Rp.le_refl _) (Stay.refl _) sim1 (by simp only [VR])⟩
  | _ => exact h1.elim
def xIf (c : XT) (a b : XF) : XF := fun ρ S => (c ρ S).bind fun k S1 => if k = true then a ρ S1 else b ρ S1
theorem se_if {c a b : Expr} {pos : Pos} {Fc : XT} {Fa Fb : XF} (hc : ST T X W c Fc) (ha : SE T X W a Fa) (hb : SE T X W b Fb) : SE T X W (.IfExp c a b pos) (xIf Fc Fa Fb) := by
  obtain ⟨tc, pc, ac⟩ := hc.ex
  obtain ⟨ta, pa, aa⟩ := ha.ex
  obtain ⟨tb, pb, ab⟩ := hb.ex
  refine ⟨⟨_, pe_ifExp pc pa pb, fun σ H r S ρ Q sim er hq => ac σ H r S ρ _ sim er (PostG.bind hq fun d S1 r1 H1 v l1 s1 sim1 v1 h1 => ?_)⟩⟩
  have e : d = v := v1
  subst e
  cases d with
  | true => simp only [if_true] at h1 ⊢; exact aa σ H1 r1 S1 ρ Q sim1 (er.mono l1 s1) h1
  | false => simp only [Bool.false_eq_true, if_false] at h1 ⊢; exact ab σ H1 r1 S1 ρ Q sim1 (er.mono l1 s1) h1

/-! ### arguments, displays -/
def xNil : XA := fun _ S => .ok [] S
def xCons (a : XF) (b : XA) : XA := fun ρ S => (a ρ S).bind fun d S1 => (b ρ S1).bind fun ds S2 => .ok (d :: ds) S2
theorem sa_nil : SA T X W [] xNil := ⟨⟨_, pa_nil, fun σ H r S ρ Q sim er hq => hq r H [] (Rp.le_refl _) (Stay.refl _) sim VRs.nil⟩⟩
theorem sa_cons {e : Expr} {es : List Expr} {F : XF} {G : XA} (h : SE T X W e F) (k : SA T X W es G) (hs : starEach (e :: es) X.env = (false, eval e X.env) :: starEach es X.env := by rfl) : SA T X W (e :: es) (xCons F G) := by
  obtain ⟨t, p, a⟩ := h.ex
  obtain ⟨u, q, b⟩ := k.ex
  exact ⟨⟨_, pa_cons p q hs, fun σ H r S ρ Q sim er hq => a σ H r S ρ _ sim er (PostG.bind hq fun d S1 r1 H1 v l1 s1 sim1 v1 h1 =>
    b σ H1 r1 S1 ρ _ sim1 (er.mono l1 s1) (PostG.bind h1 fun ds S2 r2 H2 vs l2 s2 sim2 v2 h2 => h2 r2 H2 _ (Rp.le_refl _) (Stay.refl _) sim2 (VRs.cons (v1.mono l2 s2) v2)))⟩⟩
/-- a fresh object does not stand in the store -/
theorem Sim.notin {r : Rp} {S : Store} {H : Hp} (s : Sim T r S H) {p : Addr} (n : H p = none) : p ∉ r.ad := fun hp => by
  obtain ⟨i, e⟩ := List.getElem?_of_mem hp
  have hi := (List.getElem?_eq_some_iff.mp e).1
  rw [s.len] at hi
  obtain ⟨a, e', o⟩ := s.ob i _ (List.getElem?_eq_getElem hi)
  rw [e] at e'; cases e'
  cases q : S[i] with
  | lst ds => rw [q] at o; obtain ⟨_, z, _⟩ := o; rw [n] at z; cases z
  | dct f kvs =>
    rw [q] at o
    cases f with
    | false => obtain ⟨_, z, _⟩ := o; rw [n] at z; cases z
    | true => obtain ⟨_, _, z, _⟩ := o; rw [n] at z; cases z
  | dtt kvs => rw [q] at o; obtain ⟨_, z, _⟩ := o; rw [n] at z; cases z
  | ins c fs => rw [q] at o; obtain ⟨_, _, z, _⟩ := o; rw [n] at z; cases z
  | exn c fs => rw [q] at o; obtain ⟨_, _, z, _⟩ := o; rw [n] at z; cases z
theorem OR.mono {r r' : Rp} {H H' : Hp} {o : O} {a : Addr} (hr : r.le r') (hs : Stay T H H') (e : H' a = H a) (h : OR T r H o a) : OR T r' H' o a := by
  cases o with
  | lst ds => obtain ⟨xs, z, q⟩ := h; exact ⟨xs, e.trans z, q.mono hr hs⟩
  | dct f kvs =>
    cases f with
    | false => obtain ⟨ks, z, q⟩ := h; exact ⟨ks, e.trans z, KVR.mono hr hs q⟩
    | true => obtain ⟨o, ks, z, q⟩ := h; exact ⟨o, ks, e.trans z, KVR.mono hr hs q⟩
  | dtt kvs => obtain ⟨ks, z, q⟩ := h; exact ⟨ks, e.trans z, KVR.mono hr hs q⟩
  | ins c fs => obtain ⟨dx, gs, z, q⟩ := h; exact ⟨dx, gs, e.trans z, KVR.mono hr hs q⟩
  | exn c fs => obtain ⟨d, gs, z, z2, q⟩ := h; exact ⟨d, gs, e.trans z, hs.2.1 _ _ z2, KVR.mono hr hs q⟩
theorem SqL.of_upd {K : PySem.W.Frag} {H : Hp} {p a : Addr} {o : HO} {xs : List V} (n : a ≠ p) (h : SqL K H a xs) : SqL K (upd H p o) a xs := by
  rcases h with (h | ⟨u, h⟩) | h
  · exact .inl (.inl (by rw [upd_ne n]; exact h))
  · exact .inl (.inr ⟨u, by rw [upd_ne n]; exact h⟩)
  · exact .inr h
theorem KSq.sq {H : Hp} (h : KSq T) : SqL T.K H T.scr (T.ns.map V.int) := .inr h
/-- a new thing that the store does not know -/
theorem Sim.new {r : Rp} {S : Store} {H : Hp} (s : Sim T r S H) {p : Addr} (n : H p = none) (o : HO) : Sim T r S (upd H p o) :=
  ⟨s.len, s.nd, fun i x e => by
    obtain ⟨a, ea, q⟩ := s.ob i x e
    exact ⟨a, ea, q.mono (Rp.le_refl _) (Stay.new n) (upd_ne fun z => s.notin n (z ▸ List.mem_of_getElem? ea))⟩, SqL.new n s.scr, s.sck⟩
/-- a new object of the store -/
theorem Sim.alloc {r : Rp} {S : Store} {H : Hp} (s : Sim T r S H) {p : Addr} (n : H p = none) {o : HO} {x : O} (q : OR T ⟨r.ad ++ [p]⟩ (upd H p o) x p) : Sim T ⟨r.ad ++ [p]⟩ (S ++ [x]) (upd H p o) := by
  refine ⟨by simp [s.len], ?_, fun i y e => ?_, SqL.new n s.scr, fun h => ?_⟩
  · rw [List.nodup_append]
    exact ⟨s.nd, by simp, fun a ha b hb => by simp at hb; subst hb; exact fun z => s.notin n (z ▸ ha)⟩
  · by_cases hi : i < S.length
    · rw [List.getElem?_append_left hi] at e
      obtain ⟨a, ea, q1⟩ := s.ob i y e
      refine ⟨a, by rw [List.getElem?_append_left (by rw [s.len]; exact hi)]; exact ea, q1.mono (List.prefix_append _ _) (Stay.new n) (upd_ne fun z => s.notin n (z ▸ List.mem_of_getElem? ea))⟩
    · have h2 := (List.getElem?_eq_some_iff.mp e).1
      have hi2 : i = S.length := by simp at h2; omega
      subst hi2
      rw [List.getElem?_append_right (Nat.le_refl _)] at e
      simp at e; subst e
      exact ⟨p, by rw [← s.len, List.getElem?_append_right (Nat.le_refl _)]; simp, q⟩
  · rcases List.mem_append.mp h with h | h
    · exact s.sck h
    · simp at h
      have : H T.scr = none := by rw [h]; exact n
      rcases s.scr with (z | ⟨u, z⟩) | z
      · rw [this] at z; cases z
      · rw [this] at z; cases z
      · exact z
/-- an object of the store is changed -/
theorem Sim.put {r : Rp} {S : Store} {H : Hp} (s : Sim T r S H) {i : Nat} {a : Addr} (ea : r.ad[i]? = some a) {o u : HO} (hu : H a = some u) (nt : NoTup u) {x : O} (q : OR T r (upd H a o) x a) : Sim T r (S.set i x) (upd H a o) := by
  have hi : i < S.length := by have := (List.getElem?_eq_some_iff.mp ea).1; rw [s.len] at this; exact this
  refine ⟨by rw [List.length_set]; exact s.len, s.nd, fun j y e => ?_, ?_, s.sck⟩
  · by_cases hj : i = j
    · subst hj
      rw [List.getElem?_set_self hi] at e
      cases e
      exact ⟨a, ea, q⟩
    · rw [List.getElem?_set_ne hj] at e
      obtain ⟨b, eb, q1⟩ := s.ob j y e
      have hb : b ≠ a := fun z => by
        subst z
        exact hj (nd_ix s.nd ea eb)
      exact ⟨b, eb, q1.mono (Rp.le_refl _) (Stay.upd hu nt) (upd_ne hb)⟩
  · by_cases hs : T.scr = a
    · exact KSq.sq (s.sck (hs ▸ List.mem_of_getElem? ea))
    · exact SqL.of_upd hs s.scr
def gTupD (ds : List D) (S : Store) : R D := if ds.length ≤ sizeLine then .ok (.tup ds) S else .stuck
def gLstD (ds : List D) (S : Store) : R D := if ds.length ≤ sizeLine then .ok (.loc S.length) (S ++ [.lst ds]) else .stuck
theorem post_newTup {r : Rp} {σ : St} {H : Hp} {S : Store} {ds : List D} {xs : List V} {Q : VK} (sim : Sim T r S H) (v : VRs T r H ds xs) (h : PostG (vr T) T W r σ H (.ok (.tup ds) S) Q) : ∀ p, H p = none → Q (.ref p) (upd H p (.tup xs)) := fun p hp =>
  h r _ _ (Rp.le_refl _) (Stay.new hp) (sim.new hp _) (by simp only [VR]; exact ⟨p, xs, rfl, SqT.of upd_same, v.mono (Rp.le_refl _) (Stay.new hp)⟩)
theorem post_newLst {r : Rp} {σ : St} {H : Hp} {S : Store} {ds : List D} {xs : List V} {Q : VK} (sim : Sim T r S H) (v : VRs T r H ds xs) (h : PostG (vr T) T W r σ H (.ok (.loc S.length) (S ++ [.lst ds])) Q) : ∀ p, H p = none → Q (.ref p) (upd H p (.lst xs)) := fun p hp =>
  h ⟨r.ad ++ [p]⟩ _ _ (List.prefix_append _ _) (Stay.new hp) (sim.alloc hp ⟨xs, upd_same, v.mono (List.prefix_append _ _) (Stay.new hp)⟩)
    (by simp only [VR]; exact ⟨p, by rw [← sim.len, List.getElem?_append_right (Nat.le_refl _)]; simp, rfl⟩)
theorem se_tup {es : List Expr} {x1 : Nat} {pos : Pos} {F : XA} (h : SA T X W es F) : SE T X W (.Tuple es x1 pos) (xAr gTupD F) := by
  obtain ⟨t, p, a⟩ := h.ex
  refine ⟨⟨_, pe_tup p, fun σ H r S ρ Q sim er hq => a σ H r S ρ _ sim er (PostG.bind hq fun ds S1 r1 H1 vs l1 s1 sim1 v1 h1 => ?_)⟩⟩
  unfold gTupD at h1
  split at h1
  · rename_i hl
    exact ⟨by rw [← v1.len]; exact hl, post_newTup sim1 v1 h1⟩
  · exact h1.elim
theorem se_lst {es : List Expr} {pos : Pos} {F : XA} (h : SA T X W es F) : SE T X W (.List es pos) (xAr gLstD F) := by
  obtain ⟨t, p, a⟩ := h.ex
  refine ⟨⟨_, pe_lst p, fun σ H r S ρ Q sim er hq => a σ H r S ρ _ sim er (PostG.bind hq fun ds S1 r1 H1 vs l1 s1 sim1 v1 h1 => ?_)⟩⟩
  unfold gLstD at h1
  split at h1
  · rename_i hl
    exact ⟨by rw [← v1.len]; exact hl, post_newLst sim1 v1 h1⟩
  · exact h1.elim
end
end DM

/-! DMD: statements, targets, what is walked, loops, comprehensions. -/
namespace DM
open PySem L2

section
variable {T : Tx} {X : Cx} {W : WX}
/-! ### statements -/
def PostS (T : Tx) (W : WX) (r : Rp) (H : Hp) (x : RS) (D : Ends) : Prop := match x with
  | .nx ρ S => ∀ (r' : Rp) (H' : Hp) (σ' : St), r.le r' → Stay T H H' → Sim T r' S H' → ER T r' H' ρ σ' → D.nx σ' H'
  | .bk ρ S => ∀ (r' : Rp) (H' : Hp) (σ' : St), r.le r' → Stay T H H' → Sim T r' S H' → ER T r' H' ρ σ' → D.bk σ' H'
  | .ct ρ S => ∀ (r' : Rp) (H' : Hp) (σ' : St), r.le r' → Stay T H H' → Sim T r' S H' → ER T r' H' ρ σ' → D.ct σ' H'
  | .rt d S => ∀ (r' : Rp) (H' : Hp) (v : V), r.le r' → Stay T H H' → Sim T r' S H' → VR T r' H' d v → D.rt v H'
  | .err x ρ S => ∀ (r' : Rp) (H' : Hp) (σ' : St) (c : Value) (dd : Option Addr), r.le r' → Stay T H H' → Sim T r' S H' → ER T r' H' ρ σ' → XR T r' H' x c dd → W c dd σ' H'
  | .stuck => False
theorem PostS.mono {r r' : Rp} {H H' : Hp} {x : RS} {D : Ends} (h : PostS T W r H x D) (hr : r.le r') (hs : Stay T H H') : PostS T W r' H' x D := by
  cases x with
  | nx ρ S => exact fun r1 H1 v a b => h r1 H1 v (hr.trans a) (hs.trans b)
  | bk ρ S => exact fun r1 H1 v a b => h r1 H1 v (hr.trans a) (hs.trans b)
  | ct ρ S => exact fun r1 H1 v a b => h r1 H1 v (hr.trans a) (hs.trans b)
  | rt d S => exact fun r1 H1 v a b => h r1 H1 v (hr.trans a) (hs.trans b)
  | err x ρ S => exact fun r1 H1 v c dd a b => h r1 H1 v c dd (hr.trans a) (hs.trans b)
  | stuck => exact h
/-- an expression's result, then a statement's -/
def R.toS {α : Type} (x : R α) (ρ : Env) (f : α → Store → RS) : RS := match x with
  | .ok a S => f a S
  | .err e S => .err e ρ S
  | .stuck => .stuck
theorem PostS.bind {α β : Type} {rel : Rel α β} {r : Rp} {σ : St} {ρ : Env} {H : Hp} {x : R α} {f : α → Store → RS} {D : Ends} {Q1 : β → Hp → Prop} (h : PostS T W r H (x.toS ρ f) D) (er : ER T r H ρ σ)
    (k : ∀ (d : α) (S1 : Store) (r1 : Rp) (H1 : Hp) (v : β), r.le r1 → Stay T H H1 → Sim T r1 S1 H1 → rel r1 H1 d v → PostS T W r1 H1 (f d S1) D → Q1 v H1) : PostG rel T W r σ H x Q1 := by
  cases x with
  | ok d S => exact fun r1 H1 v a b c e => k d S r1 H1 v a b c e (h.mono a b)
  | err x S => exact fun r1 H1 c dd a b s q => h r1 H1 σ c dd a b s (er.mono a b) q
  | stuck => exact h
def AdS (T : Tx) (W : WX) (t : TS) (F : SF) : Prop := ∀ (σ : St) (H : Hp) (r : Rp) (S : Store) (ρ : Env) (D : Ends), Sim T r S H → ER T r H ρ σ → PostS T W r H (F ρ S) D → t D σ H
structure SS (T : Tx) (X : Cx) (W : WX) (st : Stmt) (F : SF) : Prop where
  ex : ∃ t, PS X st t ∧ AdS T W t F
structure SSs (T : Tx) (X : Cx) (W : WX) (st : List Stmt) (F : SF) : Prop where
  ex : ∃ t, PSs X st t ∧ AdS T W t F
def sNx : SF := fun ρ S => .nx ρ S
def sSeq (F G : SF) : SF := fun ρ S => match F ρ S with
  | .nx ρ1 S1 => G ρ1 S1
  | o => o
theorem ad_nx : AdS T W tNext sNx := fun σ H r S ρ D sim er h => h r H σ (Rp.le_refl _) (Stay.refl _) sim er
theorem sss_nil : SSs T X W [] sNx := ⟨⟨_, pss_nil, ad_nx⟩⟩
theorem sss_one {st : Stmt} {F : SF} (h : SS T X W st F) : SSs T X W [st] F := by
  obtain ⟨t, p, a⟩ := h.ex
  exact ⟨⟨_, pss_one p, a⟩⟩
theorem ad_seq {t u : TS} {F G : SF} (h : AdS T W t F) (k : AdS T W u G) : AdS T W (tSeq t u) (sSeq F G) := fun σ H r S ρ D sim er hq => by
  refine h σ H r S ρ { D with nx := u D } sim er ?_
  unfold sSeq at hq
  cases e : F ρ S with
  | nx ρ1 S1 =>
    rw [e] at hq
    exact fun r1 H1 σ1 a b s1 e1 => k σ1 H1 r1 S1 ρ1 D s1 e1 (hq.mono a b)
  | bk ρ1 S1 => rw [e] at hq; exact hq
  | ct ρ1 S1 => rw [e] at hq; exact hq
  | rt d S1 => rw [e] at hq; exact hq
  | err x ρ1 S1 => rw [e] at hq; exact hq
  | stuck => rw [e] at hq; exact hq.elim
theorem sss_cons {st : Stmt} {rest : List Stmt} {F G : SF} (h : SS T X W st F) (k : SSs T X W rest G) : SSs T X W (st :: rest) (sSeq F G) := by
  obtain ⟨t, p, a⟩ := h.ex
  obtain ⟨u, q, b⟩ := k.ex
  exact ⟨⟨_, pss_cons p q, ad_seq a b⟩⟩
def sBk : SF := fun ρ S => .bk ρ S
def sCt : SF := fun ρ S => .ct ρ S
theorem ss_pass {pos : Pos} : SS T X W (.Pass pos) sNx := ⟨⟨_, ps_pass, ad_nx⟩⟩
theorem ss_break {pos : Pos} : SS T X W (.Break pos) sBk := ⟨⟨_, ps_break, fun σ H r S ρ D sim er h => h r H σ (Rp.le_refl _) (Stay.refl _) sim er⟩⟩
theorem ss_continue {pos : Pos} : SS T X W (.Continue pos) sCt := ⟨⟨_, ps_continue, fun σ H r S ρ D sim er h => h r H σ (Rp.le_refl _) (Stay.refl _) sim er⟩⟩
def sExpr (F : XF) : SF := fun ρ S => (F ρ S).toS ρ fun _ S1 => .nx ρ S1
def sRet (F : XF) : SF := fun ρ S => (F ρ S).toS ρ fun d S1 => .rt d S1
def sRetN : SF := fun _ S => .rt .non S
def sSet (i : Nat) (F : XF) : SF := fun ρ S => (F ρ S).toS ρ fun d S1 => .nx (ρ.set i (some d)) S1
def sIf (c : XT) (F G : SF) : SF := fun ρ S => (c ρ S).toS ρ fun k S1 => if k = true then F ρ S1 else G ρ S1
theorem ss_expr {e : Expr} {pos : Pos} {F : XF} (h : SE T X W e F) (hs : swapsWith e none pos.line X.env = pure false := by rfl) : SS T X W (.Expr e pos) (sExpr F) := by
  obtain ⟨t, p, a⟩ := h.ex
  exact ⟨⟨_, ps_expr p hs, fun σ H r S ρ D sim er hq => a σ H r S ρ _ sim er (PostS.bind hq er fun d S1 r1 H1 v l1 s1 sim1 v1 h1 => h1 r1 H1 σ (Rp.le_refl _) (Stay.refl _) sim1 (er.mono l1 s1))⟩⟩
theorem ss_ret {e : Expr} {pos : Pos} {F : XF} (h : SE T X W e F) : SS T X W (.Return (some e) pos) (sRet F) := by
  obtain ⟨t, p, a⟩ := h.ex
  exact ⟨⟨_, ps_ret p, fun σ H r S ρ D sim er hq => a σ H r S ρ _ sim er (PostS.bind hq er fun d S1 r1 H1 v l1 s1 sim1 v1 h1 => h1 r1 H1 v (Rp.le_refl _) (Stay.refl _) sim1 v1)⟩⟩
theorem ss_retN {pos : Pos} : SS T X W (.Return none pos) sRetN := ⟨⟨_, ps_retN, fun σ H r S ρ D sim er h => h r H .non (Rp.le_refl _) (Stay.refl _) sim (by simp only [VR])⟩⟩
theorem ss_set (i : Nat) {x : Str} {e : Expr} {pos pos' : Pos} {F : XF} (h : SE T X W e F) (hN : X.N.Nodup) (hi : X.N[i]? = some x := by rfl) (hx : Loc X.env.scope x := by first | exact Or.inl rfl | exact Or.inr rfl)
    (hs : swapsWith e (some (.Name x pos')) pos.line X.env = pure false := by rfl) (hf : X.fn x = true ∨ X.env.scope.names.lookup x = some .local := by first | exact .inl rfl | exact .inr rfl) : SS T X W (.Assign [.Name x pos'] e pos) (sSet i F) := by
  obtain ⟨t, p, a⟩ := h.ex
  refine ⟨⟨_, ps_set (i := i) hN hi hx p hs hf, fun σ H r S ρ D sim er hq => a σ H r S ρ _ sim er (PostS.bind hq er fun d S1 r1 H1 v l1 s1 sim1 v1 h1 => h1 r1 H1 _ (Rp.le_refl _) (Stay.refl _) sim1 ((er.mono l1 s1).set v1 i))⟩⟩
theorem ss_if {c : Expr} {a b : List Stmt} {pos : Pos} {Fc : XT} {F G : SF} (hc : ST T X W c Fc) (ha : SSs T X W a F) (hb : SSs T X W b G) : SS T X W (.If c a b pos) (sIf Fc F G) := by
  obtain ⟨tc, pc, ac⟩ := hc.ex
  obtain ⟨t, p, ad⟩ := ha.ex
  obtain ⟨u, q, bd⟩ := hb.ex
  refine ⟨⟨_, ps_if pc p q, fun σ H r S ρ D sim er hq => ac σ H r S ρ _ sim er (PostS.bind hq er fun d S1 r1 H1 v l1 s1 sim1 v1 h1 => ?_)⟩⟩
  have e : d = v := v1
  subst e
  cases d with
  | true => simp only [if_true] at h1 ⊢; exact ad σ H1 r1 S1 ρ D sim1 (er.mono l1 s1) h1
  | false => simp only [Bool.false_eq_true, if_false] at h1 ⊢; exact bd σ H1 r1 S1 ρ D sim1 (er.mono l1 s1) h1

/-! ### targets -/
/-- a target: the data, the names, the store; the slots that it may write -/
abbrev GF := D → Env → Store → Option (Env × Store)
def PostT (T : Tx) (r : Rp) (σ : St) (H : Hp) (js : List Nat) (x : Option (Env × Store)) (Q : St → Hp → Prop) : Prop := match x with
  | some (ρ', S') => ∀ (r' : Rp) (H' : Hp) (σ' : St), r.le r' → Stay T H H' → Sim T r' S' H' → ER T r' H' ρ' σ' → (σ'.length = σ.length ∧ ∀ i, i ∉ js → σ'[i]? = σ[i]?) → Q σ' H'
  | none => False
def AdG (T : Tx) (js : List Nat) (g : TG) (G : GF) : Prop := ∀ (d : D) (v : V) (σ : St) (H : Hp) (r : Rp) (S : Store) (ρ : Env) (Q : St → Hp → Prop), Sim T r S H → ER T r H ρ σ → VR T r H d v → PostT T r σ H js (G d ρ S) Q → g v σ H Q
abbrev GsF := List D → Env → Store → Option (Env × Store)
def AdGs (T : Tx) (js : List Nat) (g : TGs) (G : GsF) : Prop := ∀ (ds : List D) (vs : List V) (σ : St) (H : Hp) (r : Rp) (S : Store) (ρ : Env) (Q : St → Hp → Prop), Sim T r S H → ER T r H ρ σ → VRs T r H ds vs → PostT T r σ H js (G ds ρ S) Q → g vs σ H Q
structure SG (T : Tx) (X : Cx) (js : List Nat) (e : Expr) (G : GF) : Prop where
  ex : ∃ g, PG X e g ∧ AdG T js g G
structure SGs (T : Tx) (X : Cx) (js : List Nat) (e : List Expr) (G : GsF) : Prop where
  ex : ∃ g, PGs X e g ∧ AdGs T js g G
def gtName (i : Nat) : GF := fun d ρ S => some (ρ.set i (some d), S)
theorem sg_name (i : Nat) {x : Str} {pos : Pos} (hN : X.N.Nodup) (hi : X.N[i]? = some x := by rfl) (hx : Loc X.env.scope x := by first | exact Or.inl rfl | exact Or.inr rfl) (hf : X.fn x = true ∨ X.env.scope.names.lookup x = some .local := by first | exact .inl rfl | exact .inr rfl) :
    SG T X [i] (.Name x pos) (gtName i) :=
  ⟨⟨_, pg_name hN hi hx hf, fun d v σ H r S ρ Q sim er vd h => h r H _ (Rp.le_refl _) (Stay.refl _) sim (er.set vd i) ⟨by rw [List.length_set], fun j hj => List.getElem?_set_ne fun e => hj (by simp [e])⟩⟩⟩
def gtNil : GsF := fun ds ρ S => match ds with
  | [] => some (ρ, S)
  | _ => none
def gtCons (g : GF) (gs : GsF) : GsF := fun ds ρ S => match ds with
  | d :: r => match g d ρ S with
    | some (ρ1, S1) => gs r ρ1 S1
    | none => none
  | [] => none
theorem sgs_nil : SGs T X [] [] gtNil := ⟨⟨_, pgs_nil, fun ds vs σ H r S ρ Q sim er vd h => by
  cases ds with
  | nil =>
    simp only [VRs] at vd
    exact ⟨vd, h r H σ (Rp.le_refl _) (Stay.refl _) sim er ⟨rfl, fun _ _ => rfl⟩⟩
  | cons d ds => exact h.elim⟩⟩
theorem sgs_cons {js ks : List Nat} {e : Expr} {es : List Expr} {g : GF} {gs : GsF} (h : SG T X js e g) (k : SGs T X ks es gs) (hs : (assignEach (e :: es) X.env).map (·.2) = assign e X.env :: (assignEach es X.env).map (·.2) := by rfl) :
    SGs T X (js ++ ks) (e :: es) (gtCons g gs) := by
  obtain ⟨t, p, a⟩ := h.ex
  obtain ⟨u, q, b⟩ := k.ex
  refine ⟨⟨_, pgs_cons p q hs, fun ds vs σ H r S ρ Q sim er vd h => ?_⟩⟩
  cases ds with
  | nil => exact h.elim
  | cons d ds =>
    simp only [VRs] at vd
    obtain ⟨x, ys, e1, v1, v2⟩ := vd
    refine ⟨x, ys, e1, a d x σ H r S ρ _ sim er v1 ?_⟩
    unfold gtCons at h
    cases eg : g d ρ S with
    | none => simp only [eg] at h; exact h.elim
    | some z =>
      obtain ⟨ρ1, S1⟩ := z
      simp only [eg] at h
      intro r1 H1 σ1 l1 s1 sim1 er1 k1
      refine b ds ys σ1 H1 r1 S1 ρ1 Q sim1 er1 (v2.mono l1 s1) ?_
      cases e2 : gs ds ρ1 S1 with
      | none => rw [e2] at h; exact h
      | some z =>
        obtain ⟨ρ2, S2⟩ := z
        rw [e2] at h
        intro r2 H2 σ2 l2 s2 sim2 er2 k2
        exact h r2 H2 σ2 (l1.trans l2) (s1.trans s2) sim2 er2 ⟨k2.1.trans k1.1, fun i hi => by
          rw [k2.2 i fun z => hi (List.mem_append_right _ z), k1.2 i fun z => hi (List.mem_append_left _ z)]⟩
def gtTup (n : Nat) (gs : GsF) : GF := fun d ρ S => match d with
  | .tup ds => if ds.length = n then gs ds ρ S else none
  | _ => none
theorem sg_tup {js : List Nat} {es : List Expr} {k : Nat} {pos : Pos} {gs : GsF} {n : Nat} (hc : X.calm = true) (hK : X.K = T.K) (h : SGs T X js es gs)
    (hn : (assignEach es X.env).length = n := by rfl) (hst : (assignEach es X.env).findIdx? (·.1) = none := by rfl) : SG T X js (.Tuple es k pos) (gtTup n gs) := by
  obtain ⟨t, p, a⟩ := h.ex
  refine ⟨⟨_, pg_tup hc p hn hst, fun d v σ H r S ρ Q sim er vd h => ?_⟩⟩
  cases d with
  | tup ds =>
    simp only [VR] at vd
    obtain ⟨b, xs, e, t1, v1⟩ := vd
    unfold gtTup at h
    simp only at h
    split at h
    · rename_i hl
      exact ⟨b, xs, e, by rw [hK]; exact t1, by rw [← v1.len]; exact hl, a ds xs σ H r S ρ Q sim er v1 h⟩
    · exact h.elim
  | _ => exact h.elim
def sAsg (F : XF) (G : GF) : SF := fun ρ S => (F ρ S).toS ρ fun d S1 => match G d ρ S1 with
  | some (ρ1, S2) => .nx ρ1 S2
  | none => .stuck
theorem ss_asg {js : List Nat} {tg e : Expr} {pos : Pos} {F : XF} {G : GF} (h : SE T X W e F) (k : SG T X js tg G) (hs : swapsWithSole [tg] e pos.line X.env = pure false := by rfl) (hw : swappedStores [tg] e X.env = pure none := by rfl) (h1 : List.map (fun x => x.snd) (assignEach [tg] X.env) = [assign tg X.env] := by rfl) :
    SS T X W (.Assign [tg] e pos) (sAsg F G) := by
  obtain ⟨t, p, a⟩ := h.ex
  obtain ⟨g, q, b⟩ := k.ex
  refine ⟨⟨_, ps_asg p q hs hw h1, fun σ H r S ρ D sim er hq => a σ H r S ρ _ sim er (PostS.bind hq er fun d S1 r1 H1 v l1 s1 sim1 v1 h1 => ?_)⟩⟩
  refine b d v σ H1 r1 S1 ρ D.nx sim1 (er.mono l1 s1) v1 ?_
  cases e2 : G d ρ S1 with
  | none => rw [e2] at h1; exact h1.elim
  | some z =>
    obtain ⟨ρ2, S2⟩ := z
    rw [e2] at h1
    exact fun r2 H2 σ2 l2 s2 sim2 er2 _ => h1 r2 H2 σ2 l2 s2 sim2 er2

/-! ### what is walked -/
structure ItD where
  items : List D
  src : Option (Nat × List D)
def Guard (it : ItD) (S : Store) : Prop := match it.src with
  | none => True
  | some (n, ds) => S[n]? = some (.lst ds)
/-- the iterator yields these data -/
structure JOk (T : Tx) (it : ItD) (J : It) (r : Rp) (H : Hp) : Prop where
  go : ∀ (i : Nat) (d : D) (r' : Rp) (S' : Store) (H' : Hp), r.le r' → Stay T H H' → Sim T r' S' H' → Guard it S' → it.items[i]? = some d →
    J.go i H' ∧ ∀ x H2, J.yld i H' x H2 → Stay T H' H2 ∧ Sim T r' S' H2 ∧ VR T r' H2 d x
  stop : ∀ (r' : Rp) (S' : Store) (H' : Hp), r.le r' → Stay T H H' → Sim T r' S' H' → Guard it S' → J.stop it.items.length H'
theorem JOk.mono {it : ItD} {J : It} {r r' : Rp} {H H' : Hp} (h : JOk T it J r H) (hr : r.le r') (hs : Stay T H H') : JOk T it J r' H' :=
  ⟨fun i d r1 S1 H1 a b => h.go i d r1 S1 H1 (hr.trans a) (hs.trans b), fun r1 S1 H1 a b => h.stop r1 S1 H1 (hr.trans a) (hs.trans b)⟩
abbrev IF := Env → Store → R ItD
abbrev relJ (T : Tx) : Rel ItD It := fun r H it J => JOk T it J r H
def AdI (T : Tx) (W : WX) (wi : TI) (F : IF) : Prop := ∀ (σ : St) (H : Hp) (r : Rp) (S : Store) (ρ : Env) (Q : It → Hp → Prop), Sim T r S H → ER T r H ρ σ → PostG (relJ T) T W r σ H (F ρ S) Q → wi σ H Q
structure SI (T : Tx) (X : Cx) (W : WX) (tg iter : Expr) (F : IF) : Prop where
  ex : ∃ wi, PI X tg iter wi ∧ AdI T W wi F
/-- a list or a tuple -/
def iSeq (F : XF) : IF := fun ρ S => (F ρ S).bind fun d S1 => match d with
  | .loc n => match S1[n]? with
    | some (.lst ds) => .ok ⟨ds, some (n, ds)⟩ S1
    | _ => .stuck
  | _ => .stuck
def iTupD (F : XF) : IF := fun ρ S => (F ρ S).bind fun d S1 => match d with
  | .tup ds => .ok ⟨ds, none⟩ S1
  | _ => .stuck
theorem jok_list {n : Nat} {ds : List D} {a : Addr} {r : Rp} {H : Hp} (ea : r.ad[n]? = some a) : JOk T ⟨ds, some (n, ds)⟩ (Itl T.K a) r H := by
  refine ⟨fun i d r' S' H' hr hs sim g e => ?_, fun r' S' H' hr hs sim g => ?_⟩
  · obtain ⟨b, eb, xs, hx, v⟩ := sim.ob n _ g
    rw [hr.get ea] at eb; cases eb
    obtain ⟨x, ex, vx⟩ := v.get e
    refine ⟨⟨xs, x, SqL.of hx, ex⟩, fun y H2 hy => ?_⟩
    obtain ⟨e2, hy⟩ := hy
    subst e2
    have := hy xs (SqL.of hx)
    rw [ex] at this; cases this
    exact ⟨Stay.refl _, sim, vx⟩
  · obtain ⟨b, eb, xs, hx, v⟩ := sim.ob n _ g
    rw [hr.get ea] at eb; cases eb
    exact ⟨xs, SqL.of hx, by rw [← v.len]; exact Nat.le_refl _⟩
theorem jok_tup {ds : List D} {xs : List V} {a : Addr} {r : Rp} {H : Hp} (ht : SqT T.K H a xs) (v : VRs T r H ds xs) : JOk T ⟨ds, none⟩ (Itt T.K a) r H := by
  refine ⟨fun i d r' S' H' hr hs sim g e => ?_, fun r' S' H' hr hs sim g => ?_⟩
  · obtain ⟨x, ex, vx⟩ := v.get e
    refine ⟨⟨xs, x, hs.1 _ _ ht, ex⟩, fun y H2 hy => ?_⟩
    obtain ⟨e2, hy⟩ := hy
    subst e2
    have := hy xs (hs.1 _ _ ht)
    rw [ex] at this; cases this
    exact ⟨Stay.refl _, sim, vx.mono hr hs⟩
  · exact ⟨xs, hs.1 _ _ ht, by rw [← v.len]; exact Nat.le_refl _⟩
end
end DM

/-! DME: what is walked, loops, comprehensions. -/
namespace DM
open PySem L2

section
variable {T : Tx} {X : Cx} {W : WX}
theorem PI.or {tg iter : Expr} {w1 w2 : TI} (h : PI X tg iter w1) (k : PI X tg iter w2) : PI X tg iter (fun σ H R => w1 σ H R ∨ w2 σ H R) :=
  ⟨fun pins s σ H R I h' => h'.elim (h.run pins s σ H R I) (k.run pins s σ H R I)⟩
/-- a list of the store, or a tuple -/
def itOf (d : D) (S : Store) : R ItD := match d with
  | .loc n => match S[n]? with
    | some (.lst ds) => .ok ⟨ds, some (n, ds)⟩ S
    | _ => .stuck
  | .tup ds => .ok ⟨ds, none⟩ S
  | _ => .stuck
def iOf (F : XF) : IF := fun ρ S => (F ρ S).bind itOf
theorem si_seq {tg e : Expr} {F : XF} (h : SE T X W e F) (hK : X.K = T.K) : SI T X W tg e (iOf F) := by
  obtain ⟨t, p, a⟩ := h.ex
  refine ⟨⟨_, PI.or (pi_list p) (pi_tup p), fun σ H r S ρ Q sim er hq => ?_⟩⟩
  unfold iOf at hq
  cases e : F ρ S with
  | stuck => rw [e] at hq; exact hq.elim
  | err x S1 => rw [e] at hq; exact .inl (a σ H r S ρ _ sim er (by rw [e]; exact hq))
  | ok d S1 =>
    rw [e] at hq
    cases d with
    | loc n =>
      refine .inl (a σ H r S ρ _ sim er ?_)
      rw [e]
      intro r1 H1 v l1 s1 sim1 v1
      simp only [VR] at v1
      obtain ⟨b, eb, ev⟩ := v1
      have h1 : PostG (relJ T) T W r1 σ H1 (itOf (.loc n) S1) Q := PostG.mono hq l1 s1
      unfold itOf at h1
      simp only at h1
      split at h1
      · rename_i ds eS
        obtain ⟨b', eb', xs, hx, vx⟩ := sim1.ob n _ eS
        rw [eb] at eb'; cases eb'
        refine ⟨b, ev, ⟨xs, SqL.of hx⟩, h1 r1 H1 _ (Rp.le_refl _) (Stay.refl _) sim1 ?_⟩
        rw [hK]
        exact jok_list eb
      · exact h1.elim
    | tup ds =>
      refine .inr (a σ H r S ρ _ sim er ?_)
      rw [e]
      intro r1 H1 v l1 s1 sim1 v1
      simp only [VR] at v1
      obtain ⟨b, xs, ev, ht, vx⟩ := v1
      have h1 : PostG (relJ T) T W r1 σ H1 (itOf (.tup ds) S1) Q := PostG.mono hq l1 s1
      refine ⟨b, ev, ⟨xs, by rw [hK]; exact ht⟩, h1 r1 H1 _ (Rp.le_refl _) (Stay.refl _) sim1 ?_⟩
      rw [hK]
      exact jok_tup ht vx
    | _ => exact hq.elim
/-- range(n), range(m, n) -/
def rng (lo : Int) (n : Nat) : List D := (List.range n).map fun i : Nat => .int (lo + (i : Int))
def smallI (i : Int) : Prop := -(2 ^ 62) ≤ i ∧ i < 2 ^ 62
instance (i : Int) : Decidable (smallI i) := by unfold smallI; infer_instance
def itRange1 (ds : List D) (S : Store) : R ItD := match ds with
  | [.int j] => if smallI j then .ok ⟨rng 0 j.toNat, none⟩ S else .stuck
  | _ => .stuck
def itRange2 (ds : List D) (S : Store) : R ItD := match ds with
  | [.int i, .int j] => if smallI i ∧ smallI j then .ok ⟨rng i (j - i).toNat, none⟩ S else .stuck
  | _ => .stuck
theorem jok_range {lo : Int} {n : Nat} {r : Rp} {H : Hp} : JOk T ⟨rng lo n, none⟩ (Itr lo n) r H := by
  refine ⟨fun i d r' S' H' hr hs sim g e => ?_, fun r' S' H' hr hs sim g => ?_⟩
  · have hi : i < n := by
      have := (List.getElem?_eq_some_iff.mp e).1
      simpa [rng] using this
    have ed : d = .int (lo + (i : Int)) := by
      unfold rng at e
      rw [List.getElem?_map, List.getElem?_range hi] at e
      simpa using e.symm
    subst ed
    refine ⟨hi, fun x H2 hy => ?_⟩
    obtain ⟨e1, e2⟩ := hy
    subst e1 e2
    exact ⟨Stay.refl _, sim, by simp only [VR]⟩
  · show n ≤ _
    simp [rng]
def iRange1 (F : XA) : IF := fun ρ S => (F ρ S).bind itRange1
def iRange2 (F : XA) : IF := fun ρ S => (F ρ S).bind itRange2
theorem si_range1 {tg a : Expr} {p pos : Pos} {F : XA} (h : SA T X W [a] F) (hm : X.mg "range" = none) (hg : Gl X "range" := by rfl) (hs : starEach [a] X.env = [(false, eval a X.env)] := by rfl) : SI T X W tg (.Call (.Name "range" p) [a] [] pos) (iRange1 F) := by
  obtain ⟨t, q, ad⟩ := h.ex
  refine ⟨⟨_, pi_range1 hg hm q hs, fun σ H r S ρ Q sim er hq => ad σ H r S ρ _ sim er (PostG.bind hq fun ds S1 r1 H1 vs l1 s1 sim1 v1 h1 => ?_)⟩⟩
  unfold itRange1 at h1
  split at h1
  · rename_i j
    simp only [vrs, VRs, VR] at v1
    obtain ⟨x, ys, e1, e2, e3⟩ := v1
    subst e2 e3
    split at h1
    · rename_i hj
      exact ⟨j, e1, hj.1, hj.2, h1 r1 H1 _ (Rp.le_refl _) (Stay.refl _) sim1 jok_range⟩
    · exact h1.elim
  · exact h1.elim
theorem si_range2 {tg a b : Expr} {p pos : Pos} {F : XA} (h : SA T X W [a, b] F) (hm : X.mg "range" = none) (hg : Gl X "range" := by rfl) (hs : starEach [a, b] X.env = [(false, eval a X.env), (false, eval b X.env)] := by rfl) (hs2 : starEach [b] X.env = [(false, eval b X.env)] := by rfl) :
    SI T X W tg (.Call (.Name "range" p) [a, b] [] pos) (iRange2 F) := by
  obtain ⟨t, q, ad⟩ := h.ex
  refine ⟨⟨_, pi_range2 hg hm q hs hs2, fun σ H r S ρ Q sim er hq => ad σ H r S ρ _ sim er (PostG.bind hq fun ds S1 r1 H1 vs l1 s1 sim1 v1 h1 => ?_)⟩⟩
  unfold itRange2 at h1
  split at h1
  · rename_i i j
    simp only [vrs, VRs, VR] at v1
    obtain ⟨x, ys, e1, e2, x2, y2, e3, e4, e5⟩ := v1
    subst e2 e4 e5 e3
    split at h1
    · rename_i hj
      exact ⟨i, j, e1, ⟨hj.1.1, hj.1.2, hj.2.1, hj.2.2⟩, h1 r1 H1 _ (Rp.le_refl _) (Stay.refl _) sim1 jok_range⟩
    · exact h1.elim
  · exact h1.elim

/-! ### for -/
open Classical in
noncomputable def forL (it : ItD) (G : GF) (Fb : SF) : List D → Env → Store → RS
  | [], ρ, S => if Guard it S then .nx ρ S else .stuck
  | d :: rest, ρ, S => if Guard it S then (match G d ρ S with
    | some (ρ1, S1) => match Fb ρ1 S1 with
      | .nx ρ2 S2 => forL it G Fb rest ρ2 S2
      | .ct ρ2 S2 => forL it G Fb rest ρ2 S2
      | .bk ρ2 S2 => .nx ρ2 S2
      | o => o
    | none => .stuck) else .stuck
noncomputable def sFor (F : IF) (G : GF) (Fb : SF) : SF := fun ρ S => (F ρ S).toS ρ fun it S1 => forL it G Fb it.items ρ S1
theorem ss_for {js : List Nat} {tg iter : Expr} {body : List Stmt} {pos : Pos} {F : IF} {G : GF} {Fb : SF} (hp : PassesOwn (model X.prog X.w) X.A X.env X.xe) (hc : X.calm = true) (hi : SI T X W tg iter F) (hg : SG T X js tg G) (hb : SSs T X W body Fb)
    (hs : ∀ x, foldedSetIterable iter X.env x = pure x := by intro _; rfl) : SS T X W (.For tg iter body [] pos) (sFor F G Fb) := by
  obtain ⟨wi, pi, ai⟩ := hi.ex
  obtain ⟨g, pg, ag⟩ := hg.ex
  obtain ⟨tb, pb, ab⟩ := hb.ex
  refine ⟨⟨_, ps_for hp hc pi pg pb hs, fun σ H r S ρ D sim er hq => ai σ H r S ρ _ sim er (PostS.bind hq er fun it S1 r1 H1 J l1 s1 sim1 jk h1 => ?_)⟩⟩
  refine ⟨fun i m σ' H' => m = it.items.length - i ∧ i ≤ it.items.length ∧ ∃ r' S' ρ', r1.le r' ∧ Stay T H1 H' ∧ Sim T r' S' H' ∧ ER T r' H' ρ' σ' ∧ PostS T W r' H' (forL it G Fb (it.items.drop i) ρ' S') D,
    ⟨it.items.length, by simp, Nat.zero_le _, r1, S1, ρ, Rp.le_refl _, Stay.refl _, sim1, er.mono l1 s1, by simpa using h1⟩, ?_⟩
  rintro i m σ' H' ⟨rfl, hi, r', S', ρ', l', s', sim', er', h'⟩
  by_cases hlt : i < it.items.length
  · rw [List.drop_eq_getElem_cons hlt] at h'
    unfold forL at h'
    split at h'
    · rename_i gd
      obtain ⟨go, yl⟩ := jk.go i _ r' S' H' l' s' sim' gd (List.getElem?_eq_getElem hlt)
      refine .inr ⟨go, _, fun σ2 H2 n => n, fun x H2 y => ?_⟩
      obtain ⟨sy, simy, vy⟩ := yl x H2 y
      refine ag _ x σ' H2 r' S' ρ' _ simy (er'.mono (Rp.le_refl _) sy) vy ?_
      cases eg : G it.items[i] ρ' S' with
      | none => rw [eg] at h'; exact h'.elim
      | some z =>
        obtain ⟨ρ1, S2⟩ := z
        rw [eg] at h'
        simp only at h'
        intro r2 H3 σ3 l2 s2 sim2 er2 _
        refine ab σ3 H3 r2 S2 ρ1 _ sim2 er2 ?_
        cases eb : Fb ρ1 S2 with
        | nx ρ2 S3 =>
          rw [eb] at h'
          exact fun r3 H4 σ4 l3 s3 sim3 er3 => ⟨it.items.length - (i + 1), by omega, rfl, hlt, r3, S3, ρ2, l'.trans (l2.trans l3), s'.trans (sy.trans (s2.trans s3)), sim3, er3, PostS.mono h' (l2.trans l3) (sy.trans (s2.trans s3))⟩
        | ct ρ2 S3 =>
          rw [eb] at h'
          exact fun r3 H4 σ4 l3 s3 sim3 er3 => ⟨it.items.length - (i + 1), by omega, rfl, hlt, r3, S3, ρ2, l'.trans (l2.trans l3), s'.trans (sy.trans (s2.trans s3)), sim3, er3, PostS.mono h' (l2.trans l3) (sy.trans (s2.trans s3))⟩
        | bk ρ2 S3 =>
          rw [eb] at h'
          exact fun r3 H4 σ4 l3 s3 sim3 er3 => h' r3 H4 σ4 (l2.trans l3) (sy.trans (s2.trans s3)) sim3 er3
        | rt d S3 =>
          rw [eb] at h'
          exact fun r3 H4 v l3 s3 sim3 v3 => h' r3 H4 v (l2.trans l3) (sy.trans (s2.trans s3)) sim3 v3
        | err x ρ2 S3 =>
          rw [eb] at h'
          exact fun r3 H4 σ4 c dd l3 s3 sim3 er3 x3 => h' r3 H4 σ4 c dd (l2.trans l3) (sy.trans (s2.trans s3)) sim3 er3 x3
        | stuck => rw [eb] at h'; exact h'.elim
    · exact h'.elim
  · have e : i = it.items.length := by omega
    subst e
    rw [List.drop_length] at h'
    unfold forL at h'
    split at h'
    · rename_i gd
      exact .inl ⟨jk.stop r' S' H' l' s' sim' gd, h' r' H' σ' (Rp.le_refl _) (Stay.refl _) sim' er'⟩
    · exact h'.elim

/-! ### while -/
def whileL (c : XT) (Fb : SF) : Nat → Env → Store → RS
  | 0, _, _ => .stuck
  | n + 1, ρ, S => (c ρ S).toS ρ fun k S1 => if k = true then (match Fb ρ S1 with
    | .nx ρ2 S2 => whileL c Fb n ρ2 S2
    | .ct ρ2 S2 => whileL c Fb n ρ2 S2
    | .bk ρ2 S2 => .nx ρ2 S2
    | o => o) else .nx ρ S1
theorem ss_while (n : Nat) {c : Expr} {body : List Stmt} {pos : Pos} {Fc : XT} {Fb : SF} (hp : PassesOwn (model X.prog X.w) X.A X.env X.xe) (hc : ST T X W c Fc) (hb : SSs T X W body Fb) : SS T X W (.While c body [] pos) (whileL Fc Fb n) := by
  obtain ⟨tc, pc, ac⟩ := hc.ex
  obtain ⟨tb, pb, ab⟩ := hb.ex
  refine ⟨⟨_, ps_while hp pc pb, fun σ H r S ρ D sim er hq => ?_⟩⟩
  refine ⟨fun m σ' H' => ∃ r' S' ρ', r.le r' ∧ Stay T H H' ∧ Sim T r' S' H' ∧ ER T r' H' ρ' σ' ∧ PostS T W r' H' (whileL Fc Fb m ρ' S') D, ⟨n, r, S, ρ, Rp.le_refl _, Stay.refl _, sim, er, hq⟩, ?_⟩
  rintro m σ' H' ⟨r', S', ρ', l', s', sim', er', h'⟩
  cases m with
  | zero => exact h'.elim
  | succ m =>
    unfold whileL at h'
    refine ac σ' H' r' S' ρ' _ sim' er' (PostS.bind h' er' fun k S1 r1 H1 b l1 s1 sim1 kb h1 => ?_)
    have e : k = b := kb
    subst e
    cases k with
    | false =>
      simp only [Bool.false_eq_true, if_false] at h1 ⊢
      exact h1 r1 H1 σ' (Rp.le_refl _) (Stay.refl _) sim1 (er'.mono l1 s1)
    | true =>
      simp only [if_true] at h1 ⊢
      refine ⟨_, fun σ2 H2 n => n, ?_⟩
      refine ab σ' H1 r1 S1 ρ' _ sim1 (er'.mono l1 s1) ?_
      cases eb : Fb ρ' S1 with
      | nx ρ2 S3 =>
        rw [eb] at h1
        exact fun r3 H4 σ4 l3 s3 sim3 er3 => ⟨m, Nat.lt_succ_self _, r3, S3, ρ2, l'.trans (l1.trans l3), s'.trans (s1.trans s3), sim3, er3, PostS.mono h1 l3 s3⟩
      | ct ρ2 S3 =>
        rw [eb] at h1
        exact fun r3 H4 σ4 l3 s3 sim3 er3 => ⟨m, Nat.lt_succ_self _, r3, S3, ρ2, l'.trans (l1.trans l3), s'.trans (s1.trans s3), sim3, er3, PostS.mono h1 l3 s3⟩
      | bk ρ2 S3 => rw [eb] at h1; exact h1
      | rt d S3 => rw [eb] at h1; exact h1
      | err x ρ2 S3 => rw [eb] at h1; exact h1
      | stuck => rw [eb] at h1; exact h1.elim
end
end DM

/-! DMF: comprehensions. -/
namespace DM
open PySem L2

section
variable {T : Tx} {X : Cx} {W : WX}
/-! ### the reading that a function gives -/
def tE (T : Tx) (W : WX) (F : XF) : TE := fun σ H Q => ∃ (r : Rp) (S : Store) (ρ : Env), Sim T r S H ∧ ER T r H ρ σ ∧ PostG (vr T) T W r σ H (F ρ S) Q
def tT (T : Tx) (W : WX) (F : XT) : TT := fun σ H Q => ∃ (r : Rp) (S : Store) (ρ : Env), Sim T r S H ∧ ER T r H ρ σ ∧ PostG beq T W r σ H (F ρ S) Q
def tG (T : Tx) (js : List Nat) (G : GF) : TG := fun v σ H Q => ∃ (r : Rp) (S : Store) (ρ : Env) (d : D), Sim T r S H ∧ ER T r H ρ σ ∧ VR T r H d v ∧ PostT T r σ H js (G d ρ S) Q
theorem SE.can {e : Expr} {F : XF} (h : SE T X W e F) : PE X e (tE T W F) := by
  obtain ⟨t, p, a⟩ := h.ex
  exact ⟨fun pins s σ H Q I ⟨r, S, ρ, sim, er, q⟩ => p.run pins s σ H Q I (a σ H r S ρ Q sim er q)⟩
theorem SG.can {js : List Nat} {e : Expr} {G : GF} (h : SG T X js e G) : PG X e (tG T js G) := by
  obtain ⟨t, p, a⟩ := h.ex
  exact ⟨fun pins s σ H v u Q I rv ⟨r, S, ρ, d, sim, er, vd, q⟩ => p.run pins s σ H v u Q I rv (a d v σ H r S ρ Q sim er vd q)⟩
structure STs (T : Tx) (X : Cx) (W : WX) (e : List Expr) (F : XT) : Prop where
  ex : ∃ t, PTs X e t ∧ AdT T W t F
theorem STs.can {e : List Expr} {F : XT} (h : STs T X W e F) : PTs X e (tT T W F) := by
  obtain ⟨t, p, a⟩ := h.ex
  exact ⟨fun pins s σ H Q I ⟨r, S, ρ, sim, er, q⟩ => p.run pins s σ H Q I (a σ H r S ρ Q sim er q)⟩
def xYes : XT := fun _ S => .ok true S
theorem sts_nil : STs T X W [] xYes := ⟨⟨_, pts_nil, fun σ H r S ρ Q sim er h => h r H true (Rp.le_refl _) (Stay.refl _) sim rfl⟩⟩
theorem sts_one {c : Expr} {F : XT} (h : ST T X W c F) : STs T X W [c] F := by
  obtain ⟨t, p, a⟩ := h.ex
  exact ⟨⟨_, pts_one p, a⟩⟩
/-! ### slots forgotten -/
def wipeE (ρ : Env) : List Nat → Env
  | [] => ρ
  | v :: vs => (wipeE ρ vs).set v none
theorem wipe_get {σ : St} : ∀ {vs : List Nat} (i : Nat), (wipe σ vs)[i]? = if i ∈ vs ∧ i < σ.length then some none else σ[i]?
  | [], i => by simp [wipe]
  | v :: vs, i => by
    unfold wipe
    by_cases hv : v = i
    · subst hv
      by_cases hl : v < σ.length
      · rw [List.getElem?_set_self (by rw [wipe_length]; exact hl)]; simp [hl]
      · rw [List.getElem?_eq_none (by rw [List.length_set, wipe_length]; omega)]
        simp [hl]
    · rw [List.getElem?_set_ne hv, wipe_get i]
      have : (i ∈ v :: vs) ↔ i ∈ vs := by simp [show i ≠ v from fun e => hv e.symm]
      simp only [this]
theorem wipe_same {σ σ' : St} {js vs : List Nat} (hj : ∀ j ∈ js, j ∈ vs) (hl : σ'.length = σ.length) (h : ∀ i, i ∉ js → σ'[i]? = σ[i]?) : wipe σ' vs = wipe σ vs := by
  apply List.ext_getElem?
  intro i
  rw [wipe_get, wipe_get, hl]
  split
  · rfl
  · rename_i q
    by_cases hi : i ∈ js
    · have : ¬ i < σ.length := fun z => q ⟨hj i hi, z⟩
      rw [List.getElem?_eq_none (by omega), List.getElem?_eq_none (by omega)]
    · exact h i hi
theorem wipe_wipe {σ : St} {vs : List Nat} : wipe (wipe σ vs) vs = wipe σ vs := by
  apply List.ext_getElem?
  intro i
  rw [wipe_get, wipe_length, wipe_get]
  split <;> rfl
theorem wipeE_length (ρ : Env) : ∀ vs : List Nat, (wipeE ρ vs).length = ρ.length
  | [] => rfl
  | v :: vs => by unfold wipeE; rw [List.length_set, wipeE_length ρ vs]
theorem wipeE_some {ρ : Env} {i : Nat} {x : D} : ∀ {vs : List Nat}, (wipeE ρ vs)[i]? = some (some x) → ρ[i]? = some (some x) ∧ i ∉ vs
  | [], h => ⟨h, by simp⟩
  | v :: vs, h => by
    unfold wipeE at h
    by_cases hi : v = i
    · subst hi
      by_cases hv : v < (wipeE ρ vs).length
      · rw [List.getElem?_set_self hv] at h; cases h
      · rw [List.getElem?_eq_none (by simpa using hv)] at h; cases h
    · rw [List.getElem?_set_ne hi] at h
      obtain ⟨h1, h2⟩ := wipeE_some h
      exact ⟨h1, by simp only [List.mem_cons, not_or]; exact ⟨fun e => hi e.symm, h2⟩⟩
theorem ER.wipe {r : Rp} {H : Hp} {ρ : Env} {σ : St} (er : ER T r H ρ σ) (vs : List Nat) : ER T r H (wipeE ρ vs) (wipe σ vs) :=
  ⟨by rw [wipeE_length, wipe_length]; exact er.len, fun i d e => by
    obtain ⟨h1, h2⟩ := wipeE_some e
    obtain ⟨v, a, b⟩ := er.at_ i d h1
    exact ⟨v, by rw [wipe_get, if_neg fun z => h2 z.1]; exact a, b⟩⟩
/-! ### [elt for target in iter if ..] -/
open Classical in
noncomputable def lcL (it : ItD) (n : Nat) (G : GF) (Ft : XT) (Fe : XF) (ρ : Env) : List D → List D → Store → R D
  | [], _, S => if Guard it S then .ok (.loc n) S else .stuck
  | d :: rest, acc, S => if Guard it S then (match G d ρ S with
    | some (ρ1, S1) => match Ft ρ1 S1 with
      | .ok true S2 => match Fe ρ1 S2 with
        | .ok y S3 => if S3[n]? = some (.lst acc) ∧ acc.length < sizeLine then lcL it n G Ft Fe ρ rest (acc ++ [y]) (S3.set n (.lst (acc ++ [y]))) else .stuck
        | _ => .stuck
      | .ok false S2 => lcL it n G Ft Fe ρ rest acc S2
      | _ => .stuck
    | none => .stuck) else .stuck
noncomputable def xLc (F : IF) (G : GF) (Ft : XT) (Fe : XF) (vs : List Nat) : XF := fun ρ S => (F ρ S).bind fun it S1 => lcL it S1.length G Ft Fe (wipeE ρ vs) it.items [] (S1 ++ [.lst []])
abbrev W0 : WX := fun _ _ _ _ => False
theorem ad_lc {wi : TI} {F : IF} {G : GF} {Ft : XT} {Fe : XF} {js vs : List Nat} (ai : AdI T W wi F) (hj : ∀ j ∈ js, j ∈ vs) : AdE T W (tLc wi (tG T js G) (tT T W0 Ft) (tE T W0 Fe) vs) (xLc F G Ft Fe vs) := fun σ H r S ρ Q sim er hq =>
  ai σ H r S ρ _ sim er (PostG.bind hq fun it S1 r1 H1 J l1 s1 sim1 jk h1 => by
    intro Dd hD
    have simD := sim1.alloc hD (x := .lst []) (o := .lst []) ⟨[], upd_same, VRs.nil⟩
    have erD : ER T ⟨r1.ad ++ [Dd]⟩ (upd H1 Dd (.lst [])) ρ σ := er.mono (l1.trans (List.prefix_append _ _)) (s1.trans (Stay.new hD))
    refine ⟨fun i m H' => m = it.items.length - i ∧ i ≤ it.items.length ∧ ∃ r' S' acc, Rp.le ⟨r1.ad ++ [Dd]⟩ r' ∧ Stay T (upd H1 Dd (.lst [])) H' ∧ Sim T r' S' H' ∧ PostG (vr T) T W r' σ H' (lcL it S1.length G Ft Fe (wipeE ρ vs) (it.items.drop i) acc S') Q,
      ⟨it.items.length, by simp, Nat.zero_le _, ⟨r1.ad ++ [Dd]⟩, S1 ++ [.lst []], [], Rp.le_refl _, Stay.refl _, simD, by simpa using PostG.mono h1 (List.prefix_append _ _) (Stay.new hD)⟩, ?_⟩
    rintro i m H' ⟨rfl, hi, r', S', acc, l', s', sim', h'⟩
    have eD : r'.ad[S1.length]? = some Dd := l'.get (by rw [← sim1.len, List.getElem?_append_right (Nat.le_refl _)]; simp)
    have lr : r1.le r' := Rp.le.trans (List.prefix_append _ _) l'
    have sr : Stay T H1 H' := (Stay.new hD).trans s'
    by_cases hlt : i < it.items.length
    · rw [List.drop_eq_getElem_cons hlt] at h'
      unfold lcL at h'
      split at h'
      · rename_i gd
        obtain ⟨go, yl⟩ := jk.go i _ r' S' H' lr sr sim' gd (List.getElem?_eq_getElem hlt)
        refine .inr ⟨go, _, fun H2 n => n, fun x H2 y => ?_⟩
        obtain ⟨sy, simy, vy⟩ := yl x H2 y
        have er2 : ER T r' H2 (wipeE ρ vs) (wipe σ vs) := (er.mono (l1.trans lr) (s1.trans (sr.trans sy))).wipe vs
        refine ⟨r', S', wipeE ρ vs, _, simy, er2, vy, ?_⟩
        cases eg : G it.items[i] (wipeE ρ vs) S' with
        | none => rw [eg] at h'; exact h'.elim
        | some z =>
          obtain ⟨ρ1, S2⟩ := z
          rw [eg] at h'
          simp only at h'
          intro r2 H3 σ3 l2 s2 sim2 er3 hw
          refine ⟨(wipe_same hj hw.1 hw.2).trans wipe_wipe, r2, S2, ρ1, sim2, er3, ?_⟩
          cases et : Ft ρ1 S2 with
          | stuck => rw [et] at h'; exact h'.elim
          | err x S3 => rw [et] at h'; exact h'.elim
          | ok b S3 =>
            rw [et] at h'
            intro r3 H4 b' l3 s3 sim3 eb
            have eb' : b = b' := eb
            subst eb'
            cases b with
            | false =>
              simp only [Bool.false_eq_true, if_false] at h' ⊢
              exact ⟨it.items.length - (i + 1), by omega, rfl, hlt, r3, S3, acc, l'.trans (l2.trans l3), s'.trans (sy.trans (s2.trans s3)), sim3, PostG.mono h' (l2.trans l3) (sy.trans (s2.trans s3))⟩
            | true =>
              simp only [if_true] at h' ⊢
              refine ⟨r3, S3, ρ1, sim3, er3.mono l3 s3, ?_⟩
              cases ee : Fe ρ1 S3 with
              | stuck => rw [ee] at h'; exact h'.elim
              | err x S4 => rw [ee] at h'; exact h'.elim
              | ok d S4 =>
                rw [ee] at h'
                simp only at h'
                intro r4 H5 v l4 s4 sim4 vd
                split at h'
                · rename_i hc
                  obtain ⟨hc1, hc2⟩ := hc
                  have e4 : r4.ad[S1.length]? = some Dd := (l2.trans (l3.trans l4)).get eD
                  obtain ⟨a', ea', xs, hx, vx⟩ := sim4.ob _ _ hc1
                  rw [e4] at ea'; cases ea'
                  refine ⟨xs, hx, by rw [← vx.len]; exact hc2, it.items.length - (i + 1), by omega, rfl, hlt, r4, _, acc ++ [d], l'.trans (l2.trans (l3.trans l4)), s'.trans (sy.trans (s2.trans (s3.trans (s4.trans (Stay.upd hx True.intro))))), ?_,
                    PostG.mono h' (l2.trans (l3.trans l4)) (sy.trans (s2.trans (s3.trans (s4.trans (Stay.upd hx True.intro)))))⟩
                  exact sim4.put e4 hx True.intro ⟨xs ++ [v], upd_same, VRs.app (vx.mono (Rp.le_refl _) (Stay.upd hx True.intro)) (VRs.cons (VR.mono (Rp.le_refl _) (Stay.upd hx True.intro) _ vd) VRs.nil)⟩
                · exact h'.elim
      · exact h'.elim
    · have e : i = it.items.length := by omega
      subst e
      rw [List.drop_length] at h'
      unfold lcL at h'
      split at h'
      · rename_i gd
        exact .inl ⟨jk.stop r' S' H' lr sr sim' gd, h' r' H' _ (Rp.le_refl _) (Stay.refl _) sim' (by simp only [VR]; exact ⟨Dd, eD, rfl⟩)⟩
      · exact h'.elim)
theorem se_lc {elt tg iter : Expr} {ifs : List Expr} {scope : Scope} {own : List (Str × Nat)} {js : List Nat} {pos : Pos} {F : IF} {G : GF} {Ft : XT} {Fe : XF} (hc : X.calm = true) (hN : X.N.Nodup) (hi : SI T X W tg iter F) (ok : BlkOk X.N X.env.scope scope own)
    (hg : ∀ (s : Shared) (H : Hp) (C : Addr) (cl : List (Str × Addr)) (fp : List Addr), SG T (X.blk s H scope (compEnvC scope cl C X.env) fp) js tg G) (ht : ∀ (s : Shared) (H : Hp) (C : Addr) (cl : List (Str × Addr)) (fp : List Addr), STs T (X.blk s H scope (compEnvC scope cl C X.env) fp) W0 ifs Ft)
    (he : ∀ (s : Shared) (H : Hp) (C : Addr) (cl : List (Str × Addr)) (fp : List Addr), SE T (X.blk s H scope (compEnvC scope cl C X.env) fp) W0 elt Fe) (hj : ∀ j ∈ js, j ∈ own.map (·.2) := by decide) (hs : ∀ x, foldedSetIterable iter X.env x = pure x := by intro _; rfl) :
    SE T X W (.ListComp elt [⟨tg, iter, ifs, 0⟩] scope pos) (xLc F G Ft Fe (own.map (·.2))) := by
  obtain ⟨wi, pi, ai⟩ := hi.ex
  exact ⟨⟨_, pe_lc hc hN pi ok (fun s H C cl fp => (hg s H C cl fp).can) (fun s H C cl fp => (ht s H C cl fp).can) (fun s H C cl fp => (he s H C cl fp).can) hs, ad_lc ai hj⟩⟩
theorem ss_setLc (i : Nat) {y : Str} {py : Pos} {elt tg iter : Expr} {ifs : List Expr} {scope : Scope} {own : List (Str × Nat)} {js : List Nat} {pos spos : Pos} {F : IF} {G : GF} {Ft : XT} {Fe : XF} (hc : X.calm = true) (hN : X.N.Nodup) (hi : SI T X W tg iter F) (ok : BlkOk X.N X.env.scope scope own)
    (hg : ∀ (s : Shared) (H : Hp) (C : Addr) (cl : List (Str × Addr)) (fp : List Addr), SG T (X.blk s H scope (compEnvC scope cl C X.env) fp) js tg G) (ht : ∀ (s : Shared) (H : Hp) (C : Addr) (cl : List (Str × Addr)) (fp : List Addr), STs T (X.blk s H scope (compEnvC scope cl C X.env) fp) W0 ifs Ft)
    (he : ∀ (s : Shared) (H : Hp) (C : Addr) (cl : List (Str × Addr)) (fp : List Addr), SE T (X.blk s H scope (compEnvC scope cl C X.env) fp) W0 elt Fe) (hy : X.N[i]? = some y := by rfl) (hyl : X.env.scope.names.lookup y = some .local := by rfl)
    (hsw : swapsWith (.ListComp elt [⟨tg, iter, ifs, 0⟩] scope pos) (some (.Name y py)) spos.line X.env = pure true := by exact sw_true rfl rfl rfl (by decide +kernel)) (hj : ∀ j ∈ js, j ∈ own.map (·.2) := by decide) (hs : ∀ x, foldedSetIterable iter X.env x = pure x := by intro _; rfl) :
    SS T X W (.Assign [.Name y py] (.ListComp elt [⟨tg, iter, ifs, 0⟩] scope pos) spos) (sSet i (xLc F G Ft Fe (own.map (·.2)))) := by
  obtain ⟨wi, pi, ai⟩ := hi.ex
  exact ⟨⟨_, ps_setLc (i := i) hc hN hy hyl hsw pi ok (fun s H C cl fp => (hg s H C cl fp).can) (fun s H C cl fp => (ht s H C cl fp).can) (fun s H C cl fp => (he s H C cl fp).can) hs, fun σ H r S ρ D sim er hq =>
    ad_lc ai hj σ H r S ρ _ sim er (PostS.bind hq er fun d S1 r1 H1 v l1 s1 sim1 v1 h1 => h1 r1 H1 _ (Rp.le_refl _) (Stay.refl _) sim1 ((er.mono l1 s1).set v1 i))⟩⟩
end
end DM

/-! DMG: defs and their calls. -/
namespace DM
open PySem PySem.Spec PyProof.Rows L2

/-- a def's promise: it does what F says -/
def spD (T : Tx) (n : Nat) (F : DF) : Sp := fun vs H Q E => ∃ (r : Rp) (S : Store) (ds : List D), vs.length = n ∧ Sim T r S H ∧ VRs T r H ds vs ∧ PostG (vr T) T (fun c dd _ H' => E c dd H') r [] H (F ds S) Q
/-- a body's result as the call's -/
def RS.fin : RS → R D
  | .rt d S => .ok d S
  | .nx _ S => .ok .non S
  | .err x _ S => .err x S
  | _ => .stuck
def runB (N : Nat) (Fb : SF) : DF := fun ds S => (Fb (ds.map some ++ List.replicate (N - ds.length) none) S).fin
/-- what the generator hands from place to place -/
structure Bx (T : Tx) (X : Cx) (W : WX) : Prop where
  calm : X.calm = true
  nd : X.N.Nodup
  hK : X.K = T.K
  tk : Takes X W
section
variable {T : Tx} {X : Cx} {W : WX} {P : Program} {w : World} {K : PySem.W.Frag} {mg : Str → Option Value} {base : Heap} {x qual : Str} {params : Arguments} {body : List Stmt} {scope : Scope} {dvs : List V} {kws : List (Str × V)} {f : Addr} {fd : FuncData}
theorem ER.start {r : Rp} {H : Hp} {N : List Str} : ∀ {ds : List D} {vs : List V}, VRs T r H ds vs → ER T r H (ds.map some ++ List.replicate (N.length - ds.length) none) (L2.start N vs) := fun {ds vs} h => by
  have hl := h.len
  refine ⟨by unfold L2.start; simp [hl], fun i d e => ?_⟩
  by_cases hi : i < ds.length
  · rw [List.getElem?_append_left (by simpa using hi), List.getElem?_map] at e
    cases q : ds[i]? with
    | none => rw [q] at e; cases e
    | some d' =>
      rw [q] at e
      simp at e; subst e
      obtain ⟨v, ev, rv⟩ := h.get q
      refine ⟨v, ?_, rv⟩
      unfold L2.start
      rw [List.getElem?_append_left (by simp; omega), List.getElem?_map, ev]
      rfl
  · rw [List.getElem?_append_right (by simpa using hi), List.getElem?_replicate] at e
    split at e <;> cases e
theorem fin_post {r : Rp} {H : Hp} {x : RS} {Q : VK} {E : XK} (h : PostG (vr T) T (fun c dd _ H' => E c dd H') r [] H x.fin Q) : PostS T (fun c dd _ H' => E c dd H') r H x { nx := fun _ H' => Q .non H', rt := Q } := by
  cases x with
  | nx ρ S => exact fun r' H' σ' a b c _ => h r' H' _ a b c (by simp only [VR])
  | rt d S => exact h
  | err x ρ S => exact fun r' H' σ' c dd a b s _ q => h r' H' c dd a b s q
  | bk ρ S => exact h.elim
  | ct ρ S => exact h.elim
  | stuck => exact h.elim
/-- a def by its body -/
theorem fnD_of {k : Nat} {N ps : List Str} {Fb : SF} (F : FunD K x qual params body scope dvs kws f fd) (S : FnScope N ps scope) (hK : K = T.K)
    (hb : ∀ (cdv : Value) (A : Around) (outer : List PySem.Env) (s : Shared) (H : Hp) (E : XK), Room k (A.deeper (envOfC qual scope s.heap.objs.size f cdv)) →
      Bx T (cxOf (L2.CX P w) P w K mg base N qual scope f cdv A outer s H E) (fun c dd _ H' => E c dd H') → PassesOwn (model P w) (A.deeper (envOfC qual scope s.heap.objs.size f cdv)) (envOfC qual scope s.heap.objs.size f cdv) (cxOf (L2.CX P w) P w K mg base N qual scope f cdv A outer s H E).xe →
      SSs T (cxOf (L2.CX P w) P w K mg base N qual scope f cdv A outer s H E) (fun c dd _ H' => E c dd H') body Fb) :
    FnOk P w K mg base (L2.CX P w) (k + 1) f fd ps (spD T ps.length (runB N.length Fb)) := by
  refine F.ok S (fun vs H Q E h => ?_) (fun cdv A outer s H vs Q E hr h => ?_)
  · obtain ⟨_, _, _, hl, _⟩ := h
    exact hl
  · obtain ⟨r, S0, ds, hl, sim, vd, h⟩ := h
    obtain ⟨t, p, a⟩ := (hb cdv A outer s H E hr ⟨rfl, S.nd, hK, takes_of rfl rfl rfl rfl⟩ (passes_of rfl)).ex
    exact ⟨t, p, a _ H r S0 _ _ sim (ER.start vd) (fin_post h)⟩

/-! ### calls -/
theorem post_at {r : Rp} {σ : L2.St} {H : Hp} {x : R D} {Q : VK} (h : PostG (vr T) T W r σ H x Q) : PostG (vr T) T (fun c dd _ H' => WE W σ c dd H') r [] H x Q := by
  cases x with
  | ok d S => exact h
  | err x S => exact h
  | stuck => exact h
/-- a call with as many arguments as there are parameters -/
def ofN (n : Nat) (F : DF) : GA := fun ds S => if ds.length = n then F ds S else .stuck
theorem ad_call {t : TA} {Fa : XA} {n : Nat} {F : DF} (a : AdA T W t Fa) : AdE T W (tCallS (spD T n F) (WE W) t) (xAr (ofN n F) Fa) := fun σ H r S ρ Q sim er hq =>
  a σ H r S ρ _ sim er (PostG.bind hq fun ds S1 r1 H1 vs l1 s1 sim1 v1 h1 => by
    unfold ofN at h1
    split at h1
    · rename_i hn
      exact ⟨r1, S1, ds, by rw [← v1.len]; exact hn, sim1, v1, post_at h1⟩
    · exact h1.elim)
theorem se_call {k j : Nat} {ps : List Str} {F : DF} {e : Expr} {es : List Expr} {p pos : Pos} {Fa : XA} (B : Bx T X W) (G : FnOk X.prog X.w X.K X.mg X.base (L2.CX X.prog X.w) k f fd ps (spD T ps.length F)) (hr : Room j X.A) (hk : PySem.W.keepIn X.K (.ref f) = true) (hb : Binds X.K fd ps []) (hm : X.mg x = some (.ref f))
    (ha : SA T X W (e :: es) Fa) (hkj : k ≤ j := by decide) (hg : Gl X x := by rfl) (hdb : (x == ("__debug__" : Str)) = false := by decide) (he : starEach (e :: es) X.env = (false, eval e X.env) :: starEach es X.env := by rfl) (hpl : (backTo pos (starEach es X.env)).any (·.1) = false := by rfl) :
    SE T X W (.Call (.Name x p) (e :: es) [] pos) (xAr (ofN ps.length F) Fa) := by
  obtain ⟨t, q, a⟩ := ha.ex
  exact ⟨⟨_, pe_callS G (hr.mono hkj) hg hm hk hb (passAt B.tk) q hdb he hpl, ad_call a⟩⟩
/-- a built-in function's, a built-in type's call -/
theorem se_callB {id : String} {rd : List V → Hp → VK → Prop} {g : GA} {e : Expr} {es : List Expr} {p pos : Pos} {Fa : XA} (hc : CallR X (.builtin id) rd) (hg : ArA T rd g) (hm : X.mg x = none) (hv : bootBuiltins x = some (.builtin id)) (ha : SA T X W (e :: es) Fa) (hgl : Gl X x := by rfl) (hn : x ≠ "__name__" := by decide) (hdb : (x == ("__debug__" : Str)) = false := by decide)
    (he : starEach (e :: es) X.env = (false, eval e X.env) :: starEach es X.env := by rfl) (hpl : (backTo pos (starEach es X.env)).any (·.1) = false := by rfl) : SE T X W (.Call (.Name x p) (e :: es) [] pos) (xAr g Fa) := by
  obtain ⟨t, q, a⟩ := ha.ex
  exact ⟨⟨_, pe_callB hc hgl hm hv q hn hdb he hpl, ad_ar a hg⟩⟩
theorem se_callTy {id : String} {rd : List V → Hp → VK → Prop} {g : GA} {e : Expr} {es : List Expr} {p pos : Pos} {Fa : XA} (hc : CallR X (.type id) rd) (hg : ArA T rd g) (hm : X.mg x = none) (hv : bootBuiltins x = some (.type id)) (ha : SA T X W (e :: es) Fa) (hgl : Gl X x := by rfl) (hn : x ≠ "__name__" := by decide) (hdb : (x == ("__debug__" : Str)) = false := by decide)
    (he : starEach (e :: es) X.env = (false, eval e X.env) :: starEach es X.env := by rfl) (hpl : (backTo pos (starEach es X.env)).any (·.1) = false := by rfl) : SE T X W (.Call (.Name x p) (e :: es) [] pos) (xAr g Fa) := by
  obtain ⟨t, q, a⟩ := ha.ex
  exact ⟨⟨_, pe_callTy hc hgl hm hv q hn hdb he hpl, ad_ar a hg⟩⟩
/-- a comprehension's block -/
theorem Bx.blk (B : Bx T X W) (s : Shared) (H : Hp) (scope : Scope) (cenv : PySem.Env) (fp : List Addr) : Bx T (X.blk s H scope cenv fp) W0 := ⟨B.calm, B.nd, B.hK, takes0⟩
end
end DM

/-! DMH: operators on data. -/
namespace DM
open PySem PySem.Spec PyProof.Rows L2

section
variable {T : Tx} {X : Cx} {W : WX}
theorem VR.int' {r : Rp} {H : Hp} {i : Int} {v : V} (h : VR T r H (.int i) v) : v = .int i := by simpa only [VR] using h
theorem VR.str' {r : Rp} {H : Hp} {i : Str} {v : V} (h : VR T r H (.str i) v) : v = .str i := by simpa only [VR] using h
theorem VR.bl' {r : Rp} {H : Hp} {i : Bool} {v : V} (h : VR T r H (.bl i) v) : v = .bl i := by simpa only [VR] using h
theorem VR.non' {r : Rp} {H : Hp} {v : V} (h : VR T r H .non v) : v = .non := by simpa only [VR] using h
theorem VR.tup' {r : Rp} {H : Hp} {ds : List D} {v : V} (h : VR T r H (.tup ds) v) : ∃ a xs, v = .ref a ∧ SqT T.K H a xs ∧ VRs T r H ds xs := by simpa only [VR] using h
theorem VR.loc' {r : Rp} {H : Hp} {n : Nat} {v : V} (h : VR T r H (.loc n) v) : ∃ a, r.ad[n]? = some a ∧ v = .ref a := by simpa only [VR] using h
theorem VR.ofInt {r : Rp} {H : Hp} {i : Int} : VR T r H (.int i) (.int i) := by simp only [VR]
theorem VR.ofStr {r : Rp} {H : Hp} {i : Str} : VR T r H (.str i) (.str i) := by simp only [VR]
theorem VR.ofBl {r : Rp} {H : Hp} {i : Bool} : VR T r H (.bl i) (.bl i) := by simp only [VR]
theorem VR.ofNon {r : Rp} {H : Hp} : VR T r H .non .non := by simp only [VR]
/-- a list of the store -/
theorem Sim.lst {r : Rp} {S : Store} {H : Hp} (s : Sim T r S H) {n : Nat} {ds : List D} (e : S[n]? = some (.lst ds)) {v : V} (h : VR T r H (.loc n) v) : ∃ a xs, v = .ref a ∧ r.ad[n]? = some a ∧ H a = some (.lst xs) ∧ VRs T r H ds xs := by
  obtain ⟨a, ea, rfl⟩ := h.loc'
  obtain ⟨b, eb, xs, hx, vx⟩ := s.ob n _ e
  rw [ea] at eb; cases eb
  exact ⟨a, xs, rfl, ea, hx, vx⟩
theorem post_ok {r : Rp} {σ : L2.St} {H : Hp} {S : Store} {d : D} {v : V} {Q : VK} (h : PostG (vr T) T W r σ H (.ok d S) Q) (sim : Sim T r S H) (vd : VR T r H d v) : Q v H := h r H v (Rp.le_refl _) (Stay.refl _) sim vd
theorem post_app {r : Rp} {σ : L2.St} {H : Hp} {S : Store} {es : List D} {n : Nat} {a : Addr} {xs ys : List V} {d : D} {v : V} {Q : VK} (h : PostG (vr T) T W r σ H (.ok d (S.set n (.lst es))) Q) (sim : Sim T r S H) (ea : r.ad[n]? = some a) (hx : H a = some (.lst xs)) (ve : VRs T r H es ys) (vd : ∀ r H, VR T r H d v) : Q v (upd H a (.lst ys)) :=
  h r _ v (Rp.le_refl _) (Stay.upd hx True.intro) (sim.put ea hx True.intro ⟨ys, upd_same, ve.mono (Rp.le_refl _) (Stay.upd hx True.intro)⟩) (vd _ _)

/-! ### ints -/
def dII (g : Int → Int → D) : G2 := fun d e S => match d, e with
  | .int i, .int j => .ok (g i j) S
  | _, _ => .stuck
theorem opa_I0 {g : Int → Int → D} {gv : Int → Int → V} (hv : ∀ i j r H, VR T r H (g i j) (gv i j)) : OpA T (rI0 gv) (dII g) := fun W σ r S H d e x y Q sim vx vy h => by
  unfold dII at h
  split at h
  · rename_i i j
    exact ⟨i, j, vx.int', vy.int', post_ok h sim (hv _ _ _ _)⟩
  · exact h.elim
def dIC (C : Int → Int → Prop) [∀ i j, Decidable (C i j)] (g : Int → Int → D) : G2 := fun d e S => match d, e with
  | .int i, .int j => if C i j then .ok (g i j) S else .stuck
  | _, _ => .stuck
theorem opa_I {C : Int → Int → Prop} [∀ i j, Decidable (C i j)] {g : Int → Int → D} {gv : Int → Int → V} (hv : ∀ i j r H, VR T r H (g i j) (gv i j)) : OpA T (rI C gv) (dIC C g) := fun W σ r S H d e x y Q sim vx vy h => by
  unfold dIC at h
  split at h
  · rename_i i j
    split at h
    · rename_i hc
      exact ⟨i, j, vx.int', vy.int', hc, post_ok h sim (hv _ _ _ _)⟩
    · exact h.elim
  · exact h.elim
theorem OpA.or {r1 r2 : R2} {g1 g2 g : G2} (h1 : OpA T r1 g1) (h2 : OpA T r2 g2) (hg : ∀ d e S, g d e S = g1 d e S ∨ g d e S = g2 d e S) : OpA T (fun x y H Q => r1 x y H Q ∨ r2 x y H Q) g := fun W σ r S H d e x y Q sim vx vy h => by
  rcases hg d e S with q | q
  · rw [q] at h; exact .inl (h1 W σ r S H d e x y Q sim vx vy h)
  · rw [q] at h; exact .inr (h2 W σ r S H d e x y Q sim vx vy h)
instance (i j : Int) : Decidable (CMulW i j) := by unfold CMulW; infer_instance
instance (i j : Int) : Decidable (CDivW i j) := by unfold CDivW; infer_instance
instance (i j : Int) : Decidable (CPow i j) := by unfold CPow; infer_instance
abbrev dSub : G2 := dII fun i j => .int (i - j)
abbrev dLt : G2 := dII fun i j => .bl (decide (i < j))
abbrev dLe : G2 := dII fun i j => .bl (decide (i ≤ j))
abbrev dGt : G2 := dII fun i j => .bl (decide (j < i))
abbrev dGe : G2 := dII fun i j => .bl (decide (j ≤ i))
abbrev dMod : G2 := dIC (fun _ j => 0 < j) fun i j => .int (i % j)
abbrev dDiv : G2 := dIC CDivW fun i j => .int (i / j)
abbrev dPow : G2 := dIC CPow fun i j => .int (i ^ j.toNat)
theorem a_sub : OpA T (rI0 fun i j => .int (i - j)) dSub := opa_I0 fun _ _ _ _ => VR.ofInt
theorem a_lt : OpA T (rI0 fun i j => .bl (decide (i < j))) dLt := opa_I0 fun _ _ _ _ => VR.ofBl
theorem a_le : OpA T (rI0 fun i j => .bl (decide (i ≤ j))) dLe := opa_I0 fun _ _ _ _ => VR.ofBl
theorem a_gt : OpA T (rI0 fun i j => .bl (decide (j < i))) dGt := opa_I0 fun _ _ _ _ => VR.ofBl
theorem a_ge : OpA T (rI0 fun i j => .bl (decide (j ≤ i))) dGe := opa_I0 fun _ _ _ _ => VR.ofBl
theorem a_mod : OpA T (rI (fun _ j => 0 < j) fun i j => .int (i % j)) dMod := opa_I fun _ _ _ _ => VR.ofInt
theorem a_div : OpA T (rI CDivW fun i j => .int (i / j)) dDiv := opa_I fun _ _ _ _ => VR.ofInt
theorem a_pow : OpA T (rI CPow fun i j => .int (i ^ j.toNat)) dPow := opa_I fun _ _ _ _ => VR.ofInt
def dNeg : G1 := fun d S => match d with
  | .int i => .ok (.int (-i)) S
  | _ => .stuck
theorem a_neg : UnA T (rU fun i => .int (-i)) dNeg := fun W σ r S H d x Q sim vx h => by
  cases d with
  | int i => exact ⟨i, vx.int', post_ok h sim VR.ofInt⟩
  | _ => exact h.elim

/-! ### a + b -/
def dAddI : G2 := dII fun i j => .int (i + j)
def dAddS : G2 := fun d e S => match d, e with
  | .str x, .str y => if x.length + y.length ≤ sizeLine then .ok (.str (x ++ y)) S else .stuck
  | _, _ => .stuck
def dAddT : G2 := fun d e S => match d, e with
  | .tup a, .tup b => if a.length + b.length ≤ sizeLine then .ok (.tup (a ++ b)) S else .stuck
  | _, _ => .stuck
def dAddL : G2 := fun d e S => match d, e with
  | .loc m, .loc n => match S[m]?, S[n]? with
    | some (.lst a), some (.lst b) => if a.length + b.length ≤ sizeLine then .ok (.loc S.length) (S ++ [.lst (a ++ b)]) else .stuck
    | _, _ => .stuck
  | _, _ => .stuck
def dAdd : G2 := fun d e S => match d with
  | .int _ => dAddI d e S
  | .str _ => dAddS d e S
  | .tup _ => dAddT d e S
  | _ => dAddL d e S
theorem a_addS : OpA T (fun x y H Q => ∃ i j, x = .str i ∧ y = .str j ∧ i.length + j.length ≤ sizeLine ∧ Q (.str (i ++ j)) H) dAddS := fun W σ r S H d e x y Q sim vx vy h => by
  unfold dAddS at h
  split at h
  · rename_i i j
    split at h
    · rename_i hl
      exact ⟨i, j, vx.str', vy.str', hl, post_ok h sim VR.ofStr⟩
    · exact h.elim
  · exact h.elim
theorem a_addT : OpA T (rCatA T.K) dAddT := fun W σ r S H d e x y Q sim vx vy h => by
  unfold dAddT at h
  split at h
  · rename_i a b
    split at h
    · rename_i hl
      obtain ⟨p, xs, ex, tx, wx⟩ := vx.tup'
      obtain ⟨q, ys, ey, ty, wy⟩ := vy.tup'
      have l1 := wx.len
      have l2 := wy.len
      refine ⟨p, q, xs, ys, ex, ey, tx, ty, by omega, fun e0 => ?_, fun e0 e1 => ?_, fun e0 e1 => ?_⟩
      · subst e0
        have : a = [] := List.eq_nil_of_length_eq_zero (by simpa using l1)
        subst this
        exact post_ok h sim (by simp only [VR, List.nil_append]; exact ⟨q, ys, rfl, ty, wy⟩)
      · subst e1
        have : b = [] := List.eq_nil_of_length_eq_zero (by simpa using l2)
        subst this
        exact post_ok h sim (by simp only [VR, List.append_nil]; exact ⟨p, xs, rfl, tx, wx⟩)
      · exact post_newTup sim (wx.app wy) h
    · exact h.elim
  · exact h.elim
theorem a_addL : OpA T rCat dAddL := fun W σ r S H d e x y Q sim vx vy h => by
  unfold dAddL at h
  split at h
  · rename_i m n
    split at h
    · rename_i a b e1 e2
      split at h
      · rename_i hl
        obtain ⟨p, xs, ex, _, hx, wx⟩ := sim.lst e1 vx
        obtain ⟨q, ys, ey, _, hy, wy⟩ := sim.lst e2 vy
        exact ⟨p, q, xs, ys, ex, ey, hx, hy, by rw [← wx.len, ← wy.len]; exact hl, post_newLst sim (wx.app wy) h⟩
      · exact h.elim
    · exact h.elim
  · exact h.elim
abbrev rAddAll (K : PySem.W.Frag) : R2 := fun x y H Q => rI0 (fun i j => .int (i + j)) x y H Q ∨ ((∃ i j, x = .str i ∧ y = .str j ∧ i.length + j.length ≤ sizeLine ∧ Q (.str (i ++ j)) H) ∨ (rCatA K x y H Q ∨ rCat x y H Q))
theorem op_addAll : OpR X (binaryOp .Add) (rAddAll X.K) := OpR.or op_add (OpR.or op_add_str (OpR.or op_catA op_cat))
theorem a_addAll : OpA T (rAddAll T.K) dAdd := fun W σ r S H d e x y Q sim vx vy h => by
  unfold dAdd at h
  split at h
  · exact .inl (opa_I0 (fun _ _ _ _ => VR.ofInt) W σ r S H _ e x y Q sim vx vy h)
  · exact .inr (.inl (a_addS W σ r S H _ e x y Q sim vx vy h))
  · exact .inr (.inr (.inl (a_addT W σ r S H _ e x y Q sim vx vy h)))
  · exact .inr (.inr (.inr (a_addL W σ r S H _ e x y Q sim vx vy h)))
/-! ### a * b -/
def dMulI : G2 := dIC CMulW fun i j => .int (i * j)
def dMulL : G2 := fun d e S => match d, e with
  | .loc m, .int k => match S[m]? with
    | some (.lst a) => if -(2 ^ 63) ≤ k ∧ k < 2 ^ 63 ∧ a.length * k.toNat ≤ sizeLine then .ok (.loc S.length) (S ++ [.lst (List.replicate k.toNat a).flatten]) else .stuck
    | _ => .stuck
  | _, _ => .stuck
theorem VRs.flat {r : Rp} {H : Hp} {ds : List D} {xs : List V} (h : VRs T r H ds xs) : ∀ n : Nat, VRs T r H (List.replicate n ds).flatten (List.replicate n xs).flatten
  | 0 => by simpa using VRs.nil
  | n + 1 => by
    rw [List.replicate_succ, List.replicate_succ, List.flatten_cons, List.flatten_cons]
    exact h.app (VRs.flat h n)
theorem a_mulL : OpA T rRep dMulL := fun W σ r S H d e x y Q sim vx vy h => by
  unfold dMulL at h
  split at h
  · rename_i m k
    split at h
    · rename_i a e1
      split at h
      · rename_i hl
        obtain ⟨p, xs, ex, _, hx, wx⟩ := sim.lst e1 vx
        exact ⟨p, k, xs, ex, vy.int', hx, hl.1, hl.2.1, by rw [← wx.len]; exact hl.2.2, post_newLst sim (wx.flat _) h⟩
      · exact h.elim
    · exact h.elim
  · exact h.elim
end
end DM

/-! DMI: equality, in, subscripts, slices, lists' methods, built-ins. -/
namespace DM
open PySem PySem.Spec PyProof.Rows L2

section
variable {T : Tx} {X : Cx} {W : WX}
/-! ### data as the library has them -/
mutual
def pyD (S : Store) : Nat → D → Option PyData
  | 0, _ => none
  | n + 1, .non => some .none
  | n + 1, .bl b => some (.bool b)
  | n + 1, .int i => some (.int i)
  | n + 1, .str x => some (.str x)
  | n + 1, .tup ds => (pyDs S n ds).map .tuple
  | n + 1, .loc m => match S[m]? with
    | some (.lst ds) => (pyDs S n ds).map .list
    | _ => none
  | n + 1, .scr => none
def pyDs (S : Store) : Nat → List D → Option (List PyData)
  | 0, _ => none
  | n + 1, [] => some []
  | n + 1, d :: ds => match pyD S n d, pyDs S n ds with
    | some a, some b => some (a :: b)
    | _, _ => none
end
mutual
theorem pyD_dp {r : Rp} {S : Store} {H : Hp} (sim : Sim T r S H) : ∀ (n : Nat) (d : D) {v : V} {a : PyData}, VR T r H d v → pyD S n d = some a → Dp T.K H v a
  | 0, d, _, _, _, e => by unfold pyD at e; cases e
  | n + 1, .non, v, a, h, e => by unfold pyD at e; cases e; rw [h.non']; exact .non
  | n + 1, .bl b, v, a, h, e => by unfold pyD at e; cases e; rw [h.bl']; exact .bl b
  | n + 1, .int b, v, a, h, e => by unfold pyD at e; cases e; rw [h.int']; exact .int b
  | n + 1, .str b, v, a, h, e => by unfold pyD at e; cases e; rw [h.str']; exact .str b
  | n + 1, .tup ds, v, a, h, e => by
    unfold pyD at e
    obtain ⟨p, xs, rfl, t, w⟩ := h.tup'
    cases q : pyDs S n ds with
    | none => rw [q] at e; cases e
    | some l => rw [q] at e; cases e; exact .tup t (pyDs_dp sim n ds w q)
  | n + 1, .loc m, v, a, h, e => by
    unfold pyD at e
    cases q0 : S[m]? with
    | none => rw [q0] at e; cases e
    | some o =>
      rw [q0] at e
      cases o with
      | lst ds =>
        obtain ⟨p, xs, rfl, ea, hx, w⟩ := sim.lst q0 h
        simp only at e
        cases q : pyDs S n ds with
        | none => rw [q] at e; cases e
        | some l => rw [q] at e; cases e; exact .lst (SqL.of hx) (pyDs_dp sim n ds w q)
      | _ => cases e
  | n + 1, .scr, v, a, h, e => by unfold pyD at e; cases e
theorem pyDs_dp {r : Rp} {S : Store} {H : Hp} (sim : Sim T r S H) : ∀ (n : Nat) (ds : List D) {vs : List V} {as : List PyData}, VRs T r H ds vs → pyDs S n ds = some as → DpAll T.K H vs as
  | 0, ds, _, _, _, e => by unfold pyDs at e; cases e
  | n + 1, [], vs, as, h, e => by unfold pyDs at e; cases e; simp only [VRs] at h; subst h; exact .nil
  | n + 1, d :: ds, vs, as, h, e => by
    unfold pyDs at e
    simp only [VRs] at h
    obtain ⟨x, ys, rfl, a, b⟩ := h
    cases q1 : pyD S n d with
    | none => rw [q1] at e; cases e
    | some p =>
      cases q2 : pyDs S n ds with
      | none => rw [q1, q2] at e; cases e
      | some l => rw [q1, q2] at e; cases e; exact .cons (pyD_dp sim n d a q1) (pyDs_dp sim n ds b q2)
end
def fuel : Nat := 2000
def dEqB (neg : Bool) : G2 := fun d e S => match pyD S fuel d, pyD S fuel e with
  | some a, some b => if SeqAt.shaped a = true ∧ SeqAt.shaped b = true then .ok (.bl (if neg then !a.eqv b else a.eqv b)) S else .stuck
  | _, _ => .stuck
abbrev dEq : G2 := dEqB false
abbrev dNe : G2 := dEqB true
theorem a_eq : OpA T (rEqD T.K) dEq := fun W σ r S H d e x y Q sim vx vy h => by
  unfold dEq dEqB at h
  split at h
  · rename_i a b e1 e2
    split at h
    · rename_i hs
      exact ⟨a, b, pyD_dp sim _ _ vx e1, pyD_dp sim _ _ vy e2, hs.1, hs.2, post_ok h sim VR.ofBl⟩
    · exact h.elim
  · exact h.elim
theorem a_ne : OpA T (rNeD T.K) dNe := fun W σ r S H d e x y Q sim vx vy h => by
  unfold dNe dEqB at h
  split at h
  · rename_i a b e1 e2
    split at h
    · rename_i hs
      exact ⟨a, b, pyD_dp sim _ _ vx e1, pyD_dp sim _ _ vy e2, hs.1, hs.2, post_ok h sim VR.ofBl⟩
    · exact h.elim
  · exact h.elim
def isNonD : D → Bool
  | .non => true
  | _ => false
theorem VR.isN {r : Rp} {H : Hp} {d : D} {v : V} (h : VR T r H d v) : decide (v = .non) = isNonD d := by
  cases d with
  | non => rw [h.non']; rfl
  | bl b => rw [h.bl']; rfl
  | int b => rw [h.int']; rfl
  | str b => rw [h.str']; rfl
  | tup ds => obtain ⟨a, xs, rfl, _⟩ := h.tup'; rfl
  | loc n => obtain ⟨a, _, rfl⟩ := h.loc'; rfl
  | scr => simp only [VR] at h; rw [h]; rfl
/-- is None, is not None -/
def dIsN (neg : Bool) : G2 := fun d e S => match e with
  | .non => .ok (.bl (if neg then !isNonD d else isNonD d)) S
  | _ => .stuck
theorem a_isN : OpA T (fun x y H Q => y = .non ∧ Q (.bl (decide (x = .non))) H) (dIsN false) := fun W σ r S H d e x y Q sim vx vy h => by
  cases e with
  | non =>
    refine ⟨vy.non', ?_⟩
    rw [vx.isN]
    exact post_ok h sim VR.ofBl
  | _ => exact h.elim
theorem a_notN : OpA T (fun x y H Q => y = .non ∧ Q (.bl (!decide (x = .non))) H) (dIsN true) := fun W σ r S H d e x y Q sim vx vy h => by
  cases e with
  | non =>
    refine ⟨vy.non', ?_⟩
    rw [vx.isN]
    exact post_ok h sim VR.ofBl
  | _ => exact h.elim

/-! ### subscripts -/
def dIx : G2 := fun d e S => match e with
  | .int i => match d with
    | .loc n => match S[n]? with
      | some (.lst ds) => match atI ds i with
        | some y => .ok y S
        | none => .stuck
      | _ => .stuck
    | .tup ds => match atI ds i with
      | some y => .ok y S
      | none => .stuck
    | .str x => if x.length ≤ sizeLine then (match atI x.cps.toList i with
      | some c => .ok (.str ⟨#[c]⟩) S
      | none => .stuck) else .stuck
    | _ => .stuck
  | _ => .stuck
theorem VRs.atI {r : Rp} {H : Hp} {ds : List D} {xs : List V} (w : VRs T r H ds xs) {i : Int} {d : D} (e : L2.atI ds i = some d) : ∃ x, L2.atI xs i = some x ∧ VR T r H d x := by
  unfold L2.atI at e ⊢
  rw [w.len] at e
  cases q : ixN xs.length i with
  | none => rw [q] at e; cases e
  | some j =>
    rw [q] at e
    obtain ⟨x, ex, vx⟩ := w.get (show ds[j]? = some d from e)
    exact ⟨x, ex, vx⟩
theorem a_ix : OpA T (rIx T.K) dIx := fun W σ r S H d e x y Q sim vx vy h => by
  unfold dIx at h
  cases e with
  | int i =>
    simp only at h
    cases d with
    | loc n =>
      simp only at h
      split at h
      · rename_i ds e1
        split at h
        · rename_i z e2
          obtain ⟨a, xs, ex, ea, hx, w⟩ := sim.lst e1 vx
          obtain ⟨u, eu, vu⟩ := w.atI e2
          exact .inl ⟨a, xs, i, u, ex, vy.int', SqL.of hx, eu, post_ok h sim vu⟩
        · exact h.elim
      · exact h.elim
    | tup ds =>
      simp only at h
      split at h
      · rename_i z e2
        obtain ⟨a, xs, ex, t, w⟩ := vx.tup'
        obtain ⟨u, eu, vu⟩ := w.atI e2
        exact .inr (.inl ⟨a, xs, i, u, ex, vy.int', t, eu, post_ok h sim vu⟩)
      · exact h.elim
    | str z =>
      simp only at h
      split at h
      · rename_i hl
        split at h
        · rename_i c ec
          exact .inr (.inr ⟨z, i, c, vx.str', vy.int', hl, ec, post_ok h sim VR.ofStr⟩)
        · exact h.elim
      · exact h.elim
    | _ => exact h.elim
  | _ => exact h.elim
theorem se_ix {a b : Expr} {pos : Pos} {Fa Fb : XF} (B : Bx T X W) (ha : SE T X W a Fa) (hb : SE T X W b Fb) (hs : PlainIx b := by exact fun _ _ => rfl) : SE T X W (.Subscript a b pos) (xOp dIx Fa Fb) := by
  obtain ⟨ta, pa, aa⟩ := ha.ex
  obtain ⟨tb, pb, ab⟩ := hb.ex
  have q := pe_ix (pos := pos) (ix_seq (X := X)) pa pb hs
  rw [B.hK] at q
  exact ⟨⟨_, q, ad_op aa ab a_ix⟩⟩
/-! ### slices -/
def cutD (ds : List D) (lo hi : Option Int) : List D := (ds.drop (HT.sIx ds.length 0 lo)).take (HT.sIx ds.length ds.length hi - HT.sIx ds.length 0 lo)
theorem VRs.cut {r : Rp} {H : Hp} {ds : List D} {xs : List V} (w : VRs T r H ds xs) (lo hi : Option Int) : VRs T r H (cutD ds lo hi) (cutV xs lo hi) := by
  unfold cutD cutV
  rw [w.len]
  exact (w.drop _).take _
def gSl (d : D) (lo hi : Option Int) (S : Store) : R D := match d with
  | .loc n => match S[n]? with
    | some (.lst ds) => .ok (.loc S.length) (S ++ [.lst (cutD ds lo hi)])
    | _ => .stuck
  | .tup ds => .ok (.tup (cutD ds lo hi)) S
  | .str x => if x.length ≤ sizeLine then .ok (.str (cutS x lo hi)) S else .stuck
  | _ => .stuck
abbrev XO := Env → Store → R (Option Int)
def AdO (T : Tx) (W : WX) (t : TO) (F : XO) : Prop := ∀ (σ : L2.St) (H : Hp) (r : Rp) (S : Store) (ρ : Env) (Q : Option Int → Hp → Prop), Sim T r S H → ER T r H ρ σ → PostG (fun _ _ a b => a = b) T W r σ H (F ρ S) Q → t σ H Q
structure SO (T : Tx) (X : Cx) (W : WX) (e : Option Expr) (F : XO) : Prop where
  ex : ∃ t, PO X e t ∧ AdO T W t F
def xNoPart : XO := fun _ S => .ok none S
def xPart (F : XF) : XO := fun ρ S => (F ρ S).bind fun d S1 => match d with
  | .int i => .ok (some i) S1
  | _ => .stuck
theorem so_none : SO T X W none xNoPart := ⟨⟨_, po_none, fun σ H r S ρ Q sim er h => h r H none (Rp.le_refl _) (Stay.refl _) sim rfl⟩⟩
theorem so_some {e : Expr} {F : XF} (h : SE T X W e F) : SO T X W (some e) (xPart F) := by
  obtain ⟨t, p, a⟩ := h.ex
  refine ⟨⟨_, po_some p, fun σ H r S ρ Q sim er hq => a σ H r S ρ _ sim er (PostG.bind hq fun d S1 r1 H1 v l1 s1 sim1 v1 h1 => ?_)⟩⟩
  cases d with
  | int i => exact ⟨i, v1.int', h1 r1 H1 _ (Rp.le_refl _) (Stay.refl _) sim1 rfl⟩
  | _ => exact h1.elim
theorem SlR.or {r1 r2 : V → Option Int → Option Int → Hp → VK → Prop} (h1 : L2.SlR X r1) (h2 : L2.SlR X r2) : L2.SlR X (fun x lo hi H Q => r1 x lo hi H Q ∨ r2 x lo hi H Q) := by
  intro pins s σ H x v lo hi
  intros
  rename_i q
  rcases q with q | q
  · apply h1 <;> assumption
  · apply h2 <;> assumption
def xSl (F : XF) (lo hi : XO) : XF := fun ρ S => (F ρ S).bind fun d S1 => (lo ρ S1).bind fun l S2 => (hi ρ S2).bind fun u S3 => gSl d l u S3
theorem se_slice {e : Expr} {lo hi : Option Expr} {pos p2 : Pos} {F : XF} {Fl Fh : XO} (B : Bx T X W) (he : SE T X W e F) (hl : SO T X W lo Fl) (hh : SO T X W hi Fh) : SE T X W (.Subscript e (.Slice lo hi none p2) pos) (xSl F Fl Fh) := by
  obtain ⟨t, p, a⟩ := he.ex
  obtain ⟨tl, pl, al⟩ := hl.ex
  obtain ⟨th, ph, ah⟩ := hh.ex
  have q := pe_slice (pos := pos) (p2 := p2) (SlR.or (sl_list (X := X)) (SlR.or sl_tupA sl_str)) p pl ph
  rw [B.hK] at q
  refine ⟨⟨_, q, fun σ H r S ρ Q sim er hq => a σ H r S ρ _ sim er (PostG.bind hq fun d S1 r1 H1 v l1 s1 sim1 v1 h1 => al σ H1 r1 S1 ρ _ sim1 (er.mono l1 s1) (PostG.bind h1 fun l S2 r2 H2 l' l2 s2 sim2 el h2 =>
    ah σ H2 r2 S2 ρ _ sim2 (er.mono (l1.trans l2) (s1.trans s2)) (PostG.bind h2 fun u S3 r3 H3 u' l3 s3 sim3 eu h3 => ?_)))⟩⟩
  have el' : l = l' := el
  have eu' : u = u' := eu
  subst el' eu'
  have v3 := v1.mono (l2.trans l3) (s2.trans s3)
  cases d with
  | loc n =>
    unfold gSl at h3
    simp only at h3
    split at h3
    · rename_i ds e1
      obtain ⟨b, xs, ex, eb, hx, w⟩ := sim3.lst e1 v3
      exact .inl ⟨b, xs, ex, SqL.of hx, post_newLst sim3 (w.cut l u) h3⟩
    · exact h3.elim
  | tup ds =>
    obtain ⟨b, xs, ex, t1, w⟩ := v3.tup'
    refine .inr (.inl ⟨b, xs, ex, t1, fun hw => ?_, fun _ => post_newTup sim3 (w.cut l u) h3⟩)
    have ec : cutD ds l u = ds := by
      unfold cutD
      rw [w.len, hw.1, hw.2, ← w.len]
      simp
    exact post_ok h3 sim3 (by simp only [VR]; exact ⟨b, xs, rfl, t1, by rw [ec]; exact w⟩)
  | str z =>
    unfold gSl at h3
    simp only at h3
    split at h3
    · rename_i hz
      exact .inr (.inr ⟨z, v3.str', hz, post_ok h3 sim3 VR.ofStr⟩)
    · exact h3.elim
  | _ => exact h3.elim
end
end DM

/-! DMJ: lists' methods, built-ins, stores by place. -/
namespace DM
open PySem PySem.Spec PyProof.Rows L2

section
variable {T : Tx} {X : Cx} {W : WX}
/-! ### methods of lists -/
abbrev GM := D → List D → Store → R D
def MtA (T : Tx) (rd : V → List V → Hp → VK → Prop) (g : GM) : Prop := ∀ (W : WX) (σ : L2.St) (r : Rp) (S : Store) (H : Hp) (d : D) (x : V) (ds : List D) (xs : List V) (Q : VK), Sim T r S H → VR T r H d x → VRs T r H ds xs → PostG (vr T) T W r σ H (g d ds S) Q → rd x xs H Q
def isLst (d : D) (S : Store) : Bool := match d with
  | .loc n => match S[n]? with
    | some (.lst _) => true
    | _ => false
  | _ => false
theorem isLst_ty {r : Rp} {S : Store} {H : Hp} {d : D} {x : V} (sim : Sim T r S H) (v : VR T r H d x) (h : isLst d S = true) : tyV T.K "list" x H := by
  unfold isLst at h
  split at h
  · split at h
    · rename_i n _ ds e
      obtain ⟨a, xs, rfl, _, hx, _⟩ := sim.lst e v
      exact .inl ⟨rfl, xs, SqL.of hx⟩
    · cases h
  · cases h
def xMt (g : GM) (o : XF) (a : XA) : XF := fun ρ S => (o ρ S).bind fun d S1 => if isLst d S1 = true then (a ρ S1).bind fun ds S2 => g d ds S2 else .stuck
def xMt0 (g : GM) (o : XF) : XF := fun ρ S => (o ρ S).bind fun d S1 => if isLst d S1 = true then g d [] S1 else .stuck
theorem ad_mt {to : TE} {t : TA} {Fo : XF} {Fa : XA} {rd : V → List V → Hp → VK → Prop} {g : GM} (ao : AdE T W to Fo) (aa : AdA T W t Fa) (hg : MtA T rd g) : AdE T W (tBM T.K "list" rd to t) (xMt g Fo Fa) := fun σ H r S ρ Q sim er h =>
  ao σ H r S ρ _ sim er (PostG.bind h fun d S1 r1 H1 v l1 s1 sim1 v1 h1 => by
    split at h1
    · rename_i hd
      exact ⟨isLst_ty sim1 v1 hd, aa σ H1 r1 S1 ρ _ sim1 (er.mono l1 s1) (PostG.bind h1 fun ds S2 r2 H2 vs l2 s2 sim2 v2 h2 => hg W σ r2 S2 H2 d v ds vs Q sim2 (v1.mono l2 s2) v2 h2)⟩
    · exact h1.elim)
theorem ad_mt0 {to : TE} {Fo : XF} {rd : V → List V → Hp → VK → Prop} {g : GM} (ao : AdE T W to Fo) (hg : MtA T rd g) : AdE T W (tBM0 T.K "list" rd to) (xMt0 g Fo) := fun σ H r S ρ Q sim er h =>
  ao σ H r S ρ _ sim er (PostG.bind h fun d S1 r1 H1 v l1 s1 sim1 v1 h1 => by
    split at h1
    · rename_i hd
      exact ⟨isLst_ty sim1 v1 hd, hg W σ r1 S1 H1 d v [] [] Q sim1 v1 VRs.nil h1⟩
    · exact h1.elim)
theorem se_mt {o e : Expr} {es : List Expr} {name : Str} {apos cpos : Pos} {id : String} {rd : V → List V → Hp → VK → Prop} {g : GM} {Fo : XF} {Fa : XA} (B : Bx T X W) (slot : Slot "list" name id) (hty : typeOf (.builtin id) = pure (.type "method_descriptor")) (hm : MtR X id rd) (hg : MtA T rd g) (ho : SE T X W o Fo) (ha : SA T X W (e :: es) Fa)
    (h1 : attributeBase o name X.env (eval o X.env) = eval o X.env := by rfl) (h2 : (((backTo cpos (starEach (e :: es) X.env)).all fun x => !x.1) && ((backToKw cpos (keywordEach [] X.env)).all fun x => x.1.isSome) && decide ((e :: es).length + ([] : List Keyword).length + (if ([] : List Keyword).isEmpty = true then 0 else 1) < 30)) = true := by rfl)
    (h3 : (apos.endLine == cpos.line) = true := by rfl) (h4 : starEach (e :: es) X.env = (false, eval e X.env) :: starEach es X.env := by rfl) (h5 : ((backTo cpos (starEach es X.env)).any fun x => x.1) = false := by rfl) :
    SE T X W (.Call (.Attribute o name apos) (e :: es) [] cpos) (xMt g Fo Fa) := by
  obtain ⟨to, po, ao⟩ := ho.ex
  obtain ⟨t, pa, aa⟩ := ha.ex
  have q := pe_bm (apos := apos) (cpos := cpos) PySem.F.plainAttrs_list slot hty hm po pa h1 h2 h3 h4 h5
  rw [B.hK] at q
  exact ⟨⟨_, q, ad_mt ao aa hg⟩⟩
theorem se_mt0 {o : Expr} {name : Str} {apos cpos : Pos} {id : String} {rd : V → List V → Hp → VK → Prop} {g : GM} {Fo : XF} (B : Bx T X W) (slot : Slot "list" name id) (hty : typeOf (.builtin id) = pure (.type "method_descriptor")) (hm : MtR X id rd) (hg : MtA T rd g) (ho : SE T X W o Fo)
    (h1 : attributeBase o name X.env (eval o X.env) = eval o X.env := by rfl) (h3 : (apos.endLine == cpos.line) = true := by rfl) : SE T X W (.Call (.Attribute o name apos) [] [] cpos) (xMt0 g Fo) := by
  obtain ⟨to, po, ao⟩ := ho.ex
  have q := pe_bm0 (apos := apos) (cpos := cpos) PySem.F.plainAttrs_list slot hty hm po h1 h3
  rw [B.hK] at q
  exact ⟨⟨_, q, ad_mt0 ao hg⟩⟩
def gAppend : GM := fun d ds S => match d, ds with
  | .loc n, [y] => match S[n]? with
    | some (.lst xs) => if xs.length < sizeLine then .ok .non (S.set n (.lst (xs ++ [y]))) else .stuck
    | _ => .stuck
  | _, _ => .stuck
theorem a_append : MtA T rAppend gAppend := fun W σ r S H d x ds xs Q sim vx vs h => by
  unfold gAppend at h
  split at h
  · rename_i n y
    split at h
    · rename_i zs e
      split at h
      · rename_i hl
        obtain ⟨a, ws, ex, ea, hx, w⟩ := sim.lst e vx
        simp only [VRs] at vs
        obtain ⟨u, us, e1, vu, e2⟩ := vs
        subst e2
        exact ⟨a, ws, u, ex, e1, hx, by rw [← w.len]; exact hl, post_app h sim ea hx (w.app (VRs.cons vu VRs.nil)) fun _ _ => VR.ofNon⟩
      · exact h.elim
    · exact h.elim
  · exact h.elim
def gExtend : GM := fun d ds S => match d, ds with
  | .loc n, [.loc m] => match S[n]?, S[m]? with
    | some (.lst xs), some (.lst ys) => if xs.length + ys.length ≤ sizeLine then .ok .non (S.set n (.lst (xs ++ ys))) else .stuck
    | _, _ => .stuck
  | _, _ => .stuck
theorem a_extend : MtA T rExtend gExtend := fun W σ r S H d x ds xs Q sim vx vs h => by
  unfold gExtend at h
  split at h
  · rename_i n m
    split at h
    · rename_i zs ys e e'
      split at h
      · rename_i hl
        obtain ⟨a, ws, ex, ea, hx, w⟩ := sim.lst e vx
        simp only [VRs] at vs
        obtain ⟨u, us, e1, vu, e2⟩ := vs
        subst e2
        obtain ⟨b, ws', ex', ea', hx', w'⟩ := sim.lst e' vu
        exact ⟨a, b, ws, ws', ex, by rw [e1, ex'], hx, hx', by rw [← w.len, ← w'.len]; exact hl, post_app h sim ea hx (w.app w') fun _ _ => VR.ofNon⟩
      · exact h.elim
    · exact h.elim
  · exact h.elim
theorem post_put {r : Rp} {σ : L2.St} {H : Hp} {S : Store} {es : List D} {n : Nat} {a : Addr} {xs ys : List V} {d : D} {v : V} {Q : VK} (h : PostG (vr T) T W r σ H (.ok d (S.set n (.lst es))) Q) (sim : Sim T r S H) (ea : r.ad[n]? = some a) (hx : H a = some (.lst xs)) (ve : VRs T r H es ys) (vd : VR T r H d v) : Q v (upd H a (.lst ys)) :=
  h r _ v (Rp.le_refl _) (Stay.upd hx True.intro) (sim.put ea hx True.intro ⟨ys, upd_same, ve.mono (Rp.le_refl _) (Stay.upd hx True.intro)⟩) (vd.mono (Rp.le_refl _) (Stay.upd hx True.intro))
def gPop : GM := fun d ds S => match d, ds with
  | .loc n, [] => match S[n]? with
    | some (.lst xs) => match xs[xs.length - 1]? with
      | some y => .ok y (S.set n (.lst xs.dropLast))
      | none => .stuck
    | _ => .stuck
  | _, _ => .stuck
theorem VRs.dropLast {r : Rp} {H : Hp} {ds : List D} {xs : List V} (w : VRs T r H ds xs) : VRs T r H ds.dropLast xs.dropLast := by
  rw [List.dropLast_eq_take, List.dropLast_eq_take, w.len]
  exact w.take _
theorem a_pop : MtA T rPop gPop := fun W σ r S H d x ds xs Q sim vx vs h => by
  unfold gPop at h
  split at h
  · rename_i n
    split at h
    · rename_i zs e
      split at h
      · rename_i y ey
        obtain ⟨a, ws, ex, ea, hx, w⟩ := sim.lst e vx
        simp only [VRs] at vs
        rw [w.len] at ey
        obtain ⟨u, eu, vu⟩ := w.get ey
        exact ⟨a, ws, u, ex, vs, hx, eu, post_put h sim ea hx w.dropLast vu⟩
      · exact h.elim
    · exact h.elim
  · exact h.elim
def gPopAt : GM := fun d ds S => match d, ds with
  | .loc n, [.int i] => match S[n]? with
    | some (.lst xs) => if -(2 ^ 63) ≤ i ∧ i < 2 ^ 63 then (match seqIndex? i xs.length with
      | some k => match xs[k]? with
        | some y => .ok y (S.set n (.lst (xs.eraseIdx k)))
        | none => .stuck
      | none => .stuck) else .stuck
    | _ => .stuck
  | _, _ => .stuck
theorem VRs.erase {r : Rp} {H : Hp} : ∀ {ds : List D} {xs : List V} (n : Nat), VRs T r H ds xs → VRs T r H (ds.eraseIdx n) (xs.eraseIdx n)
  | [], _, _, h => by simp only [VRs] at h; subst h; exact VRs.nil
  | e :: ds, _, 0, h => by
    simp only [VRs] at h
    obtain ⟨y, zs, rfl, a, b⟩ := h
    exact b
  | e :: ds, _, n + 1, h => by
    simp only [VRs] at h
    obtain ⟨y, zs, rfl, a, b⟩ := h
    exact VRs.cons a (VRs.erase n b)
theorem a_popAt : MtA T rPopAt gPopAt := fun W σ r S H d x ds xs Q sim vx vs h => by
  unfold gPopAt at h
  split at h
  · rename_i n i
    split at h
    · rename_i zs e
      split at h
      · rename_i hi
        split at h
        · rename_i k ek
          split at h
          · rename_i y ey
            obtain ⟨a, ws, ex, ea, hx, w⟩ := sim.lst e vx
            simp only [VRs] at vs
            obtain ⟨u, us, e1, vu, e2⟩ := vs
            subst e2
            obtain ⟨z, ez, vz⟩ := w.get ey
            exact ⟨a, ws, i, k, z, ex, by rw [e1, vu.int'], hx, hi.1, hi.2, by rw [← w.len]; exact ek, ez, post_put h sim ea hx (w.erase k) vz⟩
          · exact h.elim
        · exact h.elim
      · exact h.elim
    · exact h.elim
  · exact h.elim
theorem se_append {o e : Expr} {apos cpos : Pos} {Fo Fa : XF} (B : Bx T X W) (ho : SE T X W o Fo) (ha : SE T X W e Fa) (h1 : attributeBase o "append" X.env (eval o X.env) = eval o X.env := by rfl)
    (h2 : (((backTo cpos (starEach [e] X.env)).all fun x => !x.1) && ((backToKw cpos (keywordEach [] X.env)).all fun x => x.1.isSome) && decide ([e].length + ([] : List Keyword).length + (if ([] : List Keyword).isEmpty = true then 0 else 1) < 30)) = true := by rfl)
    (h3 : (apos.endLine == cpos.line) = true := by rfl) (h4 : starEach [e] X.env = (false, eval e X.env) :: starEach [] X.env := by rfl) :
    SE T X W (.Call (.Attribute o "append" apos) [e] [] cpos) (xMt gAppend Fo (xCons Fa xNil)) := se_mt B PySem.F.slot_list_append PySem.F.type_list_append mt_append a_append ho (sa_cons ha sa_nil h4) h1 h2 h3 h4 rfl

/-! ### built-ins -/
def gLen : GA := fun ds S => match ds with
  | [.str x] => if x.length ≤ sizeLine then .ok (.int x.length) S else .stuck
  | [.tup xs] => .ok (.int xs.length) S
  | [.loc n] => match S[n]? with
    | some (.lst xs) => .ok (.int xs.length) S
    | _ => .stuck
  | _ => .stuck
theorem one_vrs {r : Rp} {H : Hp} {d : D} {xs : List V} (h : VRs T r H [d] xs) : ∃ x, xs = [x] ∧ VR T r H d x := by
  simp only [VRs] at h
  obtain ⟨x, ys, rfl, v, rfl⟩ := h
  exact ⟨x, rfl, v⟩
theorem two_vrs {r : Rp} {H : Hp} {d e : D} {xs : List V} (h : VRs T r H [d, e] xs) : ∃ x y, xs = [x, y] ∧ VR T r H d x ∧ VR T r H e y := by
  simp only [VRs] at h
  obtain ⟨x, ys, rfl, v, y, zs, rfl, w, rfl⟩ := h
  exact ⟨x, y, rfl, v, w⟩
theorem a_len : ArA T (fun xs H Q => ∃ x n, xs = [x] ∧ LenV T.K x H n ∧ Q (.int n) H) gLen := fun W σ r S H ds xs Q sim vs h => by
  unfold gLen at h
  split at h
  · rename_i z
    obtain ⟨x, rfl, v⟩ := one_vrs vs
    split at h
    · rename_i hz
      have e := v.str'
      subst e
      exact ⟨_, z.length, rfl, ⟨hz, rfl⟩, post_ok h sim VR.ofInt⟩
    · exact h.elim
  · rename_i zs
    obtain ⟨x, rfl, v⟩ := one_vrs vs
    obtain ⟨a, ys, rfl, t, w⟩ := v.tup'
    exact ⟨_, zs.length, rfl, .inr ⟨ys, t, w.len⟩, post_ok h sim VR.ofInt⟩
  · rename_i n
    obtain ⟨x, rfl, v⟩ := one_vrs vs
    split at h
    · rename_i zs e
      obtain ⟨a, ys, rfl, _, hx, w⟩ := sim.lst e v
      exact ⟨_, zs.length, rfl, .inl ⟨ys, SqL.of hx, w.len⟩, post_ok h sim VR.ofInt⟩
    · exact h.elim
  · exact h.elim
def gTupleOf : GA := fun ds S => match ds with
  | [.tup xs] => .ok (.tup xs) S
  | [.loc n] => match S[n]? with
    | some (.lst xs) => .ok (.tup xs) S
    | _ => .stuck
  | _ => .stuck
theorem a_tupleOf : ArA T (fun xs H Q => ∃ p ys, xs = [.ref p] ∧ ((SqL T.K H p ys ∧ ∀ l, H l = none → Q (.ref l) (upd H l (.tup ys))) ∨ (SqT T.K H p ys ∧ Q (.ref p) H))) gTupleOf := fun W σ r S H ds xs Q sim vs h => by
  unfold gTupleOf at h
  split at h
  · rename_i zs
    obtain ⟨x, rfl, v⟩ := one_vrs vs
    obtain ⟨a, ys, rfl, t, w⟩ := v.tup'
    exact ⟨a, ys, rfl, .inr ⟨t, post_ok h sim v⟩⟩
  · rename_i n
    obtain ⟨x, rfl, v⟩ := one_vrs vs
    split at h
    · rename_i zs e
      obtain ⟨a, ys, rfl, _, hx, w⟩ := sim.lst e v
      exact ⟨a, ys, rfl, .inl ⟨SqL.of hx, post_newTup sim w h⟩⟩
    · exact h.elim
  · exact h.elim
def gListOf : GA := fun ds S => match ds with
  | [.tup xs] => .ok (.loc S.length) (S ++ [.lst xs])
  | [.loc n] => match S[n]? with
    | some (.lst xs) => .ok (.loc S.length) (S ++ [.lst xs])
    | _ => .stuck
  | _ => .stuck
theorem a_listOf : ArA T (fun xs H Q => ∃ p ys, xs = [.ref p] ∧ (SqL T.K H p ys ∨ SqT T.K H p ys) ∧ ∀ l, H l = none → Q (.ref l) (upd H l (.lst ys))) gListOf := fun W σ r S H ds xs Q sim vs h => by
  unfold gListOf at h
  split at h
  · rename_i zs
    obtain ⟨x, rfl, v⟩ := one_vrs vs
    obtain ⟨a, ys, rfl, t, w⟩ := v.tup'
    exact ⟨a, ys, rfl, .inr t, post_newLst sim w h⟩
  · rename_i n
    obtain ⟨x, rfl, v⟩ := one_vrs vs
    split at h
    · rename_i zs e
      obtain ⟨a, ys, rfl, _, hx, w⟩ := sim.lst e v
      exact ⟨a, ys, rfl, .inl (SqL.of hx), post_newLst sim w h⟩
    · exact h.elim
  · exact h.elim
def gAA (g : Int → Int → Int) : GA := fun ds S => match ds with
  | [.int i, .int j] => .ok (.int (g i j)) S
  | _ => .stuck
theorem a_int2 {g : Int → Int → Int} : ArA T (fun xs H Q => ∃ i j, xs = [.int i, .int j] ∧ Q (.int (g i j)) H) (gAA g) := fun W σ r S H ds xs Q sim vs h => by
  unfold gAA at h
  split at h
  · rename_i i j
    obtain ⟨x, y, rfl, v, w⟩ := two_vrs vs
    exact ⟨i, j, by rw [v.int', w.int'], post_ok h sim VR.ofInt⟩
  · exact h.elim
def gAbs : GA := fun ds S => match ds with
  | [.int i] => .ok (.int (if i < 0 then -i else i)) S
  | _ => .stuck
theorem a_abs : ArA T (fun xs H Q => ∃ i, xs = [.int i] ∧ Q (.int (if i < 0 then -i else i)) H) gAbs := fun W σ r S H ds xs Q sim vs h => by
  unfold gAbs at h
  split at h
  · rename_i i
    obtain ⟨x, rfl, v⟩ := one_vrs vs
    exact ⟨i, by rw [v.int'], post_ok h sim VR.ofInt⟩
  · exact h.elim
/-- all ints, all bools -/
def intsD : List D → Option (List Int)
  | [] => some []
  | .int i :: r => (intsD r).map (i :: ·)
  | _ => none
def boolsD : List D → Option (List Bool)
  | [] => some []
  | .bl i :: r => (boolsD r).map (i :: ·)
  | _ => none
theorem intsD_v {r : Rp} {H : Hp} : ∀ {ds : List D} {xs : List V} {ns : List Int}, VRs T r H ds xs → intsD ds = some ns → xs = ns.map V.int
  | [], _, _, h, e => by simp only [VRs] at h; subst h; cases e; rfl
  | d :: ds, _, ns, h, e => by
    simp only [VRs] at h
    obtain ⟨x, ys, rfl, v, w⟩ := h
    cases d with
    | int i =>
      unfold intsD at e
      cases q : intsD ds with
      | none => rw [q] at e; cases e
      | some l =>
        rw [q] at e
        cases e
        rw [v.int', intsD_v w q]
        rfl
    | _ => cases e
theorem boolsD_v {r : Rp} {H : Hp} : ∀ {ds : List D} {xs : List V} {ns : List Bool}, VRs T r H ds xs → boolsD ds = some ns → xs = ns.map V.bl
  | [], _, _, h, e => by simp only [VRs] at h; subst h; cases e; rfl
  | d :: ds, _, ns, h, e => by
    simp only [VRs] at h
    obtain ⟨x, ys, rfl, v, w⟩ := h
    cases d with
    | bl i =>
      unfold boolsD at e
      cases q : boolsD ds with
      | none => rw [q] at e; cases e
      | some l =>
        rw [q] at e
        cases e
        rw [v.bl', boolsD_v w q]
        rfl
    | _ => cases e
def gSum : GA := fun ds S => match ds with
  | [.loc n] => match S[n]? with
    | some (.lst xs) => match intsD xs with
      | some ns => .ok (.int ns.sum) S
      | none => .stuck
    | _ => .stuck
  | _ => .stuck
theorem a_sum : ArA T (rSum T.K) gSum := fun W σ r S H ds xs Q sim vs h => by
  unfold gSum at h
  split at h
  · rename_i n
    obtain ⟨x, rfl, v⟩ := one_vrs vs
    split at h
    · rename_i zs e
      split at h
      · rename_i ns en
        obtain ⟨a, ys, rfl, _, hx, w⟩ := sim.lst e v
        exact ⟨a, ns, rfl, by rw [← intsD_v w en]; exact SqL.of hx, post_ok h sim VR.ofInt⟩
      · exact h.elim
    · exact h.elim
  · exact h.elim
def gBools (f : List Bool → Bool) : GA := fun ds S => match ds with
  | [.loc n] => match S[n]? with
    | some (.lst xs) => match boolsD xs with
      | some ns => .ok (.bl (f ns)) S
      | none => .stuck
    | _ => .stuck
  | _ => .stuck
theorem a_bools {f : List Bool → Bool} : ArA T (fun vs H Q => ∃ (a : Addr) (bs : List Bool), vs = [V.ref a] ∧ SqL T.K H a (bs.map V.bl) ∧ Q (.bl (f bs)) H) (gBools f) := fun W σ r S H ds xs Q sim vs h => by
  unfold gBools at h
  split at h
  · rename_i n
    obtain ⟨x, rfl, v⟩ := one_vrs vs
    split at h
    · rename_i zs e
      split at h
      · rename_i ns en
        obtain ⟨a, ys, rfl, _, hx, w⟩ := sim.lst e v
        exact ⟨a, ns, rfl, by rw [← boolsD_v w en]; exact SqL.of hx, post_ok h sim VR.ofBl⟩
      · exact h.elim
    · exact h.elim
  · exact h.elim
abbrev gAll : GA := gBools fun bs => bs.all id
abbrev gAny : GA := gBools fun bs => bs.any id

/-! ### stores by place -/
def gSetAt (n : Nat) (i : Int) (d : D) (S : Store) : Option Store := match S[n]? with
  | some (.lst xs) => match ixN xs.length i with
    | some j => some (S.set n (.lst (xs.set j d)))
    | none => none
  | _ => none
/-- o[i] = d, the values known -/
theorem set_post {r : Rp} {H : Hp} {S S' : Store} {n : Nat} {i : Int} {d : D} {x u : V} {Q : Hp → Prop} (sim : Sim T r S H) (vx : VR T r H (.loc n) x) (vd : VR T r H d u) (e : gSetAt n i d S = some S') (h : ∀ H', Stay T H H' → Sim T r S' H' → Q H') : rSetL x (.int i) u H Q := by
  unfold gSetAt at e
  split at e
  · rename_i xs e1
    split at e
    · rename_i j ej
      cases e
      obtain ⟨a, ws, ex, ea, hx, w⟩ := sim.lst e1 vx
      exact ⟨a, ws, i, j, ex, rfl, hx, by rw [← w.len]; exact ej, h _ (Stay.upd hx True.intro) (sim.put ea hx True.intro ⟨_, upd_same, (w.set vd j).mono (Rp.le_refl _) (Stay.upd hx True.intro)⟩)⟩
    · cases e
  · cases e
/-- the target o[i], o and i names or plain expressions that change nothing -/
def gtSub (o i : XF) : GF := fun d ρ S => match o ρ S with
  | .ok (.loc n) S1 => match i ρ S1 with
    | .ok (.int k) S2 => match gSetAt n k d S2 with
      | some S3 => some (ρ, S3)
      | none => none
    | _ => none
  | _ => none
theorem sg_sub {o i : Expr} {pos : Pos} {Fo Fi : XF} (ho : SE T X W o Fo) (hi : SE T X W i Fi) (ha : ∀ v, assign (.Subscript o i pos) X.env v = (do
      let ov ← holding [v] (eval o X.env)
      let iv ← holding [v, ov] (eval i X.env)
      standAt pos
      holding [v, ov, iv] (setItem ov iv v)
      release [v, ov, iv] []) := by intro _; rfl) : SG T X [] (.Subscript o i pos) (gtSub Fo Fi) := by
  obtain ⟨to, po, ao⟩ := ho.ex
  obtain ⟨ti, pi, ai⟩ := hi.ex
  refine ⟨⟨_, pg_sub po pi set_list ha, fun d v σ H r S ρ Q sim er vd h => ?_⟩⟩
  unfold gtSub at h
  refine ao σ H r S ρ _ sim er ?_
  cases eo : Fo ρ S with
  | ok a S1 =>
    rw [eo] at h
    cases a with
    | loc n =>
      intro r1 H1 x l1 s1 sim1 v1
      refine ai σ H1 r1 S1 ρ _ sim1 (er.mono l1 s1) ?_
      simp only at h
      cases ei : Fi ρ S1 with
      | ok b S2 =>
        rw [ei] at h
        cases b with
        | int k =>
          intro r2 H2 y l2 s2 sim2 v2
          have e2 := v2.int'
          subst e2
          simp only at h
          cases es : gSetAt n k d S2 with
          | none => rw [es] at h; exact h.elim
          | some S3 =>
            rw [es] at h
            exact set_post sim2 (v1.mono l2 s2) (vd.mono (l1.trans l2) (s1.trans s2)) es fun H3 s3 sim3 => h r2 H3 σ (l1.trans l2) (s1.trans (s2.trans s3)) sim3 (er.mono (l1.trans l2) (s1.trans (s2.trans s3))) ⟨rfl, fun _ _ => rfl⟩
        | _ => exact h.elim
      | err x S2 => rw [ei] at h; exact h.elim
      | stuck => rw [ei] at h; exact h.elim
    | _ => exact h.elim
  | err x S1 => rw [eo] at h; exact h.elim
  | stuck => rw [eo] at h; exact h.elim
end
end DM

/-! DMK: a, *b = e. -/
namespace DM
open PySem PySem.Spec PyProof.Rows L2

section
variable {prog : Program} {w : World} {A : Around} {E : Value → Shared → Prop} {s : Shared}
theorem walks_shift {I : Addr} {fp wr : List Addr} {n : Nat} {P : Nat → Value → Prop} {St : Nat → Heap → Prop} (W : Walks prog w A I fp wr n P St) (k : Nat) (hk : k ≤ n) : Walks prog w A I fp wr (n - k) (fun i => P (k + i)) (fun i => St (k + i)) where
  sub := W.sub
  frame := fun i h h' st x => W.frame (k + i) h h' st x
  item := fun i s Q E hi st hQ => W.item (k + i) s Q E (by omega) st hQ
  done := fun s Q E st hQ => W.done s Q E (by have e : k + (n - k) = n := by omega
                                              rw [← e]; exact st) hQ
  self := fun i s Q E st hQ => W.self (k + i) s Q E st hQ
theorem draw_walks {I : Addr} {fp wr : List Addr} {n : Nat} {items : Array Value} {St : Nat → Heap → Prop} (W : Walks prog w A I fp wr n (fun i v => items[i]? = some v) St) : ∀ (m i : Nat) (s : Shared) (Q : List Value → Shared → Prop), St i s.heap → i + m ≤ n →
    (∀ h' tk, St (i + m) h' → (∀ b o, b ∉ wr → s.heap.get? b = some o → h'.get? b = some o) → Q ((items.toList.drop i).take m) { s with heap := h', toks := tk }) → wpAny (model prog w) A (draw (.ref I) m) Q E s
  | 0, i, s, Q, st, _, hQ => by
    show wpAny _ _ (pure []) Q E s
    exact wpAny_pure (by simpa using hQ s.heap s.toks (by simpa using st) fun b o _ e => e)
  | m + 1, i, s, Q, st, hle, hQ => by
    show wpAny _ _ (pyNext (.ref I) >>= _) Q E s
    refine wpAny_bind (W.item i s _ _ (by omega) st fun v h' tk hv st' k' => ?_)
    refine wpAny_bind (wpAny_holding (draw_walks W m (i + 1) _ _ st' (by omega) fun h2 tk2 st2 k2 => wpAny_pure ?_))
    have hd : items.toList.drop i = v :: items.toList.drop (i + 1) := by
      have hl : i < items.toList.length := by
        have := (Array.getElem?_eq_some_iff.mp hv).1
        simpa using this
      rw [List.drop_eq_getElem_cons hl]
      congr 1
      have := (Array.getElem?_eq_some_iff.mp hv).2
      simpa using this
    have := hQ h2 tk2 (by rw [show i + (m + 1) = i + 1 + m by omega]; exact st2) fun b o hb e => k2 b o hb (k' b o hb e)
    rw [hd, List.take_succ_cons] at this
    exact this
theorem items_list {items acc : Array Value} {k n : Nat} (hn : n = items.size) (hk : k ≤ n) (h : ItemsOf (fun i v => items[k + i]? = some v) acc (n - k)) : acc.toList = items.toList.drop k := by
  apply List.ext_getElem?
  intro j
  rw [List.getElem?_drop]
  by_cases hj : j < acc.size
  · have e := h.2 j acc[j] (by simp [hj])
    simp only [Array.getElem?_toList]
    rw [e]
    simp [hj]
  · simp only [Array.getElem?_toList]
    rw [Array.getElem?_eq_none (by omega), Array.getElem?_eq_none]
    have := h.1
    omega
/-- what a star's unpacking gives: some ahead, a new list of the rest, some behind -/
theorem unpackItems_star {v : Value} {o : Obj} {H : Heap → Prop} {fp : List Addr} {items : Array Value} {St : Nat → Heap → Prop} {n i : Nat} {T : String} {Q : List Value → Shared → Prop} (hno : wpAny (model prog w) A (notIterableAtAll v) (fun b s' => b = false ∧ s' = s) E s)
    (B : Begins v o H) (hH : H s.heap) (W : Walks prog w A.in1 s.heap.objs.size fp [s.heap.objs.size] items.size (fun i v => items[i]? = some v) St) (hT : ∀ i h, St i h → ∃ ob, h.get? s.heap.objs.size = some ob ∧ ob.cls = .type T)
    (hTm : T = "list_iterator" ∨ T = "tuple_iterator") (h0 : St 0 (s.heap.push o)) (hfp : ∀ b ∈ fp, ∃ ob, (s.heap.push o).get? b = some ob) (hI : s.heap.objs.size ∈ fp) (hz : items.size ≤ sizeLine) (hi : i + 1 ≤ n) (hn : n - 1 ≤ items.size)
    (hQ : ∀ (h' : Heap) (g' : Array GenState) (d' : Drawn) (tk : Nat), g' = s.gens → d' = s.drawn → (∀ b o, s.heap.get? b = some o → h'.get? b = some o) →
      Q (items.toList.take i ++ [.ref h'.objs.size] ++ items.toList.drop (i + (items.size - (n - 1)))) { s with heap := h'.push { cls := .type "list", data := .seq ((items.toList.drop i).take (items.size - (n - 1))).toArray }, gens := g', drawn := d', toks := tk }) : wpAny (model prog w) A (unpackItems v n (some i)) Q E s := by
  unfold unpackItems
  refine wpAny_bind (wpAny_mono hno (fun b s' ⟨eb, es⟩ => ?_) fun _ _ z => z)
  subst eb es
  simp only [Bool.false_eq_true, if_false]
  refine wpAny_bind (wpAny_holding (B.iter prog w A E _ _ hH ?_))
  refine wpAny_bind (wpAny_holding (draw_walks W.of_in1 i 0 _ _ h0 (by omega) fun h1 tk1 st1 k1 => ?_))
  have hlen : (List.take i (List.drop 0 items.toList)).length = i := by simp; omega
  rw [if_neg (by omega)]
  have st1' : St (i + 0) h1 := by simpa using st1
  have W2 := (walks_shift W i (by omega)).toS
  have hfp1 : ∀ b ∈ fp, b < h1.objs.size := fun b hb => by
    by_cases e : b = s'.heap.objs.size
    · subst e
      obtain ⟨ob, e1, _⟩ := hT i h1 (by simpa using st1)
      exact Heap.lt_size e1
    · obtain ⟨ob, e1⟩ := hfp b hb
      exact Heap.lt_size (k1 b ob (by simpa using e) e1)
  refine wpAny_bind (wpAny_holding (wpAny_collect_iter (T := T) (by rcases hTm with e | e <;> simp [e]) W2 (fun j s2 st2 => hT _ _ st2) st1' hfp1 hI (fun s2 acc mv it => ?_) (by omega)))
  have hacc : acc.toList = items.toList.drop i := items_list rfl (by omega) it
  have hal : acc.toList.length = items.size - i := by rw [hacc]; simp
  rw [if_neg (by omega)]
  have e3 : acc.toList.length - (n - 1 - i) = items.size - (n - 1) := by omega
  rw [e3]
  refine wpAny_bind (wpAny_newObj_type ?_ (by
    show (List.take (items.size - (n - 1)) acc.toList).toArray.size ≤ sizeLine
    simp only [List.size_toArray, List.length_take]
    omega))
  refine wpAny_pure ?_
  have ef : List.take i (List.drop 0 items.toList) = items.toList.take i := by simp
  have el : acc.toList.drop (items.size - (n - 1)) = items.toList.drop (i + (items.size - (n - 1))) := by rw [hacc, List.drop_drop]
  rw [ef, el]
  obtain ⟨hp, g, d, t, os⟩ := s2
  have eo : os = s'.os := mv.os
  subst eo
  rw [hacc]
  exact hQ hp g d t mv.gens mv.drawn fun b ob e => mv.heap b ob (by simpa using Nat.ne_of_lt (Heap.lt_size e)) (k1 b ob (by simpa using Nat.ne_of_lt (Heap.lt_size e)) (Heap.get?_push_of_some _ e))
theorem notIter_tuple {t : Addr} {items : Array Value} (ht : IsTup s.heap t items) : wpAny (model prog w) A (notIterableAtAll (.ref t)) (fun b s' => b = false ∧ s' = s) E s := by
  unfold notIterableAtAll
  refine wpAny_bind (wpAny_specialOf ht.typeIs slot_tuple_iter.lookup ?_)
  exact wpAny_pure ⟨rfl, rfl⟩
theorem notIter_list {t : Addr} {items : Array Value} (ht : s.heap.IsList t items) : wpAny (model prog w) A (notIterableAtAll (.ref t)) (fun b s' => b = false ∧ s' = s) E s := by
  unfold notIterableAtAll
  refine wpAny_bind (wpAny_specialOf ht.typeIs slot_list_iter.lookup ?_)
  exact wpAny_pure ⟨rfl, rfl⟩
end

/-! ### the rule -/
section
variable {T : Tx} {X : Cx} {W : WX}
theorem pgs_star {e : Expr} {p : Pos} {es : List Expr} {t : TG} {u : TGs} (h1 : PG X e t) (h2 : PGs X es u) : PGs X (.Starred e p :: es) (gCons t u) := by
  refine ⟨fun pins s σ H vs us Q I r h => ?_⟩
  obtain ⟨v, vr, e1, h⟩ := h
  subst e1
  cases r with
  | cons r rr =>
    show wpAny _ _ (assignInOrder (assign e X.env :: (assignEach es X.env).map (·.2)) _) _ _ _
    refine assignInOrder_cons (thn (h1.run pins s σ H _ _ _ I r h) fun _ s1 ⟨σ1, H1, I1, q1⟩ => ?_)
    exact h2.run pins s1 σ1 H1 _ _ Q I1 rr q1
/-- n targets, the i-th one starred -/
def gStar (K : PySem.W.Frag) (n i : Nat) (t : TGs) : TG := fun v σ H Q => ∃ a xs, v = .ref a ∧ (SqL K H a xs ∨ SqT K H a xs) ∧ n - 1 ≤ xs.length ∧
  ∀ p, H p = none → t (xs.take i ++ [.ref p] ++ xs.drop (i + (xs.length - (n - 1)))) σ (upd H p (.lst ((xs.drop i).take (xs.length - (n - 1))))) Q
theorem star_end {pins : List (Addr × Obj)} {s : Shared} {σ : L2.St} {H : Hp} {es : List Expr} {t : TGs} {Q : L2.St → Hp → Prop} {xs : List V} {its : List Value} {n i : Nat} {h' : Heap} {g' : Array GenState} {d' : Drawn} {tk : Nat} (h : PGs X es t) (I : L2.Inv X pins σ H s) (rv : Vals xs its) (hz : xs.length ≤ sizeLine)
    (hg : g' = s.gens) (hd : d' = s.drawn) (k : ∀ b o, s.heap.get? b = some o → h'.get? b = some o) (q : ∀ p, H p = none → t (xs.take i ++ [.ref p] ++ xs.drop (i + (xs.length - (n - 1)))) σ (upd H p (.lst ((xs.drop i).take (xs.length - (n - 1))))) Q) :
    wpAny (model X.prog X.w) X.A (assignInOrder ((assignEach es X.env).map (·.2)) (its.take i ++ [.ref h'.objs.size] ++ its.drop (i + (its.length - (n - 1))))) (fun _ s' => ∃ σ' H', L2.Inv X pins σ' H' s' ∧ Q σ' H') X.xe
      { s with heap := h'.push { cls := .type "list", data := .seq ((its.drop i).take (its.length - (n - 1))).toArray }, gens := g', drawn := d', toks := tk } := by
  subst hg hd
  have I1 : L2.Inv X pins σ H { s with heap := h', toks := tk } := I.kept (t' := tk) k
  have hf : H h'.objs.size = none := I1.hok.fresh (Nat.le_refl _)
  have hl := rv.length
  have rm : Vals ((xs.drop i).take (xs.length - (n - 1))) ((its.drop i).take (its.length - (n - 1))) := by rw [hl]; exact (rv.drop i).take _
  have I2 : L2.Inv X pins σ (upd H h'.objs.size (.lst ((xs.drop i).take (xs.length - (n - 1))))) { s with heap := h'.push { cls := .type "list", data := .seq ((its.drop i).take (its.length - (n - 1))).toArray }, toks := tk } :=
    I1.laid (t' := tk) (fun b u e => Heap.get?_push_of_some _ e) (Nat.le_refl _) ⟨by simp only [List.length_take, List.length_drop]; omega, _, 0, rm, Heap.get?_push_size _ rfl⟩
  refine h.run pins _ σ _ _ _ Q I2 ?_ (q _ hf)
  rw [← hl]
  have one : Vals [V.ref h'.objs.size] [Value.ref h'.objs.size] := .cons (show L2.RelV (.ref _) (.ref _) from rfl) .nil
  exact ((rv.take i).append one).append (rv.drop _)
theorem pg_star {es : List Expr} {k : Nat} {pos : Pos} {t : TGs} {n i : Nat} (hc : X.calm = true) (h : PGs X es t) (hi : i + 1 ≤ n)
    (hn : (assignEach es X.env).length = n := by rfl) (hst : (assignEach es X.env).findIdx? (·.1) = some i := by rfl) : PG X (.Tuple es k pos) (gStar X.K n i t) := by
  refine ⟨fun pins s σ H v u Q I r hw => ?_⟩
  obtain ⟨a, xs, e1, hq, hl, hw⟩ := hw
  subst e1
  cases r
  rw [assign_Tuple]
  refine wpAny_bind (wpAny_standAt ?_)
  unfold unpack
  rw [hn, hst]
  have hh := I.ok.hd hc
  rcases hq with hq | hq
  · obtain ⟨its, rv, pl, hz⟩ := I.list hq
    have ht := pl.isList
    have hlt : a < s.heap.objs.size := by obtain ⟨o, ho, _⟩ := ht; exact Heap.lt_size ho
    have el : its.toArray.size = its.length := by simp
    have hl2 := rv.length
    refine wpAny_bind (wpAny_holding (unpackItems_star (notIter_list ht) (begins_list a its.toArray) ht (Walks.list (A := X.A.in1) hh _ a (Nat.ne_of_lt hlt) its.toArray) (T := "list_iterator") (fun j h st => ?_) (.inl rfl) ⟨?_, ht.push _⟩ (fun b hb => ?_) (by simp) (by rw [el, ← hl2]; exact hz) hi (by rw [el, ← hl2]; exact hl) fun h' g' d' tk eg ed kk => ?_))
    · obtain ⟨⟨o, ho, hc', _⟩, _⟩ := st; exact ⟨o, ho, hc'⟩
    · exact ⟨_, Heap.get?_push_size _ rfl, rfl, rfl⟩
    · simp only [List.mem_cons, List.not_mem_nil, or_false] at hb
      rcases hb with rfl | rfl
      · exact ⟨_, Heap.get?_push_size _ rfl⟩
      · obtain ⟨o, ho, _⟩ := ht; exact ⟨o, Heap.get?_push_of_some _ ho⟩
    · rw [el]
      exact star_end h I rv hz eg ed kk hw
  · obtain ⟨its, rv, ht, hz⟩ := I.tuple hq
    have ht2 : s.heap.IsTuple a its.toArray := ht
    have hlt : a < s.heap.objs.size := by obtain ⟨o, ho, _⟩ := ht; exact Heap.lt_size ho
    have el : its.toArray.size = its.length := by simp
    have hl2 := rv.length
    refine wpAny_bind (wpAny_holding (unpackItems_star (notIter_tuple ht) (begins_tuple a its.toArray) ht2 (Walks.tuple (A := X.A.in1) hh _ a (Nat.ne_of_lt hlt) its.toArray) (T := "tuple_iterator") (fun j h st => ?_) (.inr rfl) ⟨?_, ht2.push _⟩ (fun b hb => ?_) (by simp) (by rw [el, ← hl2]; exact hz) hi (by rw [el, ← hl2]; exact hl) fun h' g' d' tk eg ed kk => ?_))
    · obtain ⟨⟨o, ho, hc', _⟩, _⟩ := st; exact ⟨o, ho, hc'⟩
    · exact ⟨_, Heap.get?_push_size _ rfl, rfl, rfl⟩
    · simp only [List.mem_cons, List.not_mem_nil, or_false] at hb
      rcases hb with rfl | rfl
      · exact ⟨_, Heap.get?_push_size _ rfl⟩
      · obtain ⟨o, ho, _⟩ := ht; exact ⟨o, Heap.get?_push_of_some _ ho⟩
    · rw [el]
      exact star_end h I rv hz eg ed kk hw
end
end DM

/-! DML: star targets, stores by an operator, enumerate, zip, in, the module's names, defs by name. -/
namespace DM
open PySem PySem.Spec PyProof.Rows L2

section
variable {T : Tx} {X : Cx} {W : WX}
theorem sgs_star {js ks : List Nat} {e : Expr} {p : Pos} {es : List Expr} {g : GF} {gs : GsF} (h : SG T X js e g) (k : SGs T X ks es gs) : SGs T X (js ++ ks) (.Starred e p :: es) (gtCons g gs) := by
  obtain ⟨t, q, a⟩ := h.ex
  obtain ⟨u, q', b⟩ := k.ex
  refine ⟨⟨_, pgs_star q q', fun ds vs σ H r S ρ Q sim er vd h => ?_⟩⟩
  cases ds with
  | nil => exact h.elim
  | cons d ds =>
    simp only [VRs] at vd
    obtain ⟨x, ys, e1, v1, v2⟩ := vd
    refine ⟨x, ys, e1, a d x σ H r S ρ _ sim er v1 ?_⟩
    unfold gtCons at h
    cases eg : g d ρ S with
    | none => simp only [eg] at h; exact h.elim
    | some z =>
      obtain ⟨ρ1, S1⟩ := z
      simp only [eg] at h
      intro r1 H1 σ1 l1 s1 sim1 er1 k1
      refine b ds ys σ1 H1 r1 S1 ρ1 Q sim1 er1 (v2.mono l1 s1) ?_
      cases e2 : gs ds ρ1 S1 with
      | none => rw [e2] at h; exact h
      | some z =>
        obtain ⟨ρ2, S2⟩ := z
        rw [e2] at h
        intro r2 H2 σ2 l2 s2 sim2 er2 k2
        exact h r2 H2 σ2 (l1.trans l2) (s1.trans s2) sim2 er2 ⟨k2.1.trans k1.1, fun i hi => by
          rw [k2.2 i fun z => hi (List.mem_append_right _ z), k1.2 i fun z => hi (List.mem_append_left _ z)]⟩
def seqOf (d : D) (S : Store) : Option (List D) := match d with
  | .tup ds => some ds
  | .loc m => match S[m]? with
    | some (.lst ds) => some ds
    | _ => none
  | _ => none
theorem seqOf_v {r : Rp} {S : Store} {H : Hp} {d : D} {ds : List D} {v : V} (sim : Sim T r S H) (h : VR T r H d v) (e : seqOf d S = some ds) : ∃ a xs, v = .ref a ∧ (SqL T.K H a xs ∨ SqT T.K H a xs) ∧ VRs T r H ds xs := by
  unfold seqOf at e
  split at e
  · cases e
    obtain ⟨a, xs, ev, t, w⟩ := h.tup'
    exact ⟨a, xs, ev, .inr t, w⟩
  · split at e
    · rename_i m _ zs e1
      cases e
      obtain ⟨a, xs, ev, _, hx, w⟩ := sim.lst e1 h
      exact ⟨a, xs, ev, .inl (SqL.of hx), w⟩
    · cases e
  · cases e
def gtStar (n i : Nat) (gs : GsF) : GF := fun d ρ S => match seqOf d S with
  | some ds => if n - 1 ≤ ds.length then gs (ds.take i ++ [.loc S.length] ++ ds.drop (i + (ds.length - (n - 1)))) ρ (S ++ [.lst ((ds.drop i).take (ds.length - (n - 1)))]) else none
  | none => none
theorem PostT.mono {r r' : Rp} {σ : L2.St} {H H' : Hp} {js : List Nat} {x : Option (Env × Store)} {Q : L2.St → Hp → Prop} (h : PostT T r σ H js x Q) (hr : r.le r') (hs : Stay T H H') : PostT T r' σ H' js x Q := by
  cases x with
  | none => exact h
  | some z =>
    obtain ⟨ρ, S⟩ := z
    exact fun r1 H1 σ1 a b => h r1 H1 σ1 (hr.trans a) (hs.trans b)
theorem sg_star {js : List Nat} {es : List Expr} {k : Nat} {pos : Pos} {gs : GsF} {n i : Nat} (hc : X.calm = true) (hK : X.K = T.K) (h : SGs T X js es gs) (hi : i + 1 ≤ n := by decide)
    (hn : (assignEach es X.env).length = n := by rfl) (hst : (assignEach es X.env).findIdx? (·.1) = some i := by rfl) : SG T X js (.Tuple es k pos) (gtStar n i gs) := by
  obtain ⟨t, p, a⟩ := h.ex
  refine ⟨⟨_, pg_star hc p hi hn hst, fun d v σ H r S ρ Q sim er vd h => ?_⟩⟩
  unfold gtStar at h
  cases e : seqOf d S with
  | none => rw [e] at h; exact h.elim
  | some ds =>
    rw [e] at h
    simp only at h
    split at h
    · rename_i hl
      obtain ⟨b, xs, ev, hq, w⟩ := seqOf_v sim vd e
      refine ⟨b, xs, ev, by rw [hK]; exact hq, by rw [← w.len]; exact hl, fun q hq' => ?_⟩
      have st : Stay T H (upd H q (.lst ((xs.drop i).take (xs.length - (n - 1))))) := Stay.new hq'
      have le : r.le ⟨r.ad ++ [q]⟩ := List.prefix_append _ _
      have sim2 := sim.alloc hq' (x := .lst ((ds.drop i).take (ds.length - (n - 1)))) (o := .lst ((xs.drop i).take (xs.length - (n - 1)))) ⟨(xs.drop i).take (xs.length - (n - 1)), upd_same, by rw [w.len]; exact ((w.drop i).take _).mono le st⟩
      refine a _ _ σ _ _ _ ρ Q sim2 (er.mono le st) ?_ (PostT.mono h le st)
      have vq : VR T ⟨r.ad ++ [q]⟩ (upd H q (.lst ((xs.drop i).take (xs.length - (n - 1))))) (.loc S.length) (.ref q) := by
        simp only [VR]
        exact ⟨q, by rw [← sim.len, List.getElem?_append_right (Nat.le_refl _)]; simp, rfl⟩
      rw [w.len]
      exact VRs.app (VRs.app ((w.take i).mono le st) (VRs.cons vq VRs.nil)) ((w.drop _).mono le st)
    · exact h.elim
/-! ### x += e, o[i] += e -/
def sAug (i : Nat) (g : G2) (F : XF) : SF := fun ρ S => match ρ[i]? with
  | some (some d) => (F ρ S).toS ρ fun e S1 => (g d e S1).toS ρ fun z S2 => .nx (ρ.set i (some z)) S2
  | _ => .stuck
/-- the operators that leave ints, texts -/
def dAddIS : G2 := fun d e S => match d with
  | .str _ => dAddS d e S
  | _ => dAddI d e S
theorem PIp.or {op : Operator} {r1 r2 : TIp} (h1 : PIp X op r1) (h2 : PIp X op r2) : PIp X op (fun x y H Q => r1 x y H Q ∨ r2 x y H Q) := by
  intro pins s σ H x y v u Q I rx ry h
  rcases h with h | h
  · exact h1 pins s σ H x y v u Q I rx ry h
  · exact h2 pins s σ H x y v u Q I rx ry h
theorem ss_aug (i : Nat) {x : Str} {e : Expr} {op : Operator} {pos pos' : Pos} {F : XF} {rd : TIp} {g : G2} (h : SE T X W e F) (ho : PIp X op rd) (hg : OpA T rd g) (hN : X.N.Nodup) (hi : X.N[i]? = some x := by rfl) (hx : Loc X.env.scope x := by first | exact Or.inl rfl | exact Or.inr rfl)
    (hf : X.fn x = true ∨ X.env.scope.names.lookup x = some .local := by first | exact .inl rfl | exact .inr rfl) : SS T X W (.AugAssign (.Name x pos') op e pos) (sAug i g F) := by
  obtain ⟨t, p, a⟩ := h.ex
  refine ⟨⟨_, ps_aug (i := i) hN hi hx p ho hf, fun σ H r S ρ D sim er hq => ?_⟩⟩
  unfold sAug at hq
  split at hq
  · rename_i d ed
    obtain ⟨v, ev, vd⟩ := er.at_ i d ed
    refine ⟨v, ev, a σ H r S ρ _ sim er (PostS.bind hq er fun e1 S1 r1 H1 u l1 s1 sim1 v1 h1 => ?_)⟩
    refine hg W σ r1 S1 H1 d e1 v u _ sim1 (vd.mono l1 s1) v1 (PostS.bind h1 (er.mono l1 s1) fun z S2 r2 H2 y l2 s2 sim2 v2 h2 => ?_)
    exact h2 r2 H2 _ (Rp.le_refl _) (Stay.refl _) sim2 ((er.mono (l1.trans l2) (s1.trans s2)).set v2 i)
  · exact hq.elim
/-- an item of a list, counted from the left -/
def gGet (d k : D) (S : Store) : R D := match d, k with
  | .loc n, .int i => match S[n]? with
    | some (.lst ds) => if 0 ≤ i ∧ i < 2 ^ 63 then (match ds[i.toNat]? with
      | some y => .ok y S
      | none => .stuck) else .stuck
    | _ => .stuck
  | _, _ => .stuck
def rGetL : V → V → Hp → VK → Prop := fun x y H Q => ∃ p xs i v, x = .ref p ∧ y = .int i ∧ H p = some (.lst xs) ∧ 0 ≤ i ∧ i < 2 ^ 63 ∧ xs[i.toNat]? = some v ∧ Q v H
theorem pget_list : PGet X rGetL := by
  intro pins s σ H o i ov iv Q I ro ri h
  obtain ⟨p, xs, k, v, rfl, rfl, hp, h0, h1, hx, q⟩ := h
  obtain rfl : ov = Value.ref p := ro
  obtain ⟨t, rfl⟩ := ri
  obtain ⟨its, rv, pl, hz⟩ := I.list (SqL.of hp)
  obtain ⟨u, eu, ru⟩ := rv.get hx
  exact wpAny_getItem_list pl.isList h0 h1 (by simpa using eu) ⟨v, H, I, ru, q⟩
def sAugS (g : G2) (o i e : XF) : SF := fun ρ S => (o ρ S).toS ρ fun d S1 => (i ρ S1).toS ρ fun k S2 => (gGet d k S2).toS ρ fun x S3 => (e ρ S3).toS ρ fun y S4 => (g x y S4).toS ρ fun z S5 => match d, k with
  | .loc n, .int j => match gSetAt n j z S5 with
    | some S6 => .nx ρ S6
    | none => .stuck
  | _, _ => .stuck
theorem ss_augS {o i e : Expr} {op : Operator} {pos tpos : Pos} {Fo Fi Fe : XF} {rd : TIp} {g : G2} (ho : SE T X W o Fo) (hi : SE T X W i Fi) (he : SE T X W e Fe) (hp : PIp X op rd) (hg : OpA T rd g)
    (ha : ∀ ov iv new, augStore i ov iv new = (do
      holding [new, ov, iv] (setItem ov iv new)
      release [new, ov, iv] []
      pure Flow.next) := by intro _ _ _; rfl) : SS T X W (.AugAssign (.Subscript o i tpos) op e pos) (sAugS g Fo Fi Fe) := by
  obtain ⟨to, po, ao⟩ := ho.ex
  obtain ⟨ti, pi, ai⟩ := hi.ex
  obtain ⟨te, pe, ae⟩ := he.ex
  refine ⟨⟨_, ps_augS po pi pget_list pe hp set_list ha, fun σ H r S ρ D sim er hq => ao σ H r S ρ _ sim er (PostS.bind hq er fun d S1 r1 H1 x l1 s1 sim1 v1 h1 =>
    ai σ H1 r1 S1 ρ _ sim1 (er.mono l1 s1) (PostS.bind h1 (er.mono l1 s1) fun k S2 r2 H2 y l2 s2 sim2 v2 h2 => ?_))⟩⟩
  have er2 := er.mono (l1.trans l2) (s1.trans s2)
  cases d with
  | loc n =>
    cases k with
    | int j =>
      unfold gGet at h2
      try simp only at h2
      cases e1 : S2[n]? with
      | none => rw [e1] at h2; exact h2.elim
      | some ob =>
        rw [e1] at h2
        cases ob with
        | lst ds =>
          try simp only at h2
          split at h2
          · rename_i hj
            cases e2 : ds[j.toNat]? with
            | none => rw [e2] at h2; exact h2.elim
            | some z =>
              rw [e2] at h2
              obtain ⟨a, xs, ex, ea, hx, w⟩ := sim2.lst e1 (v1.mono l2 s2)
              obtain ⟨u, eu, vu⟩ := w.get e2
              refine ⟨a, xs, j, u, ex, v2.int', hx, hj.1, hj.2, eu, ae σ H2 r2 S2 ρ _ sim2 er2 (PostS.bind h2 er2 fun y2 S4 r4 H4 w4 l4 s4 sim4 v4 h4 => ?_)⟩
              refine hg W σ r4 S4 H4 z y2 u w4 _ sim4 (vu.mono l4 s4) v4 (PostS.bind h4 (er2.mono l4 s4) fun z2 S5 r5 H5 w5 l5 s5 sim5 v5 h5 => ?_)
              try simp only at h5
              cases e3 : gSetAt n j z2 S5 with
              | none => rw [e3] at h5; exact h5.elim
              | some S6 =>
                rw [e3] at h5
                have e4 := v2.int'
                subst e4
                exact set_post sim5 (v1.mono (l2.trans (l4.trans l5)) (s2.trans (s4.trans s5))) v5 e3 fun H6 s6 sim6 => h5 r5 H6 σ (Rp.le_refl _) s6 sim6 (er2.mono (l4.trans l5) (s4.trans (s5.trans s6)))
          · exact h2.elim
        | _ => exact h2.elim
    | _ => exact h2.elim
  | _ => exact h2.elim
/-! ### in -/
def flatD : D → Bool
  | .non => true
  | .bl _ => true
  | .int _ => true
  | .str _ => true
  | _ => false
def flatDV : D → V
  | .non => .non
  | .bl b => .bl b
  | .int i => .int i
  | .str x => .str x
  | _ => .non
theorem flat_v {r : Rp} {H : Hp} {d : D} {v : V} (h : VR T r H d v) (e : flatD d = true) : v = flatDV d ∧ flatV v = true := by
  cases d with
  | non => rw [h.non']; exact ⟨rfl, rfl⟩
  | bl b => rw [h.bl']; exact ⟨rfl, rfl⟩
  | int b => rw [h.int']; exact ⟨rfl, rfl⟩
  | str b => rw [h.str']; exact ⟨rfl, rfl⟩
  | _ => cases e
theorem flat_vs {r : Rp} {H : Hp} : ∀ {ds : List D} {xs : List V}, VRs T r H ds xs → ds.all flatD = true → xs = ds.map flatDV ∧ xs.all flatV = true
  | [], _, h, _ => by simp only [VRs] at h; subst h; exact ⟨rfl, rfl⟩
  | d :: ds, _, h, e => by
    simp only [VRs] at h
    obtain ⟨x, ys, rfl, v, w⟩ := h
    simp only [List.all_cons, Bool.and_eq_true] at e
    obtain ⟨e1, e2⟩ := flat_v v e.1
    obtain ⟨e3, e4⟩ := flat_vs w e.2
    exact ⟨by rw [e1, e3]; rfl, by simp [e2, e4]⟩
/-- d in e: flat things in a list or tuple, data in a list, a text in a text -/
def dInB (neg : Bool) : G2 := fun d e S => match e with
  | .str z => match d with
    | .str y => .ok (.bl (if neg then !(!(Builtin.Str.occurrences z y 0 z.length 1).isEmpty) else !(Builtin.Str.occurrences z y 0 z.length 1).isEmpty)) S
    | _ => .stuck
  | _ => match seqOf e S with
    | some es => if flatD d = true ∧ es.all flatD = true then .ok (.bl (if neg then !inV (flatDV d) (es.map flatDV) else inV (flatDV d) (es.map flatDV))) S else .stuck
    | none => .stuck
end
end DM

/-! DMM: enumerate of a tuple. -/
namespace DM
open PySem PySem.Spec PyProof.Rows L2
theorem meets_enum1 {v : Value} {o : Obj} {H : Heap → Prop} (B : Begins v o H) :
    Meets (Builtin.«enumerate.__new__» ⟨[.type "enumerate", v], []⟩) (fun _ R s => H s.heap ∧
      R (.ok (.ret (.ref (s.heap.push o).objs.size))) { s with heap := (s.heap.push o).push { cls := .type "enumerate", data := .fields #[.none, .bool false, .ref s.heap.objs.size, rawInt 0, .none, .none] } }) :=
  .of_wp fun prog w A R s h => by
    obtain ⟨hp, g, d, tk, os⟩ := s; obtain ⟨h1, h⟩ := h
    have hsub := sub_enumerate
    have q2 : ∀ {A' : Around} {E : Value → Shared → Prop} {Q : Value → Shared → Prop}, Q (.ref hp.objs.size) ⟨hp.push o, g, d, tk, os⟩ → wpAny (model prog w) A' (pyIter v) Q E ⟨hp, g, d, tk, os⟩ := fun q => B.iter prog w _ _ ⟨hp, g, d, tk, os⟩ _ h1 q
    wp_walk using q2
    refine wpAny_stack_any fun st => wpAny_pure ?_
    split
    · rename_i c _ _ _ _ _
      cases (c == Value.type "enumerate") <;> (wp_walk using q2; exact ⟨_, rfl, h⟩)
    · wp_walk using q2
      exact ⟨_, rfl, h⟩
section
variable {prog : Program} {w : World} {A : Around} {E : Value → Shared → Prop} {s : Shared}
theorem call_enum1 {v : Value} {o : Obj} {H : Heap → Prop} {Q : Value → Shared → Prop} (B : Begins v o H) (h1 : H s.heap)
    (h : ∀ h', IsEnum h' (s.heap.objs.size + 1) s.heap.objs.size 0 .none → h'.get? s.heap.objs.size = some o → (∀ b o, s.heap.get? b = some o → h'.get? b = some o) → Q (.ref (s.heap.objs.size + 1)) { s with heap := h' }) :
    wpAny (model prog w) A (call (.type "enumerate") [v]) Q E s := by
  refine callType_new F.called_enumerate (by decide) (F.typeCall_enumerate_1 _) (F.newCall_enumerate_1 _) (fun obj => F.args_object_init_2 obj _) F.entry_enumerate_new (meets_enum1 B) ⟨h1, ?_⟩
  have hz : (s.heap.push o).objs.size = s.heap.objs.size + 1 := Heap.size_push ..
  show _ ∧ _
  rw [hz]
  have he : IsEnum ((s.heap.push o).push { cls := .type "enumerate", data := .fields #[.none, .bool false, .ref s.heap.objs.size, rawInt 0, .none, .none] }) (s.heap.objs.size + 1) s.heap.objs.size 0 .none := by
    have q := Heap.get?_push_size (s.heap.push o) (o := { cls := .type "enumerate", data := .fields #[.none, .bool false, .ref s.heap.objs.size, rawInt 0, .none, .none] }) rfl
    rw [hz] at q; exact q
  exact ⟨⟨_, he, rfl⟩, h _ he (Heap.get?_push_of_some _ (Heap.get?_push_size _ B.free)) fun b o x => Heap.get?_push_of_some _ (Heap.get?_push_of_some _ x)⟩
end
/-- the tuple at a, each item in a new pair -/
def IteT (K : PySem.W.Frag) (a : Addr) : It :=
  ⟨fun i H => ∃ (xs : List V) (x : V), SqT K H a xs ∧ xs[i]? = some x, fun i H v H' => ∃ T x, v = .ref T ∧ H T = none ∧ H' = upd H T (.tup [.int (i : Nat), x]) ∧ ∀ xs, SqT K H a xs → xs[i]? = some x, fun i H => ∃ xs : List V, SqT K H a xs ∧ xs.length = i⟩
theorem turn_enumT {P : Program} {w : World} {K : PySem.W.Frag} {elts : List Expr} {kk : Nat} {tpos : Pos} (a e it : Addr) :
    Turn P w K (.Tuple elts kk tpos) (IteT K a) [e, it] e (fun i h => (∃ old, IsEnum h e it ((i : Nat) : Int) old) ∧ h.IsTupleIter it a i ∧ e ≠ it ∧ a ≠ it ∧ e ≠ a) where
  mem := by simp
  obj := fun i h st b hb => by
    obtain ⟨⟨old, he⟩, ⟨o, ho, hc, hd⟩, _⟩ := st
    simp only [List.mem_cons, List.not_mem_nil, or_false] at hb
    rcases hb with z | z
    · rw [z]; exact ⟨_, he, fun v q => nomatch q⟩
    · rw [z]; exact ⟨o, ho, fun v q => by rw [hd] at q; cases q⟩
  keep := fun i h h' st k => let ⟨⟨old, he⟩, hi, hne⟩ := st; ⟨⟨old, k e (by simp) _ he⟩, hi.at fun o q => k it (by simp) o q, hne⟩
  item := by
    intro X hP hw hK hc i pins s σ H E I hf st hg
    subst hP hw hK
    obtain ⟨⟨old, he⟩, hit, hne, hat, hea⟩ := st
    obtain ⟨xs, x, hq, hx⟩ := hg
    obtain ⟨its, rv, p, hz⟩ := I.tuple hq
    obtain ⟨u, hu, ru⟩ := rv.get hx
    have hel : e < s.heap.objs.size := Heap.lt_size he
    have hil : it < s.heap.objs.size := by obtain ⟨_, q, _⟩ := hit; exact Heap.lt_size q
    have ht2 : s.heap.IsTuple a its.toArray := p
    have hlen : i < its.toArray.size := by
      have q := (List.getElem?_eq_some_iff.mp hu).1
      simpa using q
    refine wpAny_pyNext_enum_itemC (Draws.tuple (A := X.A.in1) (I.ok.hd hc) it a hat its.toArray) he ⟨hit, ht2⟩ hlen hne (by simp [hne, hea]) fun x' h' tk hx' ho hst' hT hsz hk => ?_
    have ex' : x' = u := by
      have q : its.toArray[i]? = some u := by simpa using hu
      rw [q] at hx'; exact (Option.some.inj hx').symm
    subst ex'
    refine ⟨_, rfl, wpAny_letOwnedTupleGo_enum (s := { s with heap := h', toks := tk + 1 }) ho fun h'' he' sb => ?_⟩
    have hT2 : h''.get? s.heap.objs.size = some { cls := .type "tuple", data := .seq #[.int i tk, x'] } := (sb.2 _ (Nat.ne_of_gt hel)).trans hT
    have new : ObjOk X.prog X.w (upd H s.heap.objs.size (.tup [.int (i : Nat), x])) h'' s.heap.objs.size (.tup [.int (i : Nat), x]) :=
      ⟨by show 2 ≤ sizeLine; decide, [.int i tk, x'], .cons ⟨_, rfl⟩ (.cons ru .nil), ⟨_, hT2, rfl, _, rfl⟩⟩
    have I1 : L2.Inv X pins σ (upd H s.heap.objs.size (.tup [.int (i : Nat), x])) { s with heap := h'', toks := tk + 1 } :=
      I.turnedNew (ch := [e, it]) (fun b ob hb q => (sb.2 b (fun z => hb (by simp [z]))).trans (hk b ob (fun z => hb (by simp [z])) (fun z => hb (by simp [z])) q)) hf (Nat.le_refl _) new
    refine ⟨.ref s.heap.objs.size, _, I1, rfl, ⟨_, x, rfl, I.hok.fresh (Nat.le_refl _), rfl, fun ys hy => by rw [I.tuple_inj hy hq]; exact hx⟩, ⟨⟨x', ?_⟩, hst'.1.at fun o q => (sb.2 it (Ne.symm hne)).trans q, hne, hat, hea⟩, fun b hb => ?_⟩
    · have e1 : ((i + 1 : Nat) : Int) = (i : Int) + 1 := by omega
      rw [e1]; exact he'
    · have hb' : b < s.heap.objs.size := by
        simp only [List.mem_cons, List.not_mem_nil, or_false] at hb
        rcases hb with z | z
        · rw [z]; exact hel
        · rw [z]; exact hil
      rw [upd_ne (Nat.ne_of_lt hb')]
      exact (hf b hb).1
  done := by
    intro X hP hw hK hc i pins s σ H E I hf st hg
    subst hP hw hK
    obtain ⟨⟨old, he⟩, hit, hne, hat, hea⟩ := st
    obtain ⟨xs, hq, hx⟩ := hg
    obtain ⟨its, rv, p, hz⟩ := I.tuple hq
    have ht2 : s.heap.IsTuple a its.toArray := p
    obtain ⟨f0, f1, f2, f3, f4, f5⟩ := hf it (by simp)
    have hl := rv.length
    have ei : its.toArray.size = i := by simp; omega
    subst ei
    exact wpAny_pyNext_enum_endD (Draws.tuple (A := X.A.in1) (I.ok.hd hc) it a hat its.toArray) he ⟨hit, ht2⟩ fun h' eb => ⟨rfl, I.turned (t' := s.toks) (fun b o hb q => eb b o hb q) f0 f1 f3 f4 f5⟩
  self := fun A i s Q E st h => let ⟨⟨_, he⟩, _⟩ := st; wpAny_pyIter_enum he h
def iEnumT (K : PySem.W.Frag) (ta : TA) : TI := fun σ H R => ta σ H fun vs H1 => ∃ a xs, vs = [.ref a] ∧ SqT K H1 a xs ∧ R (IteT K a) H1
theorem pi_enumT {X : Cx} {e : Expr} {ta : TA} {p pos tpos : Pos} {elts : List Expr} {kk : Nat} (hg : Gl X "enumerate") (hm : X.mg "enumerate" = none) (ha : PA X [e] ta) (hs : starEach [e] X.env = [(false, eval e X.env)] := by rfl) :
    PI X (.Tuple elts kk tpos) (.Call (.Name "enumerate" p) [e] [] pos) (iEnumT X.K ta) := by
  refine ⟨fun pins s σ H R I h => ?_⟩
  refine Call_ (ld_blt I hg hm boot_enumerate (PyProof.Rows.callWith_type1 (thn (ha.run pos pins s σ H _ I h) fun us s1 ⟨vs, H1, I1, r1, q1⟩ => ?_) hs rfl))
  obtain ⟨a, xs, ex, hq, q⟩ := q1
  subst ex
  cases r1 with
  | cons r rr =>
    cases rr
    cases r
    obtain ⟨its, rv, p', hz⟩ := I1.tuple hq
    have ht2 : s1.heap.IsTuple a its.toArray := p'
    have hal : a < s1.heap.objs.size := by obtain ⟨o, ho, _⟩ := ht2; exact Heap.lt_size ho
    refine call_enum1 (begins_tuple a its.toArray) ht2 fun h' he hit hk => wpAny_pyIter_enum he ?_
    have I2 : L2.Inv X pins σ H1 { s1 with heap := h' } := I1.kept (t' := s1.toks) hk
    refine ⟨s1.heap.objs.size + 1, [s1.heap.objs.size + 1, s1.heap.objs.size], _, _, H1, rfl, I2, turn_enumT a (s1.heap.objs.size + 1) s1.heap.objs.size, ⟨⟨.none, he⟩, ⟨_, hit, rfl, rfl⟩, Nat.succ_ne_self _, Nat.ne_of_lt hal, Nat.ne_of_gt (Nat.lt_succ_of_lt hal)⟩, fun b hb => ?_, q⟩
    have hle : s1.heap.objs.size ≤ b := by
      simp only [List.mem_cons, List.not_mem_nil, or_false] at hb
      rcases hb with z | z
      · rw [z]; exact Nat.le_add_right _ _
      · rw [z]; exact Nat.le_refl _
    exact I1.fpOk hle (I1.hok.fresh hle)

/-! ### enumerate, zip as data -/
section
variable {T : Tx} {X : Cx} {W : WX}
def pairs (f g : Nat → Option D) : Nat → Option D := fun i => match f i, g i with
  | some a, some b => some (.tup [a, b])
  | _, _ => none
def enumD (ds : List D) : List D := ds.mapIdx fun i d => .tup [.int (i : Int), d]
def itEnum (ds : List D) (S : Store) : R ItD := match ds with
  | [d] => match d with
    | .loc n => match S[n]? with
      | some (.lst xs) => .ok ⟨enumD xs, some (n, xs)⟩ S
      | _ => .stuck
    | .tup xs => .ok ⟨enumD xs, none⟩ S
    | _ => .stuck
  | _ => .stuck
theorem yld_pair {r' : Rp} {S' : Store} {H' : Hp} {a b : D} {x y : V} (sim : Sim T r' S' H') (va : VR T r' H' a x) (vb : VR T r' H' b y) {p : Addr} (hp : H' p = none) : Stay T H' (upd H' p (.tup [x, y])) ∧ Sim T r' S' (upd H' p (.tup [x, y])) ∧ VR T r' (upd H' p (.tup [x, y])) (.tup [a, b]) (.ref p) :=
  ⟨Stay.new hp, sim.new hp _, by
    simp only [VR]
    exact ⟨p, [x, y], rfl, SqT.of upd_same, VRs.cons (va.mono (Rp.le_refl _) (Stay.new hp)) (VRs.cons (vb.mono (Rp.le_refl _) (Stay.new hp)) VRs.nil)⟩⟩
theorem enumD_get {ds : List D} {i : Nat} {d : D} (e : (enumD ds)[i]? = some d) : ∃ y, ds[i]? = some y ∧ d = .tup [.int (i : Int), y] := by
  unfold enumD at e
  rw [List.getElem?_mapIdx] at e
  cases q : ds[i]? with
  | none => rw [q] at e; cases e
  | some y => rw [q] at e; exact ⟨y, rfl, (Option.some.inj e).symm⟩
theorem jok_enumT {ds : List D} {xs : List V} {a : Addr} {r : Rp} {H : Hp} (ht : SqT T.K H a xs) (v : VRs T r H ds xs) : JOk T ⟨enumD ds, none⟩ (IteT T.K a) r H := by
  refine ⟨fun i d r' S' H' hr hs sim g e => ?_, fun r' S' H' hr hs sim g => ?_⟩
  · obtain ⟨y, ey, rfl⟩ := enumD_get e
    obtain ⟨x, ex, vx⟩ := v.get ey
    refine ⟨⟨xs, x, hs.1 _ _ ht, ex⟩, fun z H2 hy => ?_⟩
    obtain ⟨p, x', e1, hp, e2, e3⟩ := hy
    subst e1 e2
    have q := e3 xs (hs.1 _ _ ht)
    rw [ex] at q; cases q
    exact yld_pair sim VR.ofInt (vx.mono hr hs) hp
  · exact ⟨xs, hs.1 _ _ ht, by rw [← v.len]; simp [enumD]⟩
theorem jok_enumL {n : Nat} {ds : List D} {a : Addr} {r : Rp} {H : Hp} (ea : r.ad[n]? = some a) : JOk T ⟨enumD ds, some (n, ds)⟩ (Ite T.K a) r H := by
  refine ⟨fun i d r' S' H' hr hs sim g e => ?_, fun r' S' H' hr hs sim g => ?_⟩
  · obtain ⟨b, eb, xs, hx, v⟩ := sim.ob n _ g
    rw [hr.get ea] at eb; cases eb
    obtain ⟨y, ey, rfl⟩ := enumD_get e
    obtain ⟨x, ex, vx⟩ := v.get ey
    refine ⟨⟨xs, x, SqL.of hx, ex⟩, fun z H2 hy => ?_⟩
    obtain ⟨p, x', e1, hp, e2, e3⟩ := hy
    subst e1 e2
    have q := e3 xs (SqL.of hx)
    rw [ex] at q; cases q
    exact yld_pair sim VR.ofInt vx hp
  · obtain ⟨b, eb, xs, hx, v⟩ := sim.ob n _ g
    rw [hr.get ea] at eb; cases eb
    exact ⟨xs, SqL.of hx, by rw [← v.len]; simp [enumD]⟩
def iEnumA (F : XA) : IF := fun ρ S => (F ρ S).bind itEnum
theorem si_enum {e : Expr} {elts : List Expr} {kk : Nat} {p pos tpos : Pos} {F : XA} (B : Bx T X W) (h : SA T X W [e] F) (hm : X.mg "enumerate" = none) (hg : Gl X "enumerate" := by rfl) (hs : starEach [e] X.env = [(false, eval e X.env)] := by rfl) :
    SI T X W (.Tuple elts kk tpos) (.Call (.Name "enumerate" p) [e] [] pos) (iEnumA F) := by
  obtain ⟨t, q, ad⟩ := h.ex
  refine ⟨⟨_, PI.or (pi_enum hg hm q hs) (pi_enumT hg hm q hs), fun σ H r S ρ Q sim er hq => ?_⟩⟩
  unfold iEnumA at hq
  cases e1 : F ρ S with
  | stuck => rw [e1] at hq; exact hq.elim
  | err x S1 => rw [e1] at hq; exact .inl (ad σ H r S ρ _ sim er (by rw [e1]; exact hq))
  | ok ds S1 =>
    rw [e1] at hq
    replace hq : PostG (relJ T) T W r σ H (itEnum ds S1) Q := hq
    unfold itEnum at hq
    split at hq
    · split at hq
      · split at hq
        · rename_i _ _ n _ xs e2
          refine .inl (ad σ H r S ρ _ sim er ?_)
          rw [e1]
          intro r1 H1 vs l1 s1 sim1 v1
          obtain ⟨x, rfl, vx⟩ := one_vrs v1
          obtain ⟨a, ys, rfl, ea, hx, w⟩ := sim1.lst e2 vx
          refine ⟨a, ys, rfl, SqL.of hx, hq r1 H1 _ l1 s1 sim1 ?_⟩
          rw [B.hK]
          exact jok_enumL ea
        · exact hq.elim
      · rename_i _ _ xs
        refine .inr (ad σ H r S ρ _ sim er ?_)
        rw [e1]
        intro r1 H1 vs l1 s1 sim1 v1
        obtain ⟨x, rfl, vx⟩ := one_vrs v1
        obtain ⟨a, ys, rfl, t1, w⟩ := vx.tup'
        refine ⟨a, ys, rfl, by rw [B.hK]; exact t1, hq r1 H1 _ l1 s1 sim1 ?_⟩
        rw [B.hK]
        exact jok_enumT t1 w
      · exact hq.elim
    · exact hq.elim
/-- zip of two tuples -/
def zipD (xs ys : List D) : List D := (xs.zip ys).map fun p => .tup [p.1, p.2]
def itZip (ds : List D) (S : Store) : R ItD := match ds with
  | [.tup xs, .tup ys] => .ok ⟨zipD xs ys, none⟩ S
  | _ => .stuck
theorem zipD_get {xs ys : List D} {i : Nat} {d : D} (e : (zipD xs ys)[i]? = some d) : ∃ x y, xs[i]? = some x ∧ ys[i]? = some y ∧ d = .tup [x, y] := by
  unfold zipD at e
  rw [List.getElem?_map] at e
  cases q : (xs.zip ys)[i]? with
  | none => rw [q] at e; cases e
  | some p =>
    rw [q] at e
    obtain ⟨h1, h2⟩ := List.getElem?_zip_eq_some.mp q
    exact ⟨p.1, p.2, h1, h2, (Option.some.inj e).symm⟩
theorem jok_zip {ds es : List D} {xs ys : List V} {a b : Addr} {r : Rp} {H : Hp} (ht : SqT T.K H a xs) (v : VRs T r H ds xs) (ht2 : SqT T.K H b ys) (v2 : VRs T r H es ys) : JOk T ⟨zipD ds es, none⟩ (RZ.ItzT T.K a b) r H := by
  refine ⟨fun i d r' S' H' hr hs sim g e => ?_, fun r' S' H' hr hs sim g => ?_⟩
  · obtain ⟨y1, y2, e1, e2, rfl⟩ := zipD_get e
    obtain ⟨x1, ex1, vx1⟩ := v.get e1
    obtain ⟨x2, ex2, vx2⟩ := v2.get e2
    refine ⟨⟨xs, ys, x1, x2, hs.1 _ _ ht, hs.1 _ _ ht2, ex1, ex2⟩, fun z H2 hy => ?_⟩
    obtain ⟨p, x', y', e3, hp, e4, e5, e6⟩ := hy
    subst e3 e4
    have q := e5 xs (hs.1 _ _ ht)
    rw [ex1] at q; cases q
    have q := e6 ys (hs.1 _ _ ht2)
    rw [ex2] at q; cases q
    exact yld_pair sim (vx1.mono hr hs) (vx2.mono hr hs) hp
  · refine ⟨xs, ys, hs.1 _ _ ht, hs.1 _ _ ht2, ?_⟩
    have h1 := v.len
    have h2 := v2.len
    have e : (zipD ds es).length = min xs.length ys.length := by simp [zipD, List.length_zip, h1, h2]
    simp only [e]
    omega
def iZip (F : XA) : IF := fun ρ S => (F ρ S).bind itZip
theorem si_zip {e e2 : Expr} {elts : List Expr} {kk : Nat} {p pos tpos : Pos} {F : XA} (B : Bx T X W) (h : SA T X W [e, e2] F) (hm : X.mg "zip" = none) (hg : Gl X "zip" := by rfl) (hs : starEach [e, e2] X.env = (false, eval e X.env) :: starEach [e2] X.env := by rfl) (hpl : (backTo pos (starEach [e2] X.env)).any (·.1) = false := by rfl) :
    SI T X W (.Tuple elts kk tpos) (.Call (.Name "zip" p) [e, e2] [] pos) (iZip F) := by
  obtain ⟨t, q, ad⟩ := h.ex
  refine ⟨⟨_, RZ.pi_zipA hg hm q hs hpl, fun σ H r S ρ Q sim er hq => ad σ H r S ρ _ sim er (PostG.bind hq fun ds S1 r1 H1 vs l1 s1 sim1 v1 h1 => ?_)⟩⟩
  unfold itZip at h1
  split at h1
  · rename_i xs ys
    obtain ⟨x, y, rfl, vx, vy⟩ := two_vrs v1
    obtain ⟨a, us, rfl, t1, w1⟩ := vx.tup'
    obtain ⟨b, ws, rfl, t2, w2⟩ := vy.tup'
    refine ⟨a, b, us, ws, rfl, .inr ⟨by rw [B.hK]; exact t1, by rw [B.hK]; exact t2, h1 r1 H1 _ (Rp.le_refl _) (Stay.refl _) sim1 ?_⟩⟩
    rw [B.hK]
    exact jok_zip t1 w1 t2 w2
  · exact h1.elim
end
end DM

/-! DMN: in, the module's names, defs by name. -/
namespace DM
open PySem PySem.Spec PyProof.Rows L2

section
variable {T : Tx} {X : Cx} {W : WX}
abbrev rInS (neg : Bool) : R2 := fun x y H Q => ∃ i j, x = .str i ∧ y = .str j ∧ Q (.bl (if neg then !(!(Builtin.Str.occurrences j i 0 j.length 1).isEmpty) else !(Builtin.Str.occurrences j i 0 j.length 1).isEmpty)) H
theorem a_inB (neg : Bool) : OpA T (fun x y H Q => rInS neg x y H Q ∨ rIn T.K neg x y H Q) (dInB neg) := fun W σ r S H d e x y Q sim vx vy h => by
  unfold dInB at h
  split at h
  · split at h
    · exact .inl ⟨_, _, vx.str', vy.str', post_ok h sim VR.ofBl⟩
    · exact h.elim
  · split at h
    · rename_i es e1
      split at h
      · rename_i hf
        obtain ⟨a, xs, ev, hq, w⟩ := seqOf_v sim vy e1
        obtain ⟨e2, e3⟩ := flat_v vx hf.1
        obtain ⟨e4, e5⟩ := flat_vs w hf.2
        refine .inr ⟨a, xs, ev, hq, e3, e5, ?_⟩
        rw [e2, e4]
        exact post_ok h sim VR.ofBl
      · exact h.elim
    · exact h.elim
theorem op_inB : OpR X (compareOp .In) (fun x y H Q => rInS false x y H Q ∨ rIn X.K false x y H Q) := OpR.or op_in_str op_in_seq
theorem op_notInB : OpR X (compareOp .NotIn) (fun x y H Q => rInS true x y H Q ∨ rIn X.K true x y H Q) := OpR.or op_notin_str op_notIn_seq
abbrev dIn : G2 := dInB false
abbrev dNotIn : G2 := dInB true
abbrev tst (F : XF) : XT := fun ρ S => asB (F ρ S)
/-- a tuple of texts of the module -/
theorem se_globT {x : Str} {a : Addr} {ys : List Str} {pos : Pos} (hm : X.mg x = some (.ref a)) (ht : ∀ H, SqT T.K H a (ys.map V.str)) (hg : Gl X x := by rfl) (hd : (x == ("__debug__" : Str)) = false := by decide) : SE T X W (.Name x pos) (xC (.tup (ys.map D.str))) := by
  refine ⟨⟨_, pe_glob (v := .ref a) hg hm rfl hd, ad_c fun r H => ?_⟩⟩
  simp only [VR]
  refine ⟨a, _, rfl, ht H, ?_⟩
  clear ht
  induction ys with
  | nil => exact VRs.nil
  | cons y ys ih => exact VRs.cons VR.ofStr ih
theorem se_glI {x : Str} {i : Int} {pos : Pos} (hm : ∃ t, X.mg x = some (.int i t)) (hg : Gl X x := by rfl) (hd : (x == ("__debug__" : Str)) = false := by decide) : SE T X W (.Name x pos) (xC (.int i)) := se_globI hg hm hd
theorem se_glS {x y : Str} {pos : Pos} (hm : ∃ t, X.mg x = some (.str y t)) (hg : Gl X x := by rfl) (hd : (x == ("__debug__" : Str)) = false := by decide) : SE T X W (.Name x pos) (xC (.str y)) := se_globS hg hm hd
end
/-- a def of the module, by its name -/
structure Fn (T : Tx) (P : Program) (w : World) (mg : Str → Option Value) (base : Heap) (x : Str) (k : Nat) (ps : List Str) (F : DF) : Prop where
  ex : ∃ f fd, mg x = some (.ref f) ∧ PySem.W.keepIn T.K (.ref f) = true ∧ Binds T.K fd ps [] ∧ FnOk P w T.K mg base (L2.CX P w) k f fd ps (spD T ps.length F)
section
variable {T : Tx} {X : Cx} {W : WX} {P : Program} {w : World} {mg : Str → Option Value} {base : Heap} {x qual : Str} {params : Arguments} {body : List Stmt} {scope : Scope} {f : Addr} {fd : FuncData}
theorem se_callF {k j : Nat} {ps : List Str} {F : DF} {e : Expr} {es : List Expr} {p pos : Pos} {Fa : XA} (B : Bx T X W) (hr : Room j X.A) (c : Fn T X.prog X.w X.mg X.base x k ps F) (ha : SA T X W (e :: es) Fa) (hkj : k ≤ j := by decide) (hg : Gl X x := by rfl) (hdb : (x == ("__debug__" : Str)) = false := by decide)
    (he : starEach (e :: es) X.env = (false, eval e X.env) :: starEach es X.env := by rfl) (hpl : (backTo pos (starEach es X.env)).any (·.1) = false := by rfl) : SE T X W (.Call (.Name x p) (e :: es) [] pos) (xAr (ofN ps.length F) Fa) := by
  obtain ⟨f, fd, hm, hk, hb, G⟩ := c.ex
  rw [← B.hK] at hk hb G
  exact se_call B G hr hk hb hm ha hkj hg hdb he hpl
theorem fn_mk {k : Nat} {N ps : List Str} {Fb : SF} (F : FunD T.K x qual params body scope [] [] f fd) (hm : mg x = some (.ref f)) (S : FnScope N ps scope)
    (hbi : ∀ (kV doc pm : Value) (an : Option Addr) (cdv ct : Value) (us : List Value), us.length = ps.length → bindArgs (PySem.W.fnOf x qual params body scope .none kV doc pm an cdv ct) ⟨us, []⟩ = pure (ps.zip us))
    (hb : ∀ (cdv : Value) (A : Around) (outer : List PySem.Env) (s : Shared) (H : Hp) (E : XK), Room k (A.deeper (envOfC qual scope s.heap.objs.size f cdv)) →
      Bx T (cxOf (L2.CX P w) P w T.K mg base N qual scope f cdv A outer s H E) (fun c dd _ H' => E c dd H') → PassesOwn (model P w) (A.deeper (envOfC qual scope s.heap.objs.size f cdv)) (envOfC qual scope s.heap.objs.size f cdv) (cxOf (L2.CX P w) P w T.K mg base N qual scope f cdv A outer s H E).xe →
      SSs T (cxOf (L2.CX P w) P w T.K mg base N qual scope f cdv A outer s H E) (fun c dd _ H' => E c dd H') body Fb) : Fn T P w mg base x (k + 1) ps (runB N.length Fb) :=
  ⟨f, fd, hm, F.kp, F.bindsN hbi, fnD_of F S rfl hb⟩
end
end DM

/-! DMO: more names for the printed text. -/
namespace DM
open PySem PySem.Spec PyProof.Rows L2
abbrev gMin2 : GA := gAA fun i j => if j < i then j else i
abbrev gMax2 : GA := gAA fun i j => if j > i then j else i
def many : Nat := 1000000
section
variable {T : Tx} {X : Cx} {W : WX}
def dMul : G2 := fun d e S => match d with
  | .int _ => dMulI d e S
  | _ => dMulL d e S
abbrev rMulAll : R2 := fun x y H Q => rI CMulW (fun i j => .int (i * j)) x y H Q ∨ rRep x y H Q
theorem op_mulAll : OpR X (binaryOp .Mult) rMulAll := OpR.or op_mulW op_rep
theorem a_mulAll : OpA T rMulAll dMul := fun W σ r S H d e x y Q sim vx vy h => by
  unfold dMul at h
  split at h
  · exact .inl (opa_I (fun _ _ _ _ => VR.ofInt) W σ r S H _ e x y Q sim vx vy h)
  · exact .inr (a_mulL W σ r S H _ e x y Q sim vx vy h)
theorem a_augAdd : OpA T (ipI fun i j => i + j) dAddI := opa_I0 (gv := fun i j => .int (i + j)) fun _ _ _ _ => VR.ofInt
theorem a_augSub : OpA T (ipI fun i j => i - j) dSub := opa_I0 (gv := fun i j => .int (i - j)) fun _ _ _ _ => VR.ofInt
end
end DM

/-! DMP: own exception classes, over any built-in base: made, raised. -/
namespace DM
open PySem PySem.Spec PyProof.Rows L2

/-- what the written part says of an own exception class at C over the built-in B -/
structure XcF (K : PySem.W.Frag) (C : Addr) (B newId initId : String) (bmB : List Value) : Prop where
  fb : ExcBaseFacts B newId initId bmB
  sf : StoreFacts B bmB "object.__setattr__" "object"
  ini : PySem.W.excInitIn K C bmB newId = true
  ov : PySem.W.excOver K C bmB = true
  hd : PySem.W.hasDictIn K C = true
  sa : PySem.W.findIn K (.ref C) "__setattr__" = some (some (.builtin "object.__setattr__"))
  rb : PySem.W.subIn K (.ref C) (.type "BaseException") = some true
  rt : PySem.W.typeIn K (.ref C) = some (.type "type")
  kp : PySem.W.keepIn K (.ref C) = true
section
variable {X : Cx} {pins : List (Addr × Obj)} {σ : L2.St} {H : Hp} {s : Shared} {a C d : Addr} {f : Str} {y : V} {u : Value} {gs : List (Str × V)} {Q : Unit → Shared → Prop} {E : Value → Shared → Prop} {A : Around} {B newId initId : String} {bmB : List Value}
theorem empty_ns {h : Heap} {b : Addr} {o : Obj} (e : h.get? b = some o) (hd : o.data = .dict #[]) (ho : o.ExactDict ∨ True) : h.Ns b fun _ => none :=
  ⟨o, #[], 0, e, hd, fun en he => absurd he (by simp), fun _ => rfl⟩
/-- self.f = y, the first one: its dict is laid -/
theorem stN (F : XcF X.K C B newId initId bmB) (I : Inv X pins σ H s) (e : H a = some (exo a C none)) (ht : PySem.W.takerIn X.K C f = some none) (ry : RelV y u)
    (h : ∀ d H2 s', H d = none → d ≠ a → H2 a = some (exo a C (some d)) → H2 d = some (exd d [(f, y)]) → (∀ b, b ≠ a → b ≠ d → H2 b = H b) → Inv X pins σ H2 s' → Q () s') : wpAny (model X.prog X.w) A (setAttr (.ref a) f u) Q E s := by
  obtain ⟨t1, ho⟩ := exo_at I.hok e
  obtain ⟨hp, g, dr, tk, os⟩ := s
  have IA : PySem.W.InstAt hp a { cls := .ref C, dict := none, data := .fields #[.ref t1, .none, .none, .none, .bool false, .none] } C none := ⟨ho, rfl, rfl, trivial⟩
  refine PySem.W.set_plain I.kIn IA F.sa ?_
  refine PySem.W.osa_openX (s := ⟨hp, g, dr, _, os⟩) F.sf I.kIn IA F.ov ht fun b => ?_
  obtain ⟨cd, hc, hd'⟩ := PySem.W.any_some F.hd
  refine wpAny_bind (wpAny_pure (wpAny_bind (PySem.W.instanceDict_exc (t := t1) (c2 := .none) ho (PySem.W.looks_clsIn I.kIn hc) hd' ?_)))
  have lt : a < hp.objs.size := Heap.lt_size ho
  have na : hp.objs.size ≠ a := Nat.ne_of_gt lt
  have hn : H hp.objs.size = none := I.hok.fresh (Nat.le_refl _)
  have g1 : (hp.push (PySem.W.dictOf [] 0)).get? hp.objs.size = some (PySem.W.dictOf [] 0) := Heap.get?_push_at rfl rfl
  have k1 : ∀ (b : Addr) (o : Obj), hp.get? b = some o → (hp.push (PySem.W.dictOf [] 0)).get? b = some o := fun b o q => Heap.get?_push_of_some _ q
  have J1 := I.laid (t' := tk) (a := hp.objs.size) (o := exd hp.objs.size []) k1 (Nat.le_refl _) (exd_ok (mA := fun _ => none) (Heap.Ns1.of_empty ⟨_, #[], 0, g1, rfl, fun en he => absurd he (by simp), fun _ => rfl⟩) fun _ => True.intro)
  have ea1 : upd H hp.objs.size (exd hp.objs.size []) a = some (exo a C none) := by rw [upd_ne (Ne.symm na)]; exact e
  have g2 : ((hp.push (PySem.W.dictOf [] 0)).update a fun o => { o with dict := some hp.objs.size }).get? a = some { cls := .ref C, dict := some hp.objs.size, data := .fields #[.ref t1, .none, .none, .none, .bool false, .none] } := Heap.get?_update_self _ (k1 _ _ ho) rfl
  have J2 := J1.write (t' := tk + 1) (x := a) (e := a) (o := exo a C (some hp.objs.size)) (h' := (hp.push (PySem.W.dictOf [] 0)).update a fun o => { o with dict := some hp.objs.size }) (by rw [ea1]; exact True.intro) (.inl rfl)
    (fun b o nb q => (Heap.get?_update_ne _ _ _ _ nb).trans q) ⟨_, g2⟩ (exo_ok g2)
  have e2a : upd (upd H hp.objs.size (exd hp.objs.size [])) a (exo a C (some hp.objs.size)) hp.objs.size = some (exd hp.objs.size []) := by rw [upd_ne na, upd_same]
  have gd : ((hp.push (PySem.W.dictOf [] 0)).update a fun o => { o with dict := some hp.objs.size }).get? hp.objs.size = some (PySem.W.dictOf [] 0) := (Heap.get?_update_ne _ _ _ _ na).trans g1
  show wpAny _ _ (Builtin.ObjectAttr.storeInDict hp.objs.size (.str f _) f u) _ _ _
  refine PySem.HandSPX.store_in_new ⟨_, #[], 0, gd, rfl, fun en he => absurd he (by simp), fun _ => rfl⟩ fun h' tk' hns sb => ?_
  have J3 := J2.write (t' := tk') (x := hp.objs.size) (e := hp.objs.size) (o := exd hp.objs.size [(f, y)]) (h' := h') (by rw [e2a]; exact True.intro) (.inl rfl) (fun b o nb q => (sb.2 b nb).trans q)
    (let ⟨o, _, _, q, _⟩ := hns; ⟨o, q⟩) (exd_ok hns (relO_put (fs := []) ry fun _ => True.intro))
  exact h hp.objs.size _ _ hn na (by rw [upd_ne (Ne.symm na), upd_same]) upd_same (fun b n1 n2 => by rw [upd_ne n2, upd_ne n1, upd_ne n2]) J3
/-- a further one -/
theorem stO (F : XcF X.K C B newId initId bmB) (I : Inv X pins σ H s) (e : H a = some (exo a C (some d))) (ed : H d = some (exd d gs)) (hl : gs.length ≤ 900) (ht : PySem.W.takerIn X.K C f = some none) (ry : RelV y u)
    (h : ∀ s', Inv X pins σ (upd H d (exd d ((f, y) :: gs))) s' → Q () s') : wpAny (model X.prog X.w) A (setAttr (.ref a) f u) Q E s := by
  obtain ⟨t1, ho⟩ := exo_at I.hok e
  obtain ⟨mA, hns, rel⟩ := exd_at I.hok ed
  have hw := within_of rel
  obtain ⟨hp, g, dr, tk, os⟩ := s
  obtain ⟨oD, _, _, hoD, _, _⟩ := hns.count hw
  have IA : PySem.W.InstAt hp a { cls := .ref C, dict := some d, data := .fields #[.ref t1, .none, .none, .none, .bool false, .none] } C (some oD) := ⟨ho, rfl, rfl, hoD⟩
  refine PySem.W.set_plain I.kIn IA F.sa ?_
  refine PySem.W.osa_openX (s := ⟨hp, g, dr, _, os⟩) F.sf I.kIn IA F.ov ht fun b => ?_
  obtain ⟨cd, hc, hd'⟩ := PySem.W.any_some F.hd
  refine wpAny_bind (wpAny_pure (wpAny_bind (wpAny_bind (wpAny_loadPart ho (wpAny_bind ((PySem.W.looks_clsIn I.kIn hc).at ?_))))))
  rw [hd']
  refine wpAny_pure (a := some d) ?_
  refine PySem.OEX.store_in_old hns hw (by rw [List.length_map]; omega) fun h' tk' hn sb => ?_
  exact h _ (I.write (t' := tk') (x := d) (e := d) (o := exd d ((f, y) :: gs)) (by rw [ed]; exact True.intro) (.inl rfl) (fun b o nb q => (sb.2 b nb).trans q) (let ⟨o, _, _, q, _⟩ := hn; ⟨o, q⟩) (exd_ok hn (relO_put ry rel)))
end
/-- self.f = e in an __init__ of such a class -/
def tSt (K : PySem.W.Frag) (C : Addr) (f : Str) (to te : TE) : TS := fun D σ H => te σ H fun y H1 => to σ H1 fun x H2 => ∃ a : Addr, x = .ref a ∧ PySem.W.takerIn K C f = some none ∧
  ((H2 a = some (exo a C none) ∧ ∀ d H3, H2 d = none → d ≠ a → H3 a = some (exo a C (some d)) → H3 d = some (exd d [(f, y)]) → (∀ b, b ≠ a → b ≠ d → H3 b = H2 b) → D.nx σ H3) ∨
    ∃ (d : Addr) (gs : List (Str × V)), H2 a = some (exo a C (some d)) ∧ H2 d = some (exd d gs) ∧ gs.length ≤ 900 ∧ D.nx σ (upd H2 d (exd d ((f, y) :: gs))))
theorem ps_st {X : Cx} {C : Addr} {B newId initId : String} {bmB : List Value} {o e : Expr} {to te : TE} {f : Str} {p' pos : Pos} (F : XcF X.K C B newId initId bmB) (ho : PE X o to) (he : PE X e te) (hs : swapsWith e (some (.Attribute o f p')) pos.line X.env = pure false := by rfl) :
    PS X (.Assign [.Attribute o f p'] e pos) (tSt X.K C f to te) := by
  refine ⟨fun pins s σ H D I h => plainObj_wpAny_Assign_Attribute (thn (he.run pins s σ H _ I h) fun v s1 ⟨y, H1, I1, r1, q1⟩ => thn (ho.run pins s1 σ H1 _ I1 q1) fun u s2 ⟨x, H2, I2, r2, a, ex, ht, q⟩ => ?_) hs⟩
  subst ex
  obtain rfl : u = Value.ref a := r2
  rcases q with ⟨ea, q⟩ | ⟨d, gs, ea, ed, hl, q⟩
  · exact stN F I2 ea ht r1 fun d H3 s' n ne z1 z2 z3 J => ⟨σ, H3, J, q d H3 n ne z1 z2 z3⟩
  · exact stO F I2 ea ed hl ht r1 fun s' J => ⟨σ, _, J, q⟩
/-! ### the __init__ as a template -/
/-- what a field is set to: a text, the i-th argument -/
inductive Sr where
  | c (x : Str) | p (i : Nat)
def srV (ws : List V) : Sr → V
  | .c x => .str x
  | .p i => ws.getD i .non
def srD (ds : List D) : Sr → D
  | .c x => .str x
  | .p i => ds.getD i .non
def Sr.ok (n : Nat) : Sr → Bool
  | .c _ => true
  | .p i => decide (i < n)
def tpV (ws : List V) (l : List (Str × Sr)) : List (Str × V) := (l.map fun p => (p.1, srV ws p.2)).reverse
def tpD (ds : List D) (l : List (Str × Sr)) : List (Str × D) := (l.map fun p => (p.1, srD ds p.2)).reverse
def srT : Sr → TE
  | .c x => tC (.str x)
  | .p i => tVar (i + 1)
def Slots (σ : L2.St) (a : Addr) (ws : List V) : Prop := σ[0]? = some (some (.ref a)) ∧ ∀ i, i < ws.length → σ[i + 1]? = some (some (ws.getD i .non))
theorem srT_run {σ : L2.St} {a : Addr} {ws : List V} {H : Hp} {Q : VK} {x : Sr} (h : Slots σ a ws) (hx : x.ok ws.length = true) (q : Q (srV ws x) H) : srT x σ H Q := by
  cases x with
  | c y => exact q
  | p i => exact ⟨_, h.2 i (of_decide_eq_true hx), q⟩
/-- stores one after the other -/
inductive Inits (X : Cx) (C : Addr) : List Stmt → List (Str × Sr) → Prop
  | one {st : Stmt} {f : Str} {x : Sr} : PS X st (tSt X.K C f (tVar 0) (srT x)) → Inits X C [st] [(f, x)]
  | cons {st : Stmt} {f : Str} {x : Sr} {r : List Stmt} {l : List (Str × Sr)} : PS X st (tSt X.K C f (tVar 0) (srT x)) → Inits X C r l → Inits X C (st :: r) ((f, x) :: l)
theorem Inits.rest {X : Cx} {C : Addr} {b : List Stmt} {l : List (Str × Sr)} (h : Inits X C b l) : ∃ t, PSs X b t ∧ ∀ (D : Ends) (σ : L2.St) (H : Hp) (a d : Addr) (ws : List V) (gs : List (Str × V)), Slots σ a ws → (l.all fun p => p.2.ok ws.length) = true → (∀ p ∈ l, PySem.W.takerIn X.K C p.1 = some none) → d ≠ a →
    H a = some (exo a C (some d)) → H d = some (exd d gs) → gs.length + l.length ≤ 900 → (∀ H2, H2 a = some (exo a C (some d)) → H2 d = some (exd d (tpV ws l ++ gs)) → (∀ b, b ≠ a → b ≠ d → H2 b = H b) → D.nx σ H2) → t D σ H := by
  induction h with
  | @one st f x h =>
    refine ⟨_, pss_one h, fun D σ H a d ws gs hs ho ht nd ea ed hl q => ?_⟩
    refine srT_run hs (by simpa using ho) ⟨_, hs.1, a, rfl, ht _ (List.mem_cons_self ..), .inr ⟨d, gs, ea, ed, by simp at hl; omega, q _ ?_ ?_ fun b _ n => upd_ne n⟩⟩
    · rw [upd_ne (Ne.symm nd)]; exact ea
    · rw [upd_same]; rfl
  | @cons st f x r l h _ ih =>
    obtain ⟨t, p, ih⟩ := ih
    refine ⟨_, pss_cons h p, fun D σ H a d ws gs hs ho ht nd ea ed hl q => ?_⟩
    simp only [List.all_cons, Bool.and_eq_true] at ho
    simp only [List.length_cons] at hl
    refine srT_run hs ho.1 ⟨_, hs.1, a, rfl, ht _ (List.mem_cons_self ..), .inr ⟨d, gs, ea, ed, by omega, ?_⟩⟩
    refine ih D σ _ a d ws ((f, srV ws x) :: gs) hs ho.2 (fun p hp => ht p (List.mem_cons_of_mem _ hp)) nd (by rw [upd_ne (Ne.symm nd)]; exact ea) upd_same (by simp only [List.length_cons]; omega) fun H2 z1 z2 z3 => q H2 z1 ?_ fun b n1 n2 => (z3 b n1 n2).trans (upd_ne n2)
    rw [z2]
    simp [tpV]
theorem Inits.first {X : Cx} {C : Addr} {b : List Stmt} {l : List (Str × Sr)} (h : Inits X C b l) : ∃ t, PSs X b t ∧ ∀ (D : Ends) (σ : L2.St) (H : Hp) (a : Addr) (ws : List V), Slots σ a ws → (l.all fun p => p.2.ok ws.length) = true → (∀ p ∈ l, PySem.W.takerIn X.K C p.1 = some none) → l.length ≤ 900 →
    H a = some (exo a C none) → (∀ d H2, H d = none → d ≠ a → H2 a = some (exo a C (some d)) → H2 d = some (exd d (tpV ws l)) → (∀ b, b ≠ a → b ≠ d → H2 b = H b) → D.nx σ H2) → t D σ H := by
  cases h with
  | @one st f x h =>
    refine ⟨_, pss_one h, fun D σ H a ws hs ho ht hl ea q => ?_⟩
    refine srT_run hs (by simpa using ho) ⟨_, hs.1, a, rfl, ht _ (List.mem_cons_self ..), .inl ⟨ea, fun d H3 n ne z1 z2 z3 => q d H3 n ne z1 z2 z3⟩⟩
  | @cons st f x r l h k =>
    obtain ⟨t, p, ih⟩ := k.rest
    refine ⟨_, pss_cons h p, fun D σ H a ws hs ho ht hl ea q => ?_⟩
    simp only [List.all_cons, Bool.and_eq_true] at ho
    simp only [List.length_cons] at hl
    refine srT_run hs ho.1 ⟨_, hs.1, a, rfl, ht _ (List.mem_cons_self ..), .inl ⟨ea, fun d H3 n ne z1 z2 z3 => ?_⟩⟩
    refine ih D σ H3 a d ws [(f, srV ws x)] hs ho.2 (fun p hp => ht p (List.mem_cons_of_mem _ hp)) ne z1 z2 (by simp; omega) fun H2 y1 y2 y3 => q d H2 n ne y1 ?_ fun b n1 n2 => (y3 b n1 n2).trans (z3 b n1 n2)
    rw [y2]
    simp [tpV]
def spX (C : Addr) (n : Nat) (l : List (Str × Sr)) : Sp := fun vs H Q _ => ∃ (a : Addr) (ws : List V), vs = .ref a :: ws ∧ ws.length = n ∧ H a = some (exo a C none) ∧
  ∀ d H2, H d = none → d ≠ a → H2 a = some (exo a C (some d)) → H2 d = some (exd d (tpV ws l)) → (∀ b, b ≠ a → b ≠ d → H2 b = H b) → Q .non H2
/-- a class whose calls make an exception with these fields -/
structure Xc (T : Tx) (P : Program) (w : World) (mg : Str → Option Value) (base : Heap) (x : Str) (c n : Nat) (l : List (Str × Sr)) : Prop where
  ex : ∃ (fI : Addr) (fd : FuncData) (ps : List Str) (B newId initId : String) (bmB : List Value), mg x = some (.ref (T.cls c)) ∧ XcF T.K (T.cls c) B newId initId bmB ∧ PySem.W.findIn T.K (.ref (T.cls c)) "__init__" = some (some (.ref fI)) ∧ PySem.W.typeIn T.K (.ref fI) = some (.type "function") ∧
    ps.length = n + 1 ∧ Binds T.K fd ps [] ∧ FnOk P w T.K mg base (L2.CX P w) 1 fI fd ps (spX (T.cls c) n l)
section
variable {P : Program} {w : World} {T : Tx} {mg : Str → Option Value} {base : Heap} {x qual : Str} {params : Arguments} {body : List Stmt} {scope : Scope} {f : Addr} {fd : FuncData} {B newId initId : String} {bmB : List Value}
theorem slots_start {N : List Str} {a : Addr} {ws : List V} : Slots (L2.start N (.ref a :: ws)) a ws := by
  refine ⟨rfl, fun i hi => ?_⟩
  unfold L2.start
  rw [List.getElem?_append_left (by simp; omega), List.getElem?_map, List.getElem?_cons_succ, List.getElem?_eq_getElem hi]
  simp [List.getD, hi]
theorem xc_mk {c n : Nat} {l : List (Str × Sr)} {N ps : List Str} (F : FunD T.K x qual params body scope [] [] f fd) (XF : XcF T.K (T.cls c) B newId initId bmB) {y : Str} (hm : mg y = some (.ref (T.cls c))) (hi : PySem.W.findIn T.K (.ref (T.cls c)) "__init__" = some (some (.ref f))) (hy : PySem.W.typeIn T.K (.ref f) = some (.type "function"))
    (S : FnScope N ps scope) (hn : ps.length = n + 1) (ht : ∀ p ∈ l, PySem.W.takerIn T.K (T.cls c) p.1 = some none) (ho : (l.all fun p => p.2.ok n) = true) (hl : l.length ≤ 900)
    (hbi : ∀ (kV doc pm : Value) (an : Option Addr) (cdv ct : Value) (us : List Value), us.length = ps.length → bindArgs (PySem.W.fnOf x qual params body scope .none kV doc pm an cdv ct) ⟨us, []⟩ = pure (ps.zip us))
    (hb : ∀ (cdv : Value) (A : Around) (outer : List PySem.Env) (s : Shared) (H : Hp) (E : XK), Inits (cxOf (L2.CX P w) P w T.K mg base N qual scope f cdv A outer s H E) (T.cls c) body l) : Xc T P w mg base y c n l := by
  refine ⟨f, fd, ps, B, newId, initId, bmB, hm, XF, hi, hy, hn, F.bindsN hbi, F.ok S (fun vs H Q E h => ?_) fun cdv A outer s H vs Q E hr h => ?_⟩
  · obtain ⟨a, ws, rfl, e, _⟩ := h
    simp [e, hn]
  · obtain ⟨a, ws, rfl, e, ea, h⟩ := h
    obtain ⟨t, p, k⟩ := (hb cdv A outer s H E).first
    exact ⟨t, p, k _ _ H a ws slots_start (by rw [e]; exact ho) ht hl ea fun d H2 z1 z2 z3 z4 z5 => h d H2 z1 z2 z3 z4 z5⟩
end
end DM

/-! DMQ: such a class called: a value, a raise. -/
namespace DM
open PySem PySem.Spec PyProof.Rows L2

section
variable {T : Tx} {X : Cx} {W : WX}
theorem Paired.app {α β : Type} {F : α → β → Prop} : ∀ {l l' : List α} {k k' : List β}, Paired F l k → Paired F l' k' → Paired F (l ++ l') (k ++ k')
  | _, _, _, _, .nil, h => h
  | _, _, _, _, .cons r t, h => .cons r (Paired.app t h)
theorem Paired.rev {α β : Type} {F : α → β → Prop} : ∀ {l : List α} {k : List β}, Paired F l k → Paired F l.reverse k.reverse
  | _, _, .nil => .nil
  | _, _, .cons r t => by
    rw [List.reverse_cons, List.reverse_cons]
    exact Paired.app (Paired.rev t) (.cons r .nil)
theorem VRs.getD {r : Rp} {H : Hp} {ds : List D} {vs : List V} (h : VRs T r H ds vs) (i : Nat) : VR T r H (ds.getD i .non) (vs.getD i .non) := by
  by_cases hi : i < ds.length
  · obtain ⟨v, e, q⟩ := h.get (List.getElem?_eq_getElem hi)
    rw [List.getD_eq_getElem?_getD, List.getD_eq_getElem?_getD, e, List.getElem?_eq_getElem hi]
    exact q
  · have h1 : vs.length ≤ i := by rw [← h.len]; omega
    rw [List.getD_eq_getElem?_getD, List.getD_eq_getElem?_getD, List.getElem?_eq_none (by omega), List.getElem?_eq_none h1]
    simp only [Option.getD, VR]
theorem tp_vr {r : Rp} {H : Hp} {ds : List D} {vs : List V} (h : VRs T r H ds vs) (l : List (Str × Sr)) : FR T r H (tpD ds l) (tpV vs l) := by
  unfold tpD tpV
  refine Paired.rev ?_
  induction l with
  | nil => exact .nil
  | cons p l ih =>
    refine .cons ⟨rfl, ?_⟩ ih
    obtain ⟨f, y⟩ := p
    cases y with
    | c x => exact VR.ofStr
    | p i => exact h.getD i
theorem KVR.find {κ : Type} [BEq κ] [LawfulBEq κ] {r : Rp} {H : Hp} : ∀ {kvs : List (κ × D)} {ks : List (κ × V)} {k : κ} {d : D}, KVR T r H kvs ks → kvs.lookup k = some d → ∃ v, ks.lookup k = some v ∧ VR T r H d v
  | [], _, k, d, _, e => by cases e
  | (k1, d1) :: kvs, _, k, d, .cons (b := (k2, v2)) q t, e => by
    obtain ⟨q1, q2⟩ := q
    simp only at q1
    subst q1
    rw [List.lookup_cons] at e ⊢
    cases z : (k == k1) with
    | true => rw [z] at e; cases e; exact ⟨v2, rfl, q2⟩
    | false => rw [z] at e; exact KVR.find t e
def rMkX (C : Addr) (n : Nat) (l : List (Str × Sr)) : List V → Hp → VK → Prop := fun vs H Q => vs.length = n ∧ vs.length ≤ 1000 ∧ ∀ a d H2, H a = none → H d = none → d ≠ a → H2 a = some (exo a C (some d)) → H2 d = some (exd d (tpV vs l)) → (∀ b, b ≠ a → b ≠ d → H2 b = H b) → Q (.ref a) H2
def rRsX (C : Addr) (n : Nat) (l : List (Str × Sr)) : List V → Hp → XK → Prop := fun vs H Q => vs.length = n ∧ vs.length ≤ 1000 ∧ ∀ d, H d = none → Q (.ref C) (some d) (upd H d (.xd (tpV vs l)))
section
variable {x : Str} {c n : Nat} {l : List (Str × Sr)} {pins : List (Addr × Obj)} {σ : L2.St} {H1 : Hp} {s1 : Shared} {vs : List V} {us : List Value}
/-- the bare run -/
theorem run_xc (B : Bx T X W) (hr : Room 2 X.A) (G : Xc T X.prog X.w X.mg X.base x c n l) (I1 : Inv X pins σ H1 s1) (r1 : Vals vs us) (hn : vs.length = n) (hz : vs.length ≤ 1000) {Q : Value → Shared → Prop}
    (q : ∀ (hp : Heap) (gn : Array GenState) (dr : Drawn) (tk : Nat) (os : OsState) (hp1 : Heap) (H2 : Hp) (s' : Shared) (d : Addr), s1 = ⟨hp, gn, dr, tk, os⟩ → (∀ b o, hp.get? b = some o → hp1.get? b = some o) → Inv X pins σ (upd H1 (hp.objs.size + 1) (exo (hp.objs.size + 1) (T.cls c) none)) ⟨hp1, gn, dr, tk, os⟩ →
      s'.os = os → AllBare s'.gens → Un (frs X.stack) [] (upd H1 (hp.objs.size + 1) (exo (hp.objs.size + 1) (T.cls c) none)) H2 hp1 s'.heap → HOk X.prog X.w H2 s'.heap →
      H2 (hp.objs.size + 1) = some (exo (hp.objs.size + 1) (T.cls c) (some d)) → H2 d = some (exd d (tpV vs l)) → H1 d = none → d ≠ hp.objs.size + 1 → (∀ b, b ≠ hp.objs.size + 1 → b ≠ d → H2 b = H1 b) → Q (.ref (hp.objs.size + 1)) s') :
    wpAny (model X.prog X.w) X.A (call (.ref (T.cls c)) us) Q X.xe s1 := by
  obtain ⟨fI, fd, ps, Bn, newId, initId, bmB, hm, F, iC, tI, hps, hb, F1⟩ := G.ex
  rw [← B.hK] at F iC tI hb F1
  obtain ⟨nm, N, qn, bs, bm, hdct, sn, sub, ab, col, dd, k0, k1, k2, k3, k5, hC, hT⟩ := PySem.W.excInit_of I1.kIn F.ini
  obtain ⟨hp, g, dr, tk, os⟩ := s1
  have hsz : hp.objs.size ≤ hp.objs.size + 1 := Nat.le_succ _
  have hn1 : H1 (hp.objs.size + 1) = none := I1.hok.fresh hsz
  have kk : ∀ (b : Addr) (o : Obj), hp.get? b = some o → ((hp.push (PySem.W.kdv_tup us)).push (PySem.HandSPX.excO (T.cls c) hp.objs.size)).get? b = some o := fun b o e => Heap.get?_push_of_some _ (Heap.get?_push_of_some _ e)
  have hget : ((hp.push (PySem.W.kdv_tup us)).push (PySem.HandSPX.excO (T.cls c) hp.objs.size)).get? (hp.objs.size + 1) = some (PySem.HandSPX.excO (T.cls c) hp.objs.size) := by heap_get
  have I2 := I1.laid (t' := tk) (a := hp.objs.size + 1) (o := exo (hp.objs.size + 1) (T.cls c) none) (h' := (hp.push (PySem.W.kdv_tup us)).push (PySem.HandSPX.excO (T.cls c) hp.objs.size)) kk hsz (exo_ok hget)
  have hlen : us.length = n := by rw [← r1.length]; exact hn
  have hus : us.length ≤ sizeLine := by rw [hlen, ← hn, sizeLine_eq]; omega
  have r2 : Vals (V.ref (hp.objs.size + 1) :: vs) (Value.ref (hp.objs.size + 1) :: us) := .cons rfl r1
  have bn := hb _ (Value.ref (hp.objs.size + 1) :: us) I2.kIn (by simp [hlen, hps])
  rw [List.append_nil] at bn
  have key := F1.run _ X.stack _ _ ⟨Value.ref (hp.objs.size + 1) :: us, []⟩ (Value.ref (hp.objs.size + 1) :: us) (V.ref (hp.objs.size + 1) :: vs)
    (fun v H2 => v = .non ∧ ∃ d, H2 (hp.objs.size + 1) = some (exo (hp.objs.size + 1) (T.cls c) (some d)) ∧ H2 d = some (exd d (tpV vs l)) ∧ H1 d = none ∧ d ≠ hp.objs.size + 1 ∧ ∀ b, b ≠ hp.objs.size + 1 → b ≠ d → H2 b = H1 b) (fun _ _ _ => False)
    (hr.make (T.cls c) us []) (I2.env0.make (T.cls c) us []) bn r2 ⟨_, vs, rfl, hn, upd_same, fun d H2 z0 z1 z2 z3 z4 => ⟨rfl, d, z2, z3, by rw [upd_ne z1] at z0; exact z0, z1, fun b n1 n2 => (z4 b n1 n2).trans (upd_ne n1)⟩⟩
  refine wpAny_call (PySem.HandSPX.call_own F.fb hT hC (PySem.W.looks_findIn I1.kIn iC) (fun self => PySem.W.bind_fn I1.kIn self tI) hus (codeAny_mono key fun r s' hq => ?_))
  cases r with
  | error er => exact B.tk _ _ (XE.of_call (W := W) I2 (fun _ _ _ h => h.elim) hq)
  | ok fl =>
    cases fl with
    | ret u =>
      obtain ⟨v, H2, os2, bare2, un2, hok2, rv, ev, d, z1, z2, z3, z4, z5⟩ := hq
      subst ev
      exact ⟨rv, q hp g dr tk os _ H2 s' d rfl kk I2 os2 bare2 un2 hok2 z1 z2 z3 z4 z5⟩
    | next => exact False.elim hq
    | brk => exact False.elim hq
    | cont => exact False.elim hq
theorem callR_xc (B : Bx T X W) (hr : Room 2 X.A) (G : Xc T X.prog X.w X.mg X.base x c n l) (I1 : Inv X pins σ H1 s1) (r1 : Vals vs us) {Q : VK} (h : rMkX (T.cls c) n l vs H1 Q) : wpAny (model X.prog X.w) X.A (call (.ref (T.cls c)) us) (EP X pins σ Q) X.xe s1 := by
  obtain ⟨hn, hz, h⟩ := h
  refine run_xc B hr G I1 r1 hn hz fun hp gn dr tk os hp1 H2 s' d e kk I2 os2 bare2 un2 hok2 z1 z2 z3 z4 z5 => ?_
  subst e
  exact ⟨.ref (hp.objs.size + 1), H2, I2.call' (ch := []) os2 un2 hok2 bare2 (fun b z => absurd z (by simp)), rfl, h _ d H2 (I1.hok.fresh (Nat.le_succ _)) z3 z4 z1 z2 z5⟩
theorem mkR_xc (B : Bx T X W) (hr : Room 2 X.A) (G : Xc T X.prog X.w X.mg X.base x c n l) (I1 : Inv X pins σ H1 s1) (r1 : Vals vs us) {Q : XK} (h : rRsX (T.cls c) n l vs H1 Q) : wpAny (model X.prog X.w) X.A (call (.ref (T.cls c)) us) (MkP X pins σ Q) X.xe s1 := by
  obtain ⟨hn, hz, h⟩ := h
  refine run_xc B hr G I1 r1 hn hz fun hp gn dr tk os hp1 H2 s' d e kk I2 os2 bare2 un2 hok2 z1 z2 z3 z4 z5 => ?_
  subst e
  obtain ⟨fI, fd, ps, Bn, newId, initId, bmB, hm, F, iC, tI, hps, hb, F1⟩ := G.ex
  rw [← B.hK] at F
  obtain ⟨h2, g2, d2, t2, os'⟩ := s'
  have eH : upd (del H2 (hp.objs.size + 1)) d (.xd (tpV vs l)) = upd H1 d (.xd (tpV vs l)) := by
    funext b
    by_cases hbd : b = d
    · subst hbd; rw [upd_same, upd_same]
    · rw [upd_ne hbd, upd_ne hbd]
      by_cases hba : b = hp.objs.size + 1
      · subst hba; rw [del_same, I1.hok.fresh (Nat.le_succ _)]
      · rw [del_ne hba, z5 b hba hbd]
  exact mk_end (raises_own F.rb F.rt) I1 (Nat.le_succ _) kk un2 hok2 os2 bare2 z1 z2 z3 (by rw [eH]; exact h d z3)
variable {e : Expr} {es : List Expr} {p pos : Pos} {ta : TA}
theorem pe_xc (B : Bx T X W) (hr : Room 2 X.A) (G : Xc T X.prog X.w X.mg X.base x c n l) (hg : Gl X x) (ha : PA X (e :: es) ta) (hdb : (x == ("__debug__" : Str)) = false := by decide) (he : starEach (e :: es) X.env = (false, eval e X.env) :: starEach es X.env := by rfl)
    (hpl : (backTo pos (starEach es X.env)).any (·.1) = false := by rfl) : PE X (.Call (.Name x p) (e :: es) [] pos) (tCB (rMkX (T.cls c) n l) ta) := by
  obtain ⟨fI, fd, ps, Bn, newId, initId, bmB, hm, F, _⟩ := id G.ex
  rw [← B.hK] at F
  exact ⟨fun pins s σ H Q I h => wpAny_Call_Name_kw (ld_glob I hg hm (PySem.W.callWith_K (h₀ := X.base) I.ok.mod.kin F.kp (thn (ha.run pos pins s σ H _ I h) fun us s1 ⟨vs, H1, I1, r1, q1⟩ => ⟨I1.kIn, callR_xc B hr G I1 r1 q1⟩) he hpl) hdb)⟩
theorem pe_xc0 (B : Bx T X W) (hr : Room 2 X.A) (G : Xc T X.prog X.w X.mg X.base x c n l) (hg : Gl X x) (hdb : (x == ("__debug__" : Str)) = false := by decide) : PE X (.Call (.Name x p) [] [] pos) (tCB (rMkX (T.cls c) n l) tNil) := by
  obtain ⟨fI, fd, ps, Bn, newId, initId, bmB, hm, F, _⟩ := id G.ex
  rw [← B.hK] at F
  exact ⟨fun pins s σ H Q I h => wpAny_Call_Name_kw (ld_glob I hg hm (PySem.W.callWith_K0 I.kIn F.kp (callR_xc B hr G I .nil h)) hdb)⟩
theorem pmk_xc (B : Bx T X W) (hr : Room 2 X.A) (G : Xc T X.prog X.w X.mg X.base x c n l) (hg : Gl X x) (ha : PA X (e :: es) ta) (hdb : (x == ("__debug__" : Str)) = false := by decide) (he : starEach (e :: es) X.env = (false, eval e X.env) :: starEach es X.env := by rfl)
    (hpl : (backTo pos (starEach es X.env)).any (·.1) = false := by rfl) : PMk X (.Call (.Name x p) (e :: es) [] pos) (fun σ H Q => ta σ H fun vs H1 => rRsX (T.cls c) n l vs H1 Q) := by
  obtain ⟨fI, fd, ps, Bn, newId, initId, bmB, hm, F, _⟩ := id G.ex
  rw [← B.hK] at F
  exact fun pins s σ H Q I h => wpAny_Call_Name_kw (ld_glob I hg hm (PySem.W.callWith_K (h₀ := X.base) I.ok.mod.kin F.kp (thn (ha.run pos pins s σ H _ I h) fun us s1 ⟨vs, H1, I1, r1, q1⟩ => ⟨I1.kIn, mkR_xc B hr G I1 r1 q1⟩) he hpl) hdb)
theorem pmk_xc0 (B : Bx T X W) (hr : Room 2 X.A) (G : Xc T X.prog X.w X.mg X.base x c n l) (hg : Gl X x) (hdb : (x == ("__debug__" : Str)) = false := by decide) : PMk X (.Call (.Name x p) [] [] pos) (fun σ H Q => rRsX (T.cls c) n l [] H Q) := by
  obtain ⟨fI, fd, ps, Bn, newId, initId, bmB, hm, F, _⟩ := id G.ex
  rw [← B.hK] at F
  exact fun pins s σ H Q I h => wpAny_Call_Name_kw (ld_glob I hg hm (PySem.W.callWith_K0 I.kIn F.kp (mkR_xc B hr G I .nil h)) hdb)
end
def gMkX (c n : Nat) (l : List (Str × Sr)) : GA := fun ds S => if ds.length = n ∧ n ≤ 1000 then .ok (.loc S.length) (S ++ [.exn c (tpD ds l)]) else .stuck
theorem a_mkX (c n : Nat) (l : List (Str × Sr)) : ArA T (rMkX (T.cls c) n l) (gMkX c n l) := fun W σ r S H ds xs Q sim v h => by
  unfold gMkX at h
  split at h
  · rename_i hn
    have hl : xs.length = n := by rw [← v.len]; exact hn.1
    refine ⟨hl, by omega, fun a d H2 ha hd nd z1 z2 z3 => ?_⟩
    have e2 : H2 = upd (upd H d (exd d (tpV xs l))) a (exo a (T.cls c) (some d)) := by
      funext b
      by_cases hb : b = a
      · subst hb; rw [upd_same, z1]
      · rw [upd_ne hb]
        by_cases hb2 : b = d
        · subst hb2; rw [upd_same, z2]
        · rw [upd_ne hb2, z3 b hb hb2]
    subst e2
    have na : upd H d (exd d (tpV xs l)) a = none := by rw [upd_ne (Ne.symm nd)]; exact ha
    have st : Stay T H (upd (upd H d (exd d (tpV xs l))) a (exo a (T.cls c) (some d))) := (Stay.new hd).trans (Stay.new na)
    refine h ⟨r.ad ++ [a]⟩ _ _ (List.prefix_append _ _) st ((sim.new hd _).alloc na ⟨d, _, upd_same, z2, tp_vr (v.mono (List.prefix_append _ _) st) l⟩) ?_
    simp only [VR]
    exact ⟨a, by rw [← sim.len, List.getElem?_append_right (Nat.le_refl _)]; simp, rfl⟩
  · exact h.elim
/-- C(e, ..) -/
theorem se_mkX {j c n : Nat} {l : List (Str × Sr)} {x : Str} {e : Expr} {es : List Expr} {p pos : Pos} {Fa : XA} (B : Bx T X W) (hr : Room j X.A) (G : Xc T X.prog X.w X.mg X.base x c n l) (ha : SA T X W (e :: es) Fa) (hj : 2 ≤ j := by decide) (hg : Gl X x := by rfl) (hdb : (x == ("__debug__" : Str)) = false := by decide)
    (he : starEach (e :: es) X.env = (false, eval e X.env) :: starEach es X.env := by rfl) (hpl : (backTo pos (starEach es X.env)).any (·.1) = false := by rfl) : SE T X W (.Call (.Name x p) (e :: es) [] pos) (xAr (gMkX c n l) Fa) := by
  obtain ⟨t, q, a⟩ := ha.ex
  exact ⟨⟨_, pe_xc B (hr.mono hj) G hg q hdb he hpl, ad_ar a (a_mkX c n l)⟩⟩
theorem ad_nil : AdA T W tNil xNil := fun σ H r S ρ Q sim er h => h r H _ (Rp.le_refl _) (Stay.refl _) sim VRs.nil
theorem se_mkX0 {j c n : Nat} {l : List (Str × Sr)} {x : Str} {p pos : Pos} (B : Bx T X W) (hr : Room j X.A) (G : Xc T X.prog X.w X.mg X.base x c n l) (hj : 2 ≤ j := by decide) (hg : Gl X x := by rfl) (hdb : (x == ("__debug__" : Str)) = false := by decide) :
    SE T X W (.Call (.Name x p) [] [] pos) (xAr (gMkX c n l) xNil) := ⟨⟨_, pe_xc0 B (hr.mono hj) G hg hdb, ad_ar ad_nil (a_mkX c n l)⟩⟩
def sRaise (c n : Nat) (l : List (Str × Sr)) (Fa : XA) : SF := fun ρ S => (Fa ρ S).toS ρ fun ds S1 => if ds.length = n ∧ n ≤ 1000 then .err ⟨c, tpD ds l⟩ ρ S1 else .stuck
theorem ad_rs {c n : Nat} {l : List (Str × Sr)} {r : Rp} {S : Store} {σ : L2.St} {ρ : Env} {H : Hp} {ds : List D} {vs : List V} {D0 : Ends} (sim : Sim T r S H) (er : ER T r H ρ σ) (v : VRs T r H ds vs) (h : PostS T W r H (if ds.length = n ∧ n ≤ 1000 then .err ⟨c, tpD ds l⟩ ρ S else .stuck) D0) :
    rRsX (T.cls c) n l vs H fun cls d H' => W cls d σ H' := by
  split at h
  · rename_i hn
    refine ⟨by rw [← v.len]; exact hn.1, by rw [← v.len]; omega, fun d hd => ?_⟩
    refine h r _ σ _ _ (Rp.le_refl _) (Stay.new hd) (sim.new hd _) (er.mono (Rp.le_refl _) (Stay.new hd)) ⟨rfl, d, _, rfl, upd_same, fun f y hf => ?_⟩
    exact KVR.find (tp_vr (v.mono (Rp.le_refl _) (Stay.new hd)) l) hf
  · exact h.elim
theorem ss_raise {j c n : Nat} {l : List (Str × Sr)} {x : Str} {e : Expr} {es : List Expr} {p pos pos' : Pos} {Fa : XA} (B : Bx T X W) (hr : Room j X.A) (G : Xc T X.prog X.w X.mg X.base x c n l) (ha : SA T X W (e :: es) Fa) (hj : 2 ≤ j := by decide) (hg : Gl X x := by rfl) (hdb : (x == ("__debug__" : Str)) = false := by decide)
    (he : starEach (e :: es) X.env = (false, eval e X.env) :: starEach es X.env := by rfl) (hpl : (backTo pos (starEach es X.env)).any (·.1) = false := by rfl) : SS T X W (.Raise (some (.Call (.Name x p) (e :: es) [] pos)) none pos') (sRaise c n l Fa) := by
  obtain ⟨t, q, a⟩ := ha.ex
  exact ⟨⟨_, ps_raise B.calm B.tk (pmk_xc B (hr.mono hj) G hg q hdb he hpl), fun σ H r S ρ D0 sim er hq => a σ H r S ρ _ sim er (PostS.bind hq er fun ds S1 r1 H1 vs l1 s1 sim1 v1 h1 => ad_rs sim1 (er.mono l1 s1) v1 h1)⟩⟩
theorem ss_raise0 {j c n : Nat} {l : List (Str × Sr)} {x : Str} {p pos pos' : Pos} (B : Bx T X W) (hr : Room j X.A) (G : Xc T X.prog X.w X.mg X.base x c n l) (hj : 2 ≤ j := by decide) (hg : Gl X x := by rfl) (hdb : (x == ("__debug__" : Str)) = false := by decide) :
    SS T X W (.Raise (some (.Call (.Name x p) [] [] pos)) none pos') (sRaise c n l xNil) :=
  ⟨⟨_, ps_raise B.calm B.tk (pmk_xc0 B (hr.mono hj) G hg hdb), fun σ H r S ρ D0 sim er hq => ad_rs sim er VRs.nil hq⟩⟩
end
end DM

/-! DMR: texts times ints, fields of exceptions, isinstance. -/
namespace DM
open PySem PySem.Spec PyProof.Rows L2

section
variable {T : Tx} {X : Cx} {W : WX}
/-! ### text * int -/
def strRep (x : Str) (n : Nat) : Str := ⟨(List.replicate n x.cps).foldl (· ++ ·) #[]⟩
theorem strRep_one (x : Str) : strRep x 1 = x := by
  unfold strRep
  simp
theorem strRep_len (x : Str) (n : Nat) : (strRep x n).length = n * x.length := by
  have key : ∀ (n : Nat) (acc : Array Nat), (List.foldl (fun a b => a ++ b) acc (List.replicate n x.cps)).size = acc.size + n * x.cps.size := by
    intro n
    induction n with
    | zero => intro acc; simp
    | succ n ih => intro acc; rw [List.replicate_succ, List.foldl_cons, ih, Array.size_append, Nat.succ_mul]; omega
  show (List.foldl (fun a b => a ++ b) #[] (List.replicate n x.cps)).size = _
  rw [key]
  show #[].size + n * x.cps.size = n * x.cps.size
  simp
def rSMul : R2 := fun x y H Q => ∃ z k, x = .str z ∧ y = .int k ∧ 1 ≤ k ∧ k ≤ 1000 ∧ z.length ≤ 1000 ∧ Q (.str (strRep z k.toNat)) H
theorem op_smul : OpR X (binaryOp .Mult) rSMul := by
  intro pins s σ H x y v u Q I rx ry h
  obtain ⟨z, k, rfl, rfl, h1, h2, hz, q⟩ := h
  obtain ⟨t, rfl⟩ := rx
  obtain ⟨t2, rfl⟩ := ry
  have e1 : ¬ k < 1 := by omega
  have small : z.length * k.toNat ≤ 1000000 := by
    have := Nat.mul_le_mul hz (show k.toNat ≤ 1000 by omega)
    omega
  refine P.mul_str (by rw [decide_eq_false (by omega), decide_eq_false (by omega)] <;> rfl) (fun _ _ hc => ?_) (fun _ _ => ?_) ?_
  · have sm : (z.length : Int) * k ≤ 2 ^ 63 - 1 := by
      have e2 : (z.length : Int) * k = ((z.length * k.toNat : Nat) : Int) := by
        rw [Int.natCast_mul, Int.toNat_of_nonneg (by omega)]
      rw [e2]
      omega
    have := Int.le_ediv_of_mul_le (by omega : 0 < k) sm
    omega
  · unfold Builtin.Str.tooLong
    first
      | exact decide_eq_false (by omega)
      | (simp only [sizeLine_eq, decide_eq_false_iff_not]; omega)
  · rw [if_neg e1]
    split
    · rename_i hb
      have e : strRep z k.toNat = z := by
        rcases (by simpa using hb : k = 1 ∨ z.length = 0) with hk | hk
        · subst hk; exact strRep_one z
        · have l0 : (strRep z k.toNat).length = 0 := by rw [strRep_len, hk]; omega
          have f : ∀ a : Str, a.length = 0 → a = Str.empty := fun a ha => by
            obtain ⟨⟨l⟩⟩ := a
            have : l = [] := List.eq_nil_of_length_eq_zero ha
            subst this; rfl
          rw [f _ l0, f _ hk]
      rw [e] at q
      exact ⟨.str z, H, I.tok _, ⟨t, rfl⟩, q⟩
    · exact ⟨by rw [show (⟨(List.replicate k.toNat z.cps).foldl (· ++ ·) #[]⟩ : Str) = strRep z k.toNat from rfl, strRep_len, sizeLine_eq]; rw [Nat.mul_comm]; omega, .str (strRep z k.toNat), H, I.tok _, ⟨_, rfl⟩, q⟩
def dMulS : G2 := fun d e S => match d, e with
  | .str z, .int k => if 1 ≤ k ∧ k ≤ 1000 ∧ z.length ≤ 1000 then .ok (.str (strRep z k.toNat)) S else .stuck
  | _, _ => .stuck
theorem a_mulS : OpA T rSMul dMulS := fun W σ r S H d e x y Q sim vx vy h => by
  unfold dMulS at h
  split at h
  · split at h
    · rename_i hc
      exact ⟨_, _, vx.str', vy.int', hc.1, hc.2.1, hc.2.2, post_ok h sim VR.ofStr⟩
    · exact h.elim
  · exact h.elim
def dMulZ : G2 := fun d e S => match d with
  | .str _ => dMulS d e S
  | _ => dMul d e S
theorem op_mulZ : OpR X (binaryOp .Mult) (fun x y H Q => rSMul x y H Q ∨ rMulAll x y H Q) := OpR.or op_smul op_mulAll
theorem a_mulZ : OpA T (fun x y H Q => rSMul x y H Q ∨ rMulAll x y H Q) dMulZ := fun W σ r S H d e x y Q sim vx vy h => by
  unfold dMulZ at h
  split at h
  · exact .inl (a_mulS W σ r S H _ e x y Q sim vx vy h)
  · exact .inr (a_mulAll W σ r S H _ e x y Q sim vx vy h)
/-! ### a field of an exception that is held as a value -/
/-- of the class: what reading a field of its instances asks -/
def tXA (K : PySem.W.Frag) (f : Str) (te : TE) : TE := fun σ H Q => te σ H fun x H1 => ∃ (a C d : Addr) (fs : List (Str × V)) (v : V), x = .ref a ∧ H1 a = some (exo a C (some d)) ∧ H1 d = some (exd d fs) ∧ PySem.W.findIn K (.ref C) "__getattribute__" = some (some (.builtin "BaseException.__getattribute__")) ∧ PySem.W.findIn K (.ref C) "__getattr__" = some none ∧
  PySem.W.subIn K (.ref C) (.type "BaseException") = some true ∧ PySem.W.hasDictIn K C = true ∧ PySem.W.findIn K (.ref C) f = some none ∧ fs.lookup f = some v ∧ Q v H1
theorem pe_xa {e : Expr} {te : TE} {pos : Pos} {f : Str} (he : PE X e te) (hb : attributeBase e f X.env (eval e X.env) = eval e X.env := by rfl) : PE X (.Attribute e f pos) (tXA X.K f te) := by
  refine ⟨fun pins s σ H Q I h => attr_of hb (thn (he.run pins s σ H _ I h) fun u s1 ⟨x, H1, I1, rx, a, C, d, fs, v, ex, ea, ed, h1, h2, h3, h4, h5, l, q⟩ => ?_)⟩
  subst ex
  obtain rfl : u = Value.ref a := rx
  obtain ⟨t1, ho⟩ := exo_at I1.hok ea
  obtain ⟨mA, hns, rel⟩ := exd_at I1.hok ed
  obtain ⟨od, hod, hl⟩ := lookIn_ns hns
  obtain ⟨w, hw, rw'⟩ := RelO.some_of (v := v) (o := mA f) (by rw [← l]; exact rel f)
  exact HandSPX.exc_get I1.kIn (⟨ho, rfl, rfl, hod⟩ : PySem.W.InstAt s1.heap a _ C (some od)) h1 h2 h3 (PySem.W.findObj_own h4 h5 rfl (by rw [hl, hw])) (handed_of rw') ⟨v, H1, I1.tok _, rw', q⟩
/-- the classes below nc are exceptions; what the written part says of them -/
structure ExF (T : Tx) (nc : Nat) (fl : List Str) : Prop where
  ga : ∀ c, c < nc → PySem.W.findIn T.K (.ref (T.cls c)) "__getattribute__" = some (some (.builtin "BaseException.__getattribute__"))
  gt : ∀ c, c < nc → PySem.W.findIn T.K (.ref (T.cls c)) "__getattr__" = some none
  sb : ∀ c, c < nc → PySem.W.subIn T.K (.ref (T.cls c)) (.type "BaseException") = some true
  hd : ∀ c, c < nc → PySem.W.hasDictIn T.K (T.cls c) = true
  at_ : ∀ c, c < nc → ∀ f ∈ fl, PySem.W.findIn T.K (.ref (T.cls c)) f = some none
  cc : ∀ c, c < nc → PySem.W.findIn T.K (.ref (T.cls c)) "__class__" = some (some (.builtin "object.__class__"))
  hm : ∀ c, c < nc → PySem.W.mroIn T.K (T.cls c) (.type "object") = some true
  hn : PySem.W.specialIn T.K (.builtin "object.__class__") "__get__" = some (some (.builtin "getset_descriptor.__get__"))
  ht : PySem.W.takesIn T.K (.builtin "object.__class__") = some true
def gXA (nc : Nat) (fl : List Str) (f : Str) : G1 := fun d S => match d with
  | .loc n => match S[n]? with
    | some (.exn c fs) => if c < nc ∧ f ∈ fl then match fs.lookup f with
      | some d => .ok d S
      | none => .stuck else .stuck
    | _ => .stuck
  | _ => .stuck
theorem Sim.exn {r : Rp} {S : Store} {H : Hp} (s : Sim T r S H) {n c : Nat} {fs : List (Str × D)} (e : S[n]? = some (.exn c fs)) {v : V} (h : VR T r H (.loc n) v) : ∃ a d gs, v = .ref a ∧ H a = some (exo a (T.cls c) (some d)) ∧ H d = some (exd d gs) ∧ FR T r H fs gs := by
  obtain ⟨a, ea, rfl⟩ := h.loc'
  obtain ⟨b, eb, d, gs, h1, h2, h3⟩ := s.ob n _ e
  rw [ea] at eb; cases eb
  exact ⟨a, d, gs, rfl, h1, h2, h3⟩
theorem se_xa {nc : Nat} {fl : List Str} {e : Expr} {pos : Pos} {f : Str} {Fa : XF} (B : Bx T X W) (C : ExF T nc fl) (he : SE T X W e Fa) (hb : attributeBase e f X.env (eval e X.env) = eval e X.env := by rfl) : SE T X W (.Attribute e f pos) (xUn (gXA nc fl f) Fa) := by
  obtain ⟨t, q, a⟩ := he.ex
  refine ⟨⟨_, pe_xa q hb, fun σ H r S ρ Q sim er hq => a σ H r S ρ _ sim er (PostG.bind hq fun d S1 r1 H1 v l1 s1 sim1 v1 h1 => ?_)⟩⟩
  unfold gXA at h1
  split at h1
  · split at h1
    · rename_i n c fs e1
      split at h1
      · rename_i hc
        split at h1
        · rename_i d2 el
          obtain ⟨b, dx, gs, rfl, h2, h3, h4⟩ := sim1.exn e1 v1
          obtain ⟨w, hw, vw⟩ := KVR.find h4 el
          rw [B.hK]
          exact ⟨b, _, dx, gs, w, rfl, h2, h3, C.ga c hc.1, C.gt c hc.1, C.sb c hc.1, C.hd c hc.1, C.at_ c hc.1 f hc.2, hw, post_ok h1 sim1 vw⟩
        · exact h1.elim
      · exact h1.elim
    · exact h1.elim
  · exact h1.elim
/-! ### isinstance -/
inductive Kd where
  | non | bl | int | str | tup | lst | exn (c : Nat)
def Kd.val (T : Tx) : Kd → Value
  | .non => .type "NoneType"
  | .bl => .type "bool"
  | .int => .type "int"
  | .str => .type "str"
  | .tup => .type "tuple"
  | .lst => .type "list"
  | .exn c => .ref (T.cls c)
def kdOf (nc : Nat) (d : D) (S : Store) : Option Kd := match d with
  | .non => some .non
  | .bl _ => some .bl
  | .int _ => some .int
  | .str _ => some .str
  | .tup _ => some .tup
  | .loc n => match S[n]? with
    | some (.lst _) => some .lst
    | some (.exn c _) => if c < nc then some (.exn c) else none
    | _ => none
  | .scr => none
/-- isinstance(x, the class c) -/
def rIsx (K : PySem.W.Frag) (cv : Value) : V → Hp → VK → Prop := fun x H Q => ∃ (t : Value) (b : Bool), PySem.W.kitOne K t cv = some b ∧ (TyX K H x t ∨ (∃ (a C d : Addr) (fs : List (Str × V)), x = .ref a ∧ t = .ref C ∧ H a = some (exo a C (some d)) ∧ H d = some (exd d fs) ∧ (PySem.W.clsIn K C).isSome = true ∧ PySem.W.findIn K (.ref C) "__getattribute__" = some (some (.builtin "BaseException.__getattribute__")) ∧
  PySem.W.findIn K (.ref C) "__getattr__" = some none ∧ PySem.W.subIn K (.ref C) (.type "BaseException") = some true ∧ PySem.W.findIn K (.ref C) "__class__" = some (some (.builtin "object.__class__")) ∧
  PySem.W.specialIn K (.builtin "object.__class__") "__get__" = some (some (.builtin "getset_descriptor.__get__")) ∧ PySem.W.takesIn K (.builtin "object.__class__") = some true ∧ PySem.W.mroIn K C (.type "object") = some true)) ∧ Q (.bl b) H
theorem call_isx {c : V} {cv : Value} (k : ClsV c cv) : CallR X (.builtin "isinstance") (fun xs H Q => ∃ x, xs = [x, c] ∧ rIsx X.K cv x H Q) := by
  intro pins s σ H xs us Q I r h
  obtain ⟨x, rfl, t, b, e, h, q⟩ := h
  obtain ⟨u1, u2, rfl, r1, r2⟩ := vals2 r
  have e2 := k.eq r2
  subst e2
  rcases h with ty | ⟨a, C, d, fs, rfl, rfl, ea, ed, h0, h1, h2, h3, h4, h5, h6, h7⟩
  · obtain ⟨P, Z, p, hx⟩ := kit_of I r1 ty
    exact PySem.W.kia_one Z I.kIn p e hx fun tk => ⟨.bl b, H, I.tok tk, rfl, q⟩
  · obtain rfl : u1 = Value.ref a := r1
    obtain ⟨t1, ho⟩ := exo_at I.hok ea
    obtain ⟨mA, hns, rel⟩ := exd_at I.hok ed
    obtain ⟨od, hod, hl⟩ := lookIn_ns hns
    exact PySem.W.kia_one (PySem.W.kitx_exc (od := some od) h0 h1 h2 h3 h4 h5 h6 h7) I.kIn (⟨ho, rfl, rfl, hod⟩ : PySem.W.InstAt s.heap a _ C (some od)) e (fun z => nomatch z) fun tk => ⟨.bl b, H, I.tok tk, rfl, q⟩
/-- what the second argument of isinstance may be -/
structure IsC (T : Tx) (X : Cx) (y : Str) (tb : Kd → Option Bool) : Prop where
  ex : ∃ (c : V) (cv : Value), ClsV c cv ∧ (∀ pos, PE X (.Name y pos) (tC c)) ∧ ∀ k b, tb k = some b → PySem.W.kitOne T.K (k.val T) cv = some b
def gIs (nc : Nat) (tb : Kd → Option Bool) : G1 := fun d S => match kdOf nc d S with
  | some k => match tb k with
    | some b => .ok (.bl b) S
    | none => .stuck
  | none => .stuck
theorem a_isx {nc : Nat} {fl : List Str} {tb : Kd → Option Bool} {cv : Value} (C : ExF T nc fl) (h0 : ∀ c, c < nc → (PySem.W.clsIn T.K (T.cls c)).isSome = true) (ht : ∀ k b, tb k = some b → PySem.W.kitOne T.K (k.val T) cv = some b) : UnA T (rIsx T.K cv) (gIs nc tb) := fun W σ r S H d x Q sim vx h => by
  unfold gIs at h
  split at h
  · rename_i k e1
    split at h
    · rename_i b e2
      refine ⟨k.val T, b, ht _ _ e2, ?_, post_ok h sim VR.ofBl⟩
      unfold kdOf at e1
      split at e1
      · cases e1; rw [vx.non']; exact .inl (.base .non)
      · cases e1; rw [vx.bl']; exact .inl (.base (.bl _))
      · cases e1; rw [vx.int']; exact .inl (.base (.int _))
      · cases e1; rw [vx.str']; exact .inl (.base (.str _))
      · cases e1
        obtain ⟨a, xs, rfl, t, _⟩ := vx.tup'
        rcases t with (t | ⟨u, t⟩) | ⟨o, its, n, t1, t2, _⟩
        · exact .inl (.base (.tup t))
        · exact .inl (.fTuple t)
        · exact .inl (.kTuple t1 t2)
      · split at e1
        · rename_i n ds e3
          cases e1
          obtain ⟨a, xs, rfl, ea, hx, _⟩ := sim.lst e3 vx
          exact .inl (.base (.lst hx))
        · rename_i n c fs e3
          split at e1
          · rename_i hc
            cases e1
            obtain ⟨b, dx, gs, rfl, h2, h3, h4⟩ := sim.exn e3 vx
            exact .inr ⟨b, T.cls c, dx, gs, rfl, rfl, h2, h3, h0 c hc, C.ga c hc, C.gt c hc, C.sb c hc, C.cc c hc, C.hn, C.ht, C.hm c hc⟩
          · cases e1
        · cases e1
      · cases e1
    · exact h.elim
  · exact h.elim
theorem se_isx {nc : Nat} {fl : List Str} {tb : Kd → Option Bool} {e : Expr} {y : Str} {p p2 pos : Pos} {Fa : XF} (B : Bx T X W) (C : ExF T nc fl) (h0 : ∀ c, c < nc → (PySem.W.clsIn T.K (T.cls c)).isSome = true) (hc : IsC T X y tb) (hm : X.mg "isinstance" = none) (ha : SE T X W e Fa) (hgl : Gl X "isinstance" := by rfl)
    (h4 : starEach [e, .Name y p2] X.env = (false, eval e X.env) :: starEach [.Name y p2] X.env := by rfl) (h5 : starEach [.Name y p2] X.env = (false, eval (.Name y p2) X.env) :: starEach [] X.env := by rfl) (hpl : (backTo pos (starEach [.Name y p2] X.env)).any (·.1) = false := by rfl) :
    SE T X W (.Call (.Name "isinstance" p) [e, .Name y p2] [] pos) (xUn (gIs nc tb) Fa) := by
  obtain ⟨c, cv, k, pe, ht⟩ := hc.ex
  obtain ⟨t, q, a⟩ := ha.ex
  refine ⟨⟨_, pe_callB (call_isx k) hgl hm (by decide +kernel) (pa_cons q (pa_cons (pe p2) pa_nil h5) h4) (by decide) (by decide) h4 hpl, fun σ H r S ρ Q sim er hq => a σ H r S ρ _ sim er (PostG.bind hq fun d S1 r1 H1 v l1 s1 sim1 v1 h1 => ⟨v, rfl, ?_⟩)⟩⟩
  rw [B.hK]
  exact a_isx C h0 ht W σ r1 S1 H1 d v Q sim1 v1 h1
end
end DM

/-! DMS: the script cut, classes as arguments, defs that call themselves, the Hook. -/
namespace DM
open PySem PySem.Spec PyProof.Rows L2

section
variable {T : Tx} {X : Cx} {W : WX}
def gSlS (ns : List Int) (d : D) (lo hi : Option Int) (S : Store) : R D := match d with
  | .scr => .ok (.loc S.length) (S ++ [.lst (cutD (ns.map D.int) lo hi)])
  | _ => .stuck
def xSlS (ns : List Int) (F : XF) (lo hi : XO) : XF := fun ρ S => (F ρ S).bind fun d S1 => (lo ρ S1).bind fun l S2 => (hi ρ S2).bind fun u S3 => gSlS ns d l u S3
theorem VRs.ints {r : Rp} {H : Hp} : ∀ ns : List Int, VRs T r H (ns.map D.int) (ns.map V.int)
  | [] => VRs.nil
  | i :: ns => VRs.cons VR.ofInt (VRs.ints ns)
theorem se_sliceS {e : Expr} {lo hi : Option Expr} {pos p2 : Pos} {F : XF} {Fl Fh : XO} (B : Bx T X W) (he : SE T X W e F) (hl : SO T X W lo Fl) (hh : SO T X W hi Fh) : SE T X W (.Subscript e (.Slice lo hi none p2) pos) (xSlS T.ns F Fl Fh) := by
  obtain ⟨t, p, a⟩ := he.ex
  obtain ⟨tl, pl, al⟩ := hl.ex
  obtain ⟨th, ph, ah⟩ := hh.ex
  have q := pe_slice (pos := pos) (p2 := p2) (sl_list (X := X)) p pl ph
  rw [B.hK] at q
  refine ⟨⟨_, q, fun σ H r S ρ Q sim er hq => a σ H r S ρ _ sim er (PostG.bind hq fun d S1 r1 H1 v l1 s1 sim1 v1 h1 => al σ H1 r1 S1 ρ _ sim1 (er.mono l1 s1) (PostG.bind h1 fun l S2 r2 H2 l' l2 s2 sim2 el h2 =>
    ah σ H2 r2 S2 ρ _ sim2 (er.mono (l1.trans l2) (s1.trans s2)) (PostG.bind h2 fun u S3 r3 H3 u' l3 s3 sim3 eu h3 => ?_)))⟩⟩
  have el' : l = l' := el
  have eu' : u = u' := eu
  subst el' eu'
  cases d with
  | scr =>
    simp only [vr, VR] at v1
    exact ⟨T.scr, _, v1, sim3.scr, post_newLst sim3 ((VRs.ints T.ns).cut l u) h3⟩
  | _ => exact h3.elim
/-! ### classes named -/
theorem isC_own {y : Str} {C : Addr} {tb : Kd → Option Bool} (hm : X.mg y = some (.ref C)) (hk : ∀ k b, tb k = some b → PySem.W.kitOne T.K (k.val T) (.ref C) = some b) (hg : Gl X y := by rfl) (hd : (y == ("__debug__" : Str)) = false := by decide) : IsC T X y tb :=
  ⟨.ref C, .ref C, .own C, fun pos => pe_glob (v := .ref C) hg hm rfl hd, hk⟩
theorem isC_ty {y : Str} {n : String} {tb : Kd → Option Bool} (hm : X.mg y = none) (hk : ∀ k b, tb k = some b → PySem.W.kitOne T.K (k.val T) (.type n) = some b) (hv : bootBuiltins y = some (.type n) := by decide +kernel) (hg : Gl X y := by rfl) (hn : y ≠ "__name__" := by decide) (hd : (y == ("__debug__" : Str)) = false := by decide) : IsC T X y tb :=
  ⟨.ty n, .type n, .ty n, fun pos => pe_bltn (v := .ty n) hg hm hv rfl hn hd, hk⟩
end
/-- a def that calls itself: no promise at depth nothing -/
theorem fn_zero (k : Nat) {T : Tx} {P : Program} {w : World} {mg : Str → Option Value} {base : Heap} {x qual : Str} {params : Arguments} {body : List Stmt} {scope : Scope} {ps : List Str} {f : Addr} {fd : FuncData} (F : FunD T.K x qual params body scope [] [] f fd) (hm : mg x = some (.ref f))
    (hbi : ∀ (kV doc pm : Value) (an : Option Addr) (cdv ct : Value) (us : List Value), us.length = ps.length → bindArgs (PySem.W.fnOf x qual params body scope .none kV doc pm an cdv ct) ⟨us, []⟩ = pure (ps.zip us)) : Fn T P w mg base x k ps (fun _ _ => .stuck) :=
  ⟨f, fd, hm, F.kp, F.bindsN hbi, ⟨fun vs H Q E ⟨_, _, _, h, _⟩ => h, fun A outer s H args us vs Q E hr env bt v h => by
    obtain ⟨_, _, _, _, _, _, h⟩ := h
    exact h.elim⟩⟩
/-! ### the Hook with a check of one's own -/
abbrev AlC : Type := He.AlD × Bool
def obsC (n : Nat) (fa : List He.Fa) (fn : List He.DefD) (chk : PySem.W.Frag → Bool) (g : Addr → Option Obj) : AlC := (He.obsD fa fn (He.frG g (He.asD g n)), chk (He.frG g (He.asD g n)))
def hookC (n : Nat) (fa : List He.Fa) (fn : List He.DefD) (chk : PySem.W.Frag → Bool) : PySem.W.Hook where
  α := AlC
  obs := fun s => obsC n fa fn chk s.heap.get?
  val := fun _ => (He.valD fn, true)
  says := fun _ h => ∃ K : PySem.W.Frag, K.In h ∧ He.SaysD fa fn K ∧ chk K = true
  of := fun _ _ e => ⟨_, He.frG_in, (Prod.mk.inj e).1, (Prod.mk.inj e).2⟩
  keeps := fun _ _ _ ⟨K, hK, c⟩ k => ⟨K, PySem.W.Frag.In.keeps hK k, c⟩
theorem obsC_eq {n : Nat} {fa : List He.Fa} {fn : List He.DefD} {chk : PySem.W.Frag → Bool} {g : Addr → Option Obj} {s : Shared} (h : ∀ a, g a = s.heap.get? a) : obsC n fa fn chk g = (hookC n fa fn chk).obs s := by
  have e : g = s.heap.get? := funext h
  rw [e] <;> rfl
/-- the law itself: a def whose promise holds at each script -/
def spLaw (K : PySem.W.Frag) : Sp := fun vs H Q _ => ∃ (a : Addr) (ns : List Int), vs = [.ref a] ∧ ns.length ≤ 63 ∧ SqL K H a (ns.map V.int) ∧ ∀ H', Q (.bl true) H'
theorem law_ok {P : Program} {w : World} {K : PySem.W.Frag} {mg : Str → Option Value} {base : Heap} {k : Nat} {f : Addr} {fd : FuncData} {p : Str} {cls : Nat → Addr} {F : List Int → DF}
    (h : ∀ (ns : List Int) (a : Addr), FnOk P w K mg base (L2.CX P w) k f fd [p] (spD ⟨K, ns, a, cls⟩ 1 (F ns))) (ok : ∀ ns : List Int, ns.length ≤ 63 → ∃ S, F ns [.scr] [] = .ok (.bl true) S) :
    FnOk P w K mg base (L2.CX P w) k f fd [p] (spLaw K) := by
  refine ⟨fun vs H Q E ⟨a, ns, e, _⟩ => by rw [e]; rfl, fun A outer s H args us vs Q E hr env bt v hs => ?_⟩
  obtain ⟨a, ns, rfl, hl, hS, q⟩ := hs
  refine (h ns a).run A outer s H args us _ Q E hr env bt v ⟨⟨[]⟩, [], [.scr], rfl, ⟨rfl, List.nodup_nil, fun n o e => by simp at e, hS, fun z => by simp at z⟩, VRs.cons (by simp only [VR]) VRs.nil, ?_⟩
  obtain ⟨S, e⟩ := ok ns hl
  rw [e]
  intro r' H' v' _ _ _ vv
  obtain rfl : v' = .bl true := vv.bl'
  exact q H'
end DM

/-! DMT: what the head must check. -/
namespace DM
open PySem PySem.Spec PyProof.Rows L2

theorem b2 {a b : Bool} (h : (a && b) = true) : a = true ∧ b = true := Bool.and_eq_true_iff.mp h
abbrev dcd (p : Prop) [Decidable p] : Bool := decide p
theorem dc {p : Prop} [Decidable p] (h : dcd p = true) : p := of_decide_eq_true h
/-- the class numbered c -/
def clsA (K : PySem.W.Frag) (ns : List Str) (c : Nat) : Addr := He.ga K (ns.getD c Str.empty)
/-! ### an own exception class -/
def xcB (K : PySem.W.Frag) (C : Addr) (bm : List Value) (nw : String) (fs : List Str) : Bool :=
  PySem.W.excInitIn K C bm nw && (PySem.W.excOver K C bm && (PySem.W.hasDictIn K C && (dcd (PySem.W.findIn K (.ref C) "__setattr__" = some (some (.builtin "object.__setattr__"))) && (dcd (PySem.W.subIn K (.ref C) (.type "BaseException") = some true) && (dcd (PySem.W.typeIn K (.ref C) = some (.type "type")) &&
    (PySem.W.keepIn K (.ref C) && (dcd (PySem.W.findIn K (.ref C) "__init__" = some (some (.ref (He.ma K C "__init__")))) && (dcd (PySem.W.typeIn K (.ref (He.ma K C "__init__")) = some (.type "function")) && fs.all fun f => dcd (PySem.W.takerIn K C f = some none)))))))))
theorem xcB_ok {K : PySem.W.Frag} {C : Addr} {bm : List Value} {B nw ini : String} {fs : List Str} (fb : ExcBaseFacts B nw ini bm) (sf : StoreFacts B bm "object.__setattr__" "object") (h : xcB K C bm nw fs = true) : XcF K C B nw ini bm ∧ PySem.W.findIn K (.ref C) "__init__" = some (some (.ref (He.ma K C "__init__"))) ∧
    PySem.W.typeIn K (.ref (He.ma K C "__init__")) = some (.type "function") ∧ ∀ f ∈ fs, PySem.W.takerIn K C f = some none := by
  obtain ⟨h1, h⟩ := b2 h
  obtain ⟨h2, h⟩ := b2 h
  obtain ⟨h3, h⟩ := b2 h
  obtain ⟨h4, h⟩ := b2 h
  obtain ⟨h5, h⟩ := b2 h
  obtain ⟨h6, h⟩ := b2 h
  obtain ⟨h7, h⟩ := b2 h
  obtain ⟨h8, h⟩ := b2 h
  obtain ⟨h9, h⟩ := b2 h
  exact ⟨⟨fb, sf, h1, h2, h3, dc h4, dc h5, dc h6, h7⟩, dc h8, dc h9, fun f hf => dc (List.all_eq_true.mp h f hf)⟩
/-! ### the fields of exceptions -/
def exB (K : PySem.W.Frag) (ns fl : List Str) : Bool := dcd (PySem.W.specialIn K (.builtin "object.__class__") "__get__" = some (some (.builtin "getset_descriptor.__get__"))) && (dcd (PySem.W.takesIn K (.builtin "object.__class__") = some true) &&
  (List.range ns.length).all fun c => dcd (PySem.W.findIn K (.ref (clsA K ns c)) "__getattribute__" = some (some (.builtin "BaseException.__getattribute__"))) && (dcd (PySem.W.findIn K (.ref (clsA K ns c)) "__getattr__" = some none) && (dcd (PySem.W.subIn K (.ref (clsA K ns c)) (.type "BaseException") = some true) && (PySem.W.hasDictIn K (clsA K ns c) &&
    ((PySem.W.clsIn K (clsA K ns c)).isSome && (dcd (PySem.W.findIn K (.ref (clsA K ns c)) "__class__" = some (some (.builtin "object.__class__"))) && (dcd (PySem.W.mroIn K (clsA K ns c) (.type "object") = some true) && fl.all fun f => dcd (PySem.W.findIn K (.ref (clsA K ns c)) f = some none))))))))
theorem exB_ok {K : PySem.W.Frag} {ns fl : List Str} {is : List Int} {a : Addr} (h : exB K ns fl = true) : ExF ⟨K, is, a, clsA K ns⟩ ns.length fl ∧ ∀ c, c < ns.length → (PySem.W.clsIn K (clsA K ns c)).isSome = true := by
  obtain ⟨h1, h⟩ := b2 h
  obtain ⟨h2, h⟩ := b2 h
  have g : ∀ c, c < ns.length → _ := fun c hc => List.all_eq_true.mp h c (List.mem_range.mpr hc)
  refine ⟨⟨fun c hc => dc (b2 (g c hc)).1, fun c hc => dc (b2 (b2 (g c hc)).2).1, fun c hc => dc (b2 (b2 (b2 (g c hc)).2).2).1, fun c hc => (b2 (b2 (b2 (b2 (g c hc)).2).2).2).1, fun c hc f hf => ?_, fun c hc => ?_, fun c hc => ?_, dc h1, dc h2⟩, fun c hc => ?_⟩
  · obtain ⟨_, q⟩ := b2 (b2 (b2 (b2 (b2 (b2 (b2 (g c hc)).2).2).2).2).2).2
    exact dc (List.all_eq_true.mp q f hf)
  · exact dc (b2 (b2 (b2 (b2 (b2 (b2 (g c hc)).2).2).2).2).2).1
  · exact dc (b2 (b2 (b2 (b2 (b2 (b2 (b2 (g c hc)).2).2).2).2).2).2).1
  · exact (b2 (b2 (b2 (b2 (b2 (g c hc)).2).2).2).2).1
/-! ### isinstance -/
/-- the answers of a class that exceptions alone are asked for -/
def tbX (l : List Bool) : Kd → Option Bool
  | .exn c => l[c]?
  | _ => none
def isB (K : PySem.W.Frag) (ns : List Str) (l : List Bool) (cv : Value) : Bool := dcd (l.length ≤ ns.length) && (List.range ns.length).all fun c => match l[c]? with
  | some b => dcd (PySem.W.kitOne K (.ref (clsA K ns c)) cv = some b)
  | none => true
theorem isB_ok {K : PySem.W.Frag} {ns : List Str} {l : List Bool} {cv : Value} {is : List Int} {a : Addr} (h : isB K ns l cv = true) : ∀ k b, tbX l k = some b → PySem.W.kitOne K (k.val ⟨K, is, a, clsA K ns⟩) cv = some b := fun k b e => by
  obtain ⟨h1, h⟩ := b2 h
  unfold tbX at e
  split at e
  · rename_i c
    have hc := (List.getElem?_eq_some_iff.mp e).1
    have q := List.all_eq_true.mp h c (List.mem_range.mpr (Nat.lt_of_lt_of_le hc (dc h1)))
    rw [e] at q
    exact dc q
  · cases e
def tb_int : Kd → Option Bool
  | .exn _ => none
  | .int => some true
  | .bl => some true
  | _ => some false
def tb_bool : Kd → Option Bool
  | .exn _ => none
  | .bl => some true
  | _ => some false
def tb_str : Kd → Option Bool
  | .exn _ => none
  | .str => some true
  | _ => some false
def tb_tuple : Kd → Option Bool
  | .exn _ => none
  | .tup => some true
  | _ => some false
def tb_list : Kd → Option Bool
  | .exn _ => none
  | .lst => some true
  | _ => some false
theorem tk_of {T : Tx} {tb : Kd → Option Bool} {n : String} (h0 : ∀ c, tb (.exn c) = none) (h : (kitB "NoneType" n = tb .non ∧ kitB "bool" n = tb .bl ∧ kitB "int" n = tb .int) ∧ kitB "str" n = tb .str ∧ kitB "tuple" n = tb .tup ∧ kitB "list" n = tb .lst) : ∀ k b, tb k = some b → PySem.W.kitOne T.K (k.val T) (.type n) = some b := fun k b e => by
  obtain ⟨⟨h1, h2, h3⟩, h4, h5, h6⟩ := h
  cases k with
  | non => exact kit_ty (h1.trans e)
  | bl => exact kit_ty (h2.trans e)
  | int => exact kit_ty (h3.trans e)
  | str => exact kit_ty (h4.trans e)
  | tup => exact kit_ty (h5.trans e)
  | lst => exact kit_ty (h6.trans e)
  | exn c => rw [h0] at e; cases e
theorem tk_int {T : Tx} : ∀ k b, tb_int k = some b → PySem.W.kitOne T.K (k.val T) (.type "int") = some b := tk_of (fun _ => rfl) (by decide +kernel)
theorem tk_bool {T : Tx} : ∀ k b, tb_bool k = some b → PySem.W.kitOne T.K (k.val T) (.type "bool") = some b := tk_of (fun _ => rfl) (by decide +kernel)
theorem tk_str {T : Tx} : ∀ k b, tb_str k = some b → PySem.W.kitOne T.K (k.val T) (.type "str") = some b := tk_of (fun _ => rfl) (by decide +kernel)
theorem tk_tuple {T : Tx} : ∀ k b, tb_tuple k = some b → PySem.W.kitOne T.K (k.val T) (.type "tuple") = some b := tk_of (fun _ => rfl) (by decide +kernel)
theorem tk_list {T : Tx} : ∀ k b, tb_list k = some b → PySem.W.kitOne T.K (k.val T) (.type "list") = some b := tk_of (fun _ => rfl) (by decide +kernel)
/-! ### the module's constants -/
def tsB (K : PySem.W.Frag) (x : Str) (ys : List Str) : Bool := He.tupB K x (ys.map He.Dv.str)
/-- exceptions do not leave the law -/
theorem no_exn {P : Program} {w : World} (H : Hp) (s : Shared) (e : Value) (s' : Shared) (h : L2.CX P w [] H s (fun _ _ _ => False) e s') : False := by
  obtain ⟨_, _, _, _, _, _, _, _, _, _, _, _, z⟩ := h
  exact z
/-- the law's end: its context may name the world -/
theorem walk_w {l : PySem.W.OpenLaw} {k : Nat} {q : Program} {names : List Str} {XP : (Str → Option Value) → Heap → Prop} {YP : World → Heap → Prop} {d : DefRec} {p : Str} (hn : l.most = some 63) (hdf : d.params.defaults = []) (hr : Room k callerA)
    (G : ∀ (w : World) (mg : Str → Option Value) (f : Addr) (h : Heap), YP w h → h.Ns mainGlobals mg → mg d.name = some (.ref f) → ∃ (K : PySem.W.Frag) (fd : FuncData), K.In h ∧ (∀ (s : Shared) (v : Value), BindsTo s fd ⟨[v], []⟩ [(p, v)]) ∧
      ∀ base : Heap, K.In base → base.Ns mainGlobals mg → FnOk l.prog w K mg base (L2.CX l.prog w) k f fd [p] (spLaw K)) : PySem.W.WalkO q names XP YP l.row.toRowW d [] (fun f vs => PySem.call f vs) := by
  refine Att.attach_call hn hdf fun w s0 s1 mg mb f o pm cd doc a vs ns Gd Y ho hd hcd hm hob hi hl hg => ?_
  obtain ⟨K, fd, KX, b, hF⟩ := G w mg f _ Y Gd.T.g hm
  exact law_call KX Gd.T.g Gd.T.b Gd.T.builtins Gd.T.nolimit hg hob hi (Nat.le_trans hl (by decide)) hr hF b (fun H hO hS => ⟨a, ns, rfl, hl, hS, fun _ => rfl⟩) fun H e s' z => no_exn H s1 e s' z
end DM

namespace DM
open PySem PySem.Spec PyProof.Rows L2
def top (i : Nat) : Stmt := PySem.Challenge.pw_hidelater_k69_classes_apart.main.body.getD i (.Pass ⟨0, 0, 0, 0⟩)
abbrev nX : Nat := 9
def flX : List Str := ["word", "name", "step", "most", "rank", "cask"]
def l_HideError : List Bool := [true, true, true, true, true, true, false, false, false]
abbrev tb_HideError : Kd → Option Bool := tbX l_HideError
def l_InUse : List Bool := [false, true, false, false, false, false, false, false, false]
abbrev tb_InUse : Kd → Option Bool := tbX l_InUse
def l_LookupError : List Bool := [false, false, false, false, false, false, true, true, true]
abbrev tb_LookupError : Kd → Option Bool := tbX l_LookupError
def l_NoCask : List Bool := [false, false, false, false, false, false, false, false, true]
abbrev tb_NoCask : Kd → Option Bool := tbX l_NoCask
def l_NoDrop : List Bool := [false, false, false, false, false, false, false, true, false]
abbrev tb_NoDrop : Kd → Option Bool := tbX l_NoDrop
def l_NoRound : List Bool := [false, false, false, false, false, false, true, false, false]
abbrev tb_NoRound : Kd → Option Bool := tbX l_NoRound
def l_Taken : List Bool := [true, false, false, false, false, false, false, false, false]
abbrev tb_Taken : Kd → Option Bool := tbX l_Taken
def l_Tapped : List Bool := [false, false, true, false, false, false, false, false, false]
abbrev tb_Tapped : Kd → Option Bool := tbX l_Tapped
def l_TooLong : List Bool := [false, false, false, true, false, false, false, false, false]
abbrev tb_TooLong : Kd → Option Bool := tbX l_TooLong
def l_TooMany : List Bool := [false, false, false, false, true, false, false, false, false]
abbrev tb_TooMany : Kd → Option Bool := tbX l_TooMany
def l_Unlike : List Bool := [false, false, false, false, false, true, false, false, false]
abbrev tb_Unlike : Kd → Option Bool := tbX l_Unlike
noncomputable def P_lw_open_1 (ns : List Int) : SF := sRet (xAr gLstD (xCons (xAr gListOf (xCons (xSlS ns (xVar 0) (xNoPart) (xPart (xC (.int 63)))) (xNil))) (xCons (xC (.int 0)) (xCons (xC (.int 0)) (xCons (xC (.int 9465)) (xCons (xC (.int 0)) (xNil)))))))
noncomputable def F_lw_open (ns : List Int) : DF := runB 1 ((P_lw_open_1 ns))
noncomputable def P_lw_take_1 : SF := sIf (xAndT (tst (xOp dLt (xOp dIx (xVar 0) (xC (.int 2))) (xVar 1))) (tst (xOp dLt (xOp dIx (xVar 0) (xC (.int 1))) (xAr gLen (xCons (xOp dIx (xVar 0) (xC (.int 0))) (xNil)))))) (sSeq (sSet 2 (xOp dIx (xOp dIx (xVar 0) (xC (.int 0))) (xOp dIx (xVar 0) (xC (.int 1))))) (sSeq (sAsg (xOp dAdd (xOp dIx (xVar 0) (xC (.int 1))) (xC (.int 1))) (gtSub (xVar 0) (xC (.int 1)))) (sSeq (sAsg (xC (.int 0)) (gtSub (xVar 0) (xC (.int 2)))) (sIf (tst (xOp dGe (xVar 2) (xOp dPow (xC (.int 10)) (xC (.int 18))))) (sAsg (xVar 2) (gtSub (xVar 0) (xC (.int 2)))) (sAsg (xOp dMod (xOp dAdd (xOp dAdd (xOp dMulZ (xOp dIx (xVar 0) (xC (.int 3))) (xC (.int 48271))) (xOp dMulZ (xOp dMod (xVar 2) (xC (.int 2147483629))) (xC (.int 69621)))) (xC (.int 12345))) (xC (.int 2147483647))) (gtSub (xVar 0) (xC (.int 3)))))))) (sNx)
noncomputable def P_lw_take_2 : SF := sIf (tst (xOp dGe (xOp dIx (xVar 0) (xC (.int 2))) (xVar 1))) (sSeq (sSet 3 (xOp dMod (xOp dIx (xVar 0) (xC (.int 2))) (xVar 1))) (sSeq (sAsg (xOp dDiv (xOp dIx (xVar 0) (xC (.int 2))) (xVar 1)) (gtSub (xVar 0) (xC (.int 2)))) (sRet (xVar 3)))) (sNx)
noncomputable def P_lw_take_3 : SF := sAsg (xOp dAdd (xOp dIx (xVar 0) (xC (.int 4))) (xC (.int 1))) (gtSub (xVar 0) (xC (.int 4)))
noncomputable def P_lw_take_4 : SF := sSet 4 (xOp dIx (xVar 0) (xC (.int 3)))
noncomputable def P_lw_take_5 : SF := sAsg (xOp dMod (xOp dAdd (xOp dAdd (xOp dAdd (xOp dMulZ (xOp dMod (xOp dMulZ (xVar 4) (xVar 4)) (xC (.int 2147483629))) (xC (.int 5))) (xOp dMulZ (xVar 4) (xC (.int 16811)))) (xOp dMulZ (xC (.int 7919)) (xOp dIx (xVar 0) (xC (.int 4))))) (xC (.int 2531011))) (xC (.int 2147483647))) (gtSub (xVar 0) (xC (.int 3)))
noncomputable def P_lw_take_6 : SF := sRet (xOp dMod (xOp dAdd (xOp dDiv (xOp dIx (xVar 0) (xC (.int 3))) (xC (.int 61))) (xOp dMulZ (xOp dMod (xOp dIx (xVar 0) (xC (.int 3))) (xC (.int 8191))) (xC (.int 31)))) (xVar 1))
noncomputable def F_lw_take : DF := runB 5 (sSeq (P_lw_take_1) (sSeq (P_lw_take_2) (sSeq (P_lw_take_3) (sSeq (P_lw_take_4) (sSeq (P_lw_take_5) (P_lw_take_6))))))
noncomputable def P_lw_same_1 : SF := sIf (tst (xOp (dIsN false) (xVar 1) (xC .non))) (sRet (xOp (dIsN false) (xVar 0) (xC .non))) (sNx)
noncomputable def P_lw_same_2 : SF := sIf (tst (xUn (gIs nX tb_bool) (xVar 1))) (sRet (xAndV (xUn (gIs nX tb_bool) (xVar 0)) (xOp dEq (xVar 0) (xVar 1)))) (sNx)
noncomputable def P_lw_same_3 : SF := sIf (tst (xUn (gIs nX tb_int) (xVar 1))) (sRet (xAndV (xUn (gIs nX tb_int) (xVar 0)) (xAndV (xNotV (xUn (gIs nX tb_bool) (xVar 0))) (xOp dEq (xVar 0) (xVar 1))))) (sNx)
noncomputable def P_lw_same_4 : SF := sIf (tst (xUn (gIs nX tb_str) (xVar 1))) (sRet (xAndV (xUn (gIs nX tb_str) (xVar 0)) (xOp dEq (xVar 0) (xVar 1)))) (sNx)
noncomputable def P_lw_same_5 : SF := sIf (xOrT (tst (xOp dNe (xUn (gIs nX tb_tuple) (xVar 1)) (xUn (gIs nX tb_tuple) (xVar 0)))) (tst (xOp dNe (xUn (gIs nX tb_list) (xVar 1)) (xUn (gIs nX tb_list) (xVar 0))))) (sRet (xC (.bl false))) (sNx)
noncomputable def P_lw_same_6 : SF := sIf (tst (xOp dNe (xAr gLen (xCons (xVar 0) (xNil))) (xAr gLen (xCons (xVar 1) (xNil))))) (sRet (xC (.bl false))) (sNx)
noncomputable def P_lw_same_7 (G : DF) : SF := sRet (xAr gAll (xCons (xLc (iRange1 (xCons (xAr gLen (xCons (xVar 1) (xNil))) (xNil))) (gtName 2) (xYes) (xAr (ofN 2 G) (xCons (xOp dIx (xVar 0) (xVar 2)) (xCons (xOp dIx (xVar 1) (xVar 2)) (xNil)))) [2]) (xNil)))
noncomputable def F_lw_same_s (G : DF) : DF := runB 3 (sSeq (P_lw_same_1) (sSeq (P_lw_same_2) (sSeq (P_lw_same_3) (sSeq (P_lw_same_4) (sSeq (P_lw_same_5) (sSeq (P_lw_same_6) ((P_lw_same_7 G))))))))
noncomputable def F_lw_same : DF := F_lw_same_s (F_lw_same_s (F_lw_same_s (F_lw_same_s (F_lw_same_s (F_lw_same_s ((fun _ _ => .stuck)))))))
noncomputable def P_lw_flags_1 : SF := sSet 1 (xAr gLstD (xCons (xUn (gIs nX tb_InUse) (xVar 0)) (xCons (xUn (gIs nX tb_NoCask) (xVar 0)) (xCons (xUn (gIs nX tb_NoDrop) (xVar 0)) (xCons (xUn (gIs nX tb_NoRound) (xVar 0)) (xNil))))))
noncomputable def P_lw_flags_2 : SF := sSet 1 (xOp dAdd (xVar 1) (xAr gLstD (xCons (xUn (gIs nX tb_Taken) (xVar 0)) (xCons (xUn (gIs nX tb_Tapped) (xVar 0)) (xCons (xUn (gIs nX tb_TooLong) (xVar 0)) (xCons (xUn (gIs nX tb_TooMany) (xVar 0)) (xNil)))))))
noncomputable def P_lw_flags_3 : SF := sRet (xOp dAdd (xVar 1) (xAr gLstD (xCons (xUn (gIs nX tb_Unlike) (xVar 0)) (xCons (xUn (gIs nX tb_HideError) (xVar 0)) (xCons (xUn (gIs nX tb_LookupError) (xVar 0)) (xNil))))))
noncomputable def F_lw_flags : DF := runB 2 (sSeq (P_lw_flags_1) (sSeq (P_lw_flags_2) (P_lw_flags_3)))
noncomputable def P_law_1 (ns : List Int) : SF := sSet 1 (xAr (ofN 1 (F_lw_open ns)) (xCons (xVar 0) (xNil)))
noncomputable def P_law_2 : SF := sSet 2 (xAr (ofN 2 F_lw_take) (xCons (xVar 1) (xCons (xOp dPow (xC (.int 10)) (xC (.int 20))) (xNil))))
noncomputable def P_law_3 : SF := sSet 3 (xOp dMulZ (xC (.str "z")) (xOp dAdd (xC (.int 1)) (xOp dMod (xVar 2) (xC (.int 8)))))
noncomputable def P_law_4 : SF := sSet 4 (xAr gLstD (xCons (xAr (gMkX 1 1 [("word", .c "in use"), ("name", .p 0)]) (xCons (xVar 3) (xNil))) (xCons (xAr (gMkX 8 1 [("word", .c "no cask"), ("cask", .p 0)]) (xCons (xVar 2) (xNil))) (xCons (xAr (gMkX 7 1 [("word", .c "no drop"), ("rank", .p 0)]) (xCons (xVar 2) (xNil))) (xCons (xAr (gMkX 6 1 [("word", .c "no round"), ("name", .p 0)]) (xCons (xVar 3) (xNil))) (xCons (xAr (gMkX 0 1 [("word", .c "taken"), ("name", .p 0)]) (xCons (xVar 3) (xNil))) (xCons (xAr (gMkX 2 1 [("word", .c "tapped"), ("step", .p 0)]) (xCons (xVar 2) (xNil))) (xCons (xAr (gMkX 3 1 [("word", .c "too long"), ("most", .p 0)]) (xCons (xVar 2) (xNil))) (xNil)))))))))
noncomputable def P_law_5 : SF := sSet 4 (xOp dAdd (xVar 4) (xAr gLstD (xCons (xAr (gMkX 4 1 [("word", .c "too many"), ("most", .p 0)]) (xCons (xVar 2) (xNil))) (xCons (xAr (gMkX 5 0 [("word", .c "unlike")]) xNil) (xNil)))))
noncomputable def P_law_6b1 : SF := sSet 6 (xAr gLstD (xCons (xOp dIn (xVar 5) (xAr gLstD (xCons (xC (.int 0)) (xCons (xC (.int 4)) (xCons (xC (.int 5)) (xCons (xC (.int 6)) (xCons (xC (.int 7)) (xCons (xC (.int 8)) (xNil))))))))) (xCons (xOp dIn (xVar 5) (xAr gLstD (xCons (xC (.int 1)) (xCons (xC (.int 2)) (xCons (xC (.int 3)) (xNil)))))) (xNil))))
noncomputable def P_law_6b2 : SF := sIf (xNotT (tst (xAr (ofN 2 F_lw_same) (xCons (xAr (ofN 1 F_lw_flags) (xCons (xOp dIx (xVar 4) (xVar 5)) (xNil))) (xCons (xOp dAdd (xLc (iRange1 (xCons (xC (.int 9)) (xNil))) (gtName 9) (xYes) (xOp dEq (xVar 5) (xVar 9)) [9]) (xVar 6)) (xNil)))))) (sRet (xC (.bl false))) (sNx)
noncomputable def P_law_6B : SF := sSeq (P_law_6b1) (P_law_6b2)
noncomputable def P_law_6 : SF := sFor (iRange1 (xCons (xC (.int 9)) (xNil))) (gtName 5) (P_law_6B)
noncomputable def P_law_7 : SF := sSet 7 (xAr gLstD (xCons (xUn (gXA nX flX "name") (xOp dIx (xVar 4) (xC (.int 0)))) (xCons (xUn (gXA nX flX "cask") (xOp dIx (xVar 4) (xC (.int 1)))) (xCons (xUn (gXA nX flX "rank") (xOp dIx (xVar 4) (xC (.int 2)))) (xCons (xUn (gXA nX flX "name") (xOp dIx (xVar 4) (xC (.int 3)))) (xCons (xUn (gXA nX flX "name") (xOp dIx (xVar 4) (xC (.int 4)))) (xCons (xUn (gXA nX flX "step") (xOp dIx (xVar 4) (xC (.int 5)))) (xCons (xUn (gXA nX flX "most") (xOp dIx (xVar 4) (xC (.int 6)))) (xNil)))))))))
noncomputable def P_law_8 : SF := sIf (xNotT (tst (xAr (ofN 2 F_lw_same) (xCons (xOp dAdd (xVar 7) (xAr gLstD (xCons (xUn (gXA nX flX "most") (xOp dIx (xVar 4) (xC (.int 7)))) (xNil)))) (xCons (xAr gLstD (xCons (xVar 3) (xCons (xVar 2) (xCons (xVar 2) (xCons (xVar 3) (xCons (xVar 3) (xCons (xVar 2) (xCons (xVar 2) (xCons (xVar 2) (xNil)))))))))) (xNil)))))) (sRet (xC (.bl false))) (sNx)
noncomputable def P_law_9 : SF := sSet 8 (xAr gLstD (xCons (xC (.str "in use")) (xCons (xC (.str "no cask")) (xCons (xC (.str "no drop")) (xCons (xC (.str "no round")) (xCons (xC (.str "taken")) (xCons (xC (.str "tapped")) (xCons (xC (.str "too long")) (xCons (xC (.str "too many")) (xNil))))))))))
noncomputable def P_law_10 : SF := sRet (xAr (ofN 2 F_lw_same) (xCons (xLc (iOf (xVar 4)) (gtName 10) (xYes) (xUn (gXA nX flX "word") (xVar 10)) [10]) (xCons (xOp dAdd (xVar 8) (xAr gLstD (xCons (xC (.str "unlike")) (xNil)))) (xNil))))
noncomputable def F_law (ns : List Int) : DF := runB 11 (sSeq ((P_law_1 ns)) (sSeq (P_law_2) (sSeq (P_law_3) (sSeq (P_law_4) (sSeq (P_law_5) (sSeq (P_law_6) (sSeq (P_law_7) (sSeq (P_law_8) (sSeq (P_law_9) (P_law_10))))))))))
abbrev sti_Taken : Stmt := inClass (top 3) 0
theorem xc_Taken {T : Tx} {P : Program} {w : World} {mg : Str → Option Value} {base : Heap} {f : Addr} {fd : FuncData} (F : FunD T.K "__init__" "Taken.__init__" (defArgs sti_Taken) (defBody sti_Taken) (defScope sti_Taken) [] [] f fd) {B newId initId : String} {bmB : List Value} (XF : XcF T.K (T.cls 0) B newId initId bmB)
    (hm : mg "Taken" = some (.ref (T.cls 0))) (hi : PySem.W.findIn T.K (.ref (T.cls 0)) "__init__" = some (some (.ref f))) (hy : PySem.W.typeIn T.K (.ref f) = some (.type "function")) (ht : ∀ p ∈ ([("word", .c "taken"), ("name", .p 0)] : List (Str × Sr)), PySem.W.takerIn T.K (T.cls 0) p.1 = some none) : Xc T P w mg base "Taken" 0 1 [("word", .c "taken"), ("name", .p 0)] :=
  xc_mk (N := ["self", "name"]) (ps := ["self", "name"]) F XF hm hi hy ⟨rfl, rfl, rfl, by decide +kernel, rfl, by decide +kernel, by decide +kernel⟩ rfl ht (by decide +kernel) (by decide) (fun _ _ _ _ _ _ us hl => match us, hl with | [_, _], _ => rfl) fun cdv A outer s H E => (.cons (ps_st XF (pe_var rfl (by first | exact Or.inl rfl | exact Or.inr (Or.inl rfl) | exact Or.inr (Or.inr rfl)) (by decide) (by decide)) pe_str) (.one (ps_st XF (pe_var rfl (by first | exact Or.inl rfl | exact Or.inr (Or.inl rfl) | exact Or.inr (Or.inr rfl)) (by decide) (by decide)) (pe_var rfl (by first | exact Or.inl rfl | exact Or.inr (Or.inl rfl) | exact Or.inr (Or.inr rfl)) (by decide) (by decide)))))
abbrev sti_InUse : Stmt := inClass (top 4) 0
theorem xc_InUse {T : Tx} {P : Program} {w : World} {mg : Str → Option Value} {base : Heap} {f : Addr} {fd : FuncData} (F : FunD T.K "__init__" "InUse.__init__" (defArgs sti_InUse) (defBody sti_InUse) (defScope sti_InUse) [] [] f fd) {B newId initId : String} {bmB : List Value} (XF : XcF T.K (T.cls 1) B newId initId bmB)
    (hm : mg "InUse" = some (.ref (T.cls 1))) (hi : PySem.W.findIn T.K (.ref (T.cls 1)) "__init__" = some (some (.ref f))) (hy : PySem.W.typeIn T.K (.ref f) = some (.type "function")) (ht : ∀ p ∈ ([("word", .c "in use"), ("name", .p 0)] : List (Str × Sr)), PySem.W.takerIn T.K (T.cls 1) p.1 = some none) : Xc T P w mg base "InUse" 1 1 [("word", .c "in use"), ("name", .p 0)] :=
  xc_mk (N := ["self", "name"]) (ps := ["self", "name"]) F XF hm hi hy ⟨rfl, rfl, rfl, by decide +kernel, rfl, by decide +kernel, by decide +kernel⟩ rfl ht (by decide +kernel) (by decide) (fun _ _ _ _ _ _ us hl => match us, hl with | [_, _], _ => rfl) fun cdv A outer s H E => (.cons (ps_st XF (pe_var rfl (by first | exact Or.inl rfl | exact Or.inr (Or.inl rfl) | exact Or.inr (Or.inr rfl)) (by decide) (by decide)) pe_str) (.one (ps_st XF (pe_var rfl (by first | exact Or.inl rfl | exact Or.inr (Or.inl rfl) | exact Or.inr (Or.inr rfl)) (by decide) (by decide)) (pe_var rfl (by first | exact Or.inl rfl | exact Or.inr (Or.inl rfl) | exact Or.inr (Or.inr rfl)) (by decide) (by decide)))))
abbrev sti_Tapped : Stmt := inClass (top 5) 0
theorem xc_Tapped {T : Tx} {P : Program} {w : World} {mg : Str → Option Value} {base : Heap} {f : Addr} {fd : FuncData} (F : FunD T.K "__init__" "Tapped.__init__" (defArgs sti_Tapped) (defBody sti_Tapped) (defScope sti_Tapped) [] [] f fd) {B newId initId : String} {bmB : List Value} (XF : XcF T.K (T.cls 2) B newId initId bmB)
    (hm : mg "Tapped" = some (.ref (T.cls 2))) (hi : PySem.W.findIn T.K (.ref (T.cls 2)) "__init__" = some (some (.ref f))) (hy : PySem.W.typeIn T.K (.ref f) = some (.type "function")) (ht : ∀ p ∈ ([("word", .c "tapped"), ("step", .p 0)] : List (Str × Sr)), PySem.W.takerIn T.K (T.cls 2) p.1 = some none) : Xc T P w mg base "Tapped" 2 1 [("word", .c "tapped"), ("step", .p 0)] :=
  xc_mk (N := ["self", "step"]) (ps := ["self", "step"]) F XF hm hi hy ⟨rfl, rfl, rfl, by decide +kernel, rfl, by decide +kernel, by decide +kernel⟩ rfl ht (by decide +kernel) (by decide) (fun _ _ _ _ _ _ us hl => match us, hl with | [_, _], _ => rfl) fun cdv A outer s H E => (.cons (ps_st XF (pe_var rfl (by first | exact Or.inl rfl | exact Or.inr (Or.inl rfl) | exact Or.inr (Or.inr rfl)) (by decide) (by decide)) pe_str) (.one (ps_st XF (pe_var rfl (by first | exact Or.inl rfl | exact Or.inr (Or.inl rfl) | exact Or.inr (Or.inr rfl)) (by decide) (by decide)) (pe_var rfl (by first | exact Or.inl rfl | exact Or.inr (Or.inl rfl) | exact Or.inr (Or.inr rfl)) (by decide) (by decide)))))
abbrev sti_TooLong : Stmt := inClass (top 6) 0
theorem xc_TooLong {T : Tx} {P : Program} {w : World} {mg : Str → Option Value} {base : Heap} {f : Addr} {fd : FuncData} (F : FunD T.K "__init__" "TooLong.__init__" (defArgs sti_TooLong) (defBody sti_TooLong) (defScope sti_TooLong) [] [] f fd) {B newId initId : String} {bmB : List Value} (XF : XcF T.K (T.cls 3) B newId initId bmB)
    (hm : mg "TooLong" = some (.ref (T.cls 3))) (hi : PySem.W.findIn T.K (.ref (T.cls 3)) "__init__" = some (some (.ref f))) (hy : PySem.W.typeIn T.K (.ref f) = some (.type "function")) (ht : ∀ p ∈ ([("word", .c "too long"), ("most", .p 0)] : List (Str × Sr)), PySem.W.takerIn T.K (T.cls 3) p.1 = some none) : Xc T P w mg base "TooLong" 3 1 [("word", .c "too long"), ("most", .p 0)] :=
  xc_mk (N := ["self", "most"]) (ps := ["self", "most"]) F XF hm hi hy ⟨rfl, rfl, rfl, by decide +kernel, rfl, by decide +kernel, by decide +kernel⟩ rfl ht (by decide +kernel) (by decide) (fun _ _ _ _ _ _ us hl => match us, hl with | [_, _], _ => rfl) fun cdv A outer s H E => (.cons (ps_st XF (pe_var rfl (by first | exact Or.inl rfl | exact Or.inr (Or.inl rfl) | exact Or.inr (Or.inr rfl)) (by decide) (by decide)) pe_str) (.one (ps_st XF (pe_var rfl (by first | exact Or.inl rfl | exact Or.inr (Or.inl rfl) | exact Or.inr (Or.inr rfl)) (by decide) (by decide)) (pe_var rfl (by first | exact Or.inl rfl | exact Or.inr (Or.inl rfl) | exact Or.inr (Or.inr rfl)) (by decide) (by decide)))))
abbrev sti_TooMany : Stmt := inClass (top 7) 0
theorem xc_TooMany {T : Tx} {P : Program} {w : World} {mg : Str → Option Value} {base : Heap} {f : Addr} {fd : FuncData} (F : FunD T.K "__init__" "TooMany.__init__" (defArgs sti_TooMany) (defBody sti_TooMany) (defScope sti_TooMany) [] [] f fd) {B newId initId : String} {bmB : List Value} (XF : XcF T.K (T.cls 4) B newId initId bmB)
    (hm : mg "TooMany" = some (.ref (T.cls 4))) (hi : PySem.W.findIn T.K (.ref (T.cls 4)) "__init__" = some (some (.ref f))) (hy : PySem.W.typeIn T.K (.ref f) = some (.type "function")) (ht : ∀ p ∈ ([("word", .c "too many"), ("most", .p 0)] : List (Str × Sr)), PySem.W.takerIn T.K (T.cls 4) p.1 = some none) : Xc T P w mg base "TooMany" 4 1 [("word", .c "too many"), ("most", .p 0)] :=
  xc_mk (N := ["self", "most"]) (ps := ["self", "most"]) F XF hm hi hy ⟨rfl, rfl, rfl, by decide +kernel, rfl, by decide +kernel, by decide +kernel⟩ rfl ht (by decide +kernel) (by decide) (fun _ _ _ _ _ _ us hl => match us, hl with | [_, _], _ => rfl) fun cdv A outer s H E => (.cons (ps_st XF (pe_var rfl (by first | exact Or.inl rfl | exact Or.inr (Or.inl rfl) | exact Or.inr (Or.inr rfl)) (by decide) (by decide)) pe_str) (.one (ps_st XF (pe_var rfl (by first | exact Or.inl rfl | exact Or.inr (Or.inl rfl) | exact Or.inr (Or.inr rfl)) (by decide) (by decide)) (pe_var rfl (by first | exact Or.inl rfl | exact Or.inr (Or.inl rfl) | exact Or.inr (Or.inr rfl)) (by decide) (by decide)))))
abbrev sti_Unlike : Stmt := inClass (top 8) 0
theorem xc_Unlike {T : Tx} {P : Program} {w : World} {mg : Str → Option Value} {base : Heap} {f : Addr} {fd : FuncData} (F : FunD T.K "__init__" "Unlike.__init__" (defArgs sti_Unlike) (defBody sti_Unlike) (defScope sti_Unlike) [] [] f fd) {B newId initId : String} {bmB : List Value} (XF : XcF T.K (T.cls 5) B newId initId bmB)
    (hm : mg "Unlike" = some (.ref (T.cls 5))) (hi : PySem.W.findIn T.K (.ref (T.cls 5)) "__init__" = some (some (.ref f))) (hy : PySem.W.typeIn T.K (.ref f) = some (.type "function")) (ht : ∀ p ∈ ([("word", .c "unlike")] : List (Str × Sr)), PySem.W.takerIn T.K (T.cls 5) p.1 = some none) : Xc T P w mg base "Unlike" 5 0 [("word", .c "unlike")] :=
  xc_mk (N := ["self"]) (ps := ["self"]) F XF hm hi hy ⟨rfl, rfl, rfl, by decide +kernel, rfl, by decide +kernel, by decide +kernel⟩ rfl ht (by decide +kernel) (by decide) (fun _ _ _ _ _ _ us hl => match us, hl with | [_], _ => rfl) fun cdv A outer s H E => (.one (ps_st XF (pe_var rfl (by first | exact Or.inl rfl | exact Or.inr (Or.inl rfl) | exact Or.inr (Or.inr rfl)) (by decide) (by decide)) pe_str))
abbrev sti_NoRound : Stmt := inClass (top 9) 0
theorem xc_NoRound {T : Tx} {P : Program} {w : World} {mg : Str → Option Value} {base : Heap} {f : Addr} {fd : FuncData} (F : FunD T.K "__init__" "NoRound.__init__" (defArgs sti_NoRound) (defBody sti_NoRound) (defScope sti_NoRound) [] [] f fd) {B newId initId : String} {bmB : List Value} (XF : XcF T.K (T.cls 6) B newId initId bmB)
    (hm : mg "NoRound" = some (.ref (T.cls 6))) (hi : PySem.W.findIn T.K (.ref (T.cls 6)) "__init__" = some (some (.ref f))) (hy : PySem.W.typeIn T.K (.ref f) = some (.type "function")) (ht : ∀ p ∈ ([("word", .c "no round"), ("name", .p 0)] : List (Str × Sr)), PySem.W.takerIn T.K (T.cls 6) p.1 = some none) : Xc T P w mg base "NoRound" 6 1 [("word", .c "no round"), ("name", .p 0)] :=
  xc_mk (N := ["self", "name"]) (ps := ["self", "name"]) F XF hm hi hy ⟨rfl, rfl, rfl, by decide +kernel, rfl, by decide +kernel, by decide +kernel⟩ rfl ht (by decide +kernel) (by decide) (fun _ _ _ _ _ _ us hl => match us, hl with | [_, _], _ => rfl) fun cdv A outer s H E => (.cons (ps_st XF (pe_var rfl (by first | exact Or.inl rfl | exact Or.inr (Or.inl rfl) | exact Or.inr (Or.inr rfl)) (by decide) (by decide)) pe_str) (.one (ps_st XF (pe_var rfl (by first | exact Or.inl rfl | exact Or.inr (Or.inl rfl) | exact Or.inr (Or.inr rfl)) (by decide) (by decide)) (pe_var rfl (by first | exact Or.inl rfl | exact Or.inr (Or.inl rfl) | exact Or.inr (Or.inr rfl)) (by decide) (by decide)))))
abbrev sti_NoDrop : Stmt := inClass (top 10) 0
theorem xc_NoDrop {T : Tx} {P : Program} {w : World} {mg : Str → Option Value} {base : Heap} {f : Addr} {fd : FuncData} (F : FunD T.K "__init__" "NoDrop.__init__" (defArgs sti_NoDrop) (defBody sti_NoDrop) (defScope sti_NoDrop) [] [] f fd) {B newId initId : String} {bmB : List Value} (XF : XcF T.K (T.cls 7) B newId initId bmB)
    (hm : mg "NoDrop" = some (.ref (T.cls 7))) (hi : PySem.W.findIn T.K (.ref (T.cls 7)) "__init__" = some (some (.ref f))) (hy : PySem.W.typeIn T.K (.ref f) = some (.type "function")) (ht : ∀ p ∈ ([("word", .c "no drop"), ("rank", .p 0)] : List (Str × Sr)), PySem.W.takerIn T.K (T.cls 7) p.1 = some none) : Xc T P w mg base "NoDrop" 7 1 [("word", .c "no drop"), ("rank", .p 0)] :=
  xc_mk (N := ["self", "rank"]) (ps := ["self", "rank"]) F XF hm hi hy ⟨rfl, rfl, rfl, by decide +kernel, rfl, by decide +kernel, by decide +kernel⟩ rfl ht (by decide +kernel) (by decide) (fun _ _ _ _ _ _ us hl => match us, hl with | [_, _], _ => rfl) fun cdv A outer s H E => (.cons (ps_st XF (pe_var rfl (by first | exact Or.inl rfl | exact Or.inr (Or.inl rfl) | exact Or.inr (Or.inr rfl)) (by decide) (by decide)) pe_str) (.one (ps_st XF (pe_var rfl (by first | exact Or.inl rfl | exact Or.inr (Or.inl rfl) | exact Or.inr (Or.inr rfl)) (by decide) (by decide)) (pe_var rfl (by first | exact Or.inl rfl | exact Or.inr (Or.inl rfl) | exact Or.inr (Or.inr rfl)) (by decide) (by decide)))))
abbrev sti_NoCask : Stmt := inClass (top 11) 0
theorem xc_NoCask {T : Tx} {P : Program} {w : World} {mg : Str → Option Value} {base : Heap} {f : Addr} {fd : FuncData} (F : FunD T.K "__init__" "NoCask.__init__" (defArgs sti_NoCask) (defBody sti_NoCask) (defScope sti_NoCask) [] [] f fd) {B newId initId : String} {bmB : List Value} (XF : XcF T.K (T.cls 8) B newId initId bmB)
    (hm : mg "NoCask" = some (.ref (T.cls 8))) (hi : PySem.W.findIn T.K (.ref (T.cls 8)) "__init__" = some (some (.ref f))) (hy : PySem.W.typeIn T.K (.ref f) = some (.type "function")) (ht : ∀ p ∈ ([("word", .c "no cask"), ("cask", .p 0)] : List (Str × Sr)), PySem.W.takerIn T.K (T.cls 8) p.1 = some none) : Xc T P w mg base "NoCask" 8 1 [("word", .c "no cask"), ("cask", .p 0)] :=
  xc_mk (N := ["self", "cask"]) (ps := ["self", "cask"]) F XF hm hi hy ⟨rfl, rfl, rfl, by decide +kernel, rfl, by decide +kernel, by decide +kernel⟩ rfl ht (by decide +kernel) (by decide) (fun _ _ _ _ _ _ us hl => match us, hl with | [_, _], _ => rfl) fun cdv A outer s H E => (.cons (ps_st XF (pe_var rfl (by first | exact Or.inl rfl | exact Or.inr (Or.inl rfl) | exact Or.inr (Or.inr rfl)) (by decide) (by decide)) pe_str) (.one (ps_st XF (pe_var rfl (by first | exact Or.inl rfl | exact Or.inr (Or.inl rfl) | exact Or.inr (Or.inr rfl)) (by decide) (by decide)) (pe_var rfl (by first | exact Or.inl rfl | exact Or.inr (Or.inl rfl) | exact Or.inr (Or.inr rfl)) (by decide) (by decide)))))
abbrev st_lw_open : Stmt := top 13
theorem fn_lw_open {T : Tx} {P : Program} {w : World} {mg : Str → Option Value} {base : Heap} {f : Addr} {fd : FuncData} (F : FunD T.K "_law_open" "_law_open" (defArgs st_lw_open) (defBody st_lw_open) (defScope st_lw_open) [] [] f fd) (hm : mg "_law_open" = some (.ref f)) (m_list : mg "list" = none) :
    Fn T P w mg base "_law_open" 1 ["_law_script"] (F_lw_open T.ns) :=
  fn_mk (k := 0) (N := ["_law_script"]) F hm ⟨rfl, rfl, rfl, by decide +kernel, rfl, by decide +kernel, by decide +kernel⟩ (fun _ _ _ _ _ _ us hl => match us, hl with | [_], _ => rfl) fun cdv A outer s H E hr B hp =>
    sss_one (ss_ret (se_lst (sa_cons (se_callTy call_list_of a_listOf m_list (by decide +kernel) (sa_cons (se_sliceS B (se_var 0) (so_none) (so_some (se_int))) (sa_nil))) (sa_cons (se_int) (sa_cons (se_int) (sa_cons (se_int) (sa_cons (se_int) (sa_nil))))))))
abbrev st_lw_take : Stmt := top 14
theorem fn_lw_take {T : Tx} {P : Program} {w : World} {mg : Str → Option Value} {base : Heap} {f : Addr} {fd : FuncData} (F : FunD T.K "_law_take" "_law_take" (defArgs st_lw_take) (defBody st_lw_take) (defScope st_lw_take) [] [] f fd) (hm : mg "_law_take" = some (.ref f)) (m_len : mg "len" = none) :
    Fn T P w mg base "_law_take" 1 ["_law_bag", "_law_sides"] F_lw_take :=
  fn_mk (k := 0) (N := ["_law_bag", "_law_sides", "_law_cell", "_law_side", "_law_mix"]) F hm ⟨rfl, rfl, rfl, by decide +kernel, rfl, by decide +kernel, by decide +kernel⟩ (fun _ _ _ _ _ _ us hl => match us, hl with | [_, _], _ => rfl) fun cdv A outer s H E hr B hp =>
    sss_cons (ss_if ((sw_and (st_cmp op_lt a_lt (se_ix B (se_var 0) (se_int)) (se_var 1)) (sw_and1 (st_cmp op_lt a_lt (se_ix B (se_var 0) (se_int)) (se_callB call_len a_len m_len (by decide +kernel) (sa_cons (se_ix B (se_var 0) (se_int)) (sa_nil)))))).st) (sss_cons (ss_set 2 (se_ix B (se_ix B (se_var 0) (se_int)) (se_ix B (se_var 0) (se_int))) B.nd) (sss_cons (ss_asg (se_op op_addAll a_addAll (se_ix B (se_var 0) (se_int)) (se_int)) (sg_sub (W := W0) (se_var 0) (se_int))) (sss_cons (ss_asg (se_int) (sg_sub (W := W0) (se_var 0) (se_int))) (sss_one (ss_if (st_cmp op_ge a_ge (se_var 2) (se_op op_pow a_pow (se_int) (se_int))) (sss_one (ss_asg (se_var 2) (sg_sub (W := W0) (se_var 0) (se_int)))) (sss_one (ss_asg (se_op op_mod a_mod (se_op op_addAll a_addAll (se_op op_addAll a_addAll (se_op op_mulZ a_mulZ (se_ix B (se_var 0) (se_int)) (se_int)) (se_op op_mulZ a_mulZ (se_op op_mod a_mod (se_var 2) (se_int)) (se_int))) (se_int)) (se_int)) (sg_sub (W := W0) (se_var 0) (se_int))))))))) (sss_nil)) (sss_cons (ss_if (st_cmp op_ge a_ge (se_ix B (se_var 0) (se_int)) (se_var 1)) (sss_cons (ss_set 3 (se_op op_mod a_mod (se_ix B (se_var 0) (se_int)) (se_var 1)) B.nd) (sss_cons (ss_asg (se_op op_fdivW a_div (se_ix B (se_var 0) (se_int)) (se_var 1)) (sg_sub (W := W0) (se_var 0) (se_int))) (sss_one (ss_ret (se_var 3))))) (sss_nil)) (sss_cons (ss_asg (se_op op_addAll a_addAll (se_ix B (se_var 0) (se_int)) (se_int)) (sg_sub (W := W0) (se_var 0) (se_int))) (sss_cons (ss_set 4 (se_ix B (se_var 0) (se_int)) B.nd) (sss_cons (ss_asg (se_op op_mod a_mod (se_op op_addAll a_addAll (se_op op_addAll a_addAll (se_op op_addAll a_addAll (se_op op_mulZ a_mulZ (se_op op_mod a_mod (se_op op_mulZ a_mulZ (se_var 4) (se_var 4)) (se_int)) (se_int)) (se_op op_mulZ a_mulZ (se_var 4) (se_int))) (se_op op_mulZ a_mulZ (se_int) (se_ix B (se_var 0) (se_int)))) (se_int)) (se_int)) (sg_sub (W := W0) (se_var 0) (se_int))) (sss_one (ss_ret (se_op op_mod a_mod (se_op op_addAll a_addAll (se_op op_fdivW a_div (se_ix B (se_var 0) (se_int)) (se_int)) (se_op op_mulZ a_mulZ (se_op op_mod a_mod (se_ix B (se_var 0) (se_int)) (se_int)) (se_int))) (se_var 1))))))))
abbrev st_lw_same : Stmt := top 15
theorem fns_lw_same {j : Nat} {G : DF} {T : Tx} {P : Program} {w : World} {mg : Str → Option Value} {base : Heap} {f : Addr} {fd : FuncData} (F : FunD T.K "_law_same" "_law_same" (defArgs st_lw_same) (defBody st_lw_same) (defScope st_lw_same) [] [] f fd) (hm : mg "_law_same" = some (.ref f)) (hE : ExF T nX flX) (hC : ∀ c, c < nX → (PySem.W.clsIn T.K (T.cls c)).isSome = true) (k_bool : ∀ k b, tb_bool k = some b → PySem.W.kitOne T.K (k.val T) (.type "bool") = some b) (k_int : ∀ k b, tb_int k = some b → PySem.W.kitOne T.K (k.val T) (.type "int") = some b) (k_list : ∀ k b, tb_list k = some b → PySem.W.kitOne T.K (k.val T) (.type "list") = some b) (k_str : ∀ k b, tb_str k = some b → PySem.W.kitOne T.K (k.val T) (.type "str") = some b) (k_tuple : ∀ k b, tb_tuple k = some b → PySem.W.kitOne T.K (k.val T) (.type "tuple") = some b) (m_all : mg "all" = none) (m_bool : mg "bool" = none) (m_int : mg "int" = none) (m_isinstance : mg "isinstance" = none) (m_len : mg "len" = none) (m_list : mg "list" = none) (m_range : mg "range" = none) (m_str : mg "str" = none) (m_tuple : mg "tuple" = none) (c_self : Fn T P w mg base "_law_same" j ["_law_found", "_law_due"] G) (hj : 0 ≤ j) :
    Fn T P w mg base "_law_same" (j + 1) ["_law_found", "_law_due"] (F_lw_same_s G) :=
  fn_mk (k := j) (N := ["_law_found", "_law_due", "_law_at"]) F hm ⟨rfl, rfl, rfl, by decide +kernel, rfl, by decide +kernel, by decide +kernel⟩ (fun _ _ _ _ _ _ us hl => match us, hl with | [_, _], _ => rfl) fun cdv A outer s H E hr B hp =>
    sss_cons (ss_if (st_cmp op_isN a_isN (se_var 1) (se_non)) (sss_one (ss_ret (se_cmp op_isN a_isN (se_var 0) (se_non)))) (sss_nil)) (sss_cons (ss_if (st_val (se_isx B hE hC (isC_ty m_bool k_bool) m_isinstance (se_var 1))) (sss_one (ss_ret (se_and (se_isx B hE hC (isC_ty m_bool k_bool) m_isinstance (se_var 0)) (se_one (se_cmp (op_eqD hr.units) a_eq (se_var 0) (se_var 1)))))) (sss_nil)) (sss_cons (ss_if (st_val (se_isx B hE hC (isC_ty m_int k_int) m_isinstance (se_var 1))) (sss_one (ss_ret (se_and (se_isx B hE hC (isC_ty m_int k_int) m_isinstance (se_var 0)) (se_and (se_not (se_isx B hE hC (isC_ty m_bool k_bool) m_isinstance (se_var 0))) (se_one (se_cmp (op_eqD hr.units) a_eq (se_var 0) (se_var 1))))))) (sss_nil)) (sss_cons (ss_if (st_val (se_isx B hE hC (isC_ty m_str k_str) m_isinstance (se_var 1))) (sss_one (ss_ret (se_and (se_isx B hE hC (isC_ty m_str k_str) m_isinstance (se_var 0)) (se_one (se_cmp (op_eqD hr.units) a_eq (se_var 0) (se_var 1)))))) (sss_nil)) (sss_cons (ss_if ((sw_or (st_cmp (op_neD hr.units) a_ne (se_isx B hE hC (isC_ty m_tuple k_tuple) m_isinstance (se_var 1)) (se_isx B hE hC (isC_ty m_tuple k_tuple) m_isinstance (se_var 0))) (sw_or1 (st_cmp (op_neD hr.units) a_ne (se_isx B hE hC (isC_ty m_list k_list) m_isinstance (se_var 1)) (se_isx B hE hC (isC_ty m_list k_list) m_isinstance (se_var 0))))).st) (sss_one (ss_ret (se_bl))) (sss_nil)) (sss_cons (ss_if (st_cmp (op_neD hr.units) a_ne (se_callB call_len a_len m_len (by decide +kernel) (sa_cons (se_var 0) (sa_nil))) (se_callB call_len a_len m_len (by decide +kernel) (sa_cons (se_var 1) (sa_nil)))) (sss_one (ss_ret (se_bl))) (sss_nil)) (sss_one (ss_ret (se_callB (cr_all B.calm) a_bools m_all (by decide +kernel) (sa_cons (se_lc (own := [("_law_at", 2)]) B.calm B.nd (si_range1 (sa_cons (se_callB call_len a_len m_len (by decide +kernel) (sa_cons (se_var 1) (sa_nil))) (sa_nil)) m_range) (blkOk_by (N := ["_law_found", "_law_due", "_law_at"]) (sc := defScope st_lw_same) (by decide +kernel)) (fun s H C cl fp => sg_name 2 (B.blk s H _ _ fp).nd) (fun s H C cl fp => sts_nil) (fun s H C cl fp => se_callF (B.blk s H _ _ fp) hr c_self (sa_cons (se_ix (B.blk s H _ _ fp) (se_var 0) (se_var 2)) (sa_cons (se_ix (B.blk s H _ _ fp) (se_var 1) (se_var 2)) (sa_nil))) (Nat.le_refl _))) (sa_nil))))))))))
theorem fn_lw_same {T : Tx} {P : Program} {w : World} {mg : Str → Option Value} {base : Heap} {f : Addr} {fd : FuncData} (F : FunD T.K "_law_same" "_law_same" (defArgs st_lw_same) (defBody st_lw_same) (defScope st_lw_same) [] [] f fd) (hm : mg "_law_same" = some (.ref f)) (hE : ExF T nX flX) (hC : ∀ c, c < nX → (PySem.W.clsIn T.K (T.cls c)).isSome = true) (k_bool : ∀ k b, tb_bool k = some b → PySem.W.kitOne T.K (k.val T) (.type "bool") = some b) (k_int : ∀ k b, tb_int k = some b → PySem.W.kitOne T.K (k.val T) (.type "int") = some b) (k_list : ∀ k b, tb_list k = some b → PySem.W.kitOne T.K (k.val T) (.type "list") = some b) (k_str : ∀ k b, tb_str k = some b → PySem.W.kitOne T.K (k.val T) (.type "str") = some b) (k_tuple : ∀ k b, tb_tuple k = some b → PySem.W.kitOne T.K (k.val T) (.type "tuple") = some b) (m_all : mg "all" = none) (m_bool : mg "bool" = none) (m_int : mg "int" = none) (m_isinstance : mg "isinstance" = none) (m_len : mg "len" = none) (m_list : mg "list" = none) (m_range : mg "range" = none) (m_str : mg "str" = none) (m_tuple : mg "tuple" = none) :
    Fn T P w mg base "_law_same" 6 ["_law_found", "_law_due"] F_lw_same := (fns_lw_same F hm hE hC k_bool k_int k_list k_str k_tuple m_all m_bool m_int m_isinstance m_len m_list m_range m_str m_tuple (fns_lw_same F hm hE hC k_bool k_int k_list k_str k_tuple m_all m_bool m_int m_isinstance m_len m_list m_range m_str m_tuple (fns_lw_same F hm hE hC k_bool k_int k_list k_str k_tuple m_all m_bool m_int m_isinstance m_len m_list m_range m_str m_tuple (fns_lw_same F hm hE hC k_bool k_int k_list k_str k_tuple m_all m_bool m_int m_isinstance m_len m_list m_range m_str m_tuple (fns_lw_same F hm hE hC k_bool k_int k_list k_str k_tuple m_all m_bool m_int m_isinstance m_len m_list m_range m_str m_tuple (fns_lw_same F hm hE hC k_bool k_int k_list k_str k_tuple m_all m_bool m_int m_isinstance m_len m_list m_range m_str m_tuple (fn_zero 0 F hm (fun _ _ _ _ _ _ us hl => match us, hl with | [_, _], _ => rfl)) (by decide)) (by decide)) (by decide)) (by decide)) (by decide)) (by decide))
abbrev st_lw_flags : Stmt := top 16
theorem fn_lw_flags {T : Tx} {P : Program} {w : World} {mg : Str → Option Value} {base : Heap} {f : Addr} {fd : FuncData} (F : FunD T.K "_law_flags" "_law_flags" (defArgs st_lw_flags) (defBody st_lw_flags) (defScope st_lw_flags) [] [] f fd) (hm : mg "_law_flags" = some (.ref f)) (hE : ExF T nX flX) (hC : ∀ c, c < nX → (PySem.W.clsIn T.K (T.cls c)).isSome = true) {C_HideError : Addr} (g_HideError : mg "HideError" = some (.ref C_HideError)) (k_HideError : ∀ k b, tb_HideError k = some b → PySem.W.kitOne T.K (k.val T) (.ref C_HideError) = some b) {C_InUse : Addr} (g_InUse : mg "InUse" = some (.ref C_InUse)) (k_InUse : ∀ k b, tb_InUse k = some b → PySem.W.kitOne T.K (k.val T) (.ref C_InUse) = some b) (k_LookupError : ∀ k b, tb_LookupError k = some b → PySem.W.kitOne T.K (k.val T) (.type "LookupError") = some b) {C_NoCask : Addr} (g_NoCask : mg "NoCask" = some (.ref C_NoCask)) (k_NoCask : ∀ k b, tb_NoCask k = some b → PySem.W.kitOne T.K (k.val T) (.ref C_NoCask) = some b) {C_NoDrop : Addr} (g_NoDrop : mg "NoDrop" = some (.ref C_NoDrop)) (k_NoDrop : ∀ k b, tb_NoDrop k = some b → PySem.W.kitOne T.K (k.val T) (.ref C_NoDrop) = some b) {C_NoRound : Addr} (g_NoRound : mg "NoRound" = some (.ref C_NoRound)) (k_NoRound : ∀ k b, tb_NoRound k = some b → PySem.W.kitOne T.K (k.val T) (.ref C_NoRound) = some b) {C_Taken : Addr} (g_Taken : mg "Taken" = some (.ref C_Taken)) (k_Taken : ∀ k b, tb_Taken k = some b → PySem.W.kitOne T.K (k.val T) (.ref C_Taken) = some b) {C_Tapped : Addr} (g_Tapped : mg "Tapped" = some (.ref C_Tapped)) (k_Tapped : ∀ k b, tb_Tapped k = some b → PySem.W.kitOne T.K (k.val T) (.ref C_Tapped) = some b) {C_TooLong : Addr} (g_TooLong : mg "TooLong" = some (.ref C_TooLong)) (k_TooLong : ∀ k b, tb_TooLong k = some b → PySem.W.kitOne T.K (k.val T) (.ref C_TooLong) = some b) {C_TooMany : Addr} (g_TooMany : mg "TooMany" = some (.ref C_TooMany)) (k_TooMany : ∀ k b, tb_TooMany k = some b → PySem.W.kitOne T.K (k.val T) (.ref C_TooMany) = some b) {C_Unlike : Addr} (g_Unlike : mg "Unlike" = some (.ref C_Unlike)) (k_Unlike : ∀ k b, tb_Unlike k = some b → PySem.W.kitOne T.K (k.val T) (.ref C_Unlike) = some b) (m_LookupError : mg "LookupError" = none) (m_isinstance : mg "isinstance" = none) :
    Fn T P w mg base "_law_flags" 1 ["_law_e"] F_lw_flags :=
  fn_mk (k := 0) (N := ["_law_e", "_law_found"]) F hm ⟨rfl, rfl, rfl, by decide +kernel, rfl, by decide +kernel, by decide +kernel⟩ (fun _ _ _ _ _ _ us hl => match us, hl with | [_], _ => rfl) fun cdv A outer s H E hr B hp =>
    sss_cons (ss_set 1 (se_lst (sa_cons (se_isx B hE hC (isC_own g_InUse k_InUse) m_isinstance (se_var 0)) (sa_cons (se_isx B hE hC (isC_own g_NoCask k_NoCask) m_isinstance (se_var 0)) (sa_cons (se_isx B hE hC (isC_own g_NoDrop k_NoDrop) m_isinstance (se_var 0)) (sa_cons (se_isx B hE hC (isC_own g_NoRound k_NoRound) m_isinstance (se_var 0)) (sa_nil)))))) B.nd) (sss_cons (ss_set 1 (se_op op_addAll a_addAll (se_var 1) (se_lst (sa_cons (se_isx B hE hC (isC_own g_Taken k_Taken) m_isinstance (se_var 0)) (sa_cons (se_isx B hE hC (isC_own g_Tapped k_Tapped) m_isinstance (se_var 0)) (sa_cons (se_isx B hE hC (isC_own g_TooLong k_TooLong) m_isinstance (se_var 0)) (sa_cons (se_isx B hE hC (isC_own g_TooMany k_TooMany) m_isinstance (se_var 0)) (sa_nil))))))) B.nd) (sss_one (ss_ret (se_op op_addAll a_addAll (se_var 1) (se_lst (sa_cons (se_isx B hE hC (isC_own g_Unlike k_Unlike) m_isinstance (se_var 0)) (sa_cons (se_isx B hE hC (isC_own g_HideError k_HideError) m_isinstance (se_var 0)) (sa_cons (se_isx B hE hC (isC_ty m_LookupError k_LookupError) m_isinstance (se_var 0)) (sa_nil)))))))))
abbrev st_law : Stmt := top 17
theorem fn_law {T : Tx} {P : Program} {w : World} {mg : Str → Option Value} {base : Heap} {f : Addr} {fd : FuncData} (F : FunD T.K "law" "law" (defArgs st_law) (defBody st_law) (defScope st_law) [] [] f fd) (hm : mg "law" = some (.ref f)) (c_lw_flags : Fn T P w mg base "_law_flags" 1 ["_law_e"] F_lw_flags) (c_lw_open : Fn T P w mg base "_law_open" 1 ["_law_script"] (F_lw_open T.ns)) (c_lw_same : Fn T P w mg base "_law_same" 6 ["_law_found", "_law_due"] F_lw_same) (c_lw_take : Fn T P w mg base "_law_take" 1 ["_law_bag", "_law_sides"] F_lw_take) (x_InUse : Xc T P w mg base "InUse" 1 1 [("word", .c "in use"), ("name", .p 0)]) (x_NoCask : Xc T P w mg base "NoCask" 8 1 [("word", .c "no cask"), ("cask", .p 0)]) (x_NoDrop : Xc T P w mg base "NoDrop" 7 1 [("word", .c "no drop"), ("rank", .p 0)]) (x_NoRound : Xc T P w mg base "NoRound" 6 1 [("word", .c "no round"), ("name", .p 0)]) (x_Taken : Xc T P w mg base "Taken" 0 1 [("word", .c "taken"), ("name", .p 0)]) (x_Tapped : Xc T P w mg base "Tapped" 2 1 [("word", .c "tapped"), ("step", .p 0)]) (x_TooLong : Xc T P w mg base "TooLong" 3 1 [("word", .c "too long"), ("most", .p 0)]) (x_TooMany : Xc T P w mg base "TooMany" 4 1 [("word", .c "too many"), ("most", .p 0)]) (x_Unlike : Xc T P w mg base "Unlike" 5 0 [("word", .c "unlike")]) (hE : ExF T nX flX) (m_range : mg "range" = none) :
    FnOk P w T.K mg base (L2.CX P w) 7 f fd ["_law_script"] (spD T 1 (F_law T.ns)) :=
  fnD_of (k := 6) (N := ["_law_script", "_law_bag", "_law_k", "_law_mname", "_law_made", "_law_at", "_law_lies", "_law_fields", "_law_words", "_law_spot", "_law_e"]) F ⟨rfl, rfl, rfl, by decide +kernel, rfl, by decide +kernel, by decide +kernel⟩ rfl fun cdv A outer s H E hr B hp =>
    sss_cons (ss_set 1 (se_callF B hr c_lw_open (sa_cons (se_var 0) (sa_nil))) B.nd) (sss_cons (ss_set 2 (se_callF B hr c_lw_take (sa_cons (se_var 1) (sa_cons (se_op op_pow a_pow (se_int) (se_int)) (sa_nil)))) B.nd) (sss_cons (ss_set 3 (se_op op_mulZ a_mulZ (se_str) (se_op op_addAll a_addAll (se_int) (se_op op_mod a_mod (se_var 2) (se_int)))) B.nd) (sss_cons (ss_set 4 (se_lst (sa_cons (se_mkX B hr x_InUse (sa_cons (se_var 3) (sa_nil))) (sa_cons (se_mkX B hr x_NoCask (sa_cons (se_var 2) (sa_nil))) (sa_cons (se_mkX B hr x_NoDrop (sa_cons (se_var 2) (sa_nil))) (sa_cons (se_mkX B hr x_NoRound (sa_cons (se_var 3) (sa_nil))) (sa_cons (se_mkX B hr x_Taken (sa_cons (se_var 3) (sa_nil))) (sa_cons (se_mkX B hr x_Tapped (sa_cons (se_var 2) (sa_nil))) (sa_cons (se_mkX B hr x_TooLong (sa_cons (se_var 2) (sa_nil))) (sa_nil))))))))) B.nd) (sss_cons (ss_set 4 (se_op op_addAll a_addAll (se_var 4) (se_lst (sa_cons (se_mkX B hr x_TooMany (sa_cons (se_var 2) (sa_nil))) (sa_cons (se_mkX0 B hr x_Unlike) (sa_nil))))) B.nd) (sss_cons (ss_for hp B.calm (si_range1 (sa_cons (se_int) (sa_nil)) m_range) (sg_name 5 B.nd) (sss_cons (ss_set 6 (se_lst (sa_cons (se_cmp op_inB (a_inB false) (se_var 5) (se_lst (sa_cons (se_int) (sa_cons (se_int) (sa_cons (se_int) (sa_cons (se_int) (sa_cons (se_int) (sa_cons (se_int) (sa_nil))))))))) (sa_cons (se_cmp op_inB (a_inB false) (se_var 5) (se_lst (sa_cons (se_int) (sa_cons (se_int) (sa_cons (se_int) (sa_nil)))))) (sa_nil)))) B.nd) (sss_one (ss_if (st_not (st_val (se_callF B hr c_lw_same (sa_cons (se_callF B hr c_lw_flags (sa_cons (se_ix B (se_var 4) (se_var 5)) (sa_nil))) (sa_cons (se_op op_addAll a_addAll (se_lc (own := [("_law_spot", 9)]) B.calm B.nd (si_range1 (sa_cons (se_int) (sa_nil)) m_range) (blkOk_by (N := ["_law_script", "_law_bag", "_law_k", "_law_mname", "_law_made", "_law_at", "_law_lies", "_law_fields", "_law_words", "_law_spot", "_law_e"]) (sc := defScope st_law) (by decide +kernel)) (fun s H C cl fp => sg_name 9 (B.blk s H _ _ fp).nd) (fun s H C cl fp => sts_nil) (fun s H C cl fp => se_cmp (op_eqD hr.units) a_eq (se_var 5) (se_var 9))) (se_var 6)) (sa_nil)))))) (sss_one (ss_ret (se_bl))) (sss_nil))))) (sss_cons (ss_set 7 (se_lst (sa_cons (se_xa B hE (se_ix B (se_var 4) (se_int))) (sa_cons (se_xa B hE (se_ix B (se_var 4) (se_int))) (sa_cons (se_xa B hE (se_ix B (se_var 4) (se_int))) (sa_cons (se_xa B hE (se_ix B (se_var 4) (se_int))) (sa_cons (se_xa B hE (se_ix B (se_var 4) (se_int))) (sa_cons (se_xa B hE (se_ix B (se_var 4) (se_int))) (sa_cons (se_xa B hE (se_ix B (se_var 4) (se_int))) (sa_nil))))))))) B.nd) (sss_cons (ss_if (st_not (st_val (se_callF B hr c_lw_same (sa_cons (se_op op_addAll a_addAll (se_var 7) (se_lst (sa_cons (se_xa B hE (se_ix B (se_var 4) (se_int))) (sa_nil)))) (sa_cons (se_lst (sa_cons (se_var 3) (sa_cons (se_var 2) (sa_cons (se_var 2) (sa_cons (se_var 3) (sa_cons (se_var 3) (sa_cons (se_var 2) (sa_cons (se_var 2) (sa_cons (se_var 2) (sa_nil)))))))))) (sa_nil)))))) (sss_one (ss_ret (se_bl))) (sss_nil)) (sss_cons (ss_set 8 (se_lst (sa_cons (se_str) (sa_cons (se_str) (sa_cons (se_str) (sa_cons (se_str) (sa_cons (se_str) (sa_cons (se_str) (sa_cons (se_str) (sa_cons (se_str) (sa_nil)))))))))) B.nd) (sss_one (ss_ret (se_callF B hr c_lw_same (sa_cons (se_lc (own := [("_law_e", 10)]) B.calm B.nd (si_seq (se_var 4) B.hK) (blkOk_by (N := ["_law_script", "_law_bag", "_law_k", "_law_mname", "_law_made", "_law_at", "_law_lies", "_law_fields", "_law_words", "_law_spot", "_law_e"]) (sc := defScope st_law) (by decide +kernel)) (fun s H C cl fp => sg_name 10 (B.blk s H _ _ fp).nd) (fun s H C cl fp => sts_nil) (fun s H C cl fp => se_xa (B.blk s H _ _ fp) hE (se_var 10))) (sa_cons (se_op op_addAll a_addAll (se_var 8) (se_lst (sa_cons (se_str) (sa_nil)))) (sa_nil))))))))))))))
end DM

namespace DM
open PySem PySem.Spec PyProof.Rows L2
theorem mulW {i j : Int} (h1 : i.natAbs < 2 ^ 400000) (h2 : j.natAbs < 2 ^ 400000) : CMulW i j := by
  unfold CMulW
  have a : i.natAbs.log2 < 400000 ∨ i.natAbs = 0 := by
    by_cases h : i.natAbs = 0
    · exact .inr h
    · exact .inl ((Nat.log2_lt h).mpr h1)
  have b : j.natAbs.log2 < 400000 ∨ j.natAbs = 0 := by
    by_cases h : j.natAbs = 0
    · exact .inr h
    · exact .inl ((Nat.log2_lt h).mpr h2)
  have z : Nat.log2 0 = 0 := by decide
  rcases a with a | a <;> rcases b with b | b
  · omega
  · rw [b, z]; omega
  · rw [a, z]; omega
  · rw [a, b, z]; omega
theorem big_le {n : Nat} (h : n < 2 ^ 200) : n < 2 ^ 400000 := Nat.lt_of_lt_of_le h (Nat.pow_le_pow_right (by decide) (by decide))
theorem mulS {i j : Int} (h1 : i.natAbs < 2 ^ 200) (h2 : j.natAbs < 2 ^ 200) : CMulW i j := mulW (big_le h1) (big_le h2)
theorem divS {i j : Int} (h1 : 0 < j) (h2 : j < 2 ^ 200) : CDivW i j := by
  refine ⟨h1, ?_⟩
  have : j.natAbs.log2 < 200 := (Nat.log2_lt (by omega)).mpr (by omega)
  omega
theorem set_same {S : Store} {n : Nat} {o : O} (h : S[n]? = some o) : S.set n o = S := by
  apply List.ext_getElem?
  intro i
  by_cases e : n = i
  · subst e; rw [List.getElem?_set_self (List.getElem?_eq_some_iff.mp h).1, h]
  · rw [List.getElem?_set_ne e]
theorem set_get {S : Store} {n : Nat} {o p : O} (h : S[n]? = some o) : (S.set n p)[n]? = some p := List.getElem?_set_self (List.getElem?_eq_some_iff.mp h).1
theorem set_get_ne {S : Store} {n m : Nat} {p : O} (h : n ≠ m) : (S.set n p)[m]? = S[m]? := List.getElem?_set_ne h
theorem at_nat {xs : List D} {i : Int} {d : D} (h0 : 0 ≤ i) (h : xs[i.toNat]? = some d) : atI xs i = some d := by
  have hl := (List.getElem?_eq_some_iff.mp h).1
  unfold atI ixN
  rw [if_pos h0, if_pos (by omega)]
  exact h
theorem ix_nat {n : Nat} {i : Int} (h0 : 0 ≤ i) (h : i < n) : ixN n i = some i.toNat := by
  unfold ixN
  rw [if_pos h0, if_pos h]
theorem i5_0 {a b c d e : D} : atI [a, b, c, d, e] 0 = some a := rfl
theorem i5_1 {a b c d e : D} : atI [a, b, c, d, e] 1 = some b := rfl
theorem i5_2 {a b c d e : D} : atI [a, b, c, d, e] 2 = some c := rfl
theorem i5_3 {a b c d e : D} : atI [a, b, c, d, e] 3 = some d := rfl
theorem i5_4 {a b c d e : D} : atI [a, b, c, d, e] 4 = some e := rfl
theorem x5_0 : ixN 5 0 = some 0 := rfl
theorem x5_1 : ixN 5 1 = some 1 := rfl
theorem x5_2 : ixN 5 2 = some 2 := rfl
theorem x5_3 : ixN 5 3 = some 3 := rfl
theorem x5_4 : ixN 5 4 = some 4 := rfl
theorem seq_nx {F G : SF} {ρ ρ1 : Env} {S S1 : Store} {x : RS} (h : F ρ S = .nx ρ1 S1) (k : G ρ1 S1 = x) : sSeq F G ρ S = x := by
  unfold sSeq
  rw [h]
  exact k
theorem seq_assoc {F G K : SF} {ρ : Env} {S : Store} : sSeq F (sSeq G K) ρ S = sSeq (sSeq F G) K ρ S := by
  unfold sSeq
  cases F ρ S <;> rfl
theorem seq_rt {F G : SF} {ρ : Env} {S S1 : Store} {d : D} (h : F ρ S = .rt d S1) : sSeq F G ρ S = .rt d S1 := by
  unfold sSeq
  rw [h]
/-- the bag of draws: its cells -/
def bagO (m : Nat) (c b x y : Int) : O := .lst [.loc m, .int c, .int b, .int x, .int y]
/-- at n: at most N takes so far -/
structure Bag (S : Store) (n : Nat) (N : Nat) : Prop where
  ex : ∃ (m : Nat) (cs : List Int) (c b x y : Int), S[n]? = some (bagO m c b x y) ∧ S[m]? = some (.lst (cs.map D.int)) ∧ 0 ≤ c ∧ 0 ≤ b ∧ 0 ≤ x ∧ x < 2147483647 ∧ 0 ≤ y ∧ y ≤ N
theorem tk1 {S : Store} {n m : Nat} {sides : Int} {cs : List Int} {c b x y : Int} (hn : S[n]? = some (bagO m c b x y)) (hm : S[m]? = some (.lst (cs.map D.int))) (nm : n ≠ m) (hc : 0 ≤ c) (hb : 0 ≤ b) (hx : 0 ≤ x) (hx2 : x < 2147483647) :
    ∃ v2 c1 b1 x1, P_lw_take_1 [some (.loc n), some (.int sides), none, none, none] S = .nx [some (.loc n), some (.int sides), v2, none, none] (S.set n (bagO m c1 b1 x1 y)) ∧ 0 ≤ c1 ∧ 0 ≤ b1 ∧ 0 ≤ x1 ∧ x1 < 2147483647 := by
  unfold P_lw_take_1
  unfold bagO at hn
  by_cases hA : b < sides
  · by_cases hB : c < cs.length
    · obtain ⟨z, hz⟩ : ∃ z, cs[c.toNat]? = some z := ⟨_, List.getElem?_eq_getElem (by omega)⟩
      have hz2 : atI (cs.map D.int) c = some (.int z) := at_nat hc (by rw [List.getElem?_map, hz]; rfl)
      have hp : CPow 10 18 := by decide
      have hn1 : ∀ o, (S.set n o)[n]? = some o := fun o => set_get hn
      have hm1 : ∀ o, (S.set n o)[m]? = some (.lst (cs.map D.int)) := fun o => (set_get_ne nm).trans hm
      by_cases hD : (10 : Int) ^ 18 ≤ z
      · refine ⟨some (.int z), c + 1, z, x, ?_, by omega, by omega, hx, hx2⟩
        simp [sIf, sSeq, sSet, sAsg, xAndT, tst, asB, xOp, xVar, xC, xAr, xCons, xNil, R.bind, R.toS, dIx, dLt, dGe, dII, dIC, dPow, dAdd, dAddI, gLen, gtSub, gSetAt, hn, hm, hn1, hm1, i5_0, i5_1, i5_2, i5_3, x5_0, x5_1, x5_2, x5_3, hA, hB, hz2, hp, hD, List.set_set, bagO]
        omega
      · have q1 : CMulW x 48271 := mulS (by omega) (by omega)
        have q2 : CMulW (z % 2147483629) 69621 := mulS (by omega) (by omega)
        refine ⟨some (.int z), c + 1, 0, (x * 48271 + z % 2147483629 * 69621 + 12345) % 2147483647, ?_, by omega, by omega, by omega, by omega⟩
        simp [sIf, sSeq, sSet, sAsg, xAndT, tst, asB, xOp, xVar, xC, xAr, xCons, xNil, R.bind, R.toS, dIx, dLt, dGe, dII, dIC, dPow, dAdd, dAddI, dMod, dMulZ, dMul, dMulI, gLen, gtSub, gSetAt, hn, hm, hn1, hm1, i5_0, i5_1, i5_2, i5_3, x5_0, x5_1, x5_2, x5_3, hA, hB, hz2, hp, hD, q1, q2, List.set_set, bagO]
        omega
    · refine ⟨none, c, b, x, ?_, hc, hb, hx, hx2⟩
      have e := set_same hn
      simp [sIf, sNx, xAndT, tst, asB, xOp, xVar, xC, xAr, xCons, xNil, R.bind, R.toS, dIx, dLt, dII, gLen, hn, hm, i5_0, i5_1, i5_2, hA, hB, bagO]
      first
        | exact e.symm
        | trace_state
  · refine ⟨none, c, b, x, ?_, hc, hb, hx, hx2⟩
    simp [sIf, sNx, xAndT, tst, asB, xOp, xVar, xC, R.bind, R.toS, dIx, dLt, dII, hn, i5_2, hA, bagO]
    exact (set_same hn).symm

theorem tk2 {S : Store} {n m : Nat} {sides : Int} {v2 : Option D} {c b x y : Int} (hn : S[n]? = some (bagO m c b x y)) (h1 : 1 ≤ sides) (h2 : sides < 2 ^ 200) (hb : 0 ≤ b) :
    (∃ k b1, P_lw_take_2 [some (.loc n), some (.int sides), v2, none, none] S = .rt (.int k) (S.set n (bagO m c b1 x y)) ∧ 0 ≤ k ∧ k < sides ∧ 0 ≤ b1) ∨ P_lw_take_2 [some (.loc n), some (.int sides), v2, none, none] S = .nx [some (.loc n), some (.int sides), v2, none, none] S := by
  unfold P_lw_take_2
  unfold bagO at hn
  have hn1 : ∀ o, (S.set n o)[n]? = some o := fun o => set_get hn
  by_cases hA : sides ≤ b
  · refine .inl ⟨b % sides, b / sides, ?_, Int.emod_nonneg _ (by omega), Int.emod_lt_of_pos _ (by omega), Int.ediv_nonneg hb (by omega)⟩
    have q1 : CDivW b sides := divS (by omega) h2
    have q2 : 0 < sides := by omega
    simp [sIf, sSeq, sSet, sAsg, sRet, tst, asB, xOp, xVar, xC, R.bind, R.toS, dIx, dGe, dII, dIC, dMod, dDiv, gtSub, gSetAt, hn, hn1, i5_2, x5_2, hA, q1, q2, List.set_set, bagO]
  · refine .inr ?_
    simp [sIf, sNx, tst, asB, xOp, xVar, xC, R.bind, R.toS, dIx, dGe, dII, hn, i5_2, hA]
theorem tk36 {S : Store} {n m : Nat} {sides : Int} {v2 : Option D} {c b x y : Int} (hn : S[n]? = some (bagO m c b x y)) (h1 : 1 ≤ sides) (h2 : sides < 2 ^ 200) (hx : 0 ≤ x) (hx2 : x < 2147483647) (hy : 0 ≤ y) (hy2 : y < 2 ^ 100) :
    ∃ k x1 ρ, sSeq P_lw_take_3 (sSeq P_lw_take_4 (sSeq P_lw_take_5 P_lw_take_6)) [some (.loc n), some (.int sides), v2, none, none] S = .rt (.int k) (S.set n (bagO m c b x1 (y + 1))) ∧ 0 ≤ k ∧ k < sides ∧ 0 ≤ x1 ∧ x1 < 2147483647 ∧ ρ = v2 := by
  unfold P_lw_take_3 P_lw_take_4 P_lw_take_5 P_lw_take_6
  unfold bagO at hn
  have hn1 : ∀ o, (S.set n o)[n]? = some o := fun o => set_get hn
  have q1 : CMulW x x := mulS (by omega) (by omega)
  have q2 : CMulW (x * x % 2147483629) 5 := mulS (by omega) (by omega)
  have q3 : CMulW x 16811 := mulS (by omega) (by omega)
  have q4 : CMulW 7919 (y + 1) := mulS (by omega) (by omega)
  obtain ⟨x1, ex⟩ : ∃ x1, x1 = (x * x % 2147483629 * 5 + x * 16811 + 7919 * (y + 1) + 2531011) % 2147483647 := ⟨_, rfl⟩
  have b1 : 0 ≤ x1 := by rw [ex]; exact Int.emod_nonneg _ (by decide)
  have b2 : x1 < 2147483647 := by rw [ex]; exact Int.emod_lt_of_pos _ (by decide)
  have q5 : CMulW (x1 % 8191) 31 := mulS (by omega) (by omega)
  have q6 : CDivW x1 61 := divS (by decide) (by decide)
  have q7 : 0 < sides := by omega
  refine ⟨(x1 / 61 + x1 % 8191 * 31) % sides, x1, v2, ?_, Int.emod_nonneg _ (by omega), Int.emod_lt_of_pos _ (by omega), b1, b2, rfl⟩
  simp [sSeq, sSet, sAsg, sRet, xOp, xVar, xC, R.bind, R.toS, dIx, dII, dIC, dMod, dDiv, dMulZ, dMul, dMulI, dAdd, dAddI, gtSub, gSetAt, hn, hn1, i5_3, i5_4, x5_3, x5_4, q1, q2, q3, q4, q7, List.set_set, bagO, ← ex, q5, q6]
theorem bag_take {S : Store} {n N : Nat} {sides : Int} (B : Bag S n N) (h1 : 1 ≤ sides) (h2 : sides < 2 ^ 200) (hN : N < 2 ^ 100) :
    ∃ (k : Int) (o : O), F_lw_take [.loc n, .int sides] S = .ok (.int k) (S.set n o) ∧ 0 ≤ k ∧ k < sides ∧ Bag (S.set n o) n (N + 1) := by
  obtain ⟨m, cs, c, b, x, y, hn, hm, hc, hb, hx, hx2, hy, hy2⟩ := B.ex
  have nm : n ≠ m := fun e => by
    subst e
    rw [hn] at hm
    unfold bagO at hm
    cases cs with
    | nil => simp at hm
    | cons => simp at hm
  have hy3 : y < 2 ^ 100 := by omega
  have hm1 : ∀ o, (S.set n o)[m]? = some (.lst (cs.map D.int)) := fun o => (set_get_ne nm).trans hm
  obtain ⟨v2, c1, b1, x1, e1, a1, a2, a3, a4⟩ := tk1 (sides := sides) hn hm nm hc hb hx hx2
  have hn1 : (S.set n (bagO m c1 b1 x1 y))[n]? = some (bagO m c1 b1 x1 y) := set_get hn
  show ∃ k o, (sSeq P_lw_take_1 (sSeq P_lw_take_2 (sSeq P_lw_take_3 (sSeq P_lw_take_4 (sSeq P_lw_take_5 P_lw_take_6)))) [some (.loc n), some (.int sides), none, none, none] S).fin = .ok (.int k) (S.set n o) ∧ 0 ≤ k ∧ k < sides ∧ Bag (S.set n o) n (N + 1)
  rw [seq_nx e1 rfl]
  rcases tk2 (v2 := v2) hn1 h1 h2 a2 with ⟨k, b2, e2, k1, k2, k3⟩ | e2
  · rw [seq_rt e2]
    exact ⟨k, bagO m c1 b2 x1 y, by rw [List.set_set]; rfl, k1, k2, ⟨m, cs, c1, b2, x1, y, set_get hn, hm1 _, a1, k3, a3, a4, hy, by omega⟩⟩
  · rw [seq_nx e2 rfl]
    obtain ⟨k, x2, ρ, e3, k1, k2, k3, k4, _⟩ := tk36 (v2 := v2) hn1 h1 h2 a3 a4 hy hy3
    rw [e3]
    exact ⟨k, bagO m c1 b1 x2 (y + 1), by rw [List.set_set]; rfl, k1, k2, ⟨m, cs, c1, b1, x2, y + 1, set_get hn, hm1 _, a1, a2, k3, k4, by omega, by omega⟩⟩
/-! ### trees of data -/
inductive Tr (S : Store) : D → PyData → Prop
  | non : Tr S .non .none
  | bl (b : Bool) : Tr S (.bl b) (.bool b)
  | int (i : Int) : Tr S (.int i) (.int i)
  | str (x : Str) : Tr S (.str x) (.str x)
  | tup {ds : List D} {as : List PyData} (hl : ds.length = as.length) (h : ∀ (i : Nat) (d : D) (a : PyData), ds[i]? = some d → as[i]? = some a → Tr S d a) : Tr S (.tup ds) (.tuple as)
  | lst {m : Nat} {ds : List D} {as : List PyData} (e : S[m]? = some (.lst ds)) (hl : ds.length = as.length) (h : ∀ (i : Nat) (d : D) (a : PyData), ds[i]? = some d → as[i]? = some a → Tr S d a) : Tr S (.loc m) (.list as)
theorem Tr.mono {S S' : Store} (h : ∀ (n : Nat) (o : O), S[n]? = some o → S'[n]? = some o) {d : D} {a : PyData} (t : Tr S d a) : Tr S' d a := by
  induction t with
  | non => exact .non
  | bl b => exact .bl b
  | int i => exact .int i
  | str x => exact .str x
  | tup hl _ ih => exact .tup hl ih
  | lst e hl _ ih => exact .lst (h _ _ e) hl ih
/-- of depth at most j, short -/
def gd : Nat → PyData → Prop
  | 0, _ => False
  | _ + 1, .none => True
  | _ + 1, .bool _ => True
  | _ + 1, .int _ => True
  | _ + 1, .str x => PyData.canLay0 (.str x) = true
  | j + 1, .list xs => xs.length ≤ 1000000 ∧ ∀ x ∈ xs, gd j x
  | j + 1, .tuple xs => xs.length ≤ 1000000 ∧ ∀ x ∈ xs, gd j x
  | _ + 1, .dict _ => False
/-! ### comprehensions and loops by invariants -/
theorem lc_inv {it : ItD} {n : Nat} {G : GF} {Fe : XF} {ρ : Env} {Inv : List D → Store → Prop} {items : List D} (hs : ∀ acc S, Inv acc S → Guard it S) (step : ∀ (k : Nat) (d : D) (acc : List D) (S : Store), items[k]? = some d → acc.length = k → Inv acc S → ∃ ρ1 S1 y S3, G d ρ S = some (ρ1, S1) ∧ Fe ρ1 S1 = .ok y S3 ∧ S3[n]? = some (.lst acc) ∧ acc.length < sizeLine ∧ Inv (acc ++ [y]) (S3.set n (.lst (acc ++ [y])))) :
    ∀ (done rest : List D) (acc : List D) (S : Store), items = done ++ rest → acc.length = done.length → Inv acc S → ∃ acc' S', lcL it n G xYes Fe ρ rest acc S = .ok (.loc n) S' ∧ Inv acc' S' ∧ acc'.length = items.length
  | done, [], acc, S, e, hl, h => by
    refine ⟨acc, S, ?_, h, by rw [e, hl]; simp⟩
    unfold lcL
    rw [if_pos (hs _ _ h)]
  | done, d :: rest, acc, S, e, hl, h => by
    obtain ⟨ρ1, S1, y, S3, e1, e2, e3, e4, h2⟩ := step done.length d acc S (by rw [e]; simp) hl h
    obtain ⟨acc', S', e5, h5, l5⟩ := lc_inv hs step (done ++ [d]) rest (acc ++ [y]) _ (by rw [e]; simp) (by simp [hl]) h2
    refine ⟨acc', S', ?_, h5, l5⟩
    unfold lcL
    rw [if_pos (hs _ _ h)]
    simp only [e1, xYes, e2]
    rw [if_pos ⟨e3, e4⟩]
    exact e5
theorem for_inv {it : ItD} {G : GF} {Fb : SF} {Inv : Nat → Env → Store → Prop} {items : List D} (hs : ∀ k ρ S, Inv k ρ S → Guard it S) (step : ∀ (k : Nat) (d : D) (ρ : Env) (S : Store), items[k]? = some d → Inv k ρ S → ∃ ρ1 S1 ρ2 S2, G d ρ S = some (ρ1, S1) ∧ Fb ρ1 S1 = .nx ρ2 S2 ∧ Inv (k + 1) ρ2 S2) :
    ∀ (done rest : List D) (ρ : Env) (S : Store), items = done ++ rest → Inv done.length ρ S → ∃ ρ' S', forL it G Fb rest ρ S = .nx ρ' S' ∧ Inv items.length ρ' S'
  | done, [], ρ, S, e, h => by
    refine ⟨ρ, S, ?_, by rw [e]; simpa using h⟩
    unfold forL
    rw [if_pos (hs _ _ _ h)]
  | done, d :: rest, ρ, S, e, h => by
    obtain ⟨ρ1, S1, ρ2, S2, e1, e2, h2⟩ := step done.length d ρ S (by rw [e]; simp) h
    obtain ⟨ρ', S', e5, h5⟩ := for_inv hs step (done ++ [d]) rest ρ2 S2 (by rw [e]; simp) (by simpa using h2)
    refine ⟨ρ', S', ?_, h5⟩
    unfold forL
    rw [if_pos (hs _ _ _ h)]
    simp only [e1, e2]
    exact e5
theorem sh_int (i : Int) : SeqAt.shaped (.int i) = true := rfl
theorem sh_bl (i : Bool) : SeqAt.shaped (.bool i) = true := rfl
theorem sh_str {i : Str} (h : PyData.canLay0 (.str i) = true) : SeqAt.shaped (.str i) = true := by
  unfold SeqAt.shaped
  rw [h]
  rfl
theorem py_int (S : Store) (i : Int) : pyD S fuel (.int i) = some (.int i) := rfl
theorem py_bl (S : Store) (i : Bool) : pyD S fuel (.bl i) = some (.bool i) := rfl
theorem py_str (S : Store) (i : Str) : pyD S fuel (.str i) = some (.str i) := rfl
theorem ev_int (i j : Int) : PyData.eqv (.int i) (.int j) = (i == j) := by unfold PyData.eqv; rfl
theorem ev_bl (i j : Bool) : PyData.eqv (.bool i) (.bool j) = (i == j) := by unfold PyData.eqv; rfl
theorem ev_str (i j : Str) : PyData.eqv (.str i) (.str j) = (i == j) := by unfold PyData.eqv; rfl
theorem eq_int (b : Bool) (i j : Int) (S : Store) : dEqB b (.int i) (.int j) S = .ok (.bl (if b then !(i == j) else (i == j))) S := by
  unfold dEqB
  simp only [py_int, sh_int, ev_int, and_self, if_true]
theorem eq_bl (b : Bool) (i j : Bool) (S : Store) : dEqB b (.bl i) (.bl j) S = .ok (.bl (if b then !(i == j) else (i == j))) S := by
  unfold dEqB
  simp only [py_bl, sh_bl, ev_bl, and_self, if_true]
theorem eq_str (b : Bool) (i j : Str) (S : Store) (hi : PyData.canLay0 (.str i) = true) (hj : PyData.canLay0 (.str j) = true) : dEqB b (.str i) (.str j) S = .ok (.bl (if b then !(i == j) else (i == j))) S := by
  unfold dEqB
  simp only [py_str, sh_str hi, sh_str hj, ev_str, and_self, if_true]
/-! ### the law's own comparison -/
def Old (S S' : Store) : Prop := ∀ (n : Nat) (o : O), S[n]? = some o → S'[n]? = some o
theorem Old.refl (S : Store) : Old S S := fun _ _ h => h
theorem Old.trans {S S1 S2 : Store} (a : Old S S1) (b : Old S1 S2) : Old S S2 := fun n o h => b n o (a n o h)
theorem Old.app (S J : Store) : Old S (S ++ J) := fun n o h => by rw [List.getElem?_append_left (List.getElem?_eq_some_iff.mp h).1]; exact h
theorem Old.setN {S S1 : Store} {n : Nat} {o : O} (h : Old S S1) (hn : S.length ≤ n) : Old S (S1.set n o) := fun m p e => by
  have := (List.getElem?_eq_some_iff.mp e).1
  rw [List.getElem?_set_ne (by omega)]
  exact h m p e
theorem rng_at {n k : Nat} {d : D} (h : (rng 0 n)[k]? = some d) : k < n ∧ d = .int (k : Int) := by
  have hk2 : k < n := by
    have := (List.getElem?_eq_some_iff.mp h).1
    simpa [rng] using this
  refine ⟨hk2, ?_⟩
  unfold rng at h
  rw [List.getElem?_map, List.getElem?_range hk2] at h
  simp at h
  exact h.symm
theorem ar1 {g : GA} {a : XF} {ρ : Env} {S S1 : Store} {d : D} (h : a ρ S = .ok d S1) : xAr g (xCons a xNil) ρ S = g [d] S1 := by
  simp [xAr, xCons, xNil, h, R.bind]
/-- G tells true of any two of the same tree of depth j, and leaves the store -/
def Same (G : DF) (j : Nat) : Prop := ∀ (a : PyData) (d e : D) (S : Store), gd j a → Tr S d a → Tr S e a → ∃ S', G [d, e] S = .ok (.bl true) S' ∧ Old S S'
theorem all_true : ∀ n : Nat, boolsD (List.replicate n (.bl true)) = some (List.replicate n true)
  | 0 => rfl
  | n + 1 => by
    rw [List.replicate_succ]
    unfold boolsD
    rw [all_true n]
    rfl
theorem same_step {G : DF} {j : Nat} (h : Same G j) : Same (F_lw_same_s G) (j + 1) := fun a d e S g td te => by
  have sz : (1000000 : Nat) < sizeLine := by rw [sizeLine_eq]; decide
  -- the part for rows
  have rows : ∀ (ds es : List D) (as : List PyData) (dx ex : D) (ρ : Env), ds.length = as.length → es.length = as.length → as.length ≤ 1000000 → (∀ x ∈ as, gd j x) → (∀ S1, Old S S1 → ∀ i : Nat, (hi : i < as.length) → dIx dx (.int (i : Int)) S1 = .ok (ds.getD i .non) S1) → (∀ S1, Old S S1 → ∀ i : Nat, (hi : i < as.length) → dIx ex (.int (i : Int)) S1 = .ok (es.getD i .non) S1) →
      (∀ (i : Nat) (x : D) (a : PyData), ds[i]? = some x → as[i]? = some a → Tr S x a) → (∀ (i : Nat) (x : D) (a : PyData), es[i]? = some x → as[i]? = some a → Tr S x a) → gLen [ex] S = .ok (.int as.length) S →
      ∃ S', (P_lw_same_7 G [some dx, some ex, none] S) = .rt (.bl true) S' ∧ Old S S' := by
    intro ds es as dx ex ρ l1 l2 lz ga h1 h2 t1 t2 hlen
    obtain ⟨acc', S', e5, ⟨h5, h6, h7⟩, l5⟩ := lc_inv (it := ⟨rng 0 as.length, none⟩) (n := S.length) (G := gtName 2) (Fe := xAr (ofN 2 G) (xCons (xOp dIx (xVar 0) (xVar 2)) (xCons (xOp dIx (xVar 1) (xVar 2)) (xNil)))) (ρ := [some dx, some ex, none]) (Inv := fun acc S1 => Old S S1 ∧ S1[S.length]? = some (.lst acc) ∧ acc = List.replicate acc.length (.bl true)) (items := rng 0 as.length) (fun _ _ _ => True.intro)
      (fun k d acc S1 hk hl hI => by
        obtain ⟨o1, o2, o3⟩ := hI
        have hk2 : k < as.length := by
          have := (List.getElem?_eq_some_iff.mp hk).1
          simpa [rng] using this
        have hd : d = .int (k : Int) := by
          unfold rng at hk
          rw [List.getElem?_map, List.getElem?_range hk2] at hk
          simp at hk
          exact hk.symm
        subst hd
        have hk3 : k < ds.length := by omega
        have hk4 : k < es.length := by omega
        obtain ⟨S3, e1, o4⟩ := h as[k] (ds.getD k .non) (es.getD k .non) S1 (ga _ (List.getElem_mem hk2)) ((t1 k _ _ (by rw [List.getD_eq_getElem?_getD, List.getElem?_eq_getElem hk3]; rfl) (List.getElem?_eq_getElem hk2)).mono o1) ((t2 k _ _ (by rw [List.getD_eq_getElem?_getD, List.getElem?_eq_getElem hk4]; rfl) (List.getElem?_eq_getElem hk2)).mono o1)
        refine ⟨_, S1, .bl true, S3, rfl, ?_, o4 _ _ o2, by omega, (o1.trans o4).setN (Nat.le_refl _), set_get (o4 _ _ o2), ?_⟩
        · rw [List.getD_eq_getElem?_getD, List.getD_eq_getElem?_getD] at e1
          simp [xAr, xCons, xNil, xOp, xVar, R.bind, h1 S1 o1 k hk2, h2 S1 o1 k hk2, ofN, e1]
        · rw [List.length_append, List.length_singleton, List.replicate_succ', ← o3]) [] (rng 0 as.length) [] (S ++ [.lst []]) rfl rfl ⟨Old.app _ _, by simp, rfl⟩
    refine ⟨S', ?_, h5⟩
    have hsm : smallI (as.length : Int) := ⟨by omega, by omega⟩
    have e6 : xLc (iRange1 (xCons (xAr gLen (xCons (xVar 1) (xNil))) (xNil))) (gtName 2) (xYes) (xAr (ofN 2 G) (xCons (xOp dIx (xVar 0) (xVar 2)) (xCons (xOp dIx (xVar 1) (xVar 2)) (xNil)))) [2] [some dx, some ex, none] S = .ok (.loc S.length) S' := by
      unfold xLc
      have e7 : iRange1 (xCons (xAr gLen (xCons (xVar 1) (xNil))) (xNil)) [some dx, some ex, none] S = .ok ⟨rng 0 as.length, none⟩ S := by
        simp [iRange1, xAr, xCons, xNil, xVar, R.bind, hlen, itRange1, hsm]
      rw [e7]
      exact e5
    have e8 : gAll [.loc S.length] S' = .ok (.bl true) S' := by
      simp only [gBools, h6]
      rw [h7, all_true]
      simp
    unfold P_lw_same_7
    simp only [sRet]
    rw [ar1 e6, e8]
    rfl
  unfold F_lw_same_s
  cases td with
  | non =>
    cases te
    exact ⟨S, by simp [runB, P_lw_same_1, sSeq, sIf, sRet, tst, asB, xOp, xVar, xC, R.bind, R.toS, dIsN, isNonD, RS.fin], Old.refl S⟩
  | bl b =>
    cases te
    exact ⟨S, by simp [runB, P_lw_same_1, P_lw_same_2, sNx, sSeq, sIf, sRet, tst, asB, xOp, xUn, xAndV, xVar, xC, R.bind, R.toS, dIsN, isNonD, gIs, kdOf, tb_bool, eq_bl, RS.fin], Old.refl S⟩
  | int i =>
    cases te
    exact ⟨S, by simp [runB, P_lw_same_1, P_lw_same_2, P_lw_same_3, sNx, sSeq, sIf, sRet, tst, asB, xOp, xUn, xAndV, xNotV, xVar, xC, R.bind, R.toS, dIsN, isNonD, gIs, kdOf, tb_bool, tb_int, eq_int, RS.fin], Old.refl S⟩
  | str x =>
    cases te
    have hx : PyData.canLay0 (.str x) = true := g
    exact ⟨S, by simp [runB, P_lw_same_1, P_lw_same_2, P_lw_same_3, P_lw_same_4, sNx, sSeq, sIf, sRet, tst, asB, xOp, xUn, xAndV, xNotV, xVar, xC, R.bind, R.toS, dIsN, isNonD, gIs, kdOf, tb_bool, tb_int, tb_str, eq_str, hx, RS.fin], Old.refl S⟩
  | @tup ds as l1 t1 =>
    cases te with
    | @tup es _ l2 t2 =>
      obtain ⟨g1, g2⟩ := (g : as.length ≤ 1000000 ∧ ∀ x ∈ as, gd j x)
      have ixs : ∀ (xs : List D), xs.length = as.length → ∀ S1, Old S S1 → ∀ i : Nat, (hi : i < as.length) → dIx (.tup xs) (.int (i : Int)) S1 = .ok (xs.getD i .non) S1 := fun xs hx S1 _ i hi => by
        have q : atI xs (i : Int) = some (xs.getD i .non) := at_nat (by omega) (by rw [Int.toNat_natCast, List.getD_eq_getElem?_getD, List.getElem?_eq_getElem (by omega)]; rfl)
        simp only [dIx, q]
      obtain ⟨S', e1, o1⟩ := rows ds es as (.tup ds) (.tup es) [] l1 l2 g1 g2 (ixs ds l1) (ixs es l2) t1 t2 (by simp [gLen, l2])
      exact ⟨S', by simp [runB, P_lw_same_1, P_lw_same_2, P_lw_same_3, P_lw_same_4, P_lw_same_5, P_lw_same_6, sNx, sSeq, sIf, sRet, tst, asB, xOp, xUn, xAr, xCons, xNil, xOrT, xVar, xC, R.bind, R.toS, dIsN, isNonD, gIs, kdOf, tb_bool, tb_int, tb_str, tb_tuple, tb_list, eq_bl, gLen, eq_int, l1, l2, e1, RS.fin], o1⟩
  | @lst m ds as e1 l1 t1 =>
    cases te with
    | @lst m2 es _ e2 l2 t2 =>
      obtain ⟨g1, g2⟩ := (g : as.length ≤ 1000000 ∧ ∀ x ∈ as, gd j x)
      have ixs : ∀ (k : Nat) (xs : List D), S[k]? = some (.lst xs) → xs.length = as.length → ∀ S1, Old S S1 → ∀ i : Nat, (hi : i < as.length) → dIx (.loc k) (.int (i : Int)) S1 = .ok (xs.getD i .non) S1 := fun k xs hk hx S1 o i hi => by
        have q : atI xs (i : Int) = some (xs.getD i .non) := at_nat (by omega) (by rw [Int.toNat_natCast, List.getD_eq_getElem?_getD, List.getElem?_eq_getElem (by omega)]; rfl)
        simp only [dIx, o k _ hk, q]
      obtain ⟨S', e3, o1⟩ := rows ds es as (.loc m) (.loc m2) [] l1 l2 g1 g2 (ixs m ds e1 l1) (ixs m2 es e2 l2) t1 t2 (by simp [gLen, e2, l2])
      exact ⟨S', by simp [runB, P_lw_same_1, P_lw_same_2, P_lw_same_3, P_lw_same_4, P_lw_same_5, P_lw_same_6, sNx, sSeq, sIf, sRet, tst, asB, xOp, xUn, xAr, xCons, xNil, xOrT, xVar, xC, R.bind, R.toS, dIsN, isNonD, gIs, kdOf, e1, e2, tb_bool, tb_int, tb_str, tb_tuple, tb_list, eq_bl, gLen, eq_int, l1, l2, e3, RS.fin], o1⟩
theorem same_zero (G : DF) : Same G 0 := fun a d e S g _ _ => g.elim
theorem same_ok : Same F_lw_same 6 := same_step (same_step (same_step (same_step (same_step (same_step (same_zero _))))))

theorem open_ok (ns : List Int) (h : ns.length ≤ 63) : ∃ cs : List Int, F_lw_open ns [.scr] [] = .ok (.loc 2) [.lst (cs.map D.int), .lst (cs.map D.int), bagO 1 0 0 9465 0] := by
  refine ⟨(ns.drop (HT.sIx ns.length 0 none)).take (HT.sIx ns.length ns.length (some 63) - HT.sIx ns.length 0 none), ?_⟩
  have sz : (5 : Nat) ≤ sizeLine := by rw [sizeLine_eq]; decide
  simp [F_lw_open, runB, P_lw_open_1, sRet, xAr, xCons, xNil, xSlS, gSlS, xNoPart, xPart, gListOf, gLstD, xVar, xC, R.bind, R.toS, RS.fin, cutD, bagO, sz, List.map_take, List.map_drop]
def cOf : List Nat := [1, 8, 7, 6, 0, 2, 3, 4, 5]
/-- what the flags of the class c are -/
def flagsD (c : Nat) : List Bool := [l_InUse, l_NoCask, l_NoDrop, l_NoRound, l_Taken, l_Tapped, l_TooLong, l_TooMany, l_Unlike, l_HideError, l_LookupError].map fun l => l.getD c false
theorem flags_ok {S : Store} {n c : Nat} {fs : List (Str × D)} (h : S[n]? = some (.exn c fs)) (hc : c < 9) : ∃ S', F_lw_flags [.loc n] S = .ok (.loc (S.length + 4)) S' ∧ Old S S' ∧ S'[S.length + 4]? = some (.lst ((flagsD c).map D.bl)) := by
  have sz : (11 : Nat) ≤ sizeLine := by rw [sizeLine_eq]; decide
  have sz4 : (4 : Nat) ≤ sizeLine := by omega
  have sz8 : (8 : Nat) ≤ sizeLine := by omega
  have sz3 : (3 : Nat) ≤ sizeLine := by omega
  have hl : n < S.length := (List.getElem?_eq_some_iff.mp h).1
  have g : ∀ (l : List Bool), l.length = 9 → ∀ S', Old S S' → gIs nX (tbX l) (.loc n) S' = .ok (.bl (l.getD c false)) S' := fun l hl2 S' o => by
    have e : l[c]? = some (l.getD c false) := by rw [List.getD_eq_getElem?_getD, List.getElem?_eq_getElem (by omega)]; rfl
    have hn : c < nX := hc
    simp only [gIs, kdOf, o _ _ h, if_pos hn, tbX, e]
  have g0 : ∀ (l : List Bool), l.length = 9 → ∀ J, gIs nX (tbX l) (.loc n) (S ++ J) = .ok (.bl (l.getD c false)) (S ++ J) := fun l hl2 J => g l hl2 _ (Old.app _ _)
  have g1 : ∀ (l : List Bool), l.length = 9 → gIs nX (tbX l) (.loc n) S = .ok (.bl (l.getD c false)) S := fun l hl2 => g l hl2 _ (Old.refl _)
  refine ⟨S ++ [.lst ([l_InUse, l_NoCask, l_NoDrop, l_NoRound].map fun l => .bl (l.getD c false)), .lst ([l_Taken, l_Tapped, l_TooLong, l_TooMany].map fun l => .bl (l.getD c false)), .lst ([l_InUse, l_NoCask, l_NoDrop, l_NoRound, l_Taken, l_Tapped, l_TooLong, l_TooMany].map fun l => .bl (l.getD c false)),
    .lst ([l_Unlike, l_HideError, l_LookupError].map fun l => .bl (l.getD c false)), .lst ((flagsD c).map D.bl)], ?_, Old.app _ _, by simp⟩
  have a1 : ∀ J : Store, (S ++ J)[S.length]? = J[0]? := fun J => by rw [List.getElem?_append_right (Nat.le_refl _), Nat.sub_self]
  have a2 : ∀ (J : Store) (i : Nat), (S ++ J)[S.length + i]? = J[i]? := fun J i => by rw [List.getElem?_append_right (by omega)]; congr 1; omega
  simp [F_lw_flags, runB, P_lw_flags_1, P_lw_flags_2, P_lw_flags_3, sSeq, sSet, sRet, xAr, xCons, xNil, xOp, xUn, xVar, R.bind, R.toS, RS.fin, g0, g1, show l_InUse.length = 9 from rfl, show l_NoCask.length = 9 from rfl, show l_NoDrop.length = 9 from rfl, show l_NoRound.length = 9 from rfl, show l_Taken.length = 9 from rfl, show l_Tapped.length = 9 from rfl,
    show l_TooLong.length = 9 from rfl, show l_TooMany.length = 9 from rfl, show l_Unlike.length = 9 from rfl, show l_HideError.length = 9 from rfl, show l_LookupError.length = 9 from rfl, gLstD, dAdd, dAddL, a2, sz, sz4, sz8, sz3, flagsD, List.append_assoc]

theorem lz_ok (n : Nat) : PyData.canLay0 (.str (strRep "z" n)) = true := by
  have key : ∀ (n : Nat) (acc : Array Nat), acc.all (· < 0x110000) = true → (List.foldl (fun a b => a ++ b) acc (List.replicate n ("z" : Str).cps)).all (· < 0x110000) = true := by
    intro n
    induction n with
    | zero => intro acc h; simpa using h
    | succ n ih =>
      intro acc h
      rw [List.replicate_succ, List.foldl_cons]
      refine ih _ ?_
      rw [Array.all_append, h]
      decide +kernel
  unfold PyData.canLay0
  exact key n #[] (by simp)
/-- the store behind the nine refusals -/
def sb (k : Int) (z : Str) (x0 x1 x2 : O) : Store := [x0, x1, x2, .exn 1 [("name", .str z), ("word", .str "in use")], .exn 8 [("cask", .int k), ("word", .str "no cask")], .exn 7 [("rank", .int k), ("word", .str "no drop")], .exn 6 [("name", .str z), ("word", .str "no round")],
  .exn 0 [("name", .str z), ("word", .str "taken")], .exn 2 [("step", .int k), ("word", .str "tapped")], .exn 3 [("most", .int k), ("word", .str "too long")], .lst [.loc 3, .loc 4, .loc 5, .loc 6, .loc 7, .loc 8, .loc 9],
  .exn 4 [("most", .int k), ("word", .str "too many")], .exn 5 [("word", .str "unlike")], .lst [.loc 11, .loc 12], .lst [.loc 3, .loc 4, .loc 5, .loc 6, .loc 7, .loc 8, .loc 9, .loc 11, .loc 12]]
theorem made_ok (k : Int) (z : Str) (x0 x1 x2 : O) (v4 v5 v6 v7 v8 v9 v10 : Option D) : sSeq P_law_4 P_law_5 [some .scr, some (.loc 2), some (.int k), some (.str z), v4, v5, v6, v7, v8, v9, v10] [x0, x1, x2] =
    .nx [some .scr, some (.loc 2), some (.int k), some (.str z), some (.loc 14), v5, v6, v7, v8, v9, v10] (sb k z x0 x1 x2) := by
  have sz : (9 : Nat) ≤ sizeLine := by rw [sizeLine_eq]; decide
  have sz2 : (2 : Nat) ≤ sizeLine := by omega
  have sz7 : (7 : Nat) ≤ sizeLine := by omega
  simp [P_law_4, P_law_5, sSeq, sSet, xAr, xCons, xNil, xOp, xVar, R.bind, R.toS, gMkX, gLstD, tpD, srD, dAdd, dAddL, sz, sz2, sz7, sb]
def lcOf : List Nat := [3, 4, 5, 6, 7, 8, 9, 11, 12]
theorem sb_made {k : Int} {z : Str} {x0 x1 x2 : O} (i : Nat) (h : i < 9) : ∃ fs, (sb k z x0 x1 x2)[lcOf.getD i 0]? = some (.exn (cOf.getD i 0) fs) := by
  match i, h with
  | 0, _ => exact ⟨_, rfl⟩
  | 1, _ => exact ⟨_, rfl⟩
  | 2, _ => exact ⟨_, rfl⟩
  | 3, _ => exact ⟨_, rfl⟩
  | 4, _ => exact ⟨_, rfl⟩
  | 5, _ => exact ⟨_, rfl⟩
  | 6, _ => exact ⟨_, rfl⟩
  | 7, _ => exact ⟨_, rfl⟩
  | 8, _ => exact ⟨_, rfl⟩
theorem tr_bools {S : Store} {n : Nat} {bs : List Bool} (h : S[n]? = some (.lst (bs.map D.bl))) : Tr S (.loc n) (.list (bs.map PyData.bool)) := .lst h (by simp) fun i d a hd ha => by
  rw [List.getElem?_map] at hd ha
  cases q : bs[i]? with
  | none => rw [q] at hd; cases hd
  | some b => rw [q] at hd ha; cases hd; cases ha; exact .bl b
theorem gd_bools {bs : List Bool} (h : bs.length ≤ 1000000) (j : Nat) : gd (j + 2) (.list (bs.map PyData.bool)) := ⟨by simpa using h, fun x hx => by
  obtain ⟨b, _, rfl⟩ := List.mem_map.mp hx
  exact True.intro⟩

def b1O (k : Nat) : Bool := inV (.int (k : Int)) [.int 0, .int 4, .int 5, .int 6, .int 7, .int 8]
def b2O (k : Nat) : Bool := inV (.int (k : Int)) [.int 1, .int 2, .int 3]
def expB (k : Nat) : List Bool := (List.range 9).map (fun s : Nat => (k : Int) == (s : Int)) ++ [b1O k, b2O k]
theorem flags_exp : ∀ k, k < 9 → flagsD (cOf.getD k 0) = expB k := by decide +kernel
theorem cls_lt : ∀ k, k < 9 → cOf.getD k 0 < 9 := by decide +kernel
theorem step_ok {k0 : Int} {z : Str} {x0 x1 x2 : O} {v5 v6 v7 v8 v9 v10 : Option D} {S : Store} (o : Old (sb k0 z x0 x1 x2) S) (k : Nat) (hk : k < 9) :
    ∃ w6 S', P_law_6B [some .scr, some (.loc 2), some (.int k0), some (.str z), some (.loc 14), some (.int (k : Int)), v6, v7, v8, v9, v10] S = .nx [some .scr, some (.loc 2), some (.int k0), some (.str z), some (.loc 14), some (.int (k : Int)), w6, v7, v8, v9, v10] S' ∧ Old (sb k0 z x0 x1 x2) S' := by
  have sz11 : (11 : Nat) ≤ sizeLine := by rw [sizeLine_eq]; decide
  have sz6 : (6 : Nat) ≤ sizeLine := by omega
  have sz3 : (3 : Nat) ≤ sizeLine := by omega
  have sz2 : (2 : Nat) ≤ sizeLine := by omega
  have a1 : ∀ (S J : Store), (S ++ J)[S.length]? = J[0]? := fun S J => by rw [List.getElem?_append_right (Nat.le_refl _), Nat.sub_self]
  have a2 : ∀ (S J : Store) (i : Nat), (S ++ J)[S.length + i]? = J[i]? := fun S J i => by rw [List.getElem?_append_right (by omega)]; congr 1; omega
  -- the two that lie apart
  have h1 : P_law_6b1 [some .scr, some (.loc 2), some (.int k0), some (.str z), some (.loc 14), some (.int (k : Int)), v6, v7, v8, v9, v10] S =
      .nx [some .scr, some (.loc 2), some (.int k0), some (.str z), some (.loc 14), some (.int (k : Int)), some (.loc (S.length + 2)), v7, v8, v9, v10] (S ++ [.lst [.int 0, .int 4, .int 5, .int 6, .int 7, .int 8], .lst [.int 1, .int 2, .int 3], .lst [.bl (b1O k), .bl (b2O k)]]) := by
    simp [P_law_6b1, sSet, xAr, xCons, xNil, xOp, xVar, xC, R.bind, R.toS, gLstD, sz6, sz3, sz2, dInB, seqOf, a1, a2, flatD, flatDV, b1O, b2O, List.append_assoc]
  obtain ⟨S1, eS1⟩ : ∃ S1, S1 = S ++ [.lst [.int 0, .int 4, .int 5, .int 6, .int 7, .int 8], .lst [.int 1, .int 2, .int 3], .lst [.bl (b1O k), .bl (b2O k)]] := ⟨_, rfl⟩
  rw [← eS1] at h1
  have o1 : Old S S1 := by rw [eS1]; exact Old.app _ _
  have e6 : S1[S.length + 2]? = some (.lst [.bl (b1O k), .bl (b2O k)]) := by rw [eS1, a2]; rfl
  -- the flags
  obtain ⟨fs, hm⟩ := sb_made (k := k0) (z := z) (x0 := x0) (x1 := x1) (x2 := x2) k hk
  have hm1 := o1 _ _ (o _ _ hm)
  obtain ⟨S2, f1, f2, f3⟩ := flags_ok hm1 (cls_lt k hk)
  rw [flags_exp k hk] at f3
  have e14 : S1[14]? = some (.lst [.loc 3, .loc 4, .loc 5, .loc 6, .loc 7, .loc 8, .loc 9, .loc 11, .loc 12]) := o1 _ _ (o _ _ rfl)
  have ix : dIx (.loc 14) (.int (k : Int)) S1 = .ok (.loc (lcOf.getD k 0)) S1 := by
    have q : atI [D.loc 3, .loc 4, .loc 5, .loc 6, .loc 7, .loc 8, .loc 9, .loc 11, .loc 12] (k : Int) = some (.loc (lcOf.getD k 0)) := by
      refine at_nat (by omega) ?_
      rw [Int.toNat_natCast]
      match k, hk with
      | 0, _ => rfl
      | 1, _ => rfl
      | 2, _ => rfl
      | 3, _ => rfl
      | 4, _ => rfl
      | 5, _ => rfl
      | 6, _ => rfl
      | 7, _ => rfl
      | 8, _ => rfl
    simp only [dIx, e14, q]
  -- the row of where it stands
  obtain ⟨acc', S3, c1, ⟨c2, c3, c4⟩, c5⟩ := lc_inv (it := ⟨rng 0 9, none⟩) (n := S2.length) (G := gtName 9) (Fe := xOp dEq (xVar 5) (xVar 9)) (ρ := [some .scr, some (.loc 2), some (.int k0), some (.str z), some (.loc 14), some (.int (k : Int)), some (.loc (S.length + 2)), v7, v8, none, v10])
    (Inv := fun acc S3 => Old S2 S3 ∧ S3[S2.length]? = some (.lst acc) ∧ acc = ((List.range acc.length).map fun s : Nat => D.bl ((k : Int) == (s : Int)))) (items := rng 0 9) (fun _ _ _ => True.intro)
    (fun i d acc S3 hi hl hI => by
      obtain ⟨hi2, rfl⟩ := rng_at hi
      obtain ⟨q1, q2, q3⟩ := hI
      refine ⟨_, S3, .bl ((k : Int) == (i : Int)), S3, rfl, ?_, q2, by omega, q1.setN (Nat.le_refl _), set_get q2, ?_⟩
      · simp [xOp, xVar, R.bind, eq_int]
      · rw [List.length_append, List.length_singleton, List.range_succ, List.map_append, ← q3, hl]
        rfl) [] (rng 0 9) [] (S2 ++ [.lst []]) rfl rfl ⟨Old.app _ _, by rw [a1]; rfl, rfl⟩
  have l9 : acc'.length = 9 := by rw [c5]; rfl
  rw [l9] at c4
  have e6' := c2 _ _ (f2 _ _ e6)
  have e7 : xLc (iRange1 (xCons (xC (.int 9)) (xNil))) (gtName 9) (xYes) (xOp dEq (xVar 5) (xVar 9)) [9] [some .scr, some (.loc 2), some (.int k0), some (.str z), some (.loc 14), some (.int (k : Int)), some (.loc (S.length + 2)), v7, v8, v9, v10] S2 = .ok (.loc S2.length) S3 := by
    unfold xLc
    have e9 : ∀ ρ, iRange1 (xCons (xC (.int 9)) (xNil)) ρ S2 = .ok ⟨rng 0 9, none⟩ S2 := fun ρ => by
      have hs : smallI 9 := by decide
      simp [iRange1, xCons, xNil, xC, R.bind, itRange1, hs]
    rw [e9]
    exact c1
  obtain ⟨S4, eS4⟩ : ∃ S4, S4 = S3 ++ [.lst ((expB k).map D.bl)] := ⟨_, rfl⟩
  have ad : dAdd (.loc S2.length) (.loc (S.length + 2)) S3 = .ok (.loc S3.length) S4 := by
    simp only [dAdd, dAddL, c3, e6', l9, List.length_cons, List.length_nil]
    rw [if_pos sz11, eS4, c4]
    simp [expB, List.map_append]
  have o4 : Old S2 S4 := c2.trans (by rw [eS4]; exact Old.app _ _)
  obtain ⟨S5, g1, g2⟩ := same_ok (.list ((expB k).map PyData.bool)) (.loc (S1.length + 4)) (.loc S3.length) S4 (gd_bools (by show (expB k).length ≤ _; simp [expB]) 4) (tr_bools (o4 _ _ f3)) (tr_bools (by rw [eS4, a1]; rfl))
  refine ⟨some (.loc (S.length + 2)), S5, ?_, o.trans (o1.trans (f2.trans (o4.trans g2)))⟩
  unfold P_law_6B
  refine seq_nx h1 ?_
  simp only [P_law_6b2, sIf, sNx, xNotT, tst, asB, xAr, xCons, xNil, xOp, xVar, R.bind, R.toS, ofN, List.getElem?_cons_zero, List.getElem?_cons_succ, ix, f1, e7, ad, g1, List.length_cons, List.length_nil, if_true, Nat.reduceAdd, Bool.not_true, Bool.false_eq_true, if_false]

def mds : List D := [.loc 3, .loc 4, .loc 5, .loc 6, .loc 7, .loc 8, .loc 9, .loc 11, .loc 12]
theorem mds_at (k : Nat) (hk : k < 9) : atI mds (k : Int) = some (.loc (lcOf.getD k 0)) := by
  refine at_nat (by omega) ?_
  rw [Int.toNat_natCast]
  match k, hk with
  | 0, _ => rfl
  | 1, _ => rfl
  | 2, _ => rfl
  | 3, _ => rfl
  | 4, _ => rfl
  | 5, _ => rfl
  | 6, _ => rfl
  | 7, _ => rfl
  | 8, _ => rfl
def words : List Str := ["in use", "no cask", "no drop", "no round", "taken", "tapped", "too long", "too many", "unlike"]
theorem word_at {k0 : Int} {z : Str} {x0 x1 x2 : O} {S : Store} (o : Old (sb k0 z x0 x1 x2) S) (k : Nat) (hk : k < 9) : gXA nX flX "word" (.loc (lcOf.getD k 0)) S = .ok (.str (words.getD k Str.empty)) S := by
  have key : ∀ (n c : Nat) (fs : List (Str × D)) (y : Str), (sb k0 z x0 x1 x2)[n]? = some (.exn c fs) → c < nX → fs.lookup ("word" : Str) = some (D.str y) → gXA nX flX "word" (.loc n) S = .ok (.str y) S := fun n c fs y h1 h2 h3 => by
    simp only [gXA, o _ _ h1, h3]
    rw [if_pos ⟨h2, by decide +kernel⟩]
  match k, hk with
  | 0, _ => exact key 3 _ _ _ rfl (by decide) rfl
  | 1, _ => exact key 4 _ _ _ rfl (by decide) rfl
  | 2, _ => exact key 5 _ _ _ rfl (by decide) rfl
  | 3, _ => exact key 6 _ _ _ rfl (by decide) rfl
  | 4, _ => exact key 7 _ _ _ rfl (by decide) rfl
  | 5, _ => exact key 8 _ _ _ rfl (by decide) rfl
  | 6, _ => exact key 9 _ _ _ rfl (by decide) rfl
  | 7, _ => exact key 11 _ _ _ rfl (by decide) rfl
  | 8, _ => exact key 12 _ _ _ rfl (by decide) rfl
theorem words_ok : ∀ w ∈ words, PyData.canLay0 (.str w) = true := by decide +kernel
theorem tr_strs {S : Store} {n : Nat} {bs : List Str} (h : S[n]? = some (.lst (bs.map D.str))) : Tr S (.loc n) (.list (bs.map PyData.str)) := .lst h (by simp) fun i d a hd ha => by
  rw [List.getElem?_map] at hd ha
  cases q : bs[i]? with
  | none => rw [q] at hd; cases hd
  | some b => rw [q] at hd ha; cases hd; cases ha; exact .str b
def fldD (k : Int) (z : Str) : List D := [.str z, .int k, .int k, .str z, .str z, .int k, .int k, .int k]
def fldP (k : Int) (z : Str) : List PyData := [.str z, .int k, .int k, .str z, .str z, .int k, .int k, .int k]
theorem tr_fld {S : Store} {n : Nat} {k : Int} {z : Str} (h : S[n]? = some (.lst (fldD k z))) : Tr S (.loc n) (.list (fldP k z)) := .lst h rfl fun i d a hd ha => by
  match i with
  | 0 => cases hd; cases ha; exact .str z
  | 1 => cases hd; cases ha; exact .int k
  | 2 => cases hd; cases ha; exact .int k
  | 3 => cases hd; cases ha; exact .str z
  | 4 => cases hd; cases ha; exact .str z
  | 5 => cases hd; cases ha; exact .int k
  | 6 => cases hd; cases ha; exact .int k
  | 7 => cases hd; cases ha; exact .int k
  | i + 8 => cases hd
theorem law_math : ∀ ns : List Int, ns.length ≤ 63 → ∃ S, F_law ns [.scr] [] = .ok (.bl true) S := fun ns hns => by
  have sz11 : (11 : Nat) ≤ sizeLine := by rw [sizeLine_eq]; decide
  have sz9 : (9 : Nat) ≤ sizeLine := by omega
  have sz8 : (8 : Nat) ≤ sizeLine := by omega
  have sz7 : (7 : Nat) ≤ sizeLine := by omega
  have sz1 : (1 : Nat) ≤ sizeLine := by omega
  have a1 : ∀ (S J : Store), (S ++ J)[S.length]? = J[0]? := fun S J => by rw [List.getElem?_append_right (Nat.le_refl _), Nat.sub_self]
  have a2 : ∀ (S J : Store) (i : Nat), (S ++ J)[S.length + i]? = J[i]? := fun S J i => by rw [List.getElem?_append_right (by omega)]; congr 1; omega
  obtain ⟨cs, e1⟩ := open_ok ns hns
  have B0 : Bag [.lst (cs.map D.int), .lst (cs.map D.int), bagO 1 0 0 9465 0] 2 0 := ⟨1, cs, 0, 0, 9465, 0, rfl, rfl, by decide, by decide, by decide, by decide, by decide, by decide⟩
  obtain ⟨k0, o2, e2, k1, k2, _⟩ := bag_take (sides := 10 ^ 20) B0 (by decide) (by decide) (by decide)
  have hp : CPow 10 20 := by decide
  obtain ⟨z, ez⟩ : ∃ z, z = strRep "z" (1 + k0 % 8).toNat := ⟨_, rfl⟩
  have cz : PyData.canLay0 (.str z) = true := by rw [ez]; exact lz_ok _
  -- to the refusals
  have s1 : P_law_1 ns [some .scr, none, none, none, none, none, none, none, none, none, none] [] = .nx [some .scr, some (.loc 2), none, none, none, none, none, none, none, none, none] [.lst (cs.map D.int), .lst (cs.map D.int), bagO 1 0 0 9465 0] := by
    simp [P_law_1, sSet, xAr, xCons, xNil, xVar, R.bind, R.toS, ofN, e1]
  have s2 : P_law_2 [some .scr, some (.loc 2), none, none, none, none, none, none, none, none, none] [.lst (cs.map D.int), .lst (cs.map D.int), bagO 1 0 0 9465 0] = .nx [some .scr, some (.loc 2), some (.int k0), none, none, none, none, none, none, none, none] [.lst (cs.map D.int), .lst (cs.map D.int), o2] := by
    have e3 : F_lw_take [.loc 2, .int (10 ^ 20)] [.lst (cs.map D.int), .lst (cs.map D.int), bagO 1 0 0 9465 0] = .ok (.int k0) [.lst (cs.map D.int), .lst (cs.map D.int), o2] := e2
    have e4 : (10 : Int) ^ (20 : Int).toNat = 10 ^ 20 := by decide
    simp only [P_law_2, sSet, xAr, xCons, xNil, xOp, xVar, xC, R.bind, R.toS, ofN, dPow, dIC, if_pos hp, e4, List.getElem?_cons_zero, List.getElem?_cons_succ, List.length_cons, List.length_nil, Nat.reduceAdd, if_true, e3, List.set_cons_succ, List.set_cons_zero]
  have s3 : P_law_3 [some .scr, some (.loc 2), some (.int k0), none, none, none, none, none, none, none, none] [.lst (cs.map D.int), .lst (cs.map D.int), o2] = .nx [some .scr, some (.loc 2), some (.int k0), some (.str z), none, none, none, none, none, none, none] [.lst (cs.map D.int), .lst (cs.map D.int), o2] := by
    have c1 : 1 ≤ 1 + k0 % 8 ∧ 1 + k0 % 8 ≤ 1000 ∧ ("z" : Str).length ≤ 1000 := ⟨by omega, by omega, by decide +kernel⟩
    have c2 : (0 : Int) < 8 := by decide
    simp only [P_law_3, sSet, xOp, xVar, xC, R.bind, R.toS, dMulZ, dMulS, dAdd, dAddI, dII, dMod, dIC, if_pos c2, if_pos c1, List.getElem?_cons_zero, List.getElem?_cons_succ, ← ez, List.set_cons_succ, List.set_cons_zero]
  have s45 := made_ok k0 z (.lst (cs.map D.int)) (.lst (cs.map D.int)) o2 none none none none none none none
  obtain ⟨sB, eB⟩ : ∃ sB, sB = sb k0 z (.lst (cs.map D.int)) (.lst (cs.map D.int)) o2 := ⟨_, rfl⟩
  have st : ∀ {v5 v6 v7 v8 v9 v10 : Option D} {S : Store} (o : Old sB S) (k : Nat) (hk : k < 9), ∃ w6 S', P_law_6B [some .scr, some (.loc 2), some (.int k0), some (.str z), some (.loc 14), some (.int (k : Int)), v6, v7, v8, v9, v10] S = .nx [some .scr, some (.loc 2), some (.int k0), some (.str z), some (.loc 14), some (.int (k : Int)), w6, v7, v8, v9, v10] S' ∧ Old sB S' := by
    intro v5 v6 v7 v8 v9 v10 S o k hk
    rw [eB] at o ⊢
    exact step_ok (v5 := v5) o k hk
  have wd : ∀ {S : Store} (o : Old sB S) (k : Nat) (hk : k < 9), gXA nX flX "word" (.loc (lcOf.getD k 0)) S = .ok (.str (words.getD k Str.empty)) S := by
    intro S o k hk
    rw [eB] at o
    exact word_at o k hk
  have hM : sB[14]? = some (.lst mds) := by rw [eB]; rfl
  obtain ⟨ρ6, S6, l6, v5, v6, rfl, o6⟩ := for_inv (it := ⟨rng 0 9, none⟩) (G := gtName 5) (Fb := P_law_6B) (Inv := fun _ ρ S => ∃ v5 v6, ρ = [some .scr, some (.loc 2), some (.int k0), some (.str z), some (.loc 14), v5, v6, none, none, none, none] ∧ Old sB S) (items := rng 0 9) (fun _ _ _ _ => True.intro)
    (fun k d ρ S hk hI => by
      obtain ⟨hk2, rfl⟩ := rng_at hk
      obtain ⟨v5, v6, rfl, o⟩ := hI
      obtain ⟨w6, S', q1, q2⟩ := st (v5 := v5) (v6 := v6) (v7 := none) (v8 := none) (v9 := none) (v10 := none) o k hk2
      exact ⟨_, S, _, S', rfl, q1, some (.int (k : Int)), w6, rfl, q2⟩) [] (rng 0 9) [some .scr, some (.loc 2), some (.int k0), some (.str z), some (.loc 14), none, none, none, none, none, none] sB rfl ⟨none, none, rfl, Old.refl _⟩
  have s6 : P_law_6 [some .scr, some (.loc 2), some (.int k0), some (.str z), some (.loc 14), none, none, none, none, none, none] sB = .nx [some .scr, some (.loc 2), some (.int k0), some (.str z), some (.loc 14), v5, v6, none, none, none, none] S6 := by
    unfold P_law_6 sFor
    have e9 : ∀ ρ S, iRange1 (xCons (xC (.int 9)) (xNil)) ρ S = .ok ⟨rng 0 9, none⟩ S := fun ρ S => by
      have hs : smallI 9 := by decide
      simp [iRange1, xCons, xNil, xC, R.bind, itRange1, hs]
    rw [e9]
    exact l6
  -- the fields
  have at_ : ∀ {S : Store} (o : Old sB S) (k : Nat), k < 9 → dIx (.loc 14) (.int (k : Int)) S = .ok (.loc (lcOf.getD k 0)) S := fun {S} o k hk => by
    simp only [dIx, o _ _ hM, mds_at k hk]
  have fl : ∀ {S : Store} (o : Old sB S) (n c : Nat) (fs : List (Str × D)) (f : Str) (y : D), sB[n]? = some (.exn c fs) → c < nX → f ∈ flX → fs.lookup f = some y → gXA nX flX f (.loc n) S = .ok y S := fun {S} o n c fs f y h1 h2 h4 h3 => by
    simp only [gXA, o _ _ h1, h3]
    rw [if_pos ⟨h2, h4⟩]
  obtain ⟨S7, eS7⟩ : ∃ S7, S7 = S6 ++ [.lst [.str z, .int k0, .int k0, .str z, .str z, .int k0, .int k0]] := ⟨_, rfl⟩
  have o7 : Old sB S7 := o6.trans (by rw [eS7]; exact Old.app _ _)
  have f0 := fl o6 3 1 _ "name" (.str z) (by rw [eB]; rfl) (by decide) (by decide +kernel) rfl
  have f1 := fl o6 4 8 _ "cask" (.int k0) (by rw [eB]; rfl) (by decide) (by decide +kernel) rfl
  have f2 := fl o6 5 7 _ "rank" (.int k0) (by rw [eB]; rfl) (by decide) (by decide +kernel) rfl
  have f3 := fl o6 6 6 _ "name" (.str z) (by rw [eB]; rfl) (by decide) (by decide +kernel) rfl
  have f4 := fl o6 7 0 _ "name" (.str z) (by rw [eB]; rfl) (by decide) (by decide +kernel) rfl
  have f5 := fl o6 8 2 _ "step" (.int k0) (by rw [eB]; rfl) (by decide) (by decide +kernel) rfl
  have f6 := fl o6 9 3 _ "most" (.int k0) (by rw [eB]; rfl) (by decide) (by decide +kernel) rfl
  have f7 := fl o7 11 4 _ "most" (.int k0) (by rw [eB]; rfl) (by decide) (by decide +kernel) rfl
  have t0 : dIx (.loc 14) (.int 0) S6 = .ok (.loc 3) S6 := at_ o6 0 (by decide)
  have t1 : dIx (.loc 14) (.int 1) S6 = .ok (.loc 4) S6 := at_ o6 1 (by decide)
  have t2 : dIx (.loc 14) (.int 2) S6 = .ok (.loc 5) S6 := at_ o6 2 (by decide)
  have t3 : dIx (.loc 14) (.int 3) S6 = .ok (.loc 6) S6 := at_ o6 3 (by decide)
  have t4 : dIx (.loc 14) (.int 4) S6 = .ok (.loc 7) S6 := at_ o6 4 (by decide)
  have t5 : dIx (.loc 14) (.int 5) S6 = .ok (.loc 8) S6 := at_ o6 5 (by decide)
  have t6 : dIx (.loc 14) (.int 6) S6 = .ok (.loc 9) S6 := at_ o6 6 (by decide)
  have t7 : dIx (.loc 14) (.int 7) S7 = .ok (.loc 11) S7 := at_ o7 7 (by decide)
  have s7 : P_law_7 [some .scr, some (.loc 2), some (.int k0), some (.str z), some (.loc 14), v5, v6, none, none, none, none] S6 = .nx [some .scr, some (.loc 2), some (.int k0), some (.str z), some (.loc 14), v5, v6, some (.loc S6.length), none, none, none] S7 := by
    simp [P_law_7, sSet, xAr, xCons, xNil, xOp, xUn, xVar, xC, R.bind, R.toS, t0, t1, t2, t3, t4, t5, t6, f0, f1, f2, f3, f4, f5, f6, gLstD, sz7, eS7]
  obtain ⟨S8, eS8⟩ : ∃ S8, S8 = S7 ++ [.lst [.int k0], .lst (fldD k0 z), .lst (fldD k0 z)] := ⟨_, rfl⟩
  have o8 : Old sB S8 := o7.trans (by rw [eS8]; exact Old.app _ _)
  obtain ⟨S9, g1, g2⟩ := same_ok (.list (fldP k0 z)) (.loc (S7.length + 1)) (.loc (S7.length + 2)) S8 ⟨(by show (8 : Nat) ≤ 1000000; decide), fun x hx => by
    have : x = .str z ∨ x = .int k0 := by
      simp only [fldP, List.mem_cons, List.not_mem_nil, or_false] at hx
      rcases hx with h | h | h | h | h | h | h | h <;> first | exact .inl h | exact .inr h
    rcases this with rfl | rfl
    · exact cz
    · exact True.intro⟩ (tr_fld (by rw [eS8, a2]; rfl)) (tr_fld (by rw [eS8, a2]; rfl))
  have s8 : P_law_8 [some .scr, some (.loc 2), some (.int k0), some (.str z), some (.loc 14), v5, v6, some (.loc S6.length), none, none, none] S7 = .nx [some .scr, some (.loc 2), some (.int k0), some (.str z), some (.loc 14), v5, v6, some (.loc S6.length), none, none, none] S9 := by
    have q1 : ∀ J : Store, (S7 ++ J)[S6.length]? = some (.lst [.str z, .int k0, .int k0, .str z, .str z, .int k0, .int k0]) := fun J => by
      rw [eS7, List.append_assoc, a1]; rfl
    have q2 : ∀ J : Store, (S7 ++ J)[S7.length]? = J[0]? := a1 S7
    have ad : dAdd (.loc S6.length) (.loc S7.length) (S7 ++ [.lst [.int k0]]) = .ok (.loc (S7.length + 1)) (S7 ++ [.lst [.int k0], .lst (fldD k0 z)]) := by
      simp [dAdd, dAddL, q1, q2, sz8, fldD, List.append_assoc]
    have g1' : F_lw_same [.loc (S7.length + 1), .loc (S7.length + 2)] (S7 ++ [.lst [.int k0], .lst (fldD k0 z), .lst (fldD k0 z)]) = .ok (.bl true) S9 := by rw [← eS8]; exact g1
    have g1'' : F_lw_same [.loc (S7.length + 1), .loc (S7.length + (1 + 1))] (S7 ++ [.lst [.int k0], .lst (fldD k0 z), .lst [.str z, .int k0, .int k0, .str z, .str z, .int k0, .int k0, .int k0]]) = .ok (.bl true) S9 := g1'
    simp [P_law_8, sIf, sNx, xNotT, tst, asB, xAr, xCons, xNil, xOp, xUn, xVar, xC, R.bind, R.toS, t7, f7, gLstD, sz1, ad, sz8, ofN, List.append_assoc, g1'']
  have o9 : Old sB S9 := o8.trans g2
  obtain ⟨S10, eS10⟩ : ∃ S10, S10 = S9 ++ [.lst ((words.take 8).map D.str)] := ⟨_, rfl⟩
  have o10 : Old sB S10 := o9.trans (by rw [eS10]; exact Old.app _ _)
  have s9 : P_law_9 [some .scr, some (.loc 2), some (.int k0), some (.str z), some (.loc 14), v5, v6, some (.loc S6.length), none, none, none] S9 = .nx [some .scr, some (.loc 2), some (.int k0), some (.str z), some (.loc 14), v5, v6, some (.loc S6.length), some (.loc S9.length), none, none] S10 := by
    simp [P_law_9, sSet, xAr, xCons, xNil, xC, R.bind, R.toS, gLstD, sz8, eS10, words]
  -- the words
  obtain ⟨acc', S11, c1, ⟨c2, c3, c4⟩, c5⟩ := lc_inv (it := ⟨mds, some (14, mds)⟩) (n := S10.length) (G := gtName 10) (Fe := xUn (gXA nX flX "word") (xVar 10)) (ρ := [some .scr, some (.loc 2), some (.int k0), some (.str z), some (.loc 14), v5, v6, some (.loc S6.length), some (.loc S9.length), none, none])
    (Inv := fun acc S3 => Old S10 S3 ∧ S3[S10.length]? = some (.lst acc) ∧ acc = ((words.take acc.length).map D.str)) (items := mds) (fun acc S3 h => h.1 _ _ (o10 _ _ hM))
    (fun i d acc S3 hi hl hI => by
      obtain ⟨q1, q2, q3⟩ := hI
      have hi2 : i < 9 := (List.getElem?_eq_some_iff.mp hi).1
      have hd : d = .loc (lcOf.getD i 0) := by
        have q := mds_at i hi2
        unfold atI ixN at q
        rw [if_pos (by omega), if_pos (by show (i : Int) < ((9 : Nat) : Int); omega)] at q
        simp only [Option.bind_some, Int.toNat_natCast] at q
        rw [hi] at q
        exact Option.some.inj q
      subst hd
      refine ⟨_, S3, .str (words.getD i Str.empty), S3, rfl, ?_, q2, by omega, q1.setN (Nat.le_refl _), set_get q2, ?_⟩
      · simp only [xUn, xVar, R.bind, List.set_cons_succ, List.set_cons_zero, List.getElem?_cons_zero, List.getElem?_cons_succ, wd (o10.trans q1) i hi2]
      · rw [List.length_append, List.length_singleton, hl]
        rw [hl] at q3
        have hw : i < words.length := hi2
        rw [List.take_succ, List.map_append, ← q3, List.getElem?_eq_getElem hw, List.getD_eq_getElem?_getD, List.getElem?_eq_getElem hw]
        rfl) [] mds [] (S10 ++ [.lst []]) rfl rfl ⟨Old.app _ _, by rw [a1]; rfl, rfl⟩
  have l9 : acc'.length = 9 := by rw [c5]; rfl
  rw [l9] at c4
  obtain ⟨S12, eS12⟩ : ∃ S12, S12 = S11 ++ [.lst [.str "unlike"], .lst (words.map D.str)] := ⟨_, rfl⟩
  have e8 : S11[S9.length]? = some (.lst ((words.take 8).map D.str)) := c2 _ _ (by rw [eS10, a1]; rfl)
  have ad2 : dAdd (.loc S9.length) (.loc S11.length) (S11 ++ [.lst [.str "unlike"]]) = .ok (.loc (S11.length + 1)) S12 := by
    have q1 : (S11 ++ [.lst [.str "unlike"]])[S9.length]? = some (.lst ((words.take 8).map D.str)) := Old.app _ _ _ _ e8
    simp [dAdd, dAddL, q1, a1, sz9, eS12, List.append_assoc, words]
  obtain ⟨S13, h1, _⟩ := same_ok (.list (words.map PyData.str)) (.loc S10.length) (.loc (S11.length + 1)) S12 ⟨by decide, fun x hx => by
    obtain ⟨w, hw, rfl⟩ := List.mem_map.mp hx
    exact words_ok w hw⟩ (tr_strs (by rw [eS12]; exact Old.app _ _ _ _ (by rw [c3, c4]; rfl))) (tr_strs (by rw [eS12, a2]; rfl))
  have e7 : xLc (iOf (xVar 4)) (gtName 10) (xYes) (xUn (gXA nX flX "word") (xVar 10)) [10] [some .scr, some (.loc 2), some (.int k0), some (.str z), some (.loc 14), v5, v6, some (.loc S6.length), some (.loc S9.length), none, none] S10 = .ok (.loc S10.length) S11 := by
    unfold xLc
    have e9 : iOf (xVar 4) [some .scr, some (.loc 2), some (.int k0), some (.str z), some (.loc 14), v5, v6, some (.loc S6.length), some (.loc S9.length), none, none] S10 = .ok ⟨mds, some (14, mds)⟩ S10 := by
      simp [iOf, xVar, R.bind, itOf, o10 _ _ hM]
    rw [e9]
    exact c1
  have s10 : P_law_10 [some .scr, some (.loc 2), some (.int k0), some (.str z), some (.loc 14), v5, v6, some (.loc S6.length), some (.loc S9.length), none, none] S10 = .rt (.bl true) S13 := by
    simp [P_law_10, sRet, xAr, xCons, xNil, xOp, xVar, xC, R.bind, R.toS, e7, gLstD, sz1, ad2, ofN, h1]
  refine ⟨S13, ?_⟩
  show (sSeq (P_law_1 ns) (sSeq P_law_2 (sSeq P_law_3 (sSeq P_law_4 (sSeq P_law_5 (sSeq P_law_6 (sSeq P_law_7 (sSeq P_law_8 (sSeq P_law_9 P_law_10)))))))) [some .scr, none, none, none, none, none, none, none, none, none, none] []).fin = _
  rw [seq_nx s1 (seq_nx s2 (seq_nx s3 rfl)), seq_assoc, seq_nx s45 rfl, ← eB, seq_nx s6 (seq_nx s7 (seq_nx s8 (seq_nx s9 s10)))]
  rfl

end DM
namespace DM
open PySem PySem.Spec PyProof.Rows L2
def df0 : He.DefD := ⟨("_law_flags", none), "_law_flags", "_law_flags", defArgs st_lw_flags, defBody st_lw_flags, defScope st_lw_flags, [], []⟩
def df1 : He.DefD := ⟨("_law_open", none), "_law_open", "_law_open", defArgs st_lw_open, defBody st_lw_open, defScope st_lw_open, [], []⟩
def df2 : He.DefD := ⟨("_law_same", none), "_law_same", "_law_same", defArgs st_lw_same, defBody st_lw_same, defScope st_lw_same, [], []⟩
def df3 : He.DefD := ⟨("_law_take", none), "_law_take", "_law_take", defArgs st_lw_take, defBody st_lw_take, defScope st_lw_take, [], []⟩
def df4 : He.DefD := ⟨("law", none), "law", "law", defArgs st_law, defBody st_law, defScope st_law, [], []⟩
def df5 : He.DefD := ⟨("Taken", some "__init__"), "__init__", "Taken.__init__", defArgs sti_Taken, defBody sti_Taken, defScope sti_Taken, [], []⟩
def df6 : He.DefD := ⟨("InUse", some "__init__"), "__init__", "InUse.__init__", defArgs sti_InUse, defBody sti_InUse, defScope sti_InUse, [], []⟩
def df7 : He.DefD := ⟨("Tapped", some "__init__"), "__init__", "Tapped.__init__", defArgs sti_Tapped, defBody sti_Tapped, defScope sti_Tapped, [], []⟩
def df8 : He.DefD := ⟨("TooLong", some "__init__"), "__init__", "TooLong.__init__", defArgs sti_TooLong, defBody sti_TooLong, defScope sti_TooLong, [], []⟩
def df9 : He.DefD := ⟨("TooMany", some "__init__"), "__init__", "TooMany.__init__", defArgs sti_TooMany, defBody sti_TooMany, defScope sti_TooMany, [], []⟩
def df10 : He.DefD := ⟨("Unlike", some "__init__"), "__init__", "Unlike.__init__", defArgs sti_Unlike, defBody sti_Unlike, defScope sti_Unlike, [], []⟩
def df11 : He.DefD := ⟨("NoRound", some "__init__"), "__init__", "NoRound.__init__", defArgs sti_NoRound, defBody sti_NoRound, defScope sti_NoRound, [], []⟩
def df12 : He.DefD := ⟨("NoDrop", some "__init__"), "__init__", "NoDrop.__init__", defArgs sti_NoDrop, defBody sti_NoDrop, defScope sti_NoDrop, [], []⟩
def df13 : He.DefD := ⟨("NoCask", some "__init__"), "__init__", "NoCask.__init__", defArgs sti_NoCask, defBody sti_NoCask, defScope sti_NoCask, [], []⟩
def fns : List He.DefD := [df0, df1, df2, df3, df4, df5, df6, df7, df8, df9, df10, df11, df12, df13]
def fas : List He.Fa := [.glo "_law_flags", .glo "_law_open", .glo "_law_same", .glo "_law_take", .glo "law", .glo "Taken", .glo "InUse", .glo "Tapped", .glo "TooLong", .glo "TooMany", .glo "Unlike", .glo "NoRound", .glo "NoDrop", .glo "NoCask", .glo "HideError", .free "LookupError", .free "all", .free "bool", .free "int", .free "isinstance", .free "len", .free "list", .free "range", .free "str", .free "tuple"]
def cns : List Str := ["Taken", "InUse", "Tapped", "TooLong", "TooMany", "Unlike", "NoRound", "NoDrop", "NoCask"]
def chk (K : PySem.W.Frag) : Bool := xcB K (He.ga K "Taken") [.type "ValueError", .type "Exception", .type "BaseException", .type "object"] "ValueError.__new__" ["word", "name"] && (xcB K (He.ga K "InUse") [.type "ValueError", .type "Exception", .type "BaseException", .type "object"] "ValueError.__new__" ["word", "name"] && (xcB K (He.ga K "Tapped") [.type "ValueError", .type "Exception", .type "BaseException", .type "object"] "ValueError.__new__" ["word", "step"] && (xcB K (He.ga K "TooLong") [.type "ValueError", .type "Exception", .type "BaseException", .type "object"] "ValueError.__new__" ["word", "most"] && (xcB K (He.ga K "TooMany") [.type "ValueError", .type "Exception", .type "BaseException", .type "object"] "ValueError.__new__" ["word", "most"] && (xcB K (He.ga K "Unlike") [.type "ValueError", .type "Exception", .type "BaseException", .type "object"] "ValueError.__new__" ["word"] && (xcB K (He.ga K "NoRound") [.type "LookupError", .type "Exception", .type "BaseException", .type "object"] "LookupError.__new__" ["word", "name"] && (xcB K (He.ga K "NoDrop") [.type "LookupError", .type "Exception", .type "BaseException", .type "object"] "LookupError.__new__" ["word", "rank"] && (xcB K (He.ga K "NoCask") [.type "LookupError", .type "Exception", .type "BaseException", .type "object"] "LookupError.__new__" ["word", "cask"] && (exB K cns flX && (isB K cns l_HideError (.ref (He.ga K "HideError")) && (isB K cns l_InUse (.ref (He.ga K "InUse")) && (isB K cns l_LookupError (.type "LookupError") && (isB K cns l_NoCask (.ref (He.ga K "NoCask")) && (isB K cns l_NoDrop (.ref (He.ga K "NoDrop")) && (isB K cns l_NoRound (.ref (He.ga K "NoRound")) && (isB K cns l_Taken (.ref (He.ga K "Taken")) && (isB K cns l_Tapped (.ref (He.ga K "Tapped")) && (isB K cns l_TooLong (.ref (He.ga K "TooLong")) && (isB K cns l_TooMany (.ref (He.ga K "TooMany")) && (isB K cns l_Unlike (.ref (He.ga K "Unlike")) && (true)))))))))))))))))))))
abbrev hR : PySem.W.OpenRow := PySem.W.OpenLaw.row PySem.Challenge.rw_hidelater_k69_classes_apart
abbrev hk : PySem.W.Hook := hookC 5 fas fns chk
def ob (s : PySem.W.SharedT) : AlC := obsC 5 fas fns chk (HandSHeadRun.getT s)
theorem ob_eq (s : PySem.W.SharedT) : ob s = hk.obs s.abs := obsC_eq (HandSHeadRun.getT_eq s)
def loose : List Str := (["__name__", "HideError", "Missing", "Taken", "InUse", "Tapped", "TooLong", "TooMany", "Unlike", "NoRound", "NoDrop", "NoCask", "_law_open", "_law_take", "_law_same", "_law_flags"] : List Str)
theorem run (w : World) : HandSHeadRun.RunEq hR (PySem.W.view hR.prog [17]) hk ob 4000 loose w := by
  intro os
  kernel_rfl
theorem facts (mth : ∀ ns : List Int, ns.length ≤ 63 → ∃ S, F_law ns [.scr] [] = .ok (.bl true) S) {P : Program} {w : World} {K : PySem.W.Frag} {h : Heap} {mg : Str → Option Value} {f : Addr} (X : K.In h) (G : h.Ns mainGlobals mg) (hfa : mg ("law" : Str) = some (.ref f)) (c : He.SaysD fas fns K) (k : chk K = true) :
    ∃ fd : FuncData, (∀ (s : Shared) (v : Value), BindsTo s fd ⟨[v], []⟩ [("_law_script", v)]) ∧ ∀ base : Heap, K.In base → base.Ns mainGlobals mg → FnOk P w K mg base (L2.CX P w) 7 f fd ["_law_script"] (spLaw K) := by
  obtain ⟨fd0, DF_lw_flags⟩ := c.def_ 0 (d := df0) rfl
  obtain ⟨fd1, DF_lw_open⟩ := c.def_ 1 (d := df1) rfl
  obtain ⟨fd2, DF_lw_same⟩ := c.def_ 2 (d := df2) rfl
  obtain ⟨fd3, DF_lw_take⟩ := c.def_ 3 (d := df3) rfl
  obtain ⟨fd4, DF_law⟩ := c.def_ 4 (d := df4) rfl
  obtain ⟨fd5, DFi_Taken⟩ := c.def_ 5 (d := df5) rfl
  obtain ⟨fd6, DFi_InUse⟩ := c.def_ 6 (d := df6) rfl
  obtain ⟨fd7, DFi_Tapped⟩ := c.def_ 7 (d := df7) rfl
  obtain ⟨fd8, DFi_TooLong⟩ := c.def_ 8 (d := df8) rfl
  obtain ⟨fd9, DFi_TooMany⟩ := c.def_ 9 (d := df9) rfl
  obtain ⟨fd10, DFi_Unlike⟩ := c.def_ 10 (d := df10) rfl
  obtain ⟨fd11, DFi_NoRound⟩ := c.def_ 11 (d := df11) rfl
  obtain ⟨fd12, DFi_NoDrop⟩ := c.def_ 12 (d := df12) rfl
  obtain ⟨fd13, DFi_NoCask⟩ := c.def_ 13 (d := df13) rfl
  obtain ⟨k0, k⟩ := b2 k
  obtain ⟨k1, k⟩ := b2 k
  obtain ⟨k2, k⟩ := b2 k
  obtain ⟨k3, k⟩ := b2 k
  obtain ⟨k4, k⟩ := b2 k
  obtain ⟨k5, k⟩ := b2 k
  obtain ⟨k6, k⟩ := b2 k
  obtain ⟨k7, k⟩ := b2 k
  obtain ⟨k8, k⟩ := b2 k
  obtain ⟨k9, k⟩ := b2 k
  obtain ⟨k10, k⟩ := b2 k
  obtain ⟨k11, k⟩ := b2 k
  obtain ⟨k12, k⟩ := b2 k
  obtain ⟨k13, k⟩ := b2 k
  obtain ⟨k14, k⟩ := b2 k
  obtain ⟨k15, k⟩ := b2 k
  obtain ⟨k16, k⟩ := b2 k
  obtain ⟨k17, k⟩ := b2 k
  obtain ⟨k18, k⟩ := b2 k
  obtain ⟨k19, k⟩ := b2 k
  obtain ⟨k20, k⟩ := b2 k
  have g_lw_flags := He.glo_ok X G (c.fact 0 (f := .glo "_law_flags") rfl)
  have g_lw_open := He.glo_ok X G (c.fact 1 (f := .glo "_law_open") rfl)
  have g_lw_same := He.glo_ok X G (c.fact 2 (f := .glo "_law_same") rfl)
  have g_lw_take := He.glo_ok X G (c.fact 3 (f := .glo "_law_take") rfl)
  have g_law := He.glo_ok X G (c.fact 4 (f := .glo "law") rfl)
  have g_Taken := He.glo_ok X G (c.fact 5 (f := .glo "Taken") rfl)
  have g_InUse := He.glo_ok X G (c.fact 6 (f := .glo "InUse") rfl)
  have g_Tapped := He.glo_ok X G (c.fact 7 (f := .glo "Tapped") rfl)
  have g_TooLong := He.glo_ok X G (c.fact 8 (f := .glo "TooLong") rfl)
  have g_TooMany := He.glo_ok X G (c.fact 9 (f := .glo "TooMany") rfl)
  have g_Unlike := He.glo_ok X G (c.fact 10 (f := .glo "Unlike") rfl)
  have g_NoRound := He.glo_ok X G (c.fact 11 (f := .glo "NoRound") rfl)
  have g_NoDrop := He.glo_ok X G (c.fact 12 (f := .glo "NoDrop") rfl)
  have g_NoCask := He.glo_ok X G (c.fact 13 (f := .glo "NoCask") rfl)
  have g_HideError := He.glo_ok X G (c.fact 14 (f := .glo "HideError") rfl)
  have m_LookupError := He.free_ok X G (c.fact 15 (f := .free "LookupError") rfl)
  have m_all := He.free_ok X G (c.fact 16 (f := .free "all") rfl)
  have m_bool := He.free_ok X G (c.fact 17 (f := .free "bool") rfl)
  have m_int := He.free_ok X G (c.fact 18 (f := .free "int") rfl)
  have m_isinstance := He.free_ok X G (c.fact 19 (f := .free "isinstance") rfl)
  have m_len := He.free_ok X G (c.fact 20 (f := .free "len") rfl)
  have m_list := He.free_ok X G (c.fact 21 (f := .free "list") rfl)
  have m_range := He.free_ok X G (c.fact 22 (f := .free "range") rfl)
  have m_str := He.free_ok X G (c.fact 23 (f := .free "str") rfl)
  have m_tuple := He.free_ok X G (c.fact 24 (f := .free "tuple") rfl)
  obtain ⟨xf_Taken, xi_Taken, xt_Taken, xa_Taken⟩ := xcB_ok PySem.F.excBase_ValueError PySem.F.store_ValueError k0
  obtain ⟨xf_InUse, xi_InUse, xt_InUse, xa_InUse⟩ := xcB_ok PySem.F.excBase_ValueError PySem.F.store_ValueError k1
  obtain ⟨xf_Tapped, xi_Tapped, xt_Tapped, xa_Tapped⟩ := xcB_ok PySem.F.excBase_ValueError PySem.F.store_ValueError k2
  obtain ⟨xf_TooLong, xi_TooLong, xt_TooLong, xa_TooLong⟩ := xcB_ok PySem.F.excBase_ValueError PySem.F.store_ValueError k3
  obtain ⟨xf_TooMany, xi_TooMany, xt_TooMany, xa_TooMany⟩ := xcB_ok PySem.F.excBase_ValueError PySem.F.store_ValueError k4
  obtain ⟨xf_Unlike, xi_Unlike, xt_Unlike, xa_Unlike⟩ := xcB_ok PySem.F.excBase_ValueError PySem.F.store_ValueError k5
  obtain ⟨xf_NoRound, xi_NoRound, xt_NoRound, xa_NoRound⟩ := xcB_ok PySem.F.excBase_LookupError PySem.F.store_LookupError k6
  obtain ⟨xf_NoDrop, xi_NoDrop, xt_NoDrop, xa_NoDrop⟩ := xcB_ok PySem.F.excBase_LookupError PySem.F.store_LookupError k7
  obtain ⟨xf_NoCask, xi_NoCask, xt_NoCask, xa_NoCask⟩ := xcB_ok PySem.F.excBase_LookupError PySem.F.store_LookupError k8
  have e := hfa.symm.trans g_law
  cases e
  have b := FunD.bindsA (ps := ["_law_script"]) DF_law fun _ _ _ _ _ _ us hl => match us, hl with | [_], _ => rfl
  refine ⟨fd4, fun s v => b s [v] rfl, fun base _ _ => law_ok (cls := clsA K cns) (F := F_law) (fun ns a => ?_) mth⟩
  obtain ⟨hE, hC⟩ := exB_ok (is := ns) (a := a) k9
  have x_Taken : Xc ⟨K, ns, a, clsA K cns⟩ P w mg base "Taken" 0 1 [("word", .c "taken"), ("name", .p 0)] := xc_Taken DFi_Taken xf_Taken g_Taken xi_Taken xt_Taken (fun p hp => xa_Taken p.1 (List.mem_map_of_mem (f := Prod.fst) hp))
  have x_InUse : Xc ⟨K, ns, a, clsA K cns⟩ P w mg base "InUse" 1 1 [("word", .c "in use"), ("name", .p 0)] := xc_InUse DFi_InUse xf_InUse g_InUse xi_InUse xt_InUse (fun p hp => xa_InUse p.1 (List.mem_map_of_mem (f := Prod.fst) hp))
  have x_Tapped : Xc ⟨K, ns, a, clsA K cns⟩ P w mg base "Tapped" 2 1 [("word", .c "tapped"), ("step", .p 0)] := xc_Tapped DFi_Tapped xf_Tapped g_Tapped xi_Tapped xt_Tapped (fun p hp => xa_Tapped p.1 (List.mem_map_of_mem (f := Prod.fst) hp))
  have x_TooLong : Xc ⟨K, ns, a, clsA K cns⟩ P w mg base "TooLong" 3 1 [("word", .c "too long"), ("most", .p 0)] := xc_TooLong DFi_TooLong xf_TooLong g_TooLong xi_TooLong xt_TooLong (fun p hp => xa_TooLong p.1 (List.mem_map_of_mem (f := Prod.fst) hp))
  have x_TooMany : Xc ⟨K, ns, a, clsA K cns⟩ P w mg base "TooMany" 4 1 [("word", .c "too many"), ("most", .p 0)] := xc_TooMany DFi_TooMany xf_TooMany g_TooMany xi_TooMany xt_TooMany (fun p hp => xa_TooMany p.1 (List.mem_map_of_mem (f := Prod.fst) hp))
  have x_Unlike : Xc ⟨K, ns, a, clsA K cns⟩ P w mg base "Unlike" 5 0 [("word", .c "unlike")] := xc_Unlike DFi_Unlike xf_Unlike g_Unlike xi_Unlike xt_Unlike (fun p hp => xa_Unlike p.1 (List.mem_map_of_mem (f := Prod.fst) hp))
  have x_NoRound : Xc ⟨K, ns, a, clsA K cns⟩ P w mg base "NoRound" 6 1 [("word", .c "no round"), ("name", .p 0)] := xc_NoRound DFi_NoRound xf_NoRound g_NoRound xi_NoRound xt_NoRound (fun p hp => xa_NoRound p.1 (List.mem_map_of_mem (f := Prod.fst) hp))
  have x_NoDrop : Xc ⟨K, ns, a, clsA K cns⟩ P w mg base "NoDrop" 7 1 [("word", .c "no drop"), ("rank", .p 0)] := xc_NoDrop DFi_NoDrop xf_NoDrop g_NoDrop xi_NoDrop xt_NoDrop (fun p hp => xa_NoDrop p.1 (List.mem_map_of_mem (f := Prod.fst) hp))
  have x_NoCask : Xc ⟨K, ns, a, clsA K cns⟩ P w mg base "NoCask" 8 1 [("word", .c "no cask"), ("cask", .p 0)] := xc_NoCask DFi_NoCask xf_NoCask g_NoCask xi_NoCask xt_NoCask (fun p hp => xa_NoCask p.1 (List.mem_map_of_mem (f := Prod.fst) hp))
  have c_lw_flags := fn_lw_flags (T := ⟨K, ns, a, clsA K cns⟩) (P := P) (w := w) (base := base) DF_lw_flags g_lw_flags (hE := hE) (hC := hC) (g_HideError := g_HideError) (k_HideError := isB_ok k10) (g_InUse := g_InUse) (k_InUse := isB_ok k11) (k_LookupError := isB_ok k12) (g_NoCask := g_NoCask) (k_NoCask := isB_ok k13) (g_NoDrop := g_NoDrop) (k_NoDrop := isB_ok k14) (g_NoRound := g_NoRound) (k_NoRound := isB_ok k15) (g_Taken := g_Taken) (k_Taken := isB_ok k16) (g_Tapped := g_Tapped) (k_Tapped := isB_ok k17) (g_TooLong := g_TooLong) (k_TooLong := isB_ok k18) (g_TooMany := g_TooMany) (k_TooMany := isB_ok k19) (g_Unlike := g_Unlike) (k_Unlike := isB_ok k20) (m_LookupError := m_LookupError) (m_isinstance := m_isinstance)
  have c_lw_open := fn_lw_open (T := ⟨K, ns, a, clsA K cns⟩) (P := P) (w := w) (base := base) DF_lw_open g_lw_open (m_list := m_list)
  have c_lw_same := fn_lw_same (T := ⟨K, ns, a, clsA K cns⟩) (P := P) (w := w) (base := base) DF_lw_same g_lw_same (hE := hE) (hC := hC) (k_bool := tk_bool) (k_int := tk_int) (k_list := tk_list) (k_str := tk_str) (k_tuple := tk_tuple) (m_all := m_all) (m_bool := m_bool) (m_int := m_int) (m_isinstance := m_isinstance) (m_len := m_len) (m_list := m_list) (m_range := m_range) (m_str := m_str) (m_tuple := m_tuple)
  have c_lw_take := fn_lw_take (T := ⟨K, ns, a, clsA K cns⟩) (P := P) (w := w) (base := base) DF_lw_take g_lw_take (m_len := m_len)
  exact fn_law (T := ⟨K, ns, a, clsA K cns⟩) DF_law g_law (c_lw_flags := c_lw_flags) (c_lw_open := c_lw_open) (c_lw_same := c_lw_same) (c_lw_take := c_lw_take) (x_InUse := x_InUse) (x_NoCask := x_NoCask) (x_NoDrop := x_NoDrop) (x_NoRound := x_NoRound) (x_Taken := x_Taken) (x_Tapped := x_Tapped) (x_TooLong := x_TooLong) (x_TooMany := x_TooMany) (x_Unlike := x_Unlike) (hE := hE) (m_range := m_range)
end DM
open PySem PySem.W PySem.Calls PyProof.Rows
theorem PySem.Challenge.cw_hidelater_k69_classes_apart_holds : PySem.Challenge.rw_hidelater_k69_classes_apart.Holds := by
  w_on; o_law
  refine HandSHeadRun.head_any (r := OpenLaw.row PySem.Challenge.rw_hidelater_k69_classes_apart) (q := view (OpenLaw.row PySem.Challenge.rw_hidelater_k69_classes_apart).prog [17]) (H := DM.hk) (ob := DM.ob) (M := 4000) (loose := DM.loose) (d := HandSHeadRun.topDef (OpenLaw.row PySem.Challenge.rw_hidelater_k69_classes_apart).prog 17) (kwd := []) DM.ob_eq
    (by kernel_rfl) (fun s => by kernel_rfl) DM.run (by kernel_rfl) (by kernel_rfl) (by kernel_rfl) (by rfl) (by first | assumption | decide +kernel) (by decide +kernel) ⟨rfl, rfl, rfl, rfl, rfl, by decide +kernel⟩ ?hw ?hc
  case hw => w_witness2
  case hc =>
    refine DM.walk_w (l := PySem.Challenge.rw_hidelater_k69_classes_apart) (k := 7) (p := "_law_script") rfl (by kernel_rfl) ⟨rfl, by decide, by decide⟩ ?G
    intro w mg fa h Y G hmg0
    obtain ⟨K, KX, c, k⟩ := Y
    have hmg : mg ("law" : PySem.Str) = some (.ref fa) := by
      have e : (HandSHeadRun.topDef (OpenLaw.row PySem.Challenge.rw_hidelater_k69_classes_apart).prog 17).name = ("law" : PySem.Str) := by kernel_rfl
      rw [← e]
      exact hmg0
    obtain ⟨fd, hb, hF⟩ := DM.facts DM.law_math (P := (PySem.Challenge.rw_hidelater_k69_classes_apart).prog) (w := w) KX G hmg c k
    exact ⟨K, fd, KX, hb, hF⟩

