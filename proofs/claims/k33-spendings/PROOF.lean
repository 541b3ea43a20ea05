import PyProof.Rows.All
import Wide.All
import OpenK.AllK
import Wide.FinOn
import HandS.ForMost
import HandS.IsInst
import HandS.Exc
import HandS.TryOnly
import HandS.ExcOwn
import HandS.Flow
import HandS.Defaults
import HandS.Wide
import HandS.TupAny
import HandS.TupLen
import HandS.Style
import HandS.Deep
import HandS.Conv
import HandS.WordsExc
import HandS.Small
import HandS.Text
import HandS.HotCalls
import HandS.CallSlots
import HandS.DictComp
import HandS.TupSets
import HandS.TupMul
import KE.KDictCopyH
import PySem.Challenge.RW_parentweave_k33_what_a_spending_may_take
set_option Elab.async false
set_option linter.all false
set_option maxRecDepth 100000
/-! Vx1: trees of values, how a heap bears them -/
namespace Vx
open PySem L2

/-- the shape of a container -/
inductive Sh where
  | tup | lst | wtup | wlst
  | dK (ks : List Key)
  | dT (ks : List (List Key))
  | ins (c : Nat) (ns : List Str)
  deriving DecidableEq
def Sh.isI : Sh → Bool
  | .ins _ _ => true
  | _ => false
/-- a tree: a scalar, a frozen container (shared, never written), an owned one (l: locked), a hole -/
inductive T where
  | v (x : V)
  | fz (s : Sh) (xs : List T)
  | ow (l : Bool) (s : Sh) (xs : List T)
  | out (x : V)
def T.pers : T → Bool
  | .v _ => true
  | .fz _ _ => true
  | _ => false
def isSc : V → Bool
  | .non => true | .bl _ => true | .int _ => true | .str _ => true
  | _ => false

abbrev Rg := Addr → Prop

section
variable (K : PySem.W.Frag) (cl : Nat → Addr)
def FzAt (Hf : Hp) (a : Addr) : Sh → List V → Prop
  | .tup, vs => Hf a = some (.tup vs)
  | .lst, vs => Hf a = some (.lst vs)
  | .wtup, vs => SqT K Hf a vs
  | .wlst, vs => SqL K Hf a vs
  | .dK ks, vs => ks.length = vs.length ∧ Hf a = some (.dK (ks.zip vs))
  | .dT ks, vs => ks.length = vs.length ∧ Hf a = some (.dT (ks.zip vs))
  | .ins _ _, _ => False
def OwAt (H : Hp) (a dx : Addr) (l : Bool) : Sh → List V → Prop
  | .lst, vs => l = false ∧ H a = some (.lst vs)
  | .dK ks, vs => ks.length = vs.length ∧ (l = false → H a = some (.dK (ks.zip vs))) ∧ (l = true → ∃ od, H a = some (.frz od (.dK (ks.zip vs))))
  | .dT ks, vs => ks.length = vs.length ∧ (l = false → H a = some (.dT (ks.zip vs))) ∧ (l = true → ∃ od, H a = some (.frz od (.dT (ks.zip vs))))
  | .ins c ns, vs => l = false ∧ ns.length = vs.length ∧ H a = some (.ins (cl c) dx (ns.zip vs)) ∧ H dx = some (.own a) ∧ dx ≠ a
  | .tup, _ => False
  | .wtup, _ => False
  | .wlst, _ => False
mutual
def Per (Hf : Hp) : T → V → Prop
  | .v x, w => w = x ∧ isSc x = true
  | .fz s xs, w => ∃ (a : Addr) (vs : List V), w = .ref a ∧ FzAt K Hf a s vs ∧ PerAll Hf xs vs
  | .ow _ _ _, _ => False
  | .out _, _ => False
def PerAll (Hf : Hp) : List T → List V → Prop
  | [], [] => True
  | t :: ts, w :: ws => Per Hf t w ∧ PerAll Hf ts ws
  | [], _ :: _ => False
  | _ :: _, [] => False
end
mutual
def Rep (Hf H : Hp) : T → V → Rg → Prop
  | .v x, w, _ => w = x ∧ isSc x = true
  | .fz s xs, w, _ => Per K Hf (.fz s xs) w
  | .ow l s xs, w, F => ∃ (a dx : Addr) (vs : List V) (G : Nat → Rg), w = .ref a ∧ F a ∧ (s.isI = true → F dx) ∧ OwAt cl H a dx l s vs ∧
      (∀ i b, G i b → F b ∧ b ≠ a ∧ (s.isI = true → b ≠ dx)) ∧ (∀ i j b, G i b → G j b → i = j) ∧ RepAll Hf H xs vs G 0
  | .out x, w, _ => w = x
def RepAll (Hf H : Hp) : List T → List V → (Nat → Rg) → Nat → Prop
  | [], [], _, _ => True
  | t :: ts, w :: ws, G, n => Rep Hf H t w (G n) ∧ RepAll Hf H ts ws G (n + 1)
  | [], _ :: _, _, _ => False
  | _ :: _, [], _, _ => False
end
end

def Le (Hf Hf' : Hp) : Prop := ∀ a o, Hf a = some o → Hf' a = some o
theorem Le.refl (H : Hp) : Le H H := fun _ _ h => h
theorem Le.trans {A B C : Hp} (h : Le A B) (k : Le B C) : Le A C := fun a o e => k a o (h a o e)
def isDc : HO → Bool
  | .dK _ => true
  | .dT _ => true
  | _ => false
/-- the frozen part within the heap (a dict may be locked for a while) -/
structure W (Hf H : Hp) : Prop where
  fn : ∀ a o, Hf a = some o → H a = some o ∨ ∃ od, isDc o = true ∧ H a = some (.frz od o)
  tp : ∀ b xs, H b = some (.tup xs) → Hf b = some (.tup xs)
instance {Hf H : Hp} : CoeFun (W Hf H) fun _ => ∀ a o, Hf a = some o → H a = some o ∨ ∃ od, isDc o = true ∧ H a = some (.frz od o) := ⟨W.fn⟩

section
variable {K : PySem.W.Frag} {cl : Nat → Addr} {Hf Hf' H H' : Hp}
theorem Rd.le {a : Addr} {u : HO} (e : Le Hf Hf') (h : Rd Hf a u) : Rd Hf' a u := by
  rcases h with h | ⟨o, h⟩
  · exact .inl (e _ _ h)
  · exact .inr ⟨o, e _ _ h⟩
theorem SqT.le {a : Addr} {xs : List V} (e : Le Hf Hf') (h : SqT K Hf a xs) : SqT K Hf' a xs := by
  rcases h with h | h
  · exact .inl (Rd.le e h)
  · exact .inr h
theorem SqL.le {a : Addr} {xs : List V} (e : Le Hf Hf') (h : SqL K Hf a xs) : SqL K Hf' a xs := by
  rcases h with h | h
  · exact .inl (Rd.le e h)
  · exact .inr h
theorem W.sqT {a : Addr} {xs : List V} (w : W Hf H) (h : SqT K Hf a xs) : SqT K H a xs := by
  rcases h with (h | ⟨o, h⟩) | h
  · rcases w _ _ h with e | ⟨od, d, e⟩
    · exact .inl (.inl e)
    · cases d
  · rcases w _ _ h with e | ⟨od, d, e⟩
    · exact .inl (.inr ⟨o, e⟩)
    · cases d
  · exact .inr h
theorem W.sqL {a : Addr} {xs : List V} (w : W Hf H) (h : SqL K Hf a xs) : SqL K H a xs := by
  rcases h with (h | ⟨o, h⟩) | h
  · rcases w _ _ h with e | ⟨od, d, e⟩
    · exact .inl (.inl e)
    · cases d
  · rcases w _ _ h with e | ⟨od, d, e⟩
    · exact .inl (.inr ⟨o, e⟩)
    · cases d
  · exact .inr h
theorem FzAt.sqT {a : Addr} {vs : List V} (w : W Hf H) : ∀ {s : Sh}, (s = .tup ∨ s = .wtup) → FzAt K Hf a s vs → SqT K H a vs
  | .tup, _, h => w.sqT (SqT.of h)
  | .wtup, _, h => w.sqT h
  | .lst, z, _ => by rcases z with z | z <;> cases z
  | .wlst, z, _ => by rcases z with z | z <;> cases z
  | .dK _, z, _ => by rcases z with z | z <;> cases z
  | .dT _, z, _ => by rcases z with z | z <;> cases z
  | .ins _ _, z, _ => by rcases z with z | z <;> cases z
theorem FzAt.sqL {a : Addr} {vs : List V} (w : W Hf H) : ∀ {s : Sh}, (s = .lst ∨ s = .wlst) → FzAt K Hf a s vs → SqL K H a vs
  | .lst, _, h => w.sqL (SqL.of h)
  | .wlst, _, h => w.sqL h
  | .tup, z, _ => by rcases z with z | z <;> cases z
  | .wtup, z, _ => by rcases z with z | z <;> cases z
  | .dK _, z, _ => by rcases z with z | z <;> cases z
  | .dT _, z, _ => by rcases z with z | z <;> cases z
  | .ins _ _, z, _ => by rcases z with z | z <;> cases z
theorem FzAt.le {a : Addr} {s : Sh} {vs : List V} (e : Le Hf Hf') (h : FzAt K Hf a s vs) : FzAt K Hf' a s vs := by
  cases s with
  | tup => exact e _ _ h
  | lst => exact e _ _ h
  | wtup => exact SqT.le e h
  | wlst => exact SqL.le e h
  | dK ks => exact ⟨h.1, e _ _ h.2⟩
  | dT ks => exact ⟨h.1, e _ _ h.2⟩
  | ins c ns => exact h
mutual
theorem Per.le (e : Le Hf Hf') : ∀ (t : T) (w : V), Per K Hf t w → Per K Hf' t w
  | .v x, w, h => h
  | .fz s xs, w, ⟨a, vs, h1, h2, h3⟩ => ⟨a, vs, h1, FzAt.le e h2, PerAll.le e xs vs h3⟩
  | .ow _ _ _, _, h => h.elim
  | .out _, _, h => h.elim
theorem PerAll.le (e : Le Hf Hf') : ∀ (ts : List T) (ws : List V), PerAll K Hf ts ws → PerAll K Hf' ts ws
  | [], [], _ => True.intro
  | t :: ts, w :: ws, h => ⟨Per.le e t w h.1, PerAll.le e ts ws h.2⟩
  | [], _ :: _, h => h.elim
  | _ :: _, [], h => h.elim
end
theorem OwAt.frame {a dx : Addr} {l : Bool} {s : Sh} {vs : List V} (ha : ∀ o, H a = some o → H' a = some o) (hd : s.isI = true → ∀ o, H dx = some o → H' dx = some o) (h : OwAt cl H a dx l s vs) : OwAt cl H' a dx l s vs := by
  cases s with
  | tup => exact h
  | wtup => exact h
  | wlst => exact h
  | lst => exact ⟨h.1, ha _ h.2⟩
  | dK ks => exact ⟨h.1, fun z => ha _ (h.2.1 z), fun z => let ⟨od, e⟩ := h.2.2 z; ⟨od, ha _ e⟩⟩
  | dT ks => exact ⟨h.1, fun z => ha _ (h.2.1 z), fun z => let ⟨od, e⟩ := h.2.2 z; ⟨od, ha _ e⟩⟩
  | ins c ns => exact ⟨h.1, h.2.1, ha _ h.2.2.1, hd rfl _ h.2.2.2.1, h.2.2.2.2⟩
mutual
theorem Rep.frame (e : Le Hf Hf') : ∀ (t : T) (w : V) (F : Rg), (∀ a o, F a → H a = some o → H' a = some o) → Rep K cl Hf H t w F → Rep K cl Hf' H' t w F
  | .v x, w, F, _, h => h
  | .fz s xs, w, F, _, h => Per.le e (.fz s xs) w h
  | .ow l s xs, w, F, k, ⟨a, dx, vs, G, h1, h2, h3, h4, h5, h6, h7⟩ =>
    ⟨a, dx, vs, G, h1, h2, h3, OwAt.frame (fun o q => k _ _ h2 q) (fun z o q => k _ _ (h3 z) q) h4, h5, h6,
      RepAll.frame e xs vs G 0 (fun i a o ga q => k a o (h5 i a ga).1 q) h7⟩
  | .out x, w, F, _, h => h
theorem RepAll.frame (e : Le Hf Hf') : ∀ (ts : List T) (ws : List V) (G : Nat → Rg) (n : Nat), (∀ i a o, G i a → H a = some o → H' a = some o) → RepAll K cl Hf H ts ws G n → RepAll K cl Hf' H' ts ws G n
  | [], [], _, _, _, _ => True.intro
  | t :: ts, w :: ws, G, n, k, h => ⟨Rep.frame e t w (G n) (fun a o g q => k n a o g q) h.1, RepAll.frame e ts ws G (n + 1) k h.2⟩
  | [], _ :: _, _, _, _, h => h.elim
  | _ :: _, [], _, _, _, h => h.elim
end
theorem Rep.weak {F F' : Rg} (k : ∀ a, F a → F' a) : ∀ {t : T} {w : V}, Rep K cl Hf H t w F → Rep K cl Hf H t w F'
  | .v _, _, h => h
  | .fz _ _, _, h => h
  | .ow _ _ _, _, ⟨a, dx, vs, G, h1, h2, h3, h4, h5, h6, h7⟩ => ⟨a, dx, vs, G, h1, k _ h2, fun z => k _ (h3 z), h4, fun i b g => ⟨k _ (h5 i b g).1, (h5 i b g).2⟩, h6, h7⟩
  | .out _, _, h => h
theorem Rep.per {t : T} {w : V} {F : Rg} (p : t.pers = true) (h : Rep K cl Hf H t w F) : Per K Hf t w := by
  cases t with
  | v x => exact h
  | fz s xs => exact h
  | ow l s xs => cases p
  | out x => cases p
theorem Per.rep {t : T} {w : V} {F : Rg} (h : Per K Hf t w) : Rep K cl Hf H t w F := by
  cases t with
  | v x => exact h
  | fz s xs => exact h
  | ow l s xs => exact h.elim
  | out x => exact h.elim
theorem Per.pers {t : T} {w : V} (h : Per K Hf t w) : t.pers = true := by
  cases t with
  | v x => rfl
  | fz s xs => rfl
  | ow l s xs => exact h.elim
  | out x => exact h.elim
/-! ### lists of trees by place -/
theorem PerAll.len : ∀ {ts : List T} {ws : List V}, PerAll K Hf ts ws → ts.length = ws.length
  | [], [], _ => rfl
  | _ :: _, _ :: _, h => congrArg (· + 1) (PerAll.len h.2)
  | [], _ :: _, h => h.elim
  | _ :: _, [], h => h.elim
theorem PerAll.get : ∀ {ts : List T} {ws : List V} {n : Nat} {t : T}, PerAll K Hf ts ws → ts[n]? = some t → ∃ w, ws[n]? = some w ∧ Per K Hf t w
  | [], [], _, _, _, e => by simp at e
  | _ :: _, w :: _, 0, _, h, e => by
    simp at e
    exact ⟨w, rfl, e ▸ h.1⟩
  | _ :: _, _ :: _, n + 1, _, h, e => by
    simp at e
    obtain ⟨w, h1, h2⟩ := PerAll.get h.2 e
    exact ⟨w, by simpa using h1, h2⟩
  | [], _ :: _, _, _, h, _ => h.elim
  | _ :: _, [], _, _, h, _ => h.elim
theorem PerAll.intro : ∀ {ts : List T} {ws : List V}, ts.length = ws.length → (∀ (n : Nat) t w, ts[n]? = some t → ws[n]? = some w → Per K Hf t w) → PerAll K Hf ts ws
  | [], [], _, _ => True.intro
  | t :: ts, w :: ws, l, h => ⟨h 0 t w rfl rfl, PerAll.intro (Nat.succ.inj l) fun n t' w' a b => h (n + 1) t' w' (by simpa using a) (by simpa using b)⟩
  | [], _ :: _, l, _ => by simp at l
  | _ :: _, [], l, _ => by simp at l
theorem RepAll.len : ∀ {ts : List T} {ws : List V} {G : Nat → Rg} {n : Nat}, RepAll K cl Hf H ts ws G n → ts.length = ws.length
  | [], [], _, _, _ => rfl
  | _ :: _, _ :: _, _, _, h => congrArg (· + 1) (RepAll.len h.2)
  | [], _ :: _, _, _, h => h.elim
  | _ :: _, [], _, _, h => h.elim
theorem RepAll.get : ∀ {ts : List T} {ws : List V} {G : Nat → Rg} {m n : Nat} {t : T}, RepAll K cl Hf H ts ws G m → ts[n]? = some t → ∃ w, ws[n]? = some w ∧ Rep K cl Hf H t w (G (m + n))
  | [], [], _, _, _, _, _, e => by simp at e
  | _ :: _, w :: _, _, m, 0, _, h, e => by
    simp at e
    exact ⟨w, rfl, e ▸ h.1⟩
  | _ :: _, _ :: _, _, m, n + 1, _, h, e => by
    simp at e
    obtain ⟨w, h1, h2⟩ := RepAll.get h.2 e
    exact ⟨w, by simpa using h1, by rw [show m + (n + 1) = m + 1 + n by omega]; exact h2⟩
  | [], _ :: _, _, _, _, _, h, _ => h.elim
  | _ :: _, [], _, _, _, _, h, _ => h.elim
theorem RepAll.intro : ∀ {ts : List T} {ws : List V} {G : Nat → Rg} {m : Nat}, ts.length = ws.length → (∀ (n : Nat) t w, ts[n]? = some t → ws[n]? = some w → Rep K cl Hf H t w (G (m + n))) → RepAll K cl Hf H ts ws G m
  | [], [], _, _, _, _ => True.intro
  | t :: ts, w :: ws, G, m, l, h => ⟨h 0 t w rfl rfl, RepAll.intro (Nat.succ.inj l) fun n t' w' a b => by
      rw [show m + 1 + n = m + (n + 1) by omega]
      exact h (n + 1) t' w' (by simpa using a) (by simpa using b)⟩
  | [], _ :: _, _, _, l, _ => by simp at l
  | _ :: _, [], _, _, l, _ => by simp at l
theorem RepAll.getW {ts : List T} {ws : List V} {G : Nat → Rg} {m n : Nat} {w : V} (h : RepAll K cl Hf H ts ws G m) (e : ws[n]? = some w) : ∃ t, ts[n]? = some t ∧ Rep K cl Hf H t w (G (m + n)) := by
  have l := h.len
  have hn := (List.getElem?_eq_some_iff.mp e).1
  have : n < ts.length := by omega
  obtain ⟨w', e', r⟩ := h.get (List.getElem?_eq_getElem this)
  rw [e] at e'
  cases e'
  exact ⟨_, List.getElem?_eq_getElem this, r⟩
theorem PerAll.getW {ts : List T} {ws : List V} {n : Nat} {w : V} (h : PerAll K Hf ts ws) (e : ws[n]? = some w) : ∃ t, ts[n]? = some t ∧ Per K Hf t w := by
  have l := h.len
  have hn := (List.getElem?_eq_some_iff.mp e).1
  have : n < ts.length := by omega
  obtain ⟨w', e', r⟩ := h.get (List.getElem?_eq_getElem this)
  rw [e] at e'
  cases e'
  exact ⟨_, List.getElem?_eq_getElem this, r⟩
end
end Vx

set_option maxRecDepth 100000
/-! Vx2: places within trees; the frame's trees; steps; what an expression gives -/
namespace Vx
open PySem L2

def kids : HO → List V
  | .lst xs => xs
  | .tup xs => xs
  | .dK kvs => kvs.map (·.2)
  | .dT kvs => kvs.map (·.2)
  | .ins _ _ fs => fs.map (·.2)
  | .frz _ u => kids u
  | _ => []
def Reach (H : Hp) : List Nat → V → V → Prop
  | [], v, w => w = v
  | n :: π, v, w => ∃ a o x, v = .ref a ∧ H a = some o ∧ (kids o)[n]? = some x ∧ Reach H π x w
def getAt : List Nat → T → Option T
  | [], t => some t
  | n :: π, .ow _ _ xs => match xs[n]? with
    | some x => getAt π x
    | none => none
  | _ :: _, _ => none
def putAt : List Nat → T → T → Option T
  | [], u, _ => some u
  | n :: π, u, .ow l s xs => match xs[n]? with
    | some x => match putAt π u x with
      | some x' => some (.ow l s (xs.set n x'))
      | none => none
    | none => none
  | _ :: _, _, _ => none

theorem zip_snd {α β : Type} : ∀ {ks : List α} {vs : List β}, ks.length = vs.length → (ks.zip vs).map (·.2) = vs
  | [], [], _ => rfl
  | _ :: _, _ :: _, h => by
    rw [List.zip_cons_cons, List.map_cons, zip_snd (Nat.succ.inj h)]
  | [], _ :: _, h => by simp at h
  | _ :: _, [], h => by simp at h
theorem zip_fst {α β : Type} : ∀ {ks : List α} {vs : List β}, ks.length = vs.length → (ks.zip vs).map (·.1) = ks
  | [], [], _ => rfl
  | _ :: _, _ :: _, h => by
    rw [List.zip_cons_cons, List.map_cons, zip_fst (Nat.succ.inj h)]
  | [], _ :: _, h => by simp at h
  | _ :: _, [], h => by simp at h

/-- the regions of a node's children, that of the n-th one another -/
def upG (G0 : Nat → Rg) (n : Nat) (X : Rg) : Nat → Rg := fun i b => (i = n ∧ X b) ∨ (i ≠ n ∧ G0 i b)
theorem upG_same {G0 : Nat → Rg} {n : Nat} {X : Rg} {b : Addr} (h : X b) : upG G0 n X n b := .inl ⟨rfl, h⟩
theorem upG_ne {G0 : Nat → Rg} {n i : Nat} {X : Rg} {b : Addr} (k : i ≠ n) (h : G0 i b) : upG G0 n X i b := .inr ⟨k, h⟩
section
variable {K : PySem.W.Frag} {cl : Nat → Addr} {Hf Hf' H H' : Hp}
theorem OwAt.kids {a dx : Addr} {l : Bool} {s : Sh} {vs : List V} (h : OwAt cl H a dx l s vs) : ∃ o, H a = some o ∧ kids o = vs := by
  cases s with
  | tup => exact h.elim
  | wtup => exact h.elim
  | wlst => exact h.elim
  | lst => exact ⟨_, h.2, rfl⟩
  | dK ks =>
    cases l with
    | false => exact ⟨_, h.2.1 rfl, zip_snd h.1⟩
    | true => obtain ⟨od, e⟩ := h.2.2 rfl; exact ⟨_, e, zip_snd h.1⟩
  | dT ks =>
    cases l with
    | false => exact ⟨_, h.2.1 rfl, zip_snd h.1⟩
    | true => obtain ⟨od, e⟩ := h.2.2 rfl; exact ⟨_, e, zip_snd h.1⟩
  | ins c ns => exact ⟨_, h.2.2.1, zip_snd h.2.1⟩
theorem reach_det : ∀ {π : List Nat} {v w w' : V}, Reach H π v w → Reach H π v w' → w = w'
  | [], _, _, _, h, k => h.trans k.symm
  | n :: π, _, _, _, ⟨a, o, x, h1, h2, h3, h4⟩, ⟨a', o', x', k1, k2, k3, k4⟩ => by
    rw [h1] at k1
    cases k1
    rw [h2] at k2
    cases k2
    rw [h3] at k3
    cases k3
    exact reach_det h4 k4
/-- a part of a tree, and the tree put together again around another part -/
theorem focus : ∀ (π : List Nat) (t : T) (v : V) (F : Rg) (u : T), Rep K cl Hf H t v F → getAt π t = some u →
    ∃ (w : V) (G : Rg), Rep K cl Hf H u w G ∧ (∀ a, G a → F a) ∧ Reach H π v w ∧
      ∀ (Hf' H' : Hp) (u' : T) (G' : Rg), Le Hf Hf' → (∀ a o, F a → ¬ G a → H a = some o → H' a = some o) → Rep K cl Hf' H' u' w G' → (∀ a, G' a → F a → G a) →
        ∃ t', putAt π u' t = some t' ∧ Rep K cl Hf' H' t' v (fun a => (F a ∧ ¬ G a) ∨ G' a)
  | [], t, v, F, u, h, e => by
    cases e
    exact ⟨v, F, h, fun _ g => g, rfl, fun Hf' H' u' G' _ _ h' _ => ⟨u', rfl, h'.weak fun a g => .inr g⟩⟩
  | n :: π, .v _, v, F, u, h, e => by cases e
  | n :: π, .fz _ _, v, F, u, h, e => by cases e
  | n :: π, .out _, v, F, u, h, e => by cases e
  | n :: π, .ow l s xs, v, F, u, ⟨a, dx, vs, G0, h1, h2, h3, h4, h5, h6, h7⟩, e => by
    unfold getAt at e
    cases ex : xs[n]? with
    | none => rw [ex] at e; cases e
    | some x =>
      rw [ex] at e
      obtain ⟨wx, e1, r1⟩ := h7.get ex
      rw [Nat.zero_add] at r1
      obtain ⟨w, G, g1, g2, g3, g4⟩ := focus π x wx (G0 n) u r1 e
      obtain ⟨o, ho, hk⟩ := h4.kids
      refine ⟨w, G, g1, fun b g => (h5 n b (g2 b g)).1, ⟨a, o, wx, h1, ho, by rw [hk]; exact e1, g3⟩, fun Hf' H' u' G' le fr r' dj => ?_⟩
      have sub : ∀ b, G b → F b := fun b g => (h5 n b (g2 b g)).1
      obtain ⟨x', p1, p2⟩ := g4 Hf' H' u' G' le (fun b o fb gb q => fr b o (h5 n b fb).1 gb q) r' (fun b g fb => dj b g (h5 n b fb).1)
      refine ⟨.ow l s (xs.set n x'), by unfold putAt; rw [ex]; show (match putAt π u' x with | some x' => some (T.ow l s (xs.set n x')) | none => none) = _; rw [p1], ?_⟩
      have na : ¬ G a := fun g => (h5 n a (g2 a g)).2.1 rfl
      have nd : s.isI = true → ¬ G dx := fun z g => (h5 n dx (g2 dx g)).2.2 z rfl
      refine ⟨a, dx, vs, upG G0 n (fun b => (G0 n b ∧ ¬ G b) ∨ G' b), h1, .inl ⟨h2, na⟩, fun z => .inl ⟨h3 z, nd z⟩, OwAt.frame (fun o q => fr a o h2 na q) (fun z o q => fr dx o (h3 z) (nd z) q) h4, fun i b g => ?_, fun i j b gi gj => ?_, ?_⟩
      · rcases g with ⟨hi, g | g⟩ | ⟨hi, g⟩
        · exact ⟨.inl ⟨(h5 n b g.1).1, g.2⟩, (h5 n b g.1).2⟩
        · exact ⟨.inr g, fun z => na (dj a (z ▸ g) h2), fun z q => nd z (dj dx (q ▸ g) (h3 z))⟩
        · exact ⟨.inl ⟨(h5 i b g).1, fun z => hi (h6 i n b g (g2 b z))⟩, (h5 i b g).2⟩
      · have key : ∀ k, k ≠ n → G0 k b → ((G0 n b ∧ ¬ G b) ∨ G' b) → False := fun k hk gk gn => by
          rcases gn with gn | gn
          · exact hk (h6 k n b gk gn.1)
          · exact hk (h6 k n b gk (g2 b (dj b gn (h5 k b gk).1)))
        rcases gi with ⟨hi, gi⟩ | ⟨hi, gi⟩
        · rcases gj with ⟨hj, gj⟩ | ⟨hj, gj⟩
          · rw [hi, hj]
          · exact (key j hj gj gi).elim
        · rcases gj with ⟨hj, gj⟩ | ⟨hj, gj⟩
          · exact (key i hi gi gj).elim
          · exact h6 i j b gi gj
      · refine RepAll.intro (by rw [List.length_set]; exact h7.len) fun m t2 w' et ew => ?_
        rw [Nat.zero_add]
        by_cases hm : m = n
        · subst hm
          have hlt := (List.getElem?_eq_some_iff.mp ex).1
          rw [List.getElem?_set_self hlt] at et
          cases et
          rw [e1] at ew
          cases ew
          exact p2.weak fun b g => upG_same g
        · rw [List.getElem?_set_ne (Ne.symm hm)] at et
          obtain ⟨w2, e2, r2⟩ := h7.get et
          rw [e2] at ew
          cases ew
          rw [Nat.zero_add] at r2
          have r3 : Rep K cl Hf' H' t2 w' (G0 m) := Rep.frame le _ _ _ (fun b o g q => fr b o (h5 m b g).1 (fun z => hm (h6 m n b g (g2 b z))) q) r2
          exact r3.weak (F' := upG G0 n (fun b => (G0 n b ∧ ¬ G b) ∨ G' b) m) fun b g => upG_ne hm g
theorem reach_frame : ∀ (π : List Nat) (t : T) (v : V) (F : Rg) (u : T) (w : V), Rep K cl Hf H t v F → getAt π t = some u → (∀ a o, F a → H a = some o → H' a = some o) → Reach H π v w → Reach H' π v w
  | [], t, v, F, u, w, h, e, fr, r => r
  | n :: π, .v _, v, F, u, w, h, e, fr, r => by cases e
  | n :: π, .fz _ _, v, F, u, w, h, e, fr, r => by cases e
  | n :: π, .out _, v, F, u, w, h, e, fr, r => by cases e
  | n :: π, .ow l s xs, v, F, u, w, ⟨a, dx, vs, G0, h1, h2, h3, h4, h5, h6, h7⟩, e, fr, ⟨a', o, x, k1, k2, k3, k4⟩ => by
    unfold getAt at e
    cases ex : xs[n]? with
    | none => rw [ex] at e; cases e
    | some xt =>
      rw [ex] at e
      obtain ⟨wx, e1, r1⟩ := h7.get ex
      rw [Nat.zero_add] at r1
      obtain ⟨o', ho, hk⟩ := h4.kids
      rw [h1] at k1
      cases k1
      rw [ho] at k2
      cases k2
      rw [hk, e1] at k3
      cases k3
      exact ⟨_, _, _, h1, fr _ _ h2 ho, by rw [hk]; exact e1, reach_frame π _ _ (G0 n) u w r1 e (fun b o g q => fr b o (h5 n b g).1 q) k4⟩
end

/-! ### the frame -/
abbrev Ge := List (Option T)
structure ER (K : PySem.W.Frag) (cl : Nat → Addr) (Hf H : Hp) (σ : St) (Γ : Ge) (R : Nat → Rg) : Prop where
  w : W Hf H
  len : Γ.length = σ.length
  rep : ∀ (i : Nat) t, Γ[i]? = some (some t) → ∃ v, σ[i]? = some (some v) ∧ Rep K cl Hf H t v (R i)
  dis : ∀ i j a, R i a → R j a → i = j
  trk : ∀ i a, R i a → H a ≠ none ∧ Hf a = none
/-- from one moment to a later one: what lies outside the frame's trees stands; those not in M stand; new things are new -/
structure Stp (Hf H : Hp) (R : Nat → Rg) (M : List Nat) (Hf' H' : Hp) (R' : Nat → Rg) (S : Rg) : Prop where
  fr : ∀ a o, H a = some o → (∀ i, ¬ R i a) → H' a = some o
  kp : ∀ i, i ∉ M → R' i = R i ∧ ∀ a o, R i a → H a = some o → H' a = some o
  nw : ∀ i a, R' i a → (∃ j, R j a) ∨ H a = none
  ns : ∀ a, S a → (∃ j, R j a) ∨ H a = none
  le : Le Hf Hf'
  nf : ∀ a o, Hf' a = some o → Hf a = some o ∨ (∃ j, R j a) ∨ H a = none
/-- a result: a tree of its own, or a place in the frame -/
inductive Rs where
  | val (t : T)
  | at (i : Nat) (π : List Nat)
def Rs.free : Rs → List Nat → Bool
  | .val _, _ => true
  | .at i _, M => !M.contains i
def getT (Γ : Ge) : Rs → Option T
  | .val t => some t
  | .at i π => match Γ[i]? with
    | some (some t) => getAt π t
    | _ => none
def No : Rg := fun _ => False
section
variable (K : PySem.W.Frag) (cl : Nat → Addr)
def RsOk (Hf H : Hp) (σ : St) (Γ : Ge) (R : Nat → Rg) (r : Rs) (v : V) (S : Rg) : Prop := match r with
  | .val t => Rep K cl Hf H t v S ∧ (∀ i a, S a → ¬ R i a) ∧ (∀ a, S a → H a ≠ none ∧ Hf a = none)
  | .at i π => S = No ∧ ∃ t u v0, Γ[i]? = some (some t) ∧ σ[i]? = some (some v0) ∧ getAt π t = some u ∧ Reach H π v0 v
/-- what an expression's reading gives -/
def EvOk (M : List Nat) (te : TE) (f : Ge → Option (Ge × Rs)) : Prop :=
  ∀ (Hf H : Hp) (σ : St) (Γ : Ge) (R : Nat → Rg), ER K cl Hf H σ Γ R → ∀ Γ' r, f Γ = some (Γ', r) → ∀ Q : VK,
    (∀ Hf' H' R' S v, Stp Hf H R M Hf' H' R' S → ER K cl Hf' H' σ Γ' R' → (∀ i, i ∉ M → Γ'[i]? = Γ[i]?) → RsOk K cl Hf' H' σ Γ' R' r v S → Q v H') → te σ H Q
def EvTOk (M : List Nat) (tt : TT) (f : Ge → Option (Ge × Bool)) : Prop :=
  ∀ (Hf H : Hp) (σ : St) (Γ : Ge) (R : Nat → Rg), ER K cl Hf H σ Γ R → ∀ Γ' b, f Γ = some (Γ', b) → ∀ Q : Bool → Hp → Prop,
    (∀ Hf' H' R', Stp Hf H R M Hf' H' R' No → ER K cl Hf' H' σ Γ' R' → (∀ i, i ∉ M → Γ'[i]? = Γ[i]?) → Q b H') → tt σ H Q
end

section
variable {K : PySem.W.Frag} {cl : Nat → Addr} {Hf Hf1 Hf2 Hf' H H1 H2 H' : Hp} {R R1 R2 R' : Nat → Rg} {M M1 M2 : List Nat} {S S1 S2 : Rg} {σ : St} {Γ Γ1 Γ2 Γ' : Ge}
theorem Stp.refl : Stp Hf H R M Hf H R No :=
  ⟨fun _ _ h _ => h, fun _ _ => ⟨rfl, fun _ _ _ h => h⟩, fun i _ h => .inl ⟨i, h⟩, fun _ h => h.elim, Le.refl _, fun _ _ h => .inl h⟩
theorem Stp.noneBack (h : Stp Hf H R M Hf1 H1 R1 S1) {a : Addr} (e : H1 a = none) : (∃ j, R j a) ∨ H a = none := by
  cases q : H a with
  | none => exact .inr rfl
  | some o =>
    by_cases z : ∃ j, R j a
    · exact .inl z
    · have := h.fr a o q fun i r => z ⟨i, r⟩
      rw [e] at this
      cases this
theorem Stp.trans (h : Stp Hf H R M1 Hf1 H1 R1 S1) (k : Stp Hf1 H1 R1 M2 Hf2 H2 R2 S2) : Stp Hf H R (M1 ++ M2) Hf2 H2 R2 S2 where
  fr := fun a o e n => k.fr a o (h.fr a o e n) fun i r => by
    rcases h.nw i a r with z | z
    · exact z.elim fun j q => n j q
    · rw [e] at z; cases z
  kp := fun i hi => by
    have n1 : i ∉ M1 := fun z => hi (List.mem_append_left _ z)
    have n2 : i ∉ M2 := fun z => hi (List.mem_append_right _ z)
    obtain ⟨a1, a2⟩ := h.kp i n1
    obtain ⟨b1, b2⟩ := k.kp i n2
    exact ⟨b1.trans a1, fun a o r e => b2 a o (by rw [a1]; exact r) (a2 a o r e)⟩
  nw := fun i a r => by
    rcases k.nw i a r with ⟨j, z⟩ | z
    · exact h.nw j a z
    · exact h.noneBack z
  ns := fun a r => by
    rcases k.ns a r with ⟨j, z⟩ | z
    · exact h.nw j a z
    · exact h.noneBack z
  le := h.le.trans k.le
  nf := fun a o e => by
    rcases k.nf a o e with z | ⟨j, z⟩ | z
    · exact h.nf a o z
    · exact .inr (h.nw j a z)
    · exact .inr (h.noneBack z)
theorem Stp.more (h : Stp Hf H R M Hf1 H1 R1 S) (k : ∀ i, i ∈ M → i ∈ M2) : Stp Hf H R M2 Hf1 H1 R1 S :=
  ⟨h.fr, fun i n => h.kp i fun z => n (k i z), h.nw, h.ns, h.le, h.nf⟩
theorem Stp.noS (h : Stp Hf H R M Hf1 H1 R1 S) : Stp Hf H R M Hf1 H1 R1 No :=
  ⟨h.fr, h.kp, h.nw, fun _ z => z.elim, h.le, h.nf⟩
/-- a result of before holds behind a further step that leaves its root alone -/
theorem RsOk.keep {r : Rs} {v : V} (I : ER K cl Hf1 H1 σ Γ1 R1) (h : RsOk K cl Hf1 H1 σ Γ1 R1 r v S1) (k : Stp Hf1 H1 R1 M2 Hf2 H2 R2 S2) (g : ∀ i, i ∉ M2 → Γ2[i]? = Γ1[i]?) (f : r.free M2 = true) : RsOk K cl Hf2 H2 σ Γ2 R2 r v S1 := by
  cases r with
  | val t =>
    obtain ⟨h1, h2, h3⟩ := h
    have fr : ∀ a o, S1 a → H1 a = some o → H2 a = some o := fun a o s e => k.fr a o e fun i => h2 i a s
    refine ⟨Rep.frame k.le _ _ _ fr h1, fun i a s r => ?_, fun a s => ⟨?_, ?_⟩⟩
    · rcases k.nw i a r with ⟨j, z⟩ | z
      · exact h2 j a s z
      · exact (h3 a s).1 z
    · cases q : H1 a with
      | none => exact absurd q (h3 a s).1
      | some o => rw [fr a o s q]; exact fun z => nomatch z
    · cases q : Hf2 a with
      | none => rfl
      | some o =>
        rcases k.nf a o q with z | ⟨j, z⟩ | z
        · rw [(h3 a s).2] at z; cases z
        · exact absurd z (h2 j a s)
        · exact absurd z (h3 a s).1
  | «at» i π =>
    obtain ⟨e0, t, u, v0, e1, e2, e3, e4⟩ := h
    have n : i ∉ M2 := by
      intro z
      simp [Rs.free, z] at f
    obtain ⟨v1, f1, f2⟩ := I.rep i t e1
    rw [e2] at f1
    cases f1
    exact ⟨e0, t, u, v0, by rw [g i n]; exact e1, e2, e3, reach_frame π t v0 (R1 i) u v f2 e3 (k.kp i n).2 e4⟩
theorem S_dis {r : Rs} {v : V} (h : RsOk K cl Hf1 H1 σ Γ1 R1 r v S1) (k : Stp Hf1 H1 R1 M2 Hf2 H2 R2 S2) : ∀ a, S1 a → ¬ S2 a := fun a s s2 => by
  cases r with
  | val t =>
    obtain ⟨h1, h2, h3⟩ := h
    rcases k.ns a s2 with ⟨j, z⟩ | z
    · exact h2 j a s z
    · exact (h3 a s).1 z
  | «at» i π =>
    rw [h.1] at s
    exact s
/-- what a result is, as a tree -/
theorem RsOk.view {r : Rs} {v : V} {u : T} (I : ER K cl Hf H σ Γ R) (h : RsOk K cl Hf H σ Γ R r v S) (e : getT Γ r = some u) : ∃ G, Rep K cl Hf H u v G ∧ ∀ a, G a → S a ∨ ∃ i, R i a := by
  cases r with
  | val t =>
    cases e
    exact ⟨S, h.1, fun a s => .inl s⟩
  | «at» i π =>
    obtain ⟨_, t, u', v0, e1, e2, e3, e4⟩ := h
    unfold getT at e
    dsimp only at e
    rw [e1] at e
    obtain ⟨v1, f1, f2⟩ := I.rep i t e1
    rw [e2] at f1
    cases f1
    obtain ⟨w, G, g1, g2, g3, _⟩ := focus π t v0 (R i) u f2 e
    cases reach_det g3 e4
    exact ⟨G, g1, fun a g => .inr ⟨i, g2 a g⟩⟩

/-! ### steps that only make new things -/
structure Al (Hf H Hf' H' : Hp) (S : Rg) : Prop where
  le : Le H H'
  lf : Le Hf Hf'
  w : W Hf' H'
  sn : ∀ a, S a → H a = none ∧ H' a ≠ none ∧ Hf' a = none
  nf : ∀ a o, Hf' a = some o → Hf a = some o ∨ H a = none
theorem Al.refl (w : W Hf H) : Al Hf H Hf H No := ⟨Le.refl _, Le.refl _, w, fun _ z => z.elim, fun _ _ e => .inl e⟩
theorem Al.stp (h : Al Hf H Hf' H' S) : Stp Hf H R M Hf' H' R S :=
  ⟨fun a o e _ => h.le a o e, fun _ _ => ⟨rfl, fun a o _ e => h.le a o e⟩, fun i _ r => .inl ⟨i, r⟩, fun a s => .inr (h.sn a s).1, h.lf, fun a o e => (h.nf a o e).elim .inl fun z => .inr (.inr z)⟩
theorem Al.er (I : ER K cl Hf H σ Γ R) (h : Al Hf H Hf' H' S) : ER K cl Hf' H' σ Γ R where
  w := h.w
  len := I.len
  rep := fun i t e => let ⟨v, a, b⟩ := I.rep i t e; ⟨v, a, Rep.frame h.lf _ _ _ (fun b o _ q => h.le b o q) b⟩
  dis := I.dis
  trk := fun i a r => by
    obtain ⟨n, f⟩ := I.trk i a r
    refine ⟨?_, ?_⟩
    · cases q : H a with
      | none => exact absurd q n
      | some o => rw [h.le a o q]; exact fun z => nomatch z
    · cases q : Hf' a with
      | none => rfl
      | some o =>
        rcases h.nf a o q with z | z
        · rw [f] at z; cases z
        · exact absurd z n
/-- its new tree -/
theorem Al.rs (I : ER K cl Hf H σ Γ R) (h : Al Hf H Hf' H' S) {t : T} {v : V} (r : Rep K cl Hf' H' t v S) : RsOk K cl Hf' H' σ Γ R (.val t) v S :=
  ⟨r, fun i a s q => (I.trk i a q).1 (h.sn a s).1, fun a s => ⟨(h.sn a s).2.1, (h.sn a s).2.2⟩⟩
end
end Vx

set_option maxRecDepth 100000
/-! Vx3: expressions -/
namespace Vx
open PySem L2

section
variable {K : PySem.W.Frag} {cl : Nat → Addr} {M Ma Mb : List Nat} {ta tb te : TE} {fa fb f : Ge → Option (Ge × Rs)}

theorem EvOk.more {M' : List Nat} (h : EvOk K cl M te f) (k : ∀ i, i ∈ M → i ∈ M') : EvOk K cl M' te f := fun Hf H σ Γ R I Γ' r e Q q =>
  h Hf H σ Γ R I Γ' r e Q fun Hf' H' R' S v st I' g rs => q Hf' H' R' S v (st.more k) I' (fun i n => g i fun z => n (k i z)) rs
/-- two readings of one expression: the one that the trees choose -/
def tEi (t u : TE) : TE := fun σ H Q => t σ H Q ∨ u σ H Q
theorem pe_ei {X : Cx} {e : Expr} {t u : TE} (h : PE X e t) (k : PE X e u) : PE X e (tEi t u) := ⟨fun pins s σ H Q I q => q.elim (h.run pins s σ H Q I) (k.run pins s σ H Q I)⟩
def fEi (f g : Ge → Option (Ge × Rs)) : Ge → Option (Ge × Rs) := fun Γ => match f Γ with
  | some r => some r
  | none => g Γ
theorem EvOk.ei {t u : TE} {f g : Ge → Option (Ge × Rs)} (h : EvOk K cl M t f) (k : EvOk K cl M u g) : EvOk K cl M (tEi t u) (fEi f g) := fun Hf H σ Γ R I Γ' r e Q q => by
  unfold fEi at e
  cases ef : f Γ with
  | some r' =>
    rw [ef] at e
    exact .inl (h Hf H σ Γ R I Γ' r (ef.trans e) Q q)
  | none =>
    rw [ef] at e
    exact .inr (k Hf H σ Γ R I Γ' r e Q q)

/-! ### constants, names -/
def fC (x : V) : Ge → Option (Ge × Rs) := fun Γ => some (Γ, .val (.v x))
theorem ev_c {x : V} (hs : isSc x = true) : EvOk K cl [] (tC x) (fC x) := fun Hf H σ Γ R I Γ' r e Q q => by
  cases e
  exact q Hf H R No x Stp.refl I (fun _ _ => rfl) ⟨⟨rfl, hs⟩, fun _ _ z => z.elim, fun _ z => z.elim⟩
def fVar (i : Nat) : Ge → Option (Ge × Rs) := fun Γ => match Γ[i]? with
  | some (some t) => some (Γ, if t.pers then .val t else .at i [])
  | _ => none
theorem ev_var {i : Nat} : EvOk K cl [] (tVar i) (fVar i) := fun Hf H σ Γ R I Γ' r e Q q => by
  unfold fVar at e
  cases ei : Γ[i]? with
  | none => rw [ei] at e; cases e
  | some o =>
    cases o with
    | none => rw [ei] at e; cases e
    | some t =>
      rw [ei] at e
      obtain ⟨v, h1, h2⟩ := I.rep i t ei
      have e := Option.some.inj e
      cases e
      refine ⟨v, h1, q Hf H R No v Stp.refl I (fun _ _ => rfl) ?_⟩
      cases p : t.pers with
      | true =>
        rw [if_pos rfl]
        exact ⟨(h2.per p).rep, fun _ _ z => z.elim, fun _ z => z.elim⟩
      | false =>
        rw [if_neg Bool.false_ne_true]
        exact ⟨rfl, t, t, v, ei, h1, rfl, rfl⟩
/-- a constant of the module that is told as a frozen tree -/
theorem ev_glob {x : V} {t : T} (h : ∀ Hf, Per K Hf t x) : EvOk K cl [] (tC x) (fun Γ => some (Γ, .val t)) := fun Hf H σ Γ R I Γ' r e Q q => by
  cases e
  exact q Hf H R No x Stp.refl I (fun _ _ => rfl) ⟨(h Hf).rep, fun _ _ z => z.elim, fun _ z => z.elim⟩

/-! ### operations on values -/
variable (K cl)
def PR2 (r : R2) (g : T → T → Option T) : Prop := ∀ (Hf H : Hp) (x y : V) (tx ty tz : T) (Fx Fy : Rg), W Hf H → Rep K cl Hf H tx x Fx → Rep K cl Hf H ty y Fy → g tx ty = some tz →
  ∀ Q : VK, (∀ Hf' H' z S, Al Hf H Hf' H' S → Rep K cl Hf' H' tz z S → Q z H') → r x y H Q
def PR1 (r : V → Hp → VK → Prop) (g : T → Option T) : Prop := ∀ (Hf H : Hp) (x : V) (tx tz : T) (Fx : Rg), W Hf H → Rep K cl Hf H tx x Fx → g tx = some tz →
  ∀ Q : VK, (∀ Hf' H' z S, Al Hf H Hf' H' S → Rep K cl Hf' H' tz z S → Q z H') → r x H Q
variable {K cl}
def f2 (M : List Nat) (g : T → T → Option T) (fa fb : Ge → Option (Ge × Rs)) : Ge → Option (Ge × Rs) := fun Γ =>
  (fa Γ).bind fun p => (fb p.1).bind fun q => if p.2.free M = true then (getT q.1 p.2).bind fun a => (getT q.1 q.2).bind fun b => (g a b).map fun c => (q.1, .val c) else none
def f1 (g : T → Option T) (fa : Ge → Option (Ge × Rs)) : Ge → Option (Ge × Rs) := fun Γ =>
  (fa Γ).bind fun p => (getT p.1 p.2).bind fun a => (g a).map fun c => (p.1, .val c)

/-- two expressions, one behind the other -/
theorem ev_seq (ha : EvOk K cl Ma ta fa) (hb : EvOk K cl Mb tb fb) {Hf H : Hp} {σ : St} {Γ Γ1 Γ2 : Ge} {R : Nat → Rg} {ra rb : Rs} (I : ER K cl Hf H σ Γ R) (e1 : fa Γ = some (Γ1, ra)) (e2 : fb Γ1 = some (Γ2, rb)) (fr : ra.free Mb = true)
    {QQ : V → V → Hp → Prop} (k : ∀ Hf' H' R' S1 S2 v1 v2, Stp Hf H R (Ma ++ Mb) Hf' H' R' (fun a => S1 a ∨ S2 a) → ER K cl Hf' H' σ Γ2 R' → (∀ i, i ∉ Ma ++ Mb → Γ2[i]? = Γ[i]?) →
      RsOk K cl Hf' H' σ Γ2 R' ra v1 S1 → RsOk K cl Hf' H' σ Γ2 R' rb v2 S2 → (∀ a, S1 a → ¬ S2 a) → QQ v1 v2 H') : ta σ H fun x H1 => tb σ H1 fun y H2 => QQ x y H2 := by
  refine ha Hf H σ Γ R I Γ1 ra e1 _ fun Hf1 H1 R1 S1 v1 st1 I1 g1 r1 => ?_
  refine hb Hf1 H1 σ Γ1 R1 I1 Γ2 rb e2 _ fun Hf2 H2 R2 S2 v2 st2 I2 g2 r2 => ?_
  have st := st1.trans st2
  refine k Hf2 H2 R2 S1 S2 v1 v2 ⟨st.fr, st.kp, st.nw, fun a s => ?_, st.le, st.nf⟩ I2 (fun i n => (g2 i fun z => n (List.mem_append_right _ z)).trans (g1 i fun z => n (List.mem_append_left _ z))) (r1.keep I1 st2 g2 fr) r2 (S_dis r1 st2)
  rcases s with s | s
  · exact st1.ns a s
  · exact st.ns a s
theorem ev2 {r : R2} {g : T → T → Option T} (h : PR2 K cl r g) (ha : EvOk K cl Ma ta fa) (hb : EvOk K cl Mb tb fb) : EvOk K cl (Ma ++ Mb) (tOp r ta tb) (f2 Mb g fa fb) := fun Hf H σ Γ R I Γ' r0 e Q q => by
  unfold f2 at e
  cases e1 : fa Γ with
  | none => rw [e1] at e; cases e
  | some p =>
    obtain ⟨Γ1, ra⟩ := p
    rw [e1, Option.bind_some] at e
    cases e2 : fb Γ1 with
    | none => rw [e2] at e; cases e
    | some p2 =>
      obtain ⟨Γ2, rb⟩ := p2
      rw [e2, Option.bind_some] at e
      dsimp only at e
      by_cases fr : ra.free Mb = true
      · rw [if_pos fr] at e
        cases e3 : getT Γ2 ra with
        | none => rw [e3] at e; cases e
        | some a =>
          rw [e3, Option.bind_some] at e
          cases e4 : getT Γ2 rb with
          | none => rw [e4] at e; cases e
          | some b =>
            rw [e4, Option.bind_some] at e
            cases e5 : g a b with
            | none => rw [e5] at e; cases e
            | some c =>
              rw [e5, Option.map_some] at e
              cases e
              refine ev_seq ha hb I e1 e2 fr fun Hf2 H2 R2 S1 S2 v1 v2 st I2 g2 r1 r2 dj => ?_
              obtain ⟨G1, w1, _⟩ := r1.view I2 e3
              obtain ⟨G2, w2, _⟩ := r2.view I2 e4
              refine h Hf2 H2 v1 v2 a b c G1 G2 I2.w w1 w2 e5 Q fun Hf3 H3 z S al rz => ?_
              have st' := st.trans (M2 := []) (al.stp (R := R2))
              exact q Hf3 H3 R2 S z (st'.more fun i z => by rw [List.append_nil] at z; exact z) (al.er I2) g2 (al.rs I2 rz)
      · rw [if_neg fr] at e
        cases e
theorem ev1 {r : V → Hp → VK → Prop} {g : T → Option T} (h : PR1 K cl r g) (ha : EvOk K cl M ta fa) : EvOk K cl M (tUn r ta) (f1 g fa) := fun Hf H σ Γ R I Γ' r0 e Q q => by
  unfold f1 at e
  cases e1 : fa Γ with
  | none => rw [e1] at e; cases e
  | some p =>
    obtain ⟨Γ1, ra⟩ := p
    rw [e1, Option.bind_some] at e
    dsimp only at e
    cases e3 : getT Γ1 ra with
    | none => rw [e3] at e; cases e
    | some a =>
      rw [e3, Option.bind_some] at e
      cases e5 : g a with
      | none => rw [e5] at e; cases e
      | some c =>
        rw [e5, Option.map_some] at e
        cases e
        refine ha Hf H σ Γ R I _ ra e1 _ fun Hf1 H1 R1 S1 v1 st1 I1 g1 r1 => ?_
        obtain ⟨G1, w1, _⟩ := r1.view I1 e3
        refine h Hf1 H1 v1 a c G1 I1.w w1 e5 Q fun Hf3 H3 z S al rz => ?_
        have st' := st1.trans (M2 := []) (al.stp (R := R1))
        exact q Hf3 H3 R1 S z (st'.more fun i z => by rw [List.append_nil] at z; exact z) (al.er I1) g1 (al.rs I1 rz)
/-- either rule -/
def gEi (g h : T → T → Option T) : T → T → Option T := fun a b => match g a b with
  | some c => some c
  | none => h a b
theorem PR2.ei {r r' : R2} {g g' : T → T → Option T} (h : PR2 K cl r g) (k : PR2 K cl r' g') : PR2 K cl (fun x y H Q => r x y H Q ∨ r' x y H Q) (gEi g g') := fun Hf H x y tx ty tz Fx Fy w rx ry e Q q => by
  unfold gEi at e
  cases eg : g tx ty with
  | some c =>
    rw [eg] at e
    exact .inl (h Hf H x y tx ty tz Fx Fy w rx ry (eg.trans e) Q q)
  | none =>
    rw [eg] at e
    exact .inr (k Hf H x y tx ty tz Fx Fy w rx ry e Q q)
theorem OpR.ei {X : Cx} {f : Value → Value → Sem Value} {r r' : R2} (h : OpR X f r) (k : OpR X f r') : OpR X f (fun x y H Q => r x y H Q ∨ r' x y H Q) := fun pins s σ H x y v u Q I rx ry q =>
  q.elim (h pins s σ H x y v u Q I rx ry) (k pins s σ H x y v u Q I rx ry)
theorem CallR.ei {X : Cx} {f : Value} {r r' : List V → Hp → VK → Prop} (h : CallR X f r) (k : CallR X f r') : CallR X f (fun xs H Q => r xs H Q ∨ r' xs H Q) := fun pins s σ H xs us Q I rx q =>
  q.elim (h pins s σ H xs us Q I rx) (k pins s σ H xs us Q I rx)

/-! ### ints -/
def T.int (i : Int) : T := .v (.int i)
def T.bl (b : Bool) : T := .v (.bl b)
def T.str (s : Str) : T := .v (.str s)
def T.non : T := .v .non
def gI (h : Int → Int → Option V) : T → T → Option T
  | .v (.int i), .v (.int j) => (h i j).map T.v
  | _, _ => none
theorem gI_some {h : Int → Int → Option V} {a b c : T} (e : gI h a b = some c) : ∃ i j v, a = .v (.int i) ∧ b = .v (.int j) ∧ h i j = some v ∧ c = .v v := by
  unfold gI at e
  split at e
  · cases q : h _ _ with
    | none => rw [q] at e; cases e
    | some v =>
      rw [q, Option.map_some] at e
      cases e
      exact ⟨_, _, v, rfl, rfl, q, rfl⟩
  · cases e
theorem Al.sc {Hf H : Hp} {x : V} (w : W Hf H) (hs : isSc x = true) : Al Hf H Hf H No ∧ Rep K cl Hf H (.v x) x No := ⟨Al.refl w, rfl, hs⟩
theorem pr_I0 {g : Int → Int → V} (hs : ∀ i j, isSc (g i j) = true) : PR2 K cl (rI0 g) (gI fun i j => some (g i j)) := fun Hf H x y tx ty tz Fx Fy w rx ry e Q q => by
  obtain ⟨i, j, v, rfl, rfl, e1, rfl⟩ := gI_some e
  cases e1
  exact ⟨i, j, rx.1, ry.1, q Hf H _ No (Al.refl w) ⟨rfl, hs i j⟩⟩
theorem pr_I {C : Int → Int → Prop} {g : Int → Int → V} (c : Int → Int → Bool) (hc : ∀ i j, c i j = true → C i j) (hs : ∀ i j, isSc (g i j) = true) : PR2 K cl (rI C g) (gI fun i j => if c i j = true then some (g i j) else none) := fun Hf H x y tx ty tz Fx Fy w rx ry e Q q => by
  obtain ⟨i, j, v, rfl, rfl, e1, rfl⟩ := gI_some e
  split at e1
  · rename_i h
    cases e1
    exact ⟨i, j, rx.1, ry.1, hc i j h, q Hf H _ No (Al.refl w) ⟨rfl, hs i j⟩⟩
  · cases e1
def cMul (i j : Int) : Bool := (decide (-(2 ^ 64) < i) && decide (i < 2 ^ 64)) || (decide (-(2 ^ 64) < j) && decide (j < 2 ^ 64))
theorem cMul_ok (i j : Int) (h : cMul i j = true) : CMul i j := by
  unfold cMul at h
  simp only [Bool.or_eq_true, Bool.and_eq_true, decide_eq_true_eq] at h
  exact h
def cDiv (_ j : Int) : Bool := decide (0 < j) && decide (j < 2 ^ 200)
theorem cDiv_ok (i j : Int) (h : cDiv i j = true) : CDivW i j := by
  unfold cDiv at h
  simp only [Bool.and_eq_true, decide_eq_true_eq] at h
  exact wide_div (b := 200) h.1 (by omega) (by decide) (by decide)
def cPos (_ j : Int) : Bool := decide (0 < j)
def cNn (_ j : Int) : Bool := decide (0 ≤ j)
def cPow (i j : Int) : Bool := decide (0 ≤ j) && decide (j ≤ 1000000) && decide (i.natAbs < 2 ^ 64)
theorem cPow_ok (i j : Int) (h : cPow i j = true) : CPow i j := by
  unfold cPow at h
  simp only [Bool.and_eq_true, decide_eq_true_eq] at h
  exact ⟨h.1.1, h.1.2, h.2⟩
def gAdd : T → T → Option T := gI fun i j => some (.int (i + j))
def gSub : T → T → Option T := gI fun i j => some (.int (i - j))
def gMul : T → T → Option T := gI fun i j => if cMul i j = true then some (.int (i * j)) else none
def gDiv : T → T → Option T := gI fun i j => if cDiv i j = true then some (.int (i / j)) else none
def gMod : T → T → Option T := gI fun i j => if cPos i j = true then some (.int (i % j)) else none
def gPow : T → T → Option T := gI fun i j => if cPow i j = true then some (.int (i ^ j.toNat)) else none
def gShr : T → T → Option T := gI fun i j => if cNn i j = true then some (.int (i / 2 ^ j.toNat)) else none
def gAnd : T → T → Option T := gI fun i j => some (.int (Builtin.bitAnd i j))
def gXor : T → T → Option T := gI fun i j => some (.int (Builtin.bitXor i j))
def gLt : T → T → Option T := gI fun i j => some (.bl (decide (i < j)))
def gLe : T → T → Option T := gI fun i j => some (.bl (decide (i ≤ j)))
def gGt : T → T → Option T := gI fun i j => some (.bl (decide (j < i)))
def gGe : T → T → Option T := gI fun i j => some (.bl (decide (j ≤ i)))
theorem pr_add : PR2 K cl (rI0 fun i j => .int (i + j)) gAdd := pr_I0 fun _ _ => rfl
theorem pr_sub : PR2 K cl (rI0 fun i j => .int (i - j)) gSub := pr_I0 fun _ _ => rfl
theorem pr_mul : PR2 K cl (rI CMul fun i j => .int (i * j)) gMul := pr_I cMul cMul_ok fun _ _ => rfl
theorem pr_div : PR2 K cl (rI CDivW fun i j => .int (i / j)) gDiv := pr_I cDiv cDiv_ok fun _ _ => rfl
theorem pr_mod : PR2 K cl (rI (fun _ j => 0 < j) fun i j => .int (i % j)) gMod := pr_I cPos (fun _ _ h => of_decide_eq_true h) fun _ _ => rfl
theorem pr_pow : PR2 K cl (rI CPow fun i j => .int (i ^ j.toNat)) gPow := pr_I cPow cPow_ok fun _ _ => rfl
theorem pr_shr : PR2 K cl (rI (fun _ j => 0 ≤ j) fun i j => .int (i / 2 ^ j.toNat)) gShr := pr_I cNn (fun _ _ h => of_decide_eq_true h) fun _ _ => rfl
theorem pr_and : PR2 K cl (rI0 fun i j => .int (Builtin.bitAnd i j)) gAnd := pr_I0 fun _ _ => rfl
theorem pr_xor : PR2 K cl (rI0 fun i j => .int (Builtin.bitXor i j)) gXor := pr_I0 fun _ _ => rfl
theorem pr_lt : PR2 K cl (rI0 fun i j => .bl (decide (i < j))) gLt := pr_I0 fun _ _ => rfl
theorem pr_le : PR2 K cl (rI0 fun i j => .bl (decide (i ≤ j))) gLe := pr_I0 fun _ _ => rfl
theorem pr_gt : PR2 K cl (rI0 fun i j => .bl (decide (j < i))) gGt := pr_I0 fun _ _ => rfl
theorem pr_ge : PR2 K cl (rI0 fun i j => .bl (decide (j ≤ i))) gGe := pr_I0 fun _ _ => rfl
def gNeg : T → Option T
  | .v (.int i) => some (.v (.int (-i)))
  | _ => none
theorem pr_neg : PR1 K cl (rU fun i => .int (-i)) gNeg := fun Hf H x tx tz Fx w rx e Q q => by
  unfold gNeg at e
  split at e
  · cases e
    exact ⟨_, rx.1, q Hf H _ No (Al.refl w) ⟨rfl, rfl⟩⟩
  · cases e

/-! ### == of data -/
mutual
def toPD : T → Option PyData
  | .v .non => some .none
  | .v (.bl b) => some (.bool b)
  | .v (.int i) => some (.int i)
  | .v (.str s) => some (.str s)
  | .fz .tup xs => (toPDs xs).map PyData.tuple
  | .fz .lst xs => (toPDs xs).map PyData.list
  | .fz .wtup xs => (toPDs xs).map PyData.tuple
  | .fz .wlst xs => (toPDs xs).map PyData.list
  | .ow false .lst xs => (toPDs xs).map PyData.list
  | _ => none
def toPDs : List T → Option (List PyData)
  | [] => some []
  | t :: ts => match toPD t, toPDs ts with
    | some d, some ds => some (d :: ds)
    | _, _ => none
end
mutual
theorem toPD_per {Hf H : Hp} (w : W Hf H) : ∀ (t : T) (v : V) (d : PyData), Per K Hf t v → toPD t = some d → Dp K H v d
  | .v x, v, d, h, e => by
    obtain ⟨rfl, hs⟩ := h
    cases v with
    | non => unfold toPD at e; cases e; exact .non
    | bl b => unfold toPD at e; cases e; exact .bl b
    | int i => unfold toPD at e; cases e; exact .int i
    | str s => unfold toPD at e; cases e; exact .str s
    | _ => cases hs
  | .fz s xs, v, d, ⟨a, vs, h1, h2, h3⟩, e => by
    subst h1
    cases s with
    | tup =>
      unfold toPD at e
      cases q : toPDs xs with
      | none => rw [q] at e; cases e
      | some ds =>
        rw [q, Option.map_some] at e
        cases e
        exact .tup (FzAt.sqT w (.inl rfl) h2) (toPDs_per w xs vs ds h3 q)
    | lst =>
      unfold toPD at e
      cases q : toPDs xs with
      | none => rw [q] at e; cases e
      | some ds =>
        rw [q, Option.map_some] at e
        cases e
        exact .lst (FzAt.sqL w (.inl rfl) h2) (toPDs_per w xs vs ds h3 q)
    | wtup =>
      unfold toPD at e
      cases q : toPDs xs with
      | none => rw [q] at e; cases e
      | some ds =>
        rw [q, Option.map_some] at e
        cases e
        exact .tup (FzAt.sqT w (.inr rfl) h2) (toPDs_per w xs vs ds h3 q)
    | wlst =>
      unfold toPD at e
      cases q : toPDs xs with
      | none => rw [q] at e; cases e
      | some ds =>
        rw [q, Option.map_some] at e
        cases e
        exact .lst (FzAt.sqL w (.inr rfl) h2) (toPDs_per w xs vs ds h3 q)
    | dK ks => unfold toPD at e; cases e
    | dT ks => unfold toPD at e; cases e
    | ins c ns => exact h2.elim
  | .ow l s xs, v, d, h, e => h.elim
  | .out x, v, d, h, e => h.elim
theorem toPDs_per {Hf H : Hp} (w : W Hf H) : ∀ (ts : List T) (vs : List V) (ds : List PyData), PerAll K Hf ts vs → toPDs ts = some ds → DpAll K H vs ds
  | [], [], ds, _, e => by
    unfold toPDs at e
    cases e
    exact .nil
  | t :: ts, v :: vs, ds, h, e => by
    unfold toPDs at e
    cases q1 : toPD t with
    | none => rw [q1] at e; cases e
    | some d =>
      cases q2 : toPDs ts with
      | none => rw [q1, q2] at e; cases e
      | some ds' =>
        rw [q1, q2] at e
        cases e
        exact .cons (toPD_per w t v d h.1 q1) (toPDs_per w ts vs ds' h.2 q2)
  | [], _ :: _, _, h, _ => h.elim
  | _ :: _, [], _, h, _ => h.elim
end
mutual
theorem toPD_rep {Hf H : Hp} (w : W Hf H) : ∀ (t : T) (v : V) (d : PyData) (F : Rg), Rep K cl Hf H t v F → toPD t = some d → Dp K H v d
  | .v x, v, d, F, h, e => toPD_per (Hf := Hf) w (.v x) v d h e
  | .fz s xs, v, d, F, h, e => toPD_per w (.fz s xs) v d h e
  | .ow l s xs, v, d, F, ⟨a, dx, vs, G, h1, h2, h3, h4, h5, h6, h7⟩, e => by
    subst h1
    cases l with
    | true => unfold toPD at e; cases e
    | false =>
      cases s with
      | lst =>
        unfold toPD at e
        cases q : toPDs xs with
        | none => rw [q] at e; cases e
        | some ds =>
          rw [q, Option.map_some] at e
          cases e
          exact .lst (SqL.of h4.2) (toPDs_rep w xs vs ds G 0 h7 q)
      | _ => unfold toPD at e; cases e
  | .out x, v, d, F, h, e => by unfold toPD at e; cases e
theorem toPDs_rep {Hf H : Hp} (w : W Hf H) : ∀ (ts : List T) (vs : List V) (ds : List PyData) (G : Nat → Rg) (n : Nat), RepAll K cl Hf H ts vs G n → toPDs ts = some ds → DpAll K H vs ds
  | [], [], ds, _, _, _, e => by
    unfold toPDs at e
    cases e
    exact .nil
  | t :: ts, v :: vs, ds, G, n, h, e => by
    unfold toPDs at e
    cases q1 : toPD t with
    | none => rw [q1] at e; cases e
    | some d =>
      cases q2 : toPDs ts with
      | none => rw [q1, q2] at e; cases e
      | some ds' =>
        rw [q1, q2] at e
        cases e
        exact .cons (toPD_rep w t v d (G n) h.1 q1) (toPDs_rep w ts vs ds' G (n + 1) h.2 q2)
  | [], _ :: _, _, _, _, h, _ => h.elim
  | _ :: _, [], _, _, _, h, _ => h.elim
end
def gEq : T → T → Option T := fun a b => match toPD a, toPD b with
  | some d, some e => if SeqAt.shaped d = true ∧ SeqAt.shaped e = true then some (.v (.bl (PyData.eqv d e))) else none
  | _, _ => none
def gNe : T → T → Option T := fun a b => match toPD a, toPD b with
  | some d, some e => if SeqAt.shaped d = true ∧ SeqAt.shaped e = true then some (.v (.bl (!PyData.eqv d e))) else none
  | _, _ => none
theorem pr_eq : PR2 K cl (rEqD K) gEq := fun Hf H x y tx ty tz Fx Fy w rx ry e Q q => by
  unfold gEq at e
  cases q1 : toPD tx with
  | none => rw [q1] at e; cases e
  | some d =>
    cases q2 : toPD ty with
    | none => rw [q1, q2] at e; cases e
    | some d' =>
      rw [q1, q2] at e
      dsimp only at e
      split at e
      · rename_i h
        cases e
        exact ⟨d, d', toPD_rep w _ _ _ _ rx q1, toPD_rep w _ _ _ _ ry q2, h.1, h.2, q Hf H _ No (Al.refl w) ⟨rfl, rfl⟩⟩
      · cases e
theorem pr_ne : PR2 K cl (rNeD K) gNe := fun Hf H x y tx ty tz Fx Fy w rx ry e Q q => by
  unfold gNe at e
  cases q1 : toPD tx with
  | none => rw [q1] at e; cases e
  | some d =>
    cases q2 : toPD ty with
    | none => rw [q1, q2] at e; cases e
    | some d' =>
      rw [q1, q2] at e
      dsimp only at e
      split at e
      · rename_i h
        cases e
        exact ⟨d, d', toPD_rep w _ _ _ _ rx q1, toPD_rep w _ _ _ _ ry q2, h.1, h.2, q Hf H _ No (Al.refl w) ⟨rfl, rfl⟩⟩
      · cases e
end
end Vx

set_option maxRecDepth 100000
/-! Vx4: argument lists, displays, calls of what is built in, items, fields -/
namespace Vx
open PySem L2

section
variable (K : PySem.W.Frag) (cl : Nat → Addr)
def RsAll (Hf H : Hp) (σ : St) (Γ : Ge) (R : Nat → Rg) : List Rs → List V → List Rg → Prop
  | [], [], [] => True
  | r :: rs, v :: vs, S :: Ss => RsOk K cl Hf H σ Γ R r v S ∧ (∀ a, S a → ∀ S' ∈ Ss, ¬ S' a) ∧ RsAll Hf H σ Γ R rs vs Ss
  | _, _, _ => False
def EvAOk (M : List Nat) (ta : TA) (f : Ge → Option (Ge × List Rs)) : Prop :=
  ∀ (Hf H : Hp) (σ : St) (Γ : Ge) (R : Nat → Rg), ER K cl Hf H σ Γ R → ∀ Γ' rs, f Γ = some (Γ', rs) → ∀ Q : List V → Hp → Prop,
    (∀ Hf' H' R' Ss vs, Stp Hf H R M Hf' H' R' (fun a => ∃ S ∈ Ss, S a) → ER K cl Hf' H' σ Γ' R' → (∀ i, i ∉ M → Γ'[i]? = Γ[i]?) → RsAll K cl Hf' H' σ Γ' R' rs vs Ss → Q vs H') → ta σ H Q
end
def fANil : Ge → Option (Ge × List Rs) := fun Γ => some (Γ, [])
def fACons (M : List Nat) (fa : Ge → Option (Ge × Rs)) (fr : Ge → Option (Ge × List Rs)) : Ge → Option (Ge × List Rs) := fun Γ =>
  (fa Γ).bind fun p => (fr p.1).bind fun q => if p.2.free M = true then some (q.1, p.2 :: q.2) else none
def getTs (Γ : Ge) : List Rs → Option (List T)
  | [] => some []
  | r :: rs => match getT Γ r, getTs Γ rs with
    | some t, some ts => some (t :: ts)
    | _, _ => none

section
variable {K : PySem.W.Frag} {cl : Nat → Addr} {M Ma Mb : List Nat} {te : TE} {ta : TA} {fe : Ge → Option (Ge × Rs)} {fa : Ge → Option (Ge × List Rs)}
theorem ea_nil : EvAOk K cl [] tNil fANil := fun Hf H σ Γ R I Γ' rs e Q q => by
  cases e
  refine q Hf H R [] [] ?_ I (fun _ _ => rfl) True.intro
  have s : Stp Hf H R [] Hf H R No := Stp.refl
  exact ⟨s.fr, s.kp, s.nw, fun a z => z.elim fun S h => (List.not_mem_nil h.1).elim, s.le, s.nf⟩
theorem ea_cons (he : EvOk K cl Ma te fe) (ha : EvAOk K cl Mb ta fa) : EvAOk K cl (Ma ++ Mb) (tCons te ta) (fACons Mb fe fa) := fun Hf H σ Γ R I Γ' rs e Q q => by
  unfold fACons at e
  cases e1 : fe Γ with
  | none => rw [e1] at e; cases e
  | some p =>
    obtain ⟨Γ1, ra⟩ := p
    rw [e1, Option.bind_some] at e
    cases e2 : fa Γ1 with
    | none => rw [e2] at e; cases e
    | some p2 =>
      obtain ⟨Γ2, rs2⟩ := p2
      rw [e2, Option.bind_some] at e
      dsimp only at e
      by_cases fr : ra.free Mb = true
      · rw [if_pos fr] at e
        cases e
        refine he Hf H σ Γ R I Γ1 ra e1 _ fun Hf1 H1 R1 S1 v1 st1 I1 g1 r1 => ?_
        refine ha Hf1 H1 σ Γ1 R1 I1 _ rs2 e2 _ fun Hf2 H2 R2 Ss vs st2 I2 g2 r2 => ?_
        have st := st1.trans st2
        refine q Hf2 H2 R2 (S1 :: Ss) (v1 :: vs) ⟨st.fr, st.kp, st.nw, fun a s => ?_, st.le, st.nf⟩ I2 (fun i n => (g2 i fun z => n (List.mem_append_right _ z)).trans (g1 i fun z => n (List.mem_append_left _ z)))
          ⟨r1.keep I1 st2 g2 fr, fun a s S' h s' => S_dis r1 st2 a s ⟨S', h, s'⟩, r2⟩
        obtain ⟨S, h, s⟩ := s
        rcases List.mem_cons.mp h with z | z
        · subst z
          exact st1.ns a s
        · exact st.ns a ⟨S, z, s⟩
      · rw [if_neg fr] at e
        cases e
theorem RsAll.views {Hf H : Hp} {σ : St} {Γ : Ge} {R : Nat → Rg} (I : ER K cl Hf H σ Γ R) : ∀ {rs : List Rs} {vs : List V} {Ss : List Rg} {ts : List T}, RsAll K cl Hf H σ Γ R rs vs Ss → getTs Γ rs = some ts →
    ts.length = vs.length ∧ ∀ (n : Nat) t v, ts[n]? = some t → vs[n]? = some v → ∃ G, Rep K cl Hf H t v G ∧ ∀ a, G a → (∃ S ∈ Ss, S a) ∨ ∃ i, R i a
  | [], [], [], ts, _, e => by
    unfold getTs at e
    cases e
    exact ⟨rfl, fun n t v a => by simp at a⟩
  | r :: rs, v :: vs, S :: Ss, ts, h, e => by
    unfold getTs at e
    cases e1 : getT Γ r with
    | none => rw [e1] at e; cases e
    | some t =>
      cases e2 : getTs Γ rs with
      | none => rw [e1, e2] at e; cases e
      | some ts' =>
        rw [e1, e2] at e
        cases e
        obtain ⟨l, k⟩ := RsAll.views I h.2.2 e2
        refine ⟨congrArg (· + 1) l, fun n t' v' a b => ?_⟩
        cases n with
        | zero =>
          simp at a b
          subst a b
          obtain ⟨G, g1, g2⟩ := h.1.view I e1
          exact ⟨G, g1, fun a s => (g2 a s).elim (fun z => .inl ⟨S, List.mem_cons_self, z⟩) .inr⟩
        | succ n =>
          obtain ⟨G, g1, g2⟩ := k n t' v' (by simpa using a) (by simpa using b)
          exact ⟨G, g1, fun a s => (g2 a s).elim (fun ⟨S', m, z⟩ => .inl ⟨S', List.mem_cons_of_mem _ m, z⟩) .inr⟩
  | [], [], _ :: _, _, h, _ => h.elim
  | [], _ :: _, _, _, h, _ => h.elim
  | _ :: _, [], _, _, h, _ => h.elim
  | _ :: _, _ :: _, [], _, h, _ => h.elim

/-! ### a call of a built-in that makes a value -/
variable (K cl)
def Reps (Hf H : Hp) (ts : List T) (vs : List V) : Prop := ts.length = vs.length ∧ ∀ (n : Nat) t v, ts[n]? = some t → vs[n]? = some v → ∃ G, Rep K cl Hf H t v G
def PRn (r : List V → Hp → VK → Prop) (g : List T → Option T) : Prop := ∀ (Hf H : Hp) (vs : List V) (ts : List T) (tz : T), W Hf H → Reps K cl Hf H ts vs → g ts = some tz →
  ∀ Q : VK, (∀ Hf' H' z S, Al Hf H Hf' H' S → Rep K cl Hf' H' tz z S → Q z H') → r vs H Q
variable {K cl}
theorem Reps.one {Hf H : Hp} {t : T} {vs : List V} (h : Reps K cl Hf H [t] vs) : ∃ v G, vs = [v] ∧ Rep K cl Hf H t v G := by
  obtain ⟨l, k⟩ := h
  match vs, l with
  | [v], _ =>
    obtain ⟨G, g⟩ := k 0 t v rfl rfl
    exact ⟨v, G, rfl, g⟩
theorem Reps.two {Hf H : Hp} {t u : T} {vs : List V} (h : Reps K cl Hf H [t, u] vs) : ∃ v w G G', vs = [v, w] ∧ Rep K cl Hf H t v G ∧ Rep K cl Hf H u w G' := by
  obtain ⟨l, k⟩ := h
  match vs, l with
  | [v, w], _ =>
    obtain ⟨G, g⟩ := k 0 t v rfl rfl
    obtain ⟨G', g'⟩ := k 1 u w rfl rfl
    exact ⟨v, w, G, G', rfl, g, g'⟩
def fN (g : List T → Option T) (fa : Ge → Option (Ge × List Rs)) : Ge → Option (Ge × Rs) := fun Γ =>
  (fa Γ).bind fun p => (getTs p.1 p.2).bind fun ts => (g ts).map fun c => (p.1, .val c)
theorem evN {r : List V → Hp → VK → Prop} {g : List T → Option T} (h : PRn K cl r g) (ha : EvAOk K cl M ta fa) : EvOk K cl M (tCB r ta) (fN g fa) := fun Hf H σ Γ R I Γ' r0 e Q q => by
  unfold fN at e
  cases e1 : fa Γ with
  | none => rw [e1] at e; cases e
  | some p =>
    obtain ⟨Γ1, rs⟩ := p
    rw [e1, Option.bind_some] at e
    dsimp only at e
    cases e3 : getTs Γ1 rs with
    | none => rw [e3] at e; cases e
    | some ts =>
      rw [e3, Option.bind_some] at e
      cases e5 : g ts with
      | none => rw [e5] at e; cases e
      | some c =>
        rw [e5, Option.map_some] at e
        cases e
        refine ha Hf H σ Γ R I _ rs e1 _ fun Hf1 H1 R1 Ss vs st1 I1 g1 r1 => ?_
        obtain ⟨l, k⟩ := r1.views I1 e3
        refine h Hf1 H1 vs ts c I1.w ⟨l, fun n t v a b => (k n t v a b).elim fun G z => ⟨G, z.1⟩⟩ e5 Q fun Hf3 H3 z S al rz => ?_
        have st' := st1.trans (M2 := []) (al.stp (R := R1))
        exact q Hf3 H3 R1 S z (st'.more fun i z => by rw [List.append_nil] at z; exact z) (al.er I1) g1 (al.rs I1 rz)
def gnEi (g h : List T → Option T) : List T → Option T := fun a => match g a with
  | some c => some c
  | none => h a
theorem PRn.ei {r r' : List V → Hp → VK → Prop} {g g' : List T → Option T} (h : PRn K cl r g) (k : PRn K cl r' g') : PRn K cl (fun x H Q => r x H Q ∨ r' x H Q) (gnEi g g') := fun Hf H vs ts tz w rx e Q q => by
  unfold gnEi at e
  cases eg : g ts with
  | some c =>
    rw [eg] at e
    exact .inl (h Hf H vs ts tz w rx (eg.trans e) Q q)
  | none =>
    rw [eg] at e
    exact .inr (k Hf H vs ts tz w rx e Q q)

/-! ### displays -/
/-- results that may stand in a new list: values of their own -/
def vals? : List Rs → Option (List T)
  | [] => some []
  | .val t :: rs => (vals? rs).map (t :: ·)
  | .at _ _ :: _ => none
theorem RsAll.vals {Hf H : Hp} {σ : St} {Γ : Ge} {R : Nat → Rg} : ∀ {rs : List Rs} {vs : List V} {Ss : List Rg} {ts : List T} {m : Nat}, RsAll K cl Hf H σ Γ R rs vs Ss → vals? rs = some ts →
    RepAll K cl Hf H ts vs (fun i a => ∃ S : Rg, Ss[i - m]? = some S ∧ m ≤ i ∧ S a) m ∧ (∀ (i j : Nat) (a : Addr) (S S' : Rg), Ss[i]? = some S → Ss[j]? = some S' → S a → S' a → i = j) ∧ (∀ S ∈ Ss, ∀ a, S a → (∀ i, ¬ R i a) ∧ H a ≠ none ∧ Hf a = none)
  | [], [], [], ts, m, _, e => by
    unfold vals? at e
    cases e
    exact ⟨True.intro, fun i j a S S' h => by simp at h, fun S h => by simp at h⟩
  | .val t :: rs, v :: vs, S :: Ss, ts, m, h, e => by
    unfold vals? at e
    cases e2 : vals? rs with
    | none => rw [e2] at e; cases e
    | some ts' =>
      rw [e2, Option.map_some] at e
      cases e
      obtain ⟨k1, k2, k3⟩ := RsAll.vals (m := m + 1) h.2.2 e2
      obtain ⟨h1, h2, h3⟩ := h.1
      refine ⟨⟨h1.weak fun a s => ⟨S, by simp, Nat.le_refl _, s⟩, ?_⟩, fun i j a U U' hi hj u u' => ?_, fun U hU a u => ?_⟩
      · refine RepAll.intro k1.len fun n t v a b => ?_
        obtain ⟨w, e1, r1⟩ := k1.get a
        rw [e1] at b
        cases b
        exact r1.weak fun a ⟨S', q1, q2, q3⟩ => ⟨S', by rw [show m + 1 + n - m = (m + 1 + n - (m + 1)) + 1 by omega]; simpa using q1, by omega, q3⟩
      · cases i with
        | zero =>
          cases j with
          | zero => rfl
          | succ j =>
            simp at hi hj
            subst hi
            exact (h.2.1 a u U' (List.mem_of_getElem? hj) u').elim
        | succ i =>
          cases j with
          | zero =>
            simp at hi hj
            subst hj
            exact (h.2.1 a u' U (List.mem_of_getElem? hi) u).elim
          | succ j => exact congrArg (· + 1) (k2 i j a U U' (by simpa using hi) (by simpa using hj) u u')
      · rcases List.mem_cons.mp hU with z | z
        · subst z
          exact ⟨fun i => h2 i a u, h3 a u⟩
        · exact k3 U z a u
  | .at _ _ :: _, _, _, _, _, _, e => by cases e
  | [], [], _ :: _, _, _, h, _ => h.elim
  | [], _ :: _, _, _, _, h, _ => h.elim
  | .val _ :: _, [], _, _, _, h, _ => h.elim
  | .val _ :: _, _ :: _, [], _, _, h, _ => h.elim
def fLst (fa : Ge → Option (Ge × List Rs)) : Ge → Option (Ge × Rs) := fun Γ =>
  (fa Γ).bind fun p => (vals? p.2).bind fun ts => if ts.length ≤ 10000 then some (p.1, .val (.ow false .lst ts)) else none
theorem sz4 {n : Nat} (h : n ≤ 10000) : n ≤ sizeLine := Nat.le_trans h (by decide)
theorem ne_new {H : Hp} {p : Addr} {o : HO} (h : H p = none) : Le H (upd H p o) := fun a u e => by
  rw [upd_ne (ne_of_none e h)]
  exact e
theorem tp_upd {H : Hp} {a b : Addr} {o : HO} {xs : List V} (h : ∀ ys, o ≠ .tup ys) (z : upd H a o b = some (.tup xs)) : H b = some (.tup xs) := by
  by_cases e : b = a
  · subst e
    rw [upd_same] at z
    exact (h xs (Option.some.inj z)).elim
  · rw [upd_ne e] at z
    exact z
theorem W.new {Hf H : Hp} {p : Addr} {o : HO} (w : W Hf H) (h : H p = none) (ho : ∀ ys, o ≠ .tup ys := by intro _ z; cases z) : W Hf (upd H p o) := ⟨fun a u e => by
  rcases w a u e with q | ⟨od, d, q⟩
  · exact .inl (ne_new h _ _ q)
  · exact .inr ⟨od, d, ne_new h _ _ q⟩, fun b xs z => w.tp b xs (tp_upd ho z)⟩
/-- W gives that a frozen place is a place -/
theorem W.none {Hf H : Hp} {p : Addr} (w : W Hf H) (h : H p = none) : Hf p = Option.none := by
  cases q : Hf p with
  | none => rfl
  | some o =>
    rcases w _ _ q with e | ⟨od, _, e⟩
    · rw [h] at e; cases e
    · rw [h] at e; cases e
/-- a new owned node over what is there already -/
theorem node_new {Hf H : Hp} {σ : St} {Γ : Ge} {R : Nat → Rg} {p : Addr} {o : HO} {s : Sh} {ts : List T} {vs : List V} {Ss : List Rg} {rs : List Rs} (I : ER K cl Hf H σ Γ R) (h : RsAll K cl Hf H σ Γ R rs vs Ss) (e : vals? rs = some ts) (hp : H p = none)
    (hs : s.isI = false) (ho : OwAt cl (upd H p o) p p false s vs) : Rep K cl Hf (upd H p o) (.ow false s ts) (.ref p) (fun a => a = p ∨ ∃ S ∈ Ss, S a) := by
  obtain ⟨k1, k2, k3⟩ := RsAll.vals (m := 0) h e
  have np : ∀ S ∈ Ss, ∀ a, S a → a ≠ p := fun S hS a s z => (k3 S hS a s).2.1 (by rw [z]; exact hp)
  refine ⟨p, p, vs, fun i a => ∃ S, Ss[i]? = some S ∧ S a, rfl, .inl rfl, (fun z => by rw [hs] at z; cases z), ho, fun i b ⟨S, h1, h2⟩ => ⟨.inr ⟨S, List.mem_of_getElem? h1, h2⟩, np S (List.mem_of_getElem? h1) b h2, fun z => by rw [hs] at z; cases z⟩, fun i j b ⟨S, h1, h2⟩ ⟨S', h3, h4⟩ => k2 i j b S S' h1 h3 h2 h4, ?_⟩
  refine RepAll.intro k1.len fun n t w a b => ?_
  obtain ⟨w', e1, r1⟩ := k1.get a
  rw [e1] at b
  cases b
  rw [Nat.zero_add] at r1 ⊢
  refine Rep.weak (F := fun a => ∃ S, Ss[n - 0]? = some S ∧ 0 ≤ n ∧ S a) (fun a ⟨S, q1, _, q3⟩ => ⟨S, by simpa using q1, q3⟩) ?_
  exact Rep.frame (Le.refl _) _ _ _ (fun a u ⟨S, q1, _, q3⟩ e => by rw [upd_ne (np S (List.mem_of_getElem? q1) a q3)]; exact e) r1
theorem ev_lst (ha : EvAOk K cl M ta fa) : EvOk K cl M (tLst ta) (fLst fa) := fun Hf H σ Γ R I Γ' r0 e Q q => by
  unfold fLst at e
  cases e1 : fa Γ with
  | none => rw [e1] at e; cases e
  | some p =>
    obtain ⟨Γ1, rs⟩ := p
    rw [e1, Option.bind_some] at e
    dsimp only at e
    cases e3 : vals? rs with
    | none => rw [e3] at e; cases e
    | some ts =>
      rw [e3, Option.bind_some] at e
      split at e
      · rename_i hl
        cases e
        refine ha Hf H σ Γ R I _ rs e1 _ fun Hf1 H1 R1 Ss vs st1 I1 g1 r1 => ?_
        obtain ⟨k1, k2, k3⟩ := RsAll.vals (m := 0) r1 e3
        refine ⟨by rw [← k1.len]; exact sz4 hl, fun p hp => ?_⟩
        have hR : ∀ i a, R1 i a → a ≠ p := fun i a r z => (I1.trk i a r).1 (by rw [z]; exact hp)
        have Ip : ER K cl Hf1 (upd H1 p (.lst vs)) σ _ R1 := ⟨I1.w.new hp, I1.len, fun i t e => let ⟨v, a, b⟩ := I1.rep i t e; ⟨v, a, Rep.frame (Le.refl _) _ _ _ (fun b o r q => by rw [upd_ne (hR i b r)]; exact q) b⟩, I1.dis, fun i a r => by rw [upd_ne (hR i a r)]; exact I1.trk i a r⟩
        refine q Hf1 (upd H1 p (.lst vs)) R1 (fun a => a = p ∨ ∃ S ∈ Ss, S a) (.ref p) ⟨fun a o e n => ?_, fun i n => ⟨(st1.kp i n).1, fun a o r e => ?_⟩, st1.nw, fun a s => ?_, st1.le, st1.nf⟩ Ip g1 ⟨node_new I1 r1 e3 hp rfl ⟨rfl, upd_same⟩, fun i a s r => ?_, fun a s => ?_⟩
        · exact ne_new hp _ _ (st1.fr a o e n)
        · exact ne_new hp _ _ ((st1.kp i n).2 a o r e)
        · rcases s with z | ⟨S, m, z⟩
          · rw [z]; exact st1.noneBack hp
          · exact st1.ns a ⟨S, m, z⟩
        · rcases s with z | ⟨S, m, z⟩
          · exact hR i a r z
          · exact (k3 S m a z).1 i r
        · rcases s with z | ⟨S, m, z⟩
          · rw [z, upd_same]
            exact ⟨(fun z => nomatch z), I1.w.none hp⟩
          · have := (k3 S m a z).2
            rw [upd_ne (fun z => this.1 (by rw [z]; exact hp))]
            exact this
      · cases e
end
end Vx

set_option maxRecDepth 100000
/-! Vx5: built-ins over trees -/
namespace Vx
open PySem L2

section
variable {K : PySem.W.Frag} {cl : Nat → Addr} {Hf H : Hp}
/-! ### what can be read -/
def asL : T → Option (List T)
  | .fz .lst xs => some xs
  | .fz .wlst xs => some xs
  | .ow false .lst xs => some xs
  | _ => none
def asT : T → Option (List T)
  | .fz .tup xs => some xs
  | .fz .wtup xs => some xs
  | _ => none
theorem per_all {Hf H : Hp} {ts : List T} {vs : List V} {G : Nat → Rg} {n : Nat} (h : RepAll K cl Hf H ts vs G n) (p : ts.all T.pers = true) : PerAll K Hf ts vs := by
  refine PerAll.intro h.len fun m t w a b => ?_
  obtain ⟨w', e, r⟩ := h.get a
  rw [e] at b
  cases b
  exact r.per (List.all_eq_true.mp p t (List.mem_of_getElem? a))
theorem Reps.perAll {ts : List T} {vs : List V} (h : Reps K cl Hf H ts vs) (p : ts.all T.pers = true) : PerAll K Hf ts vs := by
  refine PerAll.intro h.1 fun m t w a b => ?_
  obtain ⟨G, r⟩ := h.2 m t w a b
  exact r.per (List.all_eq_true.mp p t (List.mem_of_getElem? a))
theorem PerAll.all {ts : List T} {vs : List V} (h : PerAll K Hf ts vs) : ts.all T.pers = true := List.all_eq_true.mpr fun t m => by
  obtain ⟨n, e⟩ := List.mem_iff_getElem?.mp m
  obtain ⟨w, _, r⟩ := h.get e
  exact r.pers
theorem PerAll.reps {G : Nat → Rg} {n : Nat} {ts : List T} {vs : List V} (h : PerAll K Hf ts vs) : RepAll K cl Hf H ts vs G n := RepAll.intro h.len fun m t w a b => by
  obtain ⟨w', e, r⟩ := h.get a
  rw [e] at b
  cases b
  exact r.rep
/-- a list that is read, its items -/
theorem Rep.asL {t : T} {v : V} {F : Rg} {xs : List T} (w : W Hf H) (h : Rep K cl Hf H t v F) (e : asL t = some xs) : ∃ a vs G, v = .ref a ∧ SqL K H a vs ∧ RepAll K cl Hf H xs vs G 0 ∧ ∀ i b, G i b → F b := by
  unfold Vx.asL at e
  split at e
  · cases e
    obtain ⟨a, vs, h1, h2, h3⟩ := h
    exact ⟨a, vs, fun _ _ => False, h1, FzAt.sqL w (.inl rfl) h2, h3.reps, fun i b z => z.elim⟩
  · cases e
    obtain ⟨a, vs, h1, h2, h3⟩ := h
    exact ⟨a, vs, fun _ _ => False, h1, FzAt.sqL w (.inr rfl) h2, h3.reps, fun i b z => z.elim⟩
  · cases e
    obtain ⟨a, dx, vs, G, h1, h2, h3, h4, h5, h6, h7⟩ := h
    exact ⟨a, vs, G, h1, SqL.of h4.2, h7, fun i b z => (h5 i b z).1⟩
  · cases e
theorem Rep.asT {t : T} {v : V} {F : Rg} {xs : List T} (w : W Hf H) (h : Rep K cl Hf H t v F) (e : asT t = some xs) : ∃ a vs, v = .ref a ∧ SqT K H a vs ∧ PerAll K Hf xs vs := by
  unfold Vx.asT at e
  split at e
  · cases e
    obtain ⟨a, vs, h1, h2, h3⟩ := h
    exact ⟨a, vs, h1, FzAt.sqT w (.inl rfl) h2, h3⟩
  · cases e
    obtain ⟨a, vs, h1, h2, h3⟩ := h
    exact ⟨a, vs, h1, FzAt.sqT w (.inr rfl) h2, h3⟩
  · cases e

/-! ### new things -/
theorem al_ow {p : Addr} {o : HO} (w : W Hf H) (hp : H p = none) (ho : ∀ ys, o ≠ .tup ys := by intro _ z; cases z) : Al Hf H Hf (upd H p o) (fun a => a = p) :=
  ⟨ne_new hp, Le.refl _, w.new hp ho, fun a s => by
    cases s
    refine ⟨hp, ?_, w.none hp⟩
    rw [upd_same]
    exact (fun z => nomatch z), fun a o e => .inl e⟩
theorem al_fz {p : Addr} {o : HO} (w : W Hf H) (hp : H p = none) : Al Hf H (upd Hf p o) (upd H p o) No :=
  ⟨ne_new hp, ne_new (w.none hp), ⟨fun a u e => by
    by_cases h : a = p
    · subst h
      rw [upd_same] at e ⊢
      exact .inl e
    · rw [upd_ne h] at e ⊢
      exact w a u e, fun b xs z => by
    by_cases h : b = p
    · subst h
      rw [upd_same] at z ⊢
      exact z
    · rw [upd_ne h] at z ⊢
      exact w.tp b xs z⟩, fun _ z => z.elim, fun a u e => by
    by_cases h : a = p
    · subst h
      exact .inr hp
    · rw [upd_ne h] at e
      exact .inl e⟩
theorem rep_newL {p : Addr} {ts : List T} {vs : List V} (h : PerAll K Hf ts vs) : Rep K cl Hf (upd H p (.lst vs)) (.ow false .lst ts) (.ref p) (fun a => a = p) :=
  ⟨p, p, vs, fun _ _ => False, rfl, rfl, (fun z => nomatch z), ⟨rfl, upd_same⟩, (fun _ _ z => z.elim), (fun _ _ _ z => z.elim), h.reps⟩
theorem per_newT {p : Addr} {ts : List T} {vs : List V} (hp : Hf p = none) (h : PerAll K Hf ts vs) : Per K (upd Hf p (.tup vs)) (.fz .tup ts) (.ref p) :=
  ⟨p, vs, rfl, upd_same, PerAll.le (ne_new hp) _ _ h⟩

/-! ### len -/
def gLen : List T → Option T
  | [.v (.str s)] => if s.length ≤ 100000 then some (.v (.int s.length)) else none
  | [.fz .tup xs] => some (.v (.int xs.length))
  | [.fz .wtup xs] => some (.v (.int xs.length))
  | [.fz .lst xs] => some (.v (.int xs.length))
  | [.fz .wlst xs] => some (.v (.int xs.length))
  | [.ow false .lst xs] => some (.v (.int xs.length))
  | _ => none
def gLenD : List T → Option T
  | [.fz (.dK ks) xs] => some (.v (.int ks.length))
  | [.ow false (.dK ks) xs] => some (.v (.int ks.length))
  | _ => none
theorem sz5 {n : Nat} (h : n ≤ 100000) : n ≤ sizeLine := Nat.le_trans h (by decide)
theorem pr_len : PRn K cl (fun xs H Q => ∃ x n, xs = [x] ∧ LenV K x H n ∧ Q (.int n) H) gLen := fun Hf H vs ts tz w rs e Q q => by
  unfold gLen at e
  split at e
  · split at e
    · rename_i s hl
      cases e
      obtain ⟨v, G, rfl, r⟩ := rs.one
      cases r.1
      exact ⟨_, _, rfl, ⟨sz5 hl, rfl⟩, q Hf H _ No (Al.refl w) ⟨rfl, rfl⟩⟩
    · cases e
  · cases e
    obtain ⟨v, G, rfl, r⟩ := rs.one
    obtain ⟨a, us, rfl, h1, h2⟩ := r.asT w rfl
    exact ⟨_, _, rfl, .inr ⟨us, h1, rfl⟩, q Hf H _ No (Al.refl w) ⟨by rw [h2.len], rfl⟩⟩
  · cases e
    obtain ⟨v, G, rfl, r⟩ := rs.one
    obtain ⟨a, us, rfl, h1, h2⟩ := r.asT w rfl
    exact ⟨_, _, rfl, .inr ⟨us, h1, rfl⟩, q Hf H _ No (Al.refl w) ⟨by rw [h2.len], rfl⟩⟩
  · cases e
    obtain ⟨v, G, rfl, r⟩ := rs.one
    obtain ⟨a, us, G', rfl, h1, h2, _⟩ := r.asL w rfl
    exact ⟨_, _, rfl, .inl ⟨us, h1, rfl⟩, q Hf H _ No (Al.refl w) ⟨by rw [h2.len], rfl⟩⟩
  · cases e
    obtain ⟨v, G, rfl, r⟩ := rs.one
    obtain ⟨a, us, G', rfl, h1, h2, _⟩ := r.asL w rfl
    exact ⟨_, _, rfl, .inl ⟨us, h1, rfl⟩, q Hf H _ No (Al.refl w) ⟨by rw [h2.len], rfl⟩⟩
  · cases e
    obtain ⟨v, G, rfl, r⟩ := rs.one
    obtain ⟨a, us, G', rfl, h1, h2, _⟩ := r.asL w rfl
    exact ⟨_, _, rfl, .inl ⟨us, h1, rfl⟩, q Hf H _ No (Al.refl w) ⟨by rw [h2.len], rfl⟩⟩
  · cases e

/-! ### list, tuple, abs, int, max, min, all, any, sum -/
def gList : List T → Option T
  | [t] => match asL t with
    | some xs => if xs.all T.pers = true then some (.ow false .lst xs) else none
    | none => match asT t with
      | some xs => some (.ow false .lst xs)
      | none => none
  | _ => none
theorem pr_list : PRn K cl (fun xs H Q => ∃ p ys, xs = [.ref p] ∧ (SqL K H p ys ∨ SqT K H p ys) ∧ ∀ l, H l = none → Q (.ref l) (upd H l (.lst ys))) gList := fun Hf H vs ts tz w rs e Q q => by
  unfold gList at e
  split at e
  · rename_i t
    obtain ⟨v, G, rfl, r⟩ := rs.one
    cases e1 : asL t with
    | some xs =>
      rw [e1] at e
      dsimp only at e
      split at e
      · rename_i hp
        cases e
        obtain ⟨a, us, G', rfl, h1, h2, _⟩ := r.asL w e1
        exact ⟨a, us, rfl, .inl h1, fun l hl => q Hf _ _ _ (al_ow w hl) (rep_newL (per_all h2 hp))⟩
      · cases e
    | none =>
      rw [e1] at e
      dsimp only at e
      cases e2 : asT t with
      | some xs =>
        rw [e2] at e
        cases e
        obtain ⟨a, us, rfl, h1, h2⟩ := r.asT w e2
        exact ⟨a, us, rfl, .inr h1, fun l hl => q Hf _ _ _ (al_ow w hl) (rep_newL h2)⟩
      | none => rw [e2] at e; cases e
  · cases e
def gTuple : List T → Option T
  | [t] => match asL t with
    | some xs => if xs.all T.pers = true then some (.fz .tup xs) else none
    | none => match asT t with
      | some xs => some t
      | none => none
  | _ => none
theorem pr_tuple : PRn K cl (fun xs H Q => ∃ p ys, xs = [.ref p] ∧ ((SqL K H p ys ∧ ∀ l, H l = none → Q (.ref l) (upd H l (.tup ys))) ∨ (SqT K H p ys ∧ Q (.ref p) H))) gTuple := fun Hf H vs ts tz w rs e Q q => by
  unfold gTuple at e
  split at e
  · rename_i t
    obtain ⟨v, G, rfl, r⟩ := rs.one
    cases e1 : asL t with
    | some xs =>
      rw [e1] at e
      dsimp only at e
      split at e
      · rename_i hp
        cases e
        obtain ⟨a, us, G', rfl, h1, h2, _⟩ := r.asL w e1
        exact ⟨a, us, rfl, .inl ⟨h1, fun l hl => q _ _ _ No (al_fz w hl) (per_newT (w.none hl) (per_all h2 hp)).rep⟩⟩
      · cases e
    | none =>
      rw [e1] at e
      dsimp only at e
      cases e2 : asT t with
      | some xs =>
        rw [e2] at e
        cases e
        obtain ⟨a, us, e3, h1, h2⟩ := r.asT w e2
        subst e3
        have pt : T.pers tz = true := by
          unfold Vx.asT at e2
          split at e2
          · exact (rfl : T.pers (.fz .tup _) = true)
          · exact (rfl : T.pers (.fz .wtup _) = true)
          · cases e2
        exact ⟨a, us, rfl, .inr ⟨h1, q Hf H _ No (Al.refl w) (Per.rep (Rep.per pt r))⟩⟩
      | none => rw [e2] at e; cases e
  · cases e
def gAbs : List T → Option T
  | [.v (.int i)] => some (.v (.int (if i < 0 then -i else i)))
  | _ => none
theorem pr_abs : PRn K cl (fun xs H Q => ∃ i, xs = [.int i] ∧ Q (.int (if i < 0 then -i else i)) H) gAbs := fun Hf H vs ts tz w rs e Q q => by
  unfold gAbs at e
  split at e
  · cases e
    obtain ⟨v, G, rfl, r⟩ := rs.one
    cases r.1
    exact ⟨_, rfl, q Hf H _ No (Al.refl w) ⟨rfl, rfl⟩⟩
  · cases e
def gInt : List T → Option T
  | [.v (.int i)] => some (.v (.int i))
  | [.v (.bl k)] => some (.v (.int (if k then 1 else 0)))
  | _ => none
theorem pr_int : PRn K cl (fun xs H Q => (∃ i, xs = [.int i] ∧ Q (.int i) H) ∨ ∃ k, xs = [.bl k] ∧ Q (.int (if k then 1 else 0)) H) gInt := fun Hf H vs ts tz w rs e Q q => by
  unfold gInt at e
  split at e
  · cases e
    obtain ⟨v, G, rfl, r⟩ := rs.one
    cases r.1
    exact .inl ⟨_, rfl, q Hf H _ No (Al.refl w) ⟨rfl, rfl⟩⟩
  · cases e
    obtain ⟨v, G, rfl, r⟩ := rs.one
    cases r.1
    exact .inr ⟨_, rfl, q Hf H _ No (Al.refl w) ⟨rfl, rfl⟩⟩
  · cases e
def gMax2 : List T → Option T
  | [.v (.int i), .v (.int j)] => some (.v (.int (if j > i then j else i)))
  | _ => none
theorem pr_max2 : PRn K cl (fun xs H Q => ∃ i j, xs = [.int i, .int j] ∧ Q (.int (if j > i then j else i)) H) gMax2 := fun Hf H vs ts tz w rs e Q q => by
  unfold gMax2 at e
  split at e
  · cases e
    obtain ⟨v, v', G, G', rfl, r, r'⟩ := rs.two
    cases r.1
    cases r'.1
    exact ⟨_, _, rfl, q Hf H _ No (Al.refl w) ⟨rfl, rfl⟩⟩
  · cases e
def gMin2 : List T → Option T
  | [.v (.int i), .v (.int j)] => some (.v (.int (if j < i then j else i)))
  | _ => none
theorem pr_min2 : PRn K cl (fun xs H Q => ∃ i j, xs = [.int i, .int j] ∧ Q (.int (if j < i then j else i)) H) gMin2 := fun Hf H vs ts tz w rs e Q q => by
  unfold gMin2 at e
  split at e
  · cases e
    obtain ⟨v, v', G, G', rfl, r, r'⟩ := rs.two
    cases r.1
    cases r'.1
    exact ⟨_, _, rfl, q Hf H _ No (Al.refl w) ⟨rfl, rfl⟩⟩
  · cases e
/-- the ints of a list, its bools -/
def ints? : List T → Option (List Int)
  | [] => some []
  | .v (.int i) :: ts => (ints? ts).map (i :: ·)
  | _ => none
def bls? : List T → Option (List Bool)
  | [] => some []
  | .v (.bl i) :: ts => (bls? ts).map (i :: ·)
  | _ => none
theorem RepAll.ints : ∀ {ts : List T} {vs : List V} {G : Nat → Rg} {n : Nat} {is : List Int}, RepAll K cl Hf H ts vs G n → ints? ts = some is → vs = is.map V.int
  | [], [], _, _, is, _, e => by
    unfold ints? at e
    cases e
    rfl
  | t :: ts, v :: vs, G, n, is, h, e => by
    cases t with
    | v x =>
      cases x with
      | int i =>
        unfold ints? at e
        cases e1 : ints? ts with
        | none => rw [e1] at e; cases e
        | some js =>
          rw [e1, Option.map_some] at e
          cases e
          cases h.1.1
          rw [RepAll.ints h.2 e1]
          rfl
      | _ => cases e
    | _ => cases e
  | [], _ :: _, _, _, _, h, _ => h.elim
  | _ :: _, [], _, _, _, h, _ => h.elim
theorem RepAll.bls : ∀ {ts : List T} {vs : List V} {G : Nat → Rg} {n : Nat} {is : List Bool}, RepAll K cl Hf H ts vs G n → bls? ts = some is → vs = is.map V.bl
  | [], [], _, _, is, _, e => by
    unfold bls? at e
    cases e
    rfl
  | t :: ts, v :: vs, G, n, is, h, e => by
    cases t with
    | v x =>
      cases x with
      | bl i =>
        unfold bls? at e
        cases e1 : bls? ts with
        | none => rw [e1] at e; cases e
        | some js =>
          rw [e1, Option.map_some] at e
          cases e
          cases h.1.1
          rw [RepAll.bls h.2 e1]
          rfl
      | _ => cases e
    | _ => cases e
  | [], _ :: _, _, _, _, h, _ => h.elim
  | _ :: _, [], _, _, _, h, _ => h.elim
def gAll : List T → Option T
  | [t] => (asL t).bind fun xs => (bls? xs).map fun bs => .v (.bl (bs.all id))
  | _ => none
def gAny : List T → Option T
  | [t] => (asL t).bind fun xs => (bls? xs).map fun bs => .v (.bl (bs.any id))
  | _ => none
def gSum : List T → Option T
  | [t] => (asL t).bind fun xs => (ints? xs).map fun bs => .v (.int bs.sum)
  | _ => none
theorem pr_all : PRn K cl (rAll K) gAll := fun Hf H vs ts tz w rs e Q q => by
  unfold gAll at e
  split at e
  · rename_i t
    obtain ⟨v, G, rfl, r⟩ := rs.one
    cases e1 : asL t with
    | none => rw [e1] at e; cases e
    | some xs =>
      rw [e1, Option.bind_some] at e
      cases e2 : bls? xs with
      | none => rw [e2] at e; cases e
      | some bs =>
        rw [e2, Option.map_some] at e
        cases e
        obtain ⟨a, us, G', rfl, h1, h2, _⟩ := r.asL w e1
        rw [h2.bls e2] at h1
        exact ⟨a, bs, rfl, h1, q Hf H _ No (Al.refl w) ⟨rfl, rfl⟩⟩
  · cases e
theorem pr_any : PRn K cl (rAny K) gAny := fun Hf H vs ts tz w rs e Q q => by
  unfold gAny at e
  split at e
  · rename_i t
    obtain ⟨v, G, rfl, r⟩ := rs.one
    cases e1 : asL t with
    | none => rw [e1] at e; cases e
    | some xs =>
      rw [e1, Option.bind_some] at e
      cases e2 : bls? xs with
      | none => rw [e2] at e; cases e
      | some bs =>
        rw [e2, Option.map_some] at e
        cases e
        obtain ⟨a, us, G', rfl, h1, h2, _⟩ := r.asL w e1
        rw [h2.bls e2] at h1
        exact ⟨a, bs, rfl, h1, q Hf H _ No (Al.refl w) ⟨rfl, rfl⟩⟩
  · cases e
theorem pr_sum : PRn K cl (rSum K) gSum := fun Hf H vs ts tz w rs e Q q => by
  unfold gSum at e
  split at e
  · rename_i t
    obtain ⟨v, G, rfl, r⟩ := rs.one
    cases e1 : asL t with
    | none => rw [e1] at e; cases e
    | some xs =>
      rw [e1, Option.bind_some] at e
      cases e2 : ints? xs with
      | none => rw [e2] at e; cases e
      | some bs =>
        rw [e2, Option.map_some] at e
        cases e
        obtain ⟨a, us, G', rfl, h1, h2, _⟩ := r.asL w e1
        rw [h2.ints e2] at h1
        exact ⟨a, bs, rfl, h1, q Hf H _ No (Al.refl w) ⟨rfl, rfl⟩⟩
  · cases e

/-! ### isinstance: the second one a built-in class -/
def tyOf? : T → Option String
  | .v .non => some "NoneType"
  | .v (.bl _) => some "bool"
  | .v (.int _) => some "int"
  | .v (.str _) => some "str"
  | .fz .tup _ => some "tuple"
  | .fz .wtup _ => some "tuple"
  | .ow false .lst _ => some "list"
  | .ow false (.dK _) _ => some "dict"
  | .ow false (.dT _) _ => some "dict"
  | .fz (.dK _) _ => some "dict"
  | .fz (.dT _) _ => some "dict"
  | .fz .lst _ => some "list"
  | .fz .wlst _ => some "list"
  | _ => none
theorem tyX_T {a : Addr} {vs : List V} (h : SqT K H a vs) : TyX K H (.ref a) (.type "tuple") := by
  rcases h with (h | ⟨o, h⟩) | ⟨o, its, n, h1, h2, _⟩
  · exact .base (.tup h)
  · exact .fTuple h
  · exact .kTuple h1 h2
theorem tyX_L {a : Addr} {vs : List V} (h : SqL K H a vs) : TyX K H (.ref a) (.type "list") := by
  rcases h with (h | ⟨o, h⟩) | ⟨o, its, n, h1, h2, _⟩
  · exact .base (.lst h)
  · exact .base (.frz h)
  · exact .kList h1 h2
theorem tyX_dT {a : Addr} {o : Obj} {kvs : List (List Key × V)} (h : H a = some (.frz o (.dT kvs))) : False → TyX K H (.ref a) (.type "dict") := fun z => z.elim
theorem tyX_of {t : T} {v : V} {F : Rg} {s : String} (w : W Hf H) (h : Rep K cl Hf H t v F) (e : tyOf? t = some s) (nd : ∀ ks xs, t ≠ .fz (.dT ks) xs) : TyX K H v (.type s) := by
  unfold tyOf? at e
  split at e
  · cases e; cases h.1; exact .base .non
  · cases e; cases h.1; exact .base (.bl _)
  · cases e; cases h.1; exact .base (.int _)
  · cases e; cases h.1; exact .base (.str _)
  · cases e
    obtain ⟨a, vs, rfl, h2, _⟩ := h
    exact tyX_T (FzAt.sqT w (.inl rfl) h2)
  · cases e
    obtain ⟨a, vs, rfl, h2, _⟩ := h
    exact tyX_T (FzAt.sqT w (.inr rfl) h2)
  · cases e
    obtain ⟨a, dx, vs, G, rfl, _, _, h4, _⟩ := h
    exact .base (.lst h4.2)
  · cases e
    obtain ⟨a, dx, vs, G, rfl, _, _, h4, _⟩ := h
    exact .base (.dK (h4.2.1 rfl))
  · cases e
    obtain ⟨a, dx, vs, G, rfl, _, _, h4, _⟩ := h
    exact .base (.dT (h4.2.1 rfl))
  · cases e
    obtain ⟨a, vs, rfl, h2, _⟩ := h
    rcases w _ _ h2.2 with q | ⟨od, _, q⟩
    · exact .base (.dK q)
    · exact .fDict q
  · exact (nd _ _ rfl).elim
  · cases e
    obtain ⟨a, vs, rfl, h2, _⟩ := h
    exact tyX_L (FzAt.sqL w (.inl rfl) h2)
  · cases e
    obtain ⟨a, vs, rfl, h2, _⟩ := h
    exact tyX_L (FzAt.sqL w (.inr rfl) h2)
  · cases e
def gIsi (n : String) : T → Option T
  | .fz (.dT _) _ => none
  | t => (tyOf? t).bind fun s => (kitB s n).map fun b => .v (.bl b)
theorem ev_isi {M : List Nat} {te : TE} {fe : Ge → Option (Ge × Rs)} {n : String} (he : EvOk K cl M te fe) : EvOk K cl M (tCB (rIsi K) (tCons te (tCons (tC (.ty n)) tNil))) (f1 (gIsi n) fe) := fun Hf H σ Γ R I Γ' r0 e Q q => by
  have h1 : PR1 K cl (fun x H Q => rIsi K [x, .ty n] H Q) (gIsi n) := fun Hf H x tx tz Fx w rx e Q q => by
    unfold gIsi at e
    split at e
    · cases e
    · rename_i t nd
      cases e1 : tyOf? tx with
      | none => rw [e1] at e; cases e
      | some s =>
        rw [e1, Option.bind_some] at e
        cases e2 : kitB s n with
        | none => rw [e2] at e; cases e
        | some b =>
          rw [e2, Option.map_some] at e
          cases e
          exact ⟨x, .ty n, .type s, .type n, b, rfl, .ty n, tyX_of w rx e1 (fun ks xs z => nd ks xs z), kit_ty e2, q Hf H _ No (Al.refl w) ⟨rfl, rfl⟩⟩
  exact ev1 h1 he Hf H σ Γ R I Γ' r0 e Q q
end
end Vx

set_option maxRecDepth 100000
/-! Vx6: items, membership, tests, slices, lists together -/
namespace Vx
open PySem L2

section
variable {K : PySem.W.Frag} {cl : Nat → Addr} {Hf H : Hp} {M Ma Mb Mc : List Nat} {ta tb tc te : TE} {fa fb fc f : Ge → Option (Ge × Rs)}

theorem getAt_append : ∀ {π : List Nat} {t u : T} {n : Nat} {l : Bool} {s : Sh} {xs : List T} {c : T}, getAt π t = some u → u = .ow l s xs → xs[n]? = some c → getAt (π ++ [n]) t = some c
  | [], t, u, n, l, s, xs, c, e, eu, ex => by
    cases e
    subst eu
    show (match xs[n]? with | some x => getAt [] x | none => none) = some c
    rw [ex]
    rfl
  | m :: π, .ow l' s' ys, u, n, l, s, xs, c, e, eu, ex => by
    show (match ys[m]? with | some x => getAt (π ++ [n]) x | none => none) = some c
    have e : (match ys[m]? with | some x => getAt π x | none => none) = some u := e
    cases em : ys[m]? with
    | none => rw [em] at e; cases e
    | some y =>
      rw [em] at e
      exact getAt_append (t := y) e eu ex
  | _ :: _, .v _, _, _, _, _, _, _, e, _, _ => by cases e
  | _ :: _, .fz _ _, _, _, _, _, _, _, e, _, _ => by cases e
  | _ :: _, .out _, _, _, _, _, _, _, e, _, _ => by cases e
theorem reach_append : ∀ {π : List Nat} {v w z : V} {n : Nat}, Reach H π v w → Reach H [n] w z → Reach H (π ++ [n]) v z
  | [], _, _, _, _, h, k => by
    cases h
    exact k
  | _ :: _, _, _, _, _, ⟨a, o, x, h1, h2, h3, h4⟩, k => ⟨a, o, x, h1, h2, h3, reach_append h4 k⟩

/-! ### an item of a container -/
def sub (r : Rs) (n : Nat) (c : T) : Rs := if c.pers = true then .val c else match r with
  | .val _ => .val c
  | .at i π => .at i (π ++ [n])
variable (K cl)
def Itm (Hf H : Hp) (tx c : T) (n : Nat) (x w : V) (Fx : Rg) : Prop :=
  (∃ G, Rep K cl Hf H c w G ∧ ∀ a, G a → Fx a) ∧ (c.pers = false → Reach H [n] x w ∧ ∃ l s xs, tx = .ow l s xs ∧ xs[n]? = some c)
def PRx (r : R2) (g : T → T → Option (Nat × T)) : Prop := ∀ (Hf H : Hp) (x y : V) (tx ty c : T) (n : Nat) (Fx Fy : Rg), W Hf H → Rep K cl Hf H tx x Fx → Rep K cl Hf H ty y Fy → g tx ty = some (n, c) →
  ∃ w, Itm K cl Hf H tx c n x w Fx ∧ ∀ Q : VK, Q w H → r x y H Q
def PRf (r : V → Hp → VK → Prop) (g : T → Option (Nat × T)) : Prop := ∀ (Hf H : Hp) (x : V) (tx c : T) (n : Nat) (Fx : Rg), W Hf H → Rep K cl Hf H tx x Fx → g tx = some (n, c) →
  ∃ w, Itm K cl Hf H tx c n x w Fx ∧ ∀ Q : VK, Q w H → r x H Q
variable {K cl}
def fIx (M : List Nat) (g : T → T → Option (Nat × T)) (fa fb : Ge → Option (Ge × Rs)) : Ge → Option (Ge × Rs) := fun Γ =>
  (fa Γ).bind fun p => (fb p.1).bind fun q => if p.2.free M = true then (getT q.1 p.2).bind fun a => (getT q.1 q.2).bind fun b => (g a b).map fun c => (q.1, sub p.2 c.1 c.2) else none
def fFld (g : T → Option (Nat × T)) (fa : Ge → Option (Ge × Rs)) : Ge → Option (Ge × Rs) := fun Γ =>
  (fa Γ).bind fun p => (getT p.1 p.2).bind fun a => (g a).map fun c => (p.1, sub p.2 c.1 c.2)
theorem sub_ok {σ : St} {Γ : Ge} {R : Nat → Rg} {r : Rs} {S : Rg} {x w : V} {tx c : T} {n : Nat} {Fx : Rg} (I : ER K cl Hf H σ Γ R) (h : RsOk K cl Hf H σ Γ R r x S) (e : getT Γ r = some tx) (w0 : Rep K cl Hf H tx x Fx) (hF : ∀ t, r = .val t → ∀ a, Fx a → S a) (i : Itm K cl Hf H tx c n x w Fx) :
    ∃ S', RsOk K cl Hf H σ Γ R (sub r n c) w S' ∧ ∀ a, S' a → S a := by
  obtain ⟨⟨G, g1, g2⟩, k⟩ := i
  unfold sub
  cases p : c.pers with
  | true =>
    rw [if_pos rfl]
    exact ⟨No, ⟨(g1.per p).rep, fun _ _ z => z.elim, fun _ z => z.elim⟩, fun _ z => z.elim⟩
  | false =>
    rw [if_neg Bool.false_ne_true]
    obtain ⟨k1, l, s, xs, k2, k3⟩ := k p
    cases r with
    | val t =>
      obtain ⟨h1, h2, h3⟩ := h
      exact ⟨G, ⟨g1, fun i a g => h2 i a (hF t rfl a (g2 a g)), fun a g => h3 a (hF t rfl a (g2 a g))⟩, fun a g => hF t rfl a (g2 a g)⟩
    | «at» i π =>
      obtain ⟨h0, t, u, v0, e1, e2, e3, e4⟩ := h
      refine ⟨No, ⟨rfl, t, c, v0, e1, e2, ?_, reach_append e4 k1⟩, fun _ z => z.elim⟩
      unfold getT at e
      dsimp only at e
      rw [e1] at e
      exact getAt_append e k2 k3
theorem view_in {σ : St} {Γ : Ge} {R : Nat → Rg} {r : Rs} {S : Rg} {v : V} {u : T} (I : ER K cl Hf H σ Γ R) (h : RsOk K cl Hf H σ Γ R r v S) (e : getT Γ r = some u) : ∃ G, Rep K cl Hf H u v G ∧ ∀ t, r = .val t → ∀ a, G a → S a := by
  cases r with
  | val t =>
    cases e
    exact ⟨S, h.1, fun _ _ a s => s⟩
  | «at» i π =>
    obtain ⟨G, g, _⟩ := h.view I e
    exact ⟨G, g, fun t z => by cases z⟩
theorem ev_ix {r : R2} {g : T → T → Option (Nat × T)} (h : PRx K cl r g) (ha : EvOk K cl Ma ta fa) (hb : EvOk K cl Mb tb fb) : EvOk K cl (Ma ++ Mb) (tOp r ta tb) (fIx Mb g fa fb) := fun Hf H σ Γ R I Γ' r0 e Q q => by
  unfold fIx at e
  cases e1 : fa Γ with
  | none => rw [e1] at e; cases e
  | some p =>
    obtain ⟨Γ1, ra⟩ := p
    rw [e1, Option.bind_some] at e
    cases e2 : fb Γ1 with
    | none => rw [e2] at e; cases e
    | some p2 =>
      obtain ⟨Γ2, rb⟩ := p2
      rw [e2, Option.bind_some] at e
      dsimp only at e
      by_cases fr : ra.free Mb = true
      · rw [if_pos fr] at e
        cases e3 : getT Γ2 ra with
        | none => rw [e3] at e; cases e
        | some a =>
          rw [e3, Option.bind_some] at e
          cases e4 : getT Γ2 rb with
          | none => rw [e4] at e; cases e
          | some b =>
            rw [e4, Option.bind_some] at e
            cases e5 : g a b with
            | none => rw [e5] at e; cases e
            | some c =>
              rw [e5, Option.map_some] at e
              cases e
              refine ev_seq ha hb I e1 e2 fr fun Hf2 H2 R2 S1 S2 v1 v2 st I2 g2 r1 r2 dj => ?_
              obtain ⟨G1, w1, w1'⟩ := view_in I2 r1 e3
              obtain ⟨G2, w2, _⟩ := r2.view I2 e4
              obtain ⟨w, it, k⟩ := h Hf2 H2 v1 v2 a b c.2 c.1 G1 G2 I2.w w1 w2 e5
              obtain ⟨S', o1, o2⟩ := sub_ok I2 r1 e3 w1 w1' it
              exact k Q (q Hf2 H2 R2 S' w ⟨st.fr, st.kp, st.nw, fun a s => st.ns a (.inl (o2 a s)), st.le, st.nf⟩ I2 g2 o1)
      · rw [if_neg fr] at e
        cases e
theorem ev_fld {r : V → Hp → VK → Prop} {g : T → Option (Nat × T)} (h : PRf K cl r g) (ha : EvOk K cl M ta fa) : EvOk K cl M (tUn r ta) (fFld g fa) := fun Hf H σ Γ R I Γ' r0 e Q q => by
  unfold fFld at e
  cases e1 : fa Γ with
  | none => rw [e1] at e; cases e
  | some p =>
    obtain ⟨Γ1, ra⟩ := p
    rw [e1, Option.bind_some] at e
    dsimp only at e
    cases e3 : getT Γ1 ra with
    | none => rw [e3] at e; cases e
    | some a =>
      rw [e3, Option.bind_some] at e
      cases e5 : g a with
      | none => rw [e5] at e; cases e
      | some c =>
        rw [e5, Option.map_some] at e
        cases e
        refine ha Hf H σ Γ R I _ ra e1 _ fun Hf1 H1 R1 S1 v1 st1 I1 g1 r1 => ?_
        obtain ⟨G1, w1, w1'⟩ := view_in I1 r1 e3
        obtain ⟨w, it, k⟩ := h Hf1 H1 v1 a c.2 c.1 G1 I1.w w1 e5
        obtain ⟨S', o1, o2⟩ := sub_ok I1 r1 e3 w1 w1' it
        exact k Q (q Hf1 H1 R1 S' w ⟨st1.fr, st1.kp, st1.nw, fun a s => st1.ns a (o2 a s), st1.le, st1.nf⟩ I1 g1 o1)
/-- by a number -/
def fzSq : T → Option (List T)
  | .fz .tup xs => some xs
  | .fz .wtup xs => some xs
  | .fz .lst xs => some xs
  | .fz .wlst xs => some xs
  | _ => none
theorem Rep.fzSq {t : T} {v : V} {F : Rg} {xs : List T} (w : W Hf H) (h : Rep K cl Hf H t v F) (e : fzSq t = some xs) : ∃ a vs, v = .ref a ∧ (SqL K H a vs ∨ SqT K H a vs) ∧ PerAll K Hf xs vs := by
  unfold Vx.fzSq at e
  split at e
  · cases e
    obtain ⟨a, vs, h1, h2, h3⟩ := h
    exact ⟨a, vs, h1, .inr (FzAt.sqT w (.inl rfl) h2), h3⟩
  · cases e
    obtain ⟨a, vs, h1, h2, h3⟩ := h
    exact ⟨a, vs, h1, .inr (FzAt.sqT w (.inr rfl) h2), h3⟩
  · cases e
    obtain ⟨a, vs, h1, h2, h3⟩ := h
    exact ⟨a, vs, h1, .inl (FzAt.sqL w (.inl rfl) h2), h3⟩
  · cases e
    obtain ⟨a, vs, h1, h2, h3⟩ := h
    exact ⟨a, vs, h1, .inl (FzAt.sqL w (.inr rfl) h2), h3⟩
  · cases e
def itm (xs : List T) (i : Int) : Option (Nat × T) := (ixN xs.length i).bind fun n => (xs[n]?).map fun c => (n, c)
theorem itm_some {xs : List T} {i : Int} {n : Nat} {c : T} (e : itm xs i = some (n, c)) : ixN xs.length i = some n ∧ xs[n]? = some c := by
  unfold itm at e
  cases e2 : ixN xs.length i with
  | none => rw [e2] at e; cases e
  | some m =>
    rw [e2, Option.bind_some] at e
    cases e3 : xs[m]? with
    | none => rw [e3] at e; cases e
    | some c' =>
      rw [e3, Option.map_some] at e
      cases e
      exact ⟨rfl, e3⟩
def gIx : T → T → Option (Nat × T) := fun a b => match b with
  | .v (.int i) => match fzSq a with
    | some xs => itm xs i
    | none => match a with
      | .ow false .lst xs => itm xs i
      | _ => none
  | _ => none
theorem prx_ix : PRx K cl (rIx K) gIx := fun Hf H x y tx ty c n Fx Fy w rx ry e => by
  unfold gIx at e
  split at e
  · rename_i i
    cases ry.1
    cases e1 : fzSq tx with
    | some xs =>
      rw [e1] at e
      dsimp only at e
      obtain ⟨e2, e3⟩ := itm_some e
      obtain ⟨a, vs, rfl, h1, h2⟩ := rx.fzSq w e1
      obtain ⟨z, z1, z2⟩ := h2.get e3
      have hl := h2.len
      have ha : atI vs i = some z := by unfold atI; rw [← hl, e2]; exact z1
      refine ⟨z, ⟨⟨No, z2.rep, fun _ z => z.elim⟩, fun p => ?_⟩, fun Q q => ?_⟩
      · rw [z2.pers] at p
        cases p
      · rcases h1 with h1 | h1
        · exact .inl ⟨a, vs, i, z, rfl, rfl, h1, ha, q⟩
        · exact .inr (.inl ⟨a, vs, i, z, rfl, rfl, h1, ha, q⟩)
    | none =>
      rw [e1] at e
      dsimp only at e
      split at e
      · obtain ⟨e2, e3⟩ := itm_some e
        obtain ⟨a, dx, vs, G, rfl, k2, k3, k4, k5, k6, k7⟩ := rx
        obtain ⟨z, z1, z2⟩ := k7.get e3
        have hl := k7.len
        have ha : atI vs i = some z := by unfold atI; rw [← hl, e2]; exact z1
        exact ⟨z, ⟨⟨_, z2, fun b g => (k5 _ b g).1⟩, fun p => ⟨⟨_, _, z, rfl, k4.2, z1, rfl⟩, false, .lst, _, rfl, e3⟩⟩, fun Q q => .inl ⟨a, vs, i, z, rfl, rfl, SqL.of k4.2, ha, q⟩⟩
      · cases e
  · cases e

/-! ### dicts -/
def keyOf : T → Option Key
  | .v (.int i) => some (.inl i)
  | .v (.str s) => some (.inr s)
  | _ => none
def keysOf : List T → Option (List Key)
  | [] => some []
  | t :: ts => match keyOf t, keysOf ts with
    | some k, some ks => some (k :: ks)
    | _, _ => none
def keyT : T → Option (List Key)
  | .fz .tup xs => keysOf xs
  | _ => none
theorem keyOf_v {t : T} {v : V} {F : Rg} {k : Key} (h : Rep K cl Hf H t v F) (e : keyOf t = some k) : v = kV k := by
  unfold keyOf at e
  split at e
  · cases e; exact h.1
  · cases e; exact h.1
  · cases e
theorem keyOf_per {t : T} {v : V} {k : Key} (h : Per K Hf t v) (e : keyOf t = some k) : v = kV k := by
  unfold keyOf at e
  split at e
  · cases e; exact h.1
  · cases e; exact h.1
  · cases e
theorem keysOf_v : ∀ {ts : List T} {vs : List V} {ks : List Key}, PerAll K Hf ts vs → keysOf ts = some ks → vs = ks.map kV
  | [], [], ks, _, e => by
    unfold keysOf at e
    cases e
    rfl
  | t :: ts, v :: vs, ks, h, e => by
    unfold keysOf at e
    cases e1 : keyOf t with
    | none => rw [e1] at e; cases e
    | some k =>
      cases e2 : keysOf ts with
      | none => rw [e1, e2] at e; cases e
      | some ks' =>
        rw [e1, e2] at e
        cases e
        rw [keyOf_per h.1 e1, keysOf_v h.2 e2]
        rfl
  | [], _ :: _, _, h, _ => h.elim
  | _ :: _, [], _, h, _ => h.elim
theorem keyT_v {t : T} {v : V} {F : Rg} {k : List Key} (w : W Hf H) (h : Rep K cl Hf H t v F) (e : keyT t = some k) : ∃ b, v = .ref b ∧ H b = some (.tup (k.map kV)) := by
  unfold keyT at e
  split at e
  · obtain ⟨a, vs, rfl, h2, h3⟩ := h
    refine ⟨a, rfl, ?_⟩
    rw [← keysOf_v h3 e]
    rcases w _ _ h2 with q | ⟨od, d, _⟩
    · exact q
    · cases d
  · cases e
/-- the place of a key -/
def dIx {κ : Type} [DecidableEq κ] : List κ → κ → Option Nat
  | [], _ => none
  | a :: ks, k => if a = k then some 0 else (dIx ks k).map (· + 1)
theorem dIx_cons {κ : Type} [DecidableEq κ] {a : κ} {ks : List κ} {k : κ} : dIx (a :: ks) k = if a = k then some 0 else (dIx ks k).map (· + 1) := by rw [dIx]
theorem valV_zip {κ : Type} [DecidableEq κ] : ∀ {ks : List κ} {vs : List V} {k : κ}, ks.length = vs.length → valV (ks.zip vs) k = (dIx ks k).bind fun n => vs[n]?
  | [], _, _, _ => by simp [valV, dIx]
  | a :: ks, v :: vs, k, h => by
    rw [List.zip_cons_cons]
    by_cases e : a = k
    · rw [valV_pos (p := (a, v)) e, dIx_cons, if_pos e]
      rfl
    · rw [valV_neg (p := (a, v)) e, valV_zip (Nat.succ.inj h), dIx_cons, if_neg e]
      cases dIx ks k <;> rfl
  | _ :: _, [], _, h => by simp at h
theorem dIx_lt {κ : Type} [DecidableEq κ] : ∀ {ks : List κ} {k : κ} {n : Nat}, dIx ks k = some n → n < ks.length
  | [], _, _, e => by cases e
  | a :: ks, k, n, e => by
    unfold dIx at e
    split at e
    · cases e; simp
    · cases e1 : dIx ks k with
      | none => rw [e1] at e; cases e
      | some m =>
        rw [e1, Option.map_some] at e
        cases e
        have := dIx_lt e1
        simp only [List.length_cons]
        omega
/-- a dict that is read, and a key of its kind: the place of the key, if it is there -/
def dLook (a b : T) : Option (Option Nat × List T) := match a with
  | .fz (.dK ks) xs => (keyOf b).map fun k => (dIx ks k, xs)
  | .ow _ (.dK ks) xs => (keyOf b).map fun k => (dIx ks k, xs)
  | .fz (.dT ks) xs => (keyT b).map fun k => (dIx ks k, xs)
  | .ow _ (.dT ks) xs => (keyT b).map fun k => (dIx ks k, xs)
  | _ => none
theorem rd_fz {a : Addr} {o : HO} (w : W Hf H) (h : Hf a = some o) : Rd H a o := by
  rcases w _ _ h with q | ⟨od, _, q⟩
  · exact .inl q
  · exact .inr ⟨od, q⟩
theorem rd_owK {a dx : Addr} {l : Bool} {ks : List Key} {vs : List V} (h : OwAt cl H a dx l (.dK ks) vs) : Rd H a (.dK (ks.zip vs)) := by
  cases l with
  | false => exact .inl (h.2.1 rfl)
  | true => obtain ⟨od, q⟩ := h.2.2 rfl; exact .inr ⟨od, q⟩
theorem rd_owT {a dx : Addr} {l : Bool} {ks : List (List Key)} {vs : List V} (h : OwAt cl H a dx l (.dT ks) vs) : Rd H a (.dT (ks.zip vs)) := by
  cases l with
  | false => exact .inl (h.2.1 rfl)
  | true => obtain ⟨od, q⟩ := h.2.2 rfl; exact .inr ⟨od, q⟩
/-- children of a node, whether frozen or owned -/
def Kids (K : PySem.W.Frag) (cl : Nat → Addr) (Hf H : Hp) (tx : T) (x : V) (Fx : Rg) (xs : List T) (vs : List V) : Prop :=
  xs.length = vs.length ∧ ∀ (n : Nat) c w, xs[n]? = some c → vs[n]? = some w → Itm K cl Hf H tx c n x w Fx
theorem kids_fz {s : Sh} {xs : List T} {x : V} {Fx : Rg} {vs : List V} (h : PerAll K Hf xs vs) : Kids K cl Hf H (.fz s xs) x Fx xs vs :=
  ⟨h.len, fun n c w a b => by
    obtain ⟨w', e, r⟩ := h.get a
    rw [e] at b
    cases b
    exact ⟨⟨No, r.rep, fun _ z => z.elim⟩, fun p => by rw [r.pers] at p; cases p⟩⟩
theorem kids_ow {l : Bool} {s : Sh} {xs : List T} {a : Addr} {o : HO} {Fx : Rg} {vs : List V} {G : Nat → Rg} (ho : H a = some o) (hk : kids o = vs) (h : RepAll K cl Hf H xs vs G 0) (hG : ∀ i b, G i b → Fx b) : Kids K cl Hf H (.ow l s xs) (.ref a) Fx xs vs :=
  ⟨h.len, fun n c w q b => by
    obtain ⟨w', e, r⟩ := h.get q
    rw [e] at b
    cases b
    exact ⟨⟨_, r, fun b g => hG _ b g⟩, fun _ => ⟨⟨a, o, _, rfl, ho, by rw [hk]; exact e, rfl⟩, l, s, xs, rfl, q⟩⟩⟩
theorem dLook_ok {a b : T} {x y : V} {Fx Fy : Rg} {n : Option Nat} {xs : List T} (w : W Hf H) (rx : Rep K cl Hf H a x Fx) (ry : Rep K cl Hf H b y Fy) (e : dLook a b = some (n, xs)) :
    ∃ p vs, x = .ref p ∧ DGet H p y (n.bind fun m => vs[m]?) ∧ Kids K cl Hf H a x Fx xs vs ∧ (∀ m, n = some m → m < xs.length) := by
  unfold dLook at e
  split at e
  · cases e1 : keyOf b with
    | none => rw [e1] at e; cases e
    | some k =>
      rw [e1, Option.map_some] at e
      cases e
      cases keyOf_v ry e1
      obtain ⟨p, vs, rfl, h2, h3⟩ := rx
      refine ⟨p, vs, rfl, ?_, kids_fz h3, fun m q => by rw [h3.len, ← h2.1]; exact dIx_lt q⟩
      rw [← valV_zip h2.1]
      exact .inl ⟨_, k, rd_fz w h2.2, rfl, rfl⟩
  · cases e1 : keyOf b with
    | none => rw [e1] at e; cases e
    | some k =>
      rw [e1, Option.map_some] at e
      cases e
      cases keyOf_v ry e1
      obtain ⟨p, dx, vs, G, rfl, k2, k3, k4, k5, k6, k7⟩ := rx
      obtain ⟨o, ho, hk⟩ := OwAt.kids (cl := cl) k4
      refine ⟨p, vs, rfl, ?_, kids_ow ho hk k7 fun i b g => (k5 i b g).1, fun m q => by rw [k7.len, ← k4.1]; exact dIx_lt q⟩
      rw [← valV_zip k4.1]
      exact .inl ⟨_, k, rd_owK k4, rfl, rfl⟩
  · cases e1 : keyT b with
    | none => rw [e1] at e; cases e
    | some k =>
      rw [e1, Option.map_some] at e
      cases e
      obtain ⟨kb, rfl, hkb⟩ := keyT_v w ry e1
      obtain ⟨p, vs, rfl, h2, h3⟩ := rx
      refine ⟨p, vs, rfl, ?_, kids_fz h3, fun m q => by rw [h3.len, ← h2.1]; exact dIx_lt q⟩
      rw [← valV_zip h2.1]
      exact .inr ⟨_, k, kb, rd_fz w h2.2, rfl, hkb, rfl⟩
  · cases e1 : keyT b with
    | none => rw [e1] at e; cases e
    | some k =>
      rw [e1, Option.map_some] at e
      cases e
      obtain ⟨kb, rfl, hkb⟩ := keyT_v w ry e1
      obtain ⟨p, dx, vs, G, rfl, k2, k3, k4, k5, k6, k7⟩ := rx
      obtain ⟨o, ho, hk⟩ := OwAt.kids (cl := cl) k4
      refine ⟨p, vs, rfl, ?_, kids_ow ho hk k7 fun i b g => (k5 i b g).1, fun m q => by rw [k7.len, ← k4.1]; exact dIx_lt q⟩
      rw [← valV_zip k4.1]
      exact .inr ⟨_, k, kb, rd_owT k4, rfl, hkb, rfl⟩
  · cases e
def rDGet : R2 := fun x y H Q => ∃ a v, x = .ref a ∧ DGet H a y (some v) ∧ Q v H
theorem tDGet_is {td ty : TE} : tDGet td ty = tOp rDGet td ty := rfl
def gDGet : T → T → Option (Nat × T) := fun a b => match dLook a b with
  | some (some n, xs) => (xs[n]?).map fun c => (n, c)
  | _ => none
theorem prx_dget : PRx K cl rDGet gDGet := fun Hf H x y tx ty c n Fx Fy w rx ry e => by
  unfold gDGet at e
  split at e
  · rename_i m xs e1
    obtain ⟨p, vs, rfl, h1, ⟨hl, h2⟩, h3⟩ := dLook_ok w rx ry e1
    cases e3 : xs[m]? with
    | none => rw [e3] at e; cases e
    | some c' =>
      rw [e3, Option.map_some] at e
      cases e
      have hm := h3 _ rfl
      have ev : vs[n]? = some vs[n] := List.getElem?_eq_getElem (by omega)
      refine ⟨vs[n]'(by omega), h2 _ _ _ e3 ev, fun Q q => ⟨p, _, rfl, ?_, q⟩⟩
      rw [Option.bind_some, ev] at h1
      exact h1
  · cases e
theorem fIx_some {g : T → T → Option (Nat × T)} {Γ Γ' : Ge} {r : Rs} (e : fIx M g fa fb Γ = some (Γ', r)) : ∃ Γ1 ra rb a b c, fa Γ = some (Γ1, ra) ∧ fb Γ1 = some (Γ', rb) ∧ ra.free M = true ∧ getT Γ' ra = some a ∧ getT Γ' rb = some b ∧ g a b = some c ∧ r = sub ra c.1 c.2 := by
  unfold fIx at e
  cases e1 : fa Γ with
  | none => rw [e1] at e; cases e
  | some p =>
    obtain ⟨Γ1, ra⟩ := p
    rw [e1, Option.bind_some] at e
    cases e2 : fb Γ1 with
    | none => rw [e2] at e; cases e
    | some p2 =>
      obtain ⟨Γ2, rb⟩ := p2
      rw [e2, Option.bind_some] at e
      dsimp only at e
      by_cases fr : ra.free M = true
      · rw [if_pos fr] at e
        cases e3 : getT Γ2 ra with
        | none => rw [e3] at e; cases e
        | some a =>
          rw [e3, Option.bind_some] at e
          cases e4 : getT Γ2 rb with
          | none => rw [e4] at e; cases e
          | some b =>
            rw [e4, Option.bind_some] at e
            cases e5 : g a b with
            | none => rw [e5] at e; cases e
            | some c =>
              rw [e5, Option.map_some] at e
              cases e
              exact ⟨Γ1, ra, rb, a, b, c, rfl, e2, fr, e3, e4, e5, rfl⟩
      · rw [if_neg fr] at e
        cases e
theorem fIx_intro {g : T → T → Option (Nat × T)} {Γ Γ1 Γ' : Ge} {r ra rb : Rs} {a b : T} {c : Nat × T} (e1 : fa Γ = some (Γ1, ra)) (e2 : fb Γ1 = some (Γ', rb)) (e3 : ra.free M = true) (e4 : getT Γ' ra = some a) (e5 : getT Γ' rb = some b) (e6 : g a b = some c) (e7 : r = sub ra c.1 c.2) :
    fIx M g fa fb Γ = some (Γ', r) := by
  unfold fIx
  rw [e1, Option.bind_some]
  dsimp only
  rw [e2, Option.bind_some]
  dsimp only
  rw [if_pos e3, e4, Option.bind_some, e5, Option.bind_some, e6, Option.map_some, e7]
def gxEi (g h : T → T → Option (Nat × T)) : T → T → Option (Nat × T) := fun a b => match g a b with
  | some c => some c
  | none => h a b
/-- xs[i] or d[k]: the trees tell which -/
theorem ev_ixd (ha : EvOk K cl Ma ta fa) (hb : EvOk K cl Mb tb fb) : EvOk K cl (Ma ++ Mb) (tEi (tOp (rIx K) ta tb) (tDGet ta tb)) (fIx Mb (gxEi gIx gDGet) fa fb) := fun Hf H σ Γ R I Γ' r0 e Q q => by
  have key : fIx Mb gIx fa fb Γ = some (Γ', r0) ∨ fIx Mb gDGet fa fb Γ = some (Γ', r0) := by
    obtain ⟨Γ1, ra, rb, a, b, c, e1, e2, e3, e4, e5, e6, e7⟩ := fIx_some e
    unfold gxEi at e6
    cases e8 : gIx a b with
    | some c' =>
      rw [e8] at e6
      cases e6
      exact .inl (fIx_intro e1 e2 e3 e4 e5 e8 e7)
    | none =>
      rw [e8] at e6
      exact .inr (fIx_intro e1 e2 e3 e4 e5 e6 e7)
  rcases key with k | k
  · exact .inl (ev_ix prx_ix ha hb Hf H σ Γ R I Γ' r0 k Q q)
  · exact .inr (ev_ix prx_dget ha hb Hf H σ Γ R I Γ' r0 k Q q)
end
end Vx

set_option maxRecDepth 100000
/-! Vx7: membership, tests, slices, lists together, tuples -/
namespace Vx
open PySem L2

section
variable {K : PySem.W.Frag} {cl : Nat → Addr} {Hf H : Hp} {M Ma Mb Mc : List Nat} {ta tb tc te : TE} {fa fb fc f : Ge → Option (Ge × Rs)}

/-! ### k in d, x in xs -/
def rDIn (neg : Bool) : R2 := fun y x H Q => ∃ a o, x = .ref a ∧ DGet H a y o ∧ Q (.bl (if neg then !o.isSome else o.isSome)) H
theorem tDIn_is {ty td : TE} : tDIn ty td = tOp (rDIn false) ty td := rfl
theorem tDNotIn_is {ty td : TE} : tDNotIn ty td = tOp (rDIn true) ty td := rfl
def gDIn (neg : Bool) : T → T → Option T := fun b a => (dLook a b).map fun p => .v (.bl (if neg then !p.1.isSome else p.1.isSome))
theorem pr_din {neg : Bool} : PR2 K cl (rDIn neg) (gDIn neg) := fun Hf H x y tx ty tz Fx Fy w rx ry e Q q => by
  unfold gDIn at e
  cases e1 : dLook ty tx with
  | none => rw [e1] at e; cases e
  | some p =>
    obtain ⟨n, xs⟩ := p
    rw [e1, Option.map_some] at e
    cases e
    obtain ⟨p, vs, rfl, h1, ⟨hl, h2⟩, h3⟩ := dLook_ok w ry rx e1
    refine ⟨p, _, rfl, h1, ?_⟩
    have : (n.bind fun m => vs[m]?).isSome = n.isSome := by
      cases n with
      | none => rfl
      | some m =>
        rw [Option.bind_some]
        have := h3 m rfl
        rw [List.getElem?_eq_getElem (show m < vs.length by omega)]
        rfl
    rw [this]
    exact q Hf H _ No (Al.refl w) ⟨rfl, rfl⟩
def gInD (neg : Bool) : T → T → Option T := fun a b => match toPD a, toPD b with
  | some d, some (.list ds) => if SeqAt.shaped d = true ∧ SeqAt.shaped (.list ds) = true then some (.v (.bl (if neg then !(ds.any fun z => PyData.eqv z d) else ds.any fun z => PyData.eqv z d))) else none
  | _, _ => none
theorem pr_inD : PR2 K cl (rInD K) (gInD false) := fun Hf H x y tx ty tz Fx Fy w rx ry e Q q => by
  unfold gInD at e
  split at e
  · rename_i d ds e1 e2
    split at e
    · rename_i h
      cases e
      exact ⟨d, ds, toPD_rep w _ _ _ _ rx e1, toPD_rep w _ _ _ _ ry e2, h.1, h.2, q Hf H _ No (Al.refl w) ⟨rfl, rfl⟩⟩
    · cases e
  · cases e
theorem pr_notInD : PR2 K cl (rNotInD K) (gInD true) := fun Hf H x y tx ty tz Fx Fy w rx ry e Q q => by
  unfold gInD at e
  split at e
  · rename_i d ds e1 e2
    split at e
    · rename_i h
      cases e
      exact ⟨d, ds, toPD_rep w _ _ _ _ rx e1, toPD_rep w _ _ _ _ ry e2, h.1, h.2, q Hf H _ No (Al.refl w) ⟨rfl, rfl⟩⟩
    · cases e
  · cases e
/-- scalars within a tuple -/
def scs? : List T → Option (List V)
  | [] => some []
  | .v x :: ts => (scs? ts).map (x :: ·)
  | _ => none
theorem PerAll.scs : ∀ {ts : List T} {vs : List V} {us : List V}, PerAll K Hf ts vs → scs? ts = some us → vs = us ∧ us.all flatV = true
  | [], [], us, _, e => by
    unfold scs? at e
    cases e
    exact ⟨rfl, rfl⟩
  | t :: ts, v :: vs, us, h, e => by
    cases t with
    | v x =>
      unfold scs? at e
      cases e1 : scs? ts with
      | none => rw [e1] at e; cases e
      | some js =>
        rw [e1, Option.map_some] at e
        cases e
        obtain ⟨h1, h2⟩ := h
        obtain ⟨k1, k2⟩ := PerAll.scs h2 e1
        obtain ⟨rfl, hs⟩ := h1
        refine ⟨by rw [k1], ?_⟩
        rw [List.all_cons, k2, Bool.and_true]
        cases v <;> first | rfl | cases hs
    | _ => cases e
  | [], _ :: _, _, h, _ => h.elim
  | _ :: _, [], _, h, _ => h.elim
def gInT (neg : Bool) : T → T → Option T := fun a b => match a, fzSq b with
  | .v x, some xs => if flatV x = true then (scs? xs).map fun us => .v (.bl (if neg then !inV x us else inV x us)) else none
  | _, _ => none
theorem pr_inT {neg : Bool} : PR2 K cl (rIn K neg) (gInT neg) := fun Hf H x y tx ty tz Fx Fy w rx ry e Q q => by
  unfold gInT at e
  split at e
  · rename_i x' xs e1
    split at e
    · rename_i hx
      cases e2 : scs? xs with
      | none => rw [e2] at e; cases e
      | some us =>
        rw [e2, Option.map_some] at e
        cases e
        obtain ⟨a, vs, rfl, h1, h2⟩ := ry.fzSq w e1
        obtain ⟨rfl, k⟩ := h2.scs e2
        cases rx.1
        exact ⟨a, vs, rfl, h1, hx, k, q Hf H _ No (Al.refl w) ⟨rfl, rfl⟩⟩
    · cases e
  · cases e
/-- either of two readings of one operation -/
theorem f2_some {g : T → T → Option T} {Γ Γ' : Ge} {r : Rs} (e : f2 M g fa fb Γ = some (Γ', r)) : ∃ Γ1 ra rb a b c, fa Γ = some (Γ1, ra) ∧ fb Γ1 = some (Γ', rb) ∧ ra.free M = true ∧ getT Γ' ra = some a ∧ getT Γ' rb = some b ∧ g a b = some c ∧ r = .val c := by
  unfold f2 at e
  cases e1 : fa Γ with
  | none => rw [e1] at e; cases e
  | some p =>
    obtain ⟨Γ1, ra⟩ := p
    rw [e1, Option.bind_some] at e
    cases e2 : fb Γ1 with
    | none => rw [e2] at e; cases e
    | some p2 =>
      obtain ⟨Γ2, rb⟩ := p2
      rw [e2, Option.bind_some] at e
      dsimp only at e
      by_cases fr : ra.free M = true
      · rw [if_pos fr] at e
        cases e3 : getT Γ2 ra with
        | none => rw [e3] at e; cases e
        | some a =>
          rw [e3, Option.bind_some] at e
          cases e4 : getT Γ2 rb with
          | none => rw [e4] at e; cases e
          | some b =>
            rw [e4, Option.bind_some] at e
            cases e5 : g a b with
            | none => rw [e5] at e; cases e
            | some c =>
              rw [e5, Option.map_some] at e
              cases e
              exact ⟨Γ1, ra, rb, a, b, c, rfl, e2, fr, e3, e4, e5, rfl⟩
      · rw [if_neg fr] at e
        cases e
theorem f2_intro {g : T → T → Option T} {Γ Γ1 Γ' : Ge} {r ra rb : Rs} {a b c : T} (e1 : fa Γ = some (Γ1, ra)) (e2 : fb Γ1 = some (Γ', rb)) (e3 : ra.free M = true) (e4 : getT Γ' ra = some a) (e5 : getT Γ' rb = some b) (e6 : g a b = some c) (e7 : r = .val c) :
    f2 M g fa fb Γ = some (Γ', r) := by
  unfold f2
  rw [e1, Option.bind_some]
  dsimp only
  rw [e2, Option.bind_some]
  dsimp only
  rw [if_pos e3, e4, Option.bind_some, e5, Option.bind_some, e6, Option.map_some, e7]
theorem ev2_ei {t u : TE} {g g' : T → T → Option T} (h : EvOk K cl M t (f2 Mb g fa fb)) (k : EvOk K cl M u (f2 Mb g' fa fb)) : EvOk K cl M (tEi t u) (f2 Mb (gEi g g') fa fb) := fun Hf H σ Γ R I Γ' r0 e Q q => by
  obtain ⟨Γ1, ra, rb, a, b, c, e1, e2, e3, e4, e5, e6, e7⟩ := f2_some e
  unfold gEi at e6
  cases e8 : g a b with
  | some c' =>
    rw [e8] at e6
    cases e6
    exact .inl (h Hf H σ Γ R I Γ' r0 (f2_intro e1 e2 e3 e4 e5 e8 e7) Q q)
  | none =>
    rw [e8] at e6
    exact .inr (k Hf H σ Γ R I Γ' r0 (f2_intro e1 e2 e3 e4 e5 e6 e7) Q q)

/-! ### is None -/
def gIsN (neg : Bool) : T → T → Option T := fun a b => match b with
  | .v .non => match a with
    | .v x => some (.v (.bl (if neg then !decide (x = .non) else decide (x = .non))))
    | .out _ => none
    | _ => some (.v (.bl neg))
  | _ => none
theorem pr_isN : PR2 K cl (fun x y H Q => y = .non ∧ Q (.bl (decide (x = .non))) H) (gIsN false) := fun Hf H x y tx ty tz Fx Fy w rx ry e Q q => by
  unfold gIsN at e
  split at e
  · cases ry.1
    refine ⟨rfl, ?_⟩
    split at e
    · cases e; cases rx.1; exact q Hf H _ No (Al.refl w) ⟨rfl, rfl⟩
    · cases e
    · cases e
      rename_i h1 h2
      cases tx with
      | v x => exact (h1 x rfl).elim
      | out x => exact (h2 x rfl).elim
      | fz s xs => obtain ⟨a, vs, rfl, _⟩ := rx; exact q Hf H _ No (Al.refl w) ⟨rfl, rfl⟩
      | ow l s xs => obtain ⟨a, dx, vs, G, rfl, _⟩ := rx; exact q Hf H _ No (Al.refl w) ⟨rfl, rfl⟩
  · cases e
theorem pr_notN : PR2 K cl (fun x y H Q => y = .non ∧ Q (.bl (!decide (x = .non))) H) (gIsN true) := fun Hf H x y tx ty tz Fx Fy w rx ry e Q q => by
  unfold gIsN at e
  split at e
  · cases ry.1
    refine ⟨rfl, ?_⟩
    split at e
    · cases e; cases rx.1; exact q Hf H _ No (Al.refl w) ⟨rfl, rfl⟩
    · cases e
    · cases e
      rename_i h1 h2
      cases tx with
      | v x => exact (h1 x rfl).elim
      | out x => exact (h2 x rfl).elim
      | fz s xs => obtain ⟨a, vs, rfl, _⟩ := rx; exact q Hf H _ No (Al.refl w) ⟨rfl, rfl⟩
      | ow l s xs => obtain ⟨a, dx, vs, G, rfl, _⟩ := rx; exact q Hf H _ No (Al.refl w) ⟨rfl, rfl⟩
  · cases e

/-! ### tests -/
def fT (fa : Ge → Option (Ge × Rs)) : Ge → Option (Ge × Bool) := fun Γ => (fa Γ).bind fun p => match p.2 with
  | .val (.v (.bl b)) => some (p.1, b)
  | _ => none
theorem et_bool (h : EvOk K cl M te f) : EvTOk K cl M (tB te) (fT f) := fun Hf H σ Γ R I Γ' b e Q q => by
  unfold fT at e
  cases e1 : f Γ with
  | none => rw [e1] at e; cases e
  | some p =>
    obtain ⟨Γ1, r⟩ := p
    rw [e1, Option.bind_some] at e
    dsimp only at e
    split at e
    · cases e
      refine h Hf H σ Γ R I _ _ e1 _ fun Hf1 H1 R1 S1 v1 st1 I1 g1 r1 => ⟨_, r1.1.1, q Hf1 H1 R1 st1.noS I1 g1⟩
    · cases e
theorem et_test (h : EvOk K cl M te f) : EvTOk K cl M (tTest te) (fT f) := et_bool h
def gTru : T → Option Bool
  | .v .non => some false
  | .v (.bl b) => some b
  | .v (.int i) => some (i != 0)
  | .fz .tup xs => some (!xs.isEmpty)
  | .fz .wtup xs => some (!xs.isEmpty)
  | .fz .lst xs => some (!xs.isEmpty)
  | .fz .wlst xs => some (!xs.isEmpty)
  | .ow false .lst xs => some (!xs.isEmpty)
  | .ow false (.dK ks) xs => some (!ks.isEmpty)
  | _ => none
def fTr (fa : Ge → Option (Ge × Rs)) : Ge → Option (Ge × Bool) := fun Γ => (fa Γ).bind fun p => (getT p.1 p.2).bind fun t => (gTru t).map fun b => (p.1, b)
theorem isE {α β : Type} {xs : List α} {ys : List β} (h : xs.length = ys.length) : xs.isEmpty = ys.isEmpty := by
  cases xs <;> cases ys <;> first | rfl | simp at h
theorem gTru_ok {t : T} {x : V} {b : Bool} {F : Rg} (w : W Hf H) (r : Rep K cl Hf H t x F) (e : gTru t = some b) : TruV K x H b := by
  unfold gTru at e
  split at e
  · cases e; cases r.1; rfl
  · cases e; cases r.1; rfl
  · cases e; cases r.1; rfl
  · cases e
    obtain ⟨a, vs, rfl, h1, h2⟩ := r
    exact .inr (.inl ⟨vs, FzAt.sqT w (.inl rfl) h1, by rw [isE h2.len]⟩)
  · cases e
    obtain ⟨a, vs, rfl, h1, h2⟩ := r
    exact .inr (.inl ⟨vs, FzAt.sqT w (.inr rfl) h1, by rw [isE h2.len]⟩)
  · cases e
    obtain ⟨a, vs, rfl, h1, h2⟩ := r
    exact .inl ⟨vs, FzAt.sqL w (.inl rfl) h1, by rw [isE h2.len]⟩
  · cases e
    obtain ⟨a, vs, rfl, h1, h2⟩ := r
    exact .inl ⟨vs, FzAt.sqL w (.inr rfl) h1, by rw [isE h2.len]⟩
  · cases e
    obtain ⟨a, dx, vs, G, rfl, k2, k3, k4, k5, k6, k7⟩ := r
    exact .inl ⟨vs, SqL.of k4.2, by rw [isE k7.len]⟩
  · cases e
    obtain ⟨a, dx, vs, G, rfl, k2, k3, k4, k5, k6, k7⟩ := r
    have q1 := k4.1
    exact .inr (.inr ⟨_, k4.2.1 rfl, congrArg (!·) (isE (by rw [List.length_zip, ← q1, Nat.min_self]))⟩)
  · cases e
theorem et_tru (h : EvOk K cl M te f) : EvTOk K cl M (fun σ H Q => te σ H fun x H' => ∃ k, TruV K x H' k ∧ Q k H') (fTr f) := fun Hf H σ Γ R I Γ' b e Q q => by
  unfold fTr at e
  cases e1 : f Γ with
  | none => rw [e1] at e; cases e
  | some p =>
    obtain ⟨Γ1, r⟩ := p
    rw [e1, Option.bind_some] at e
    dsimp only at e
    cases e2 : getT Γ1 r with
    | none => rw [e2] at e; cases e
    | some t =>
      rw [e2, Option.bind_some] at e
      cases e3 : gTru t with
      | none => rw [e3] at e; cases e
      | some b' =>
        rw [e3, Option.map_some] at e
        cases e
        refine h Hf H σ Γ R I _ _ e1 _ fun Hf1 H1 R1 S1 v1 st1 I1 g1 r1 => ?_
        obtain ⟨G, g, _⟩ := r1.view I1 e2
        exact ⟨_, gTru_ok I1.w g e3, q Hf1 H1 R1 st1.noS I1 g1⟩
variable {tt tu : TT} {ft fu : Ge → Option (Ge × Bool)}
def fAnd (ft fu : Ge → Option (Ge × Bool)) : Ge → Option (Ge × Bool) := fun Γ => (ft Γ).bind fun p => if p.2 = true then fu p.1 else some (p.1, false)
def fOr (ft fu : Ge → Option (Ge × Bool)) : Ge → Option (Ge × Bool) := fun Γ => (ft Γ).bind fun p => if p.2 = true then some (p.1, true) else fu p.1
def fNot (ft : Ge → Option (Ge × Bool)) : Ge → Option (Ge × Bool) := fun Γ => (ft Γ).map fun p => (p.1, !p.2)
theorem stp2 {Hf1 Hf2 H1 H2 : Hp} {R R1 R2 : Nat → Rg} {Γ Γ1 Γ2 : Ge} (s : Stp Hf H R Ma Hf1 H1 R1 No) (t : Stp Hf1 H1 R1 Mb Hf2 H2 R2 No) (g : ∀ i, i ∉ Ma → Γ1[i]? = Γ[i]?) (g' : ∀ i, i ∉ Mb → Γ2[i]? = Γ1[i]?) :
    Stp Hf H R (Ma ++ Mb) Hf2 H2 R2 No ∧ ∀ i, i ∉ Ma ++ Mb → Γ2[i]? = Γ[i]? :=
  ⟨s.trans t, fun i n => (g' i fun z => n (List.mem_append_right _ z)).trans (g i fun z => n (List.mem_append_left _ z))⟩
theorem stp1 {Hf1 H1 : Hp} {R R1 : Nat → Rg} {Γ Γ1 : Ge} (Mb : List Nat) (s : Stp Hf H R Ma Hf1 H1 R1 No) (g : ∀ i, i ∉ Ma → Γ1[i]? = Γ[i]?) :
    Stp Hf H R (Ma ++ Mb) Hf1 H1 R1 No ∧ ∀ i, i ∉ Ma ++ Mb → Γ1[i]? = Γ[i]? :=
  ⟨s.more fun i z => List.mem_append_left _ z, fun i n => g i fun z => n (List.mem_append_left _ z)⟩
theorem et_and (h : EvTOk K cl Ma tt ft) (k : EvTOk K cl Mb tu fu) : EvTOk K cl (Ma ++ Mb) (tAnd tt tu) (fAnd ft fu) := fun Hf H σ Γ R I Γ' b e Q q => by
  unfold fAnd at e
  cases e1 : ft Γ with
  | none => rw [e1] at e; cases e
  | some p =>
    obtain ⟨Γ1, c⟩ := p
    rw [e1, Option.bind_some] at e
    dsimp only at e
    refine h Hf H σ Γ R I _ _ e1 _ fun Hf1 H1 R1 st1 I1 g1 => ?_
    cases c with
    | true =>
      rw [if_pos rfl] at e ⊢
      exact k Hf1 H1 σ Γ1 R1 I1 Γ' b e Q fun Hf2 H2 R2 st2 I2 g2 => let ⟨s, g⟩ := stp2 st1 st2 g1 g2; q Hf2 H2 R2 s I2 g
    | false =>
      rw [if_neg Bool.false_ne_true] at e ⊢
      cases e
      obtain ⟨s, g⟩ := stp1 Mb st1 g1
      exact q Hf1 H1 R1 s I1 g
theorem et_or (h : EvTOk K cl Ma tt ft) (k : EvTOk K cl Mb tu fu) : EvTOk K cl (Ma ++ Mb) (tOr tt tu) (fOr ft fu) := fun Hf H σ Γ R I Γ' b e Q q => by
  unfold fOr at e
  cases e1 : ft Γ with
  | none => rw [e1] at e; cases e
  | some p =>
    obtain ⟨Γ1, c⟩ := p
    rw [e1, Option.bind_some] at e
    dsimp only at e
    refine h Hf H σ Γ R I _ _ e1 _ fun Hf1 H1 R1 st1 I1 g1 => ?_
    cases c with
    | false =>
      rw [if_neg Bool.false_ne_true] at e ⊢
      exact k Hf1 H1 σ Γ1 R1 I1 Γ' b e Q fun Hf2 H2 R2 st2 I2 g2 => let ⟨s, g⟩ := stp2 st1 st2 g1 g2; q Hf2 H2 R2 s I2 g
    | true =>
      rw [if_pos rfl] at e ⊢
      cases e
      obtain ⟨s, g⟩ := stp1 Mb st1 g1
      exact q Hf1 H1 R1 s I1 g
theorem et_not (h : EvTOk K cl M tt ft) : EvTOk K cl M (tNot tt) (fNot ft) := fun Hf H σ Γ R I Γ' b e Q q => by
  unfold fNot at e
  cases e1 : ft Γ with
  | none => rw [e1] at e; cases e
  | some p =>
    rw [e1, Option.map_some] at e
    cases e
    exact h Hf H σ Γ R I _ _ e1 _ fun Hf1 H1 R1 st1 I1 g1 => q Hf1 H1 R1 st1 I1 g1
theorem et_yes : EvTOk K cl [] tYes (fun Γ => some (Γ, true)) := fun Hf H σ Γ R I Γ' b e Q q => by
  cases e
  exact q Hf H R Stp.refl I fun _ _ => rfl
/-- and, or, not as values -/
def fAndV (fa fb : Ge → Option (Ge × Rs)) : Ge → Option (Ge × Rs) := fun Γ => (fT fa Γ).bind fun p => if p.2 = true then fb p.1 else some (p.1, .val (.v (.bl false)))
def fOrV (fa fb : Ge → Option (Ge × Rs)) : Ge → Option (Ge × Rs) := fun Γ => (fT fa Γ).bind fun p => if p.2 = true then some (p.1, .val (.v (.bl true))) else fb p.1
def fNotV (fa : Ge → Option (Ge × Rs)) : Ge → Option (Ge × Rs) := fun Γ => (fT fa Γ).map fun p => (p.1, .val (.v (.bl (!p.2))))
theorem stp2v {Hf1 Hf2 H1 H2 : Hp} {R R1 R2 : Nat → Rg} {Γ Γ1 Γ2 : Ge} {S : Rg} (s : Stp Hf H R Ma Hf1 H1 R1 No) (t : Stp Hf1 H1 R1 Mb Hf2 H2 R2 S) (g : ∀ i, i ∉ Ma → Γ1[i]? = Γ[i]?) (g' : ∀ i, i ∉ Mb → Γ2[i]? = Γ1[i]?) :
    Stp Hf H R (Ma ++ Mb) Hf2 H2 R2 S ∧ ∀ i, i ∉ Ma ++ Mb → Γ2[i]? = Γ[i]? :=
  ⟨s.trans t, fun i n => (g' i fun z => n (List.mem_append_right _ z)).trans (g i fun z => n (List.mem_append_left _ z))⟩
theorem rs_sc {σ : St} {Γ : Ge} {R : Nat → Rg} {x : V} (h : isSc x = true) : RsOk K cl Hf H σ Γ R (.val (.v x)) x No := ⟨⟨rfl, h⟩, fun _ _ z => z.elim, fun _ z => z.elim⟩
theorem ev_andV (ha : EvOk K cl Ma ta fa) (hb : EvOk K cl Mb tb fb) : EvOk K cl (Ma ++ Mb) (tAndV ta tb) (fAndV fa fb) := fun Hf H σ Γ R I Γ' r0 e Q q => by
  unfold fAndV at e
  cases e1 : fT fa Γ with
  | none => rw [e1] at e; cases e
  | some p =>
    obtain ⟨Γ1, c⟩ := p
    rw [e1, Option.bind_some] at e
    dsimp only at e
    refine et_bool ha Hf H σ Γ R I _ _ e1 (fun c H1 => if c = true then tb σ H1 Q else Q (.bl false) H1) fun Hf1 H1 R1 st1 I1 g1 => ?_
    cases c with
    | true =>
      rw [if_pos rfl] at e ⊢
      exact hb Hf1 H1 σ Γ1 R1 I1 Γ' r0 e Q fun Hf2 H2 R2 S2 v2 st2 I2 g2 r2 => let ⟨s, g⟩ := stp2v st1 st2 g1 g2; q Hf2 H2 R2 S2 v2 s I2 g r2
    | false =>
      rw [if_neg Bool.false_ne_true] at e ⊢
      cases e
      obtain ⟨s, g⟩ := stp1 Mb st1 g1
      exact q Hf1 H1 R1 No _ s I1 g (rs_sc rfl)
theorem ev_orV (ha : EvOk K cl Ma ta fa) (hb : EvOk K cl Mb tb fb) : EvOk K cl (Ma ++ Mb) (tOrV ta tb) (fOrV fa fb) := fun Hf H σ Γ R I Γ' r0 e Q q => by
  unfold fOrV at e
  cases e1 : fT fa Γ with
  | none => rw [e1] at e; cases e
  | some p =>
    obtain ⟨Γ1, c⟩ := p
    rw [e1, Option.bind_some] at e
    dsimp only at e
    refine et_bool ha Hf H σ Γ R I _ _ e1 (fun c H1 => if c = true then Q (.bl true) H1 else tb σ H1 Q) fun Hf1 H1 R1 st1 I1 g1 => ?_
    cases c with
    | false =>
      rw [if_neg Bool.false_ne_true] at e ⊢
      exact hb Hf1 H1 σ Γ1 R1 I1 Γ' r0 e Q fun Hf2 H2 R2 S2 v2 st2 I2 g2 r2 => let ⟨s, g⟩ := stp2v st1 st2 g1 g2; q Hf2 H2 R2 S2 v2 s I2 g r2
    | true =>
      rw [if_pos rfl] at e ⊢
      cases e
      obtain ⟨s, g⟩ := stp1 Mb st1 g1
      exact q Hf1 H1 R1 No _ s I1 g (rs_sc rfl)
theorem ev_notV (ha : EvOk K cl M ta fa) : EvOk K cl M (tNotV ta) (fNotV fa) := fun Hf H σ Γ R I Γ' r0 e Q q => by
  unfold fNotV at e
  cases e1 : fT fa Γ with
  | none => rw [e1] at e; cases e
  | some p =>
    rw [e1, Option.map_some] at e
    cases e
    exact et_bool ha Hf H σ Γ R I _ _ e1 (fun c H1 => Q (.bl (!c)) H1) fun Hf1 H1 R1 st1 I1 g1 => q Hf1 H1 R1 No _ st1 I1 g1 (rs_sc rfl)
/-- a if t else b -/
def fIf (ft : Ge → Option (Ge × Bool)) (fa fb : Ge → Option (Ge × Rs)) : Ge → Option (Ge × Rs) := fun Γ => (ft Γ).bind fun p => if p.2 = true then fa p.1 else fb p.1
theorem ev_if (h : EvTOk K cl Mc tt ft) (ha : EvOk K cl Ma ta fa) (hb : EvOk K cl Mb tb fb) : EvOk K cl (Mc ++ (Ma ++ Mb)) (tIf tt ta tb) (fIf ft fa fb) := fun Hf H σ Γ R I Γ' r0 e Q q => by
  unfold fIf at e
  cases e1 : ft Γ with
  | none => rw [e1] at e; cases e
  | some p =>
    obtain ⟨Γ1, c⟩ := p
    rw [e1, Option.bind_some] at e
    dsimp only at e
    refine h Hf H σ Γ R I _ _ e1 _ fun Hf1 H1 R1 st1 I1 g1 => ?_
    cases c with
    | true =>
      rw [if_pos rfl] at e ⊢
      exact ha.more (M' := Ma ++ Mb) (fun i z => List.mem_append_left _ z) Hf1 H1 σ Γ1 R1 I1 Γ' r0 e Q fun Hf2 H2 R2 S2 v2 st2 I2 g2 r2 => let ⟨s, g⟩ := stp2v st1 st2 g1 g2; q Hf2 H2 R2 S2 v2 s I2 g r2
    | false =>
      rw [if_neg Bool.false_ne_true] at e ⊢
      exact hb.more (M' := Ma ++ Mb) (fun i z => List.mem_append_right _ z) Hf1 H1 σ Γ1 R1 I1 Γ' r0 e Q fun Hf2 H2 R2 S2 v2 st2 I2 g2 r2 => let ⟨s, g⟩ := stp2v st1 st2 g1 g2; q Hf2 H2 R2 S2 v2 s I2 g r2
end
end Vx

set_option maxRecDepth 100000
/-! Vx8: freezing, tuples, chains of comparisons, slices, lists together -/
namespace Vx
open PySem L2

mutual
def frz : T → Option T
  | .v x => some (.v x)
  | .fz s xs => some (.fz s xs)
  | .ow l s xs => if l = false ∧ s.isI = false then (frzs xs).map (T.fz s) else none
  | .out _ => none
def frzs : List T → Option (List T)
  | [] => some []
  | t :: ts => match frz t, frzs ts with
    | some u, some us => some (u :: us)
    | _, _ => none
end
section
variable {K : PySem.W.Frag} {cl : Nat → Addr} {Hf Hf' H : Hp} {M Ma Mb Mc : List Nat} {ta tb tc te : TE} {fa fb fc f : Ge → Option (Ge × Rs)}
mutual
theorem frz_per (le : Le Hf Hf') : ∀ (t : T) (v : V) (F : Rg) (t' : T), Rep K cl Hf H t v F → frz t = some t' → (∀ a o, F a → H a = some o → Hf' a = some o) → Per K Hf' t' v
  | .v x, v, F, t', h, e, _ => by
    unfold frz at e
    cases e
    exact h
  | .fz s xs, v, F, t', h, e, _ => by
    unfold frz at e
    cases e
    exact Per.le le _ _ h
  | .ow l s xs, v, F, t', ⟨a, dx, vs, G, h1, h2, h3, h4, h5, h6, h7⟩, e, fr => by
    unfold frz at e
    split at e
    · rename_i hl
      obtain ⟨rfl, hs⟩ := hl
      cases e1 : frzs xs with
      | none => rw [e1] at e; cases e
      | some us =>
        rw [e1, Option.map_some] at e
        cases e
        refine ⟨a, vs, h1, ?_, frzs_per le xs vs G 0 us h7 e1 fun i b o g q => fr b o (h5 i b g).1 q⟩
        cases s with
        | lst => exact fr a _ h2 h4.2
        | dK ks => exact ⟨h4.1, fr a _ h2 (h4.2.1 rfl)⟩
        | dT ks => exact ⟨h4.1, fr a _ h2 (h4.2.1 rfl)⟩
        | ins c ns => cases hs
        | tup => exact h4.elim
        | wtup => exact h4.elim
        | wlst => exact h4.elim
    · cases e
  | .out x, v, F, t', h, e, _ => by unfold frz at e; cases e
theorem frzs_per (le : Le Hf Hf') : ∀ (ts : List T) (vs : List V) (G : Nat → Rg) (n : Nat) (us : List T), RepAll K cl Hf H ts vs G n → frzs ts = some us → (∀ i a o, G i a → H a = some o → Hf' a = some o) → PerAll K Hf' us vs
  | [], [], _, _, us, _, e, _ => by
    unfold frzs at e
    cases e
    exact True.intro
  | t :: ts, v :: vs, G, n, us, h, e, fr => by
    unfold frzs at e
    cases e1 : frz t with
    | none => rw [e1] at e; cases e
    | some u =>
      cases e2 : frzs ts with
      | none => rw [e1, e2] at e; cases e
      | some us' =>
        rw [e1, e2] at e
        cases e
        exact ⟨frz_per le t v (G n) u h.1 e1 fun a o g q => fr n a o g q, frzs_per le ts vs G (n + 1) us' h.2 e2 fr⟩
  | [], _ :: _, _, _, _, h, _, _ => h.elim
  | _ :: _, [], _, _, _, h, _, _ => h.elim
end
open Classical in
/-- what lies in S is frozen as it stands -/
noncomputable def fzH (Hf H : Hp) (S : Rg) : Hp := fun a => if S a then H a else Hf a
theorem fzH_in {S : Rg} {a : Addr} (h : S a) : fzH Hf H S a = H a := by
  unfold fzH
  exact if_pos h
theorem fzH_out {S : Rg} {a : Addr} (h : ¬ S a) : fzH Hf H S a = Hf a := by
  unfold fzH
  exact if_neg h
theorem fzH_le {S : Rg} (h : ∀ a, S a → Hf a = none) : Le Hf (fzH Hf H S) := fun a o e => by
  by_cases z : S a
  · rw [h a z] at e; cases e
  · rw [fzH_out z]; exact e
theorem fzH_w {S : Rg} (w : W Hf H) : W (fzH Hf H S) H := ⟨fun a o e => by
  by_cases z : S a
  · rw [fzH_in z] at e; exact .inl e
  · rw [fzH_out z] at e; exact w a o e, fun b xs e => by
  by_cases z : S b
  · rw [fzH_in z]; exact e
  · rw [fzH_out z]; exact w.tp b xs e⟩
theorem fzH_back {S : Rg} {a : Addr} {o : HO} (e : fzH Hf H S a = some o) : Hf a = some o ∨ S a := by
  by_cases z : S a
  · exact .inr z
  · rw [fzH_out z] at e; exact .inl e

variable (K cl)
/-- a result, weakly: a place need not be a place of a tree any more -/
def RsW (Hf H : Hp) (σ : St) (R : Nat → Rg) (r : Rs) (v : V) (S : Rg) : Prop := match r with
  | .val t => Rep K cl Hf H t v S ∧ (∀ i a, S a → ¬ R i a) ∧ (∀ a, S a → H a ≠ none ∧ Hf a = none)
  | .at i π => S = No ∧ ∃ v0, σ[i]? = some (some v0) ∧ Reach H π v0 v
variable {K cl}
theorem RsOk.w {σ : St} {Γ : Ge} {R : Nat → Rg} {r : Rs} {v : V} {S : Rg} (h : RsOk K cl Hf H σ Γ R r v S) : RsW K cl Hf H σ R r v S := by
  cases r with
  | val t => exact h
  | «at» i π => exact ⟨h.1, let ⟨t, u, v0, a, b, c, d⟩ := h.2; ⟨v0, b, d⟩⟩
/-- a result made frozen: a value as it is, a place within its tree -/
def fzIn (M : List Nat) (Γ : Ge) : Rs → Option (Ge × T)
  | .val t => (frz t).map fun u => (Γ, u)
  | .at i π => if i ∈ M then match Γ[i]? with
    | some (some t) => (getAt π t).bind fun u => (frz u).bind fun u' => (putAt π u' t).map fun t' => (Γ.set i (some t'), u')
    | _ => none else none
structure Fz (K : PySem.W.Frag) (cl : Nat → Addr) (M : List Nat) (Hf H : Hp) (σ : St) (Γ : Ge) (R : Nat → Rg) (S : Rg) (Hf' : Hp) (Γ' : Ge) (R' : Nat → Rg) : Prop where
  er : ER K cl Hf' H σ Γ' R'
  le : Le Hf Hf'
  bk : ∀ a o, Hf' a = some o → Hf a = some o ∨ S a ∨ ∃ i, R i a
  sub : ∀ i a, R' i a → R i a
  kp : ∀ i, i ∉ M → R' i = R i ∧ Γ'[i]? = Γ[i]?
theorem fzIn_ok {σ : St} {Γ Γ' : Ge} {R : Nat → Rg} {r : Rs} {v : V} {S : Rg} {t' : T} (I : ER K cl Hf H σ Γ R) (h : RsW K cl Hf H σ R r v S) (e : fzIn M Γ r = some (Γ', t')) :
    ∃ Hf' R', Fz K cl M Hf H σ Γ R S Hf' Γ' R' ∧ Per K Hf' t' v := by
  cases r with
  | val t =>
    unfold fzIn at e
    dsimp only at e
    cases e1 : frz t with
    | none => rw [e1] at e; cases e
    | some u =>
      rw [e1, Option.map_some] at e
      cases e
      obtain ⟨h1, h2, h3⟩ := h
      have le : Le Hf (fzH Hf H S) := fzH_le fun a s => (h3 a s).2
      refine ⟨fzH Hf H S, R, ⟨⟨fzH_w I.w, I.len, fun i t e => let ⟨v, a, b⟩ := I.rep i t e; ⟨v, a, Rep.frame le _ _ _ (fun _ _ _ q => q) b⟩, I.dis, fun i a r => ⟨(I.trk i a r).1, ?_⟩⟩, le, fun a o e => (fzH_back e).elim .inl fun z => .inr (.inl z), fun _ _ r => r, fun _ _ => ⟨rfl, rfl⟩⟩,
        frz_per le t v S _ h1 e1 fun a o s q => by rw [fzH_in s]; exact q⟩
      rw [fzH_out fun s => h2 i a s r]
      exact (I.trk i a r).2
  | «at» i π =>
    obtain ⟨_, v0, hv0, hr⟩ := h
    unfold fzIn at e
    dsimp only at e
    split at e
    · rename_i hm
      split at e
      · rename_i t et
        cases e1 : getAt π t with
        | none => rw [e1] at e; cases e
        | some u =>
          rw [e1, Option.bind_some] at e
          cases e2 : frz u with
          | none => rw [e2] at e; cases e
          | some u' =>
            rw [e2, Option.bind_some] at e
            cases e3 : putAt π u' t with
            | none => rw [e3] at e; cases e
            | some t2 =>
              rw [e3, Option.map_some] at e
              cases e
              obtain ⟨v1, f1, f2⟩ := I.rep i t et
              rw [hv0] at f1
              cases f1
              obtain ⟨w, G, g1, g2, g3, g4⟩ := focus π t v0 (R i) u f2 e1
              cases reach_det g3 hr
              have le : Le Hf (fzH Hf H G) := fzH_le fun a s => (I.trk i a (g2 a s)).2
              have p' : Per K (fzH Hf H G) t' v := frz_per le u v G _ g1 e2 fun a o s q => by rw [fzH_in s]; exact q
              obtain ⟨t3, k1, k2⟩ := g4 (fzH Hf H G) H t' No le (fun a o _ _ q => q) p'.rep (fun a z => z.elim)
              rw [e3] at k1
              cases k1
              have hlt : i < Γ.length := (List.getElem?_eq_some_iff.mp et).1
              have gd : ∀ j a, G a → R j a → j = i := fun j a g r => I.dis j i a r (g2 a g)
              refine ⟨fzH Hf H G, fun j a => R j a ∧ ¬ G a, ⟨⟨fzH_w I.w, by rw [List.length_set]; exact I.len, fun j tj ej => ?_, fun j k a p q => I.dis j k a p.1 q.1, fun j a p => ⟨(I.trk j a p.1).1, ?_⟩⟩, le, fun a o e => ?_, fun j a p => p.1, fun j hj => ?_⟩, p'⟩
              · by_cases hji : j = i
                · subst hji
                  rw [List.getElem?_set_self hlt] at ej
                  cases ej
                  exact ⟨v0, hv0, k2.weak fun a z => z.elim id fun z => z.elim⟩
                · rw [List.getElem?_set_ne (Ne.symm hji)] at ej
                  obtain ⟨vj, a1, a2⟩ := I.rep j tj ej
                  have a3 : Rep K cl (fzH Hf H G) H tj vj (R j) := Rep.frame le _ _ _ (fun _ _ _ q => q) a2
                  exact ⟨vj, a1, a3.weak fun a r => ⟨r, fun g => hji (gd j a g r)⟩⟩
              · rw [fzH_out p.2]
                exact (I.trk j a p.1).2
              · rcases fzH_back e with z | z
                · exact .inl z
                · exact .inr (.inr ⟨i, g2 a z⟩)
              · have hji : j ≠ i := fun z => hj (z ▸ hm)
                refine ⟨?_, by rw [List.getElem?_set_ne (Ne.symm hji)]⟩
                funext a
                exact propext ⟨fun p => p.1, fun r => ⟨r, fun g => hji (gd j a g r)⟩⟩
      · cases e
    · cases e
/-- a further result stays one -/
theorem RsW.fz {σ : St} {Γ Γ' : Ge} {R R' : Nat → Rg} {r : Rs} {v : V} {S S0 : Rg} (z : Fz K cl M Hf H σ Γ R S0 Hf' Γ' R') (h : RsW K cl Hf H σ R r v S) (dj : ∀ a, S a → ¬ S0 a) : RsW K cl Hf' H σ R' r v S := by
  cases r with
  | val t =>
    obtain ⟨h1, h2, h3⟩ := h
    refine ⟨Rep.frame z.le _ _ _ (fun _ _ _ q => q) h1, fun i a s r => h2 i a s (z.sub i a r), fun a s => ⟨(h3 a s).1, ?_⟩⟩
    cases q : Hf' a with
    | none => rfl
    | some o =>
      rcases z.bk a o q with y | y | ⟨i, y⟩
      · rw [(h3 a s).2] at y; cases y
      · exact absurd y (dj a s)
      · exact absurd y (h2 i a s)
  | «at» i π => exact h
variable (K cl)
def RsWs (Hf H : Hp) (σ : St) (R : Nat → Rg) : List Rs → List V → List Rg → Prop
  | [], [], [] => True
  | r :: rs, v :: vs, S :: Ss => RsW K cl Hf H σ R r v S ∧ (∀ a, S a → ∀ S' ∈ Ss, ¬ S' a) ∧ RsWs Hf H σ R rs vs Ss
  | _, _, _ => False
variable {K cl}
theorem RsAll.ws {σ : St} {Γ : Ge} {R : Nat → Rg} : ∀ {rs : List Rs} {vs : List V} {Ss : List Rg}, RsAll K cl Hf H σ Γ R rs vs Ss → RsWs K cl Hf H σ R rs vs Ss
  | [], [], [], _ => True.intro
  | _ :: _, _ :: _, _ :: _, h => ⟨h.1.w, h.2.1, RsAll.ws h.2.2⟩
  | [], [], _ :: _, h => h.elim
  | [], _ :: _, _, h => h.elim
  | _ :: _, [], _, h => h.elim
  | _ :: _, _ :: _, [], h => h.elim
theorem RsWs.fz {σ : St} {Γ Γ' : Ge} {R R' : Nat → Rg} {S0 : Rg} (z : Fz K cl M Hf H σ Γ R S0 Hf' Γ' R') : ∀ {rs : List Rs} {vs : List V} {Ss : List Rg}, RsWs K cl Hf H σ R rs vs Ss → (∀ S ∈ Ss, ∀ a, S0 a → ¬ S a) → RsWs K cl Hf' H σ R' rs vs Ss
  | [], [], [], _, _ => True.intro
  | _ :: _, _ :: _, S :: _, h, dj => ⟨h.1.fz z fun a s s0 => dj S List.mem_cons_self a s0 s, h.2.1, RsWs.fz z h.2.2 fun S' m => dj S' (List.mem_cons_of_mem _ m)⟩
  | [], [], _ :: _, h, _ => h.elim
  | [], _ :: _, _, h, _ => h.elim
  | _ :: _, [], _, h, _ => h.elim
  | _ :: _, _ :: _, [], h, _ => h.elim
def fzAll (M : List Nat) : Ge → List Rs → Option (Ge × List T)
  | Γ, [] => some (Γ, [])
  | Γ, r :: rs => (fzIn M Γ r).bind fun p => (fzAll M p.1 rs).map fun q => (q.1, p.2 :: q.2)
theorem fzAll_ok {σ : St} : ∀ {rs : List Rs} {vs : List V} {Ss : List Rg} {Γ Γ' : Ge} {R : Nat → Rg} {Hf : Hp} {ts : List T}, ER K cl Hf H σ Γ R → RsWs K cl Hf H σ R rs vs Ss → fzAll M Γ rs = some (Γ', ts) →
    ∃ Hf' R', Fz K cl M Hf H σ Γ R (fun a => ∃ S ∈ Ss, S a) Hf' Γ' R' ∧ PerAll K Hf' ts vs
  | [], [], [], Γ, Γ', R, Hf, ts, I, h, e => by
    unfold fzAll at e
    cases e
    exact ⟨Hf, R, ⟨I, Le.refl _, fun _ _ e => .inl e, fun _ _ r => r, fun _ _ => ⟨rfl, rfl⟩⟩, True.intro⟩
  | r :: rs, v :: vs, S :: Ss, Γ, Γ', R, Hf, ts, I, h, e => by
    unfold fzAll at e
    cases e1 : fzIn M Γ r with
    | none => rw [e1] at e; cases e
    | some p =>
      obtain ⟨Γ1, t1⟩ := p
      rw [e1, Option.bind_some] at e
      cases e2 : fzAll M Γ1 rs with
      | none => rw [e2] at e; cases e
      | some p2 =>
        obtain ⟨Γ2, ts2⟩ := p2
        rw [e2, Option.map_some] at e
        cases e
        obtain ⟨Hf1, R1, z1, p1⟩ := fzIn_ok I h.1 e1
        obtain ⟨Hf2, R2, z2, p2⟩ := fzAll_ok z1.er (RsWs.fz z1 h.2.2 fun S' m a s s' => h.2.1 a s S' m s') e2
        refine ⟨Hf2, R2, ⟨z2.er, z1.le.trans z2.le, fun a o e => ?_, fun i a r => z1.sub i a (z2.sub i a r), fun i n => ⟨(z2.kp i n).1.trans (z1.kp i n).1, (z2.kp i n).2.trans (z1.kp i n).2⟩⟩, Per.le z2.le _ _ p1, p2⟩
        rcases z2.bk a o e with y | ⟨S', m, y⟩ | ⟨i, y⟩
        · rcases z1.bk a o y with y | y | y
          · exact .inl y
          · exact .inr (.inl ⟨S, List.mem_cons_self, y⟩)
          · exact .inr (.inr y)
        · exact .inr (.inl ⟨S', List.mem_cons_of_mem _ m, y⟩)
        · exact .inr (.inr ⟨i, z1.sub i a y⟩)
  | [], [], _ :: _, _, _, _, _, _, _, h, _ => h.elim
  | [], _ :: _, _, _, _, _, _, _, _, h, _ => h.elim
  | _ :: _, [], _, _, _, _, _, _, _, h, _ => h.elim
  | _ :: _, _ :: _, [], _, _, _, _, _, _, h, _ => h.elim
/-- behind freezing: the step as a whole -/
theorem Fz.stp {H0 Hf0 : Hp} {R0 : Nat → Rg} {σ : St} {Γ Γ' : Ge} {R R' : Nat → Rg} {S : Rg} (st : Stp Hf0 H0 R0 Ma Hf H R S) (z : Fz K cl M Hf H σ Γ R S Hf' Γ' R') : Stp Hf0 H0 R0 (Ma ++ M) Hf' H R' No where
  fr := st.fr
  kp := fun i n => by
    obtain ⟨a, b⟩ := st.kp i fun z => n (List.mem_append_left _ z)
    exact ⟨(z.kp i fun z => n (List.mem_append_right _ z)).1.trans a, b⟩
  nw := fun i a r => st.nw i a (z.sub i a r)
  ns := fun a z => z.elim
  le := st.le.trans z.le
  nf := fun a o e => by
    rcases z.bk a o e with y | y | ⟨i, y⟩
    · exact st.nf a o y
    · exact .inr (st.ns a y)
    · exact .inr (st.nw i a y)
theorem W.set {p : Addr} {o : HO} (w : W Hf H) (hp : H p = Option.none) : W (upd Hf p o) (upd H p o) := (al_fz w hp).w
/-- (a, b, ..) -/
def fTup (M : List Nat) (fa : Ge → Option (Ge × List Rs)) : Ge → Option (Ge × Rs) := fun Γ =>
  (fa Γ).bind fun p => (fzAll M p.1 p.2).bind fun q => if q.2.length ≤ 10000 then some (q.1, .val (.fz .tup q.2)) else none
theorem ev_tup {ta : TA} {fa : Ge → Option (Ge × List Rs)} (Mf : List Nat) (ha : EvAOk K cl M ta fa) : EvOk K cl (M ++ Mf) (tTup ta) (fTup Mf fa) := fun Hf H σ Γ R I Γ' r0 e Q q => by
  unfold fTup at e
  cases e1 : fa Γ with
  | none => rw [e1] at e; cases e
  | some p =>
    obtain ⟨Γ1, rs⟩ := p
    rw [e1, Option.bind_some] at e
    dsimp only at e
    cases e3 : fzAll Mf Γ1 rs with
    | none => rw [e3] at e; cases e
    | some p2 =>
      obtain ⟨Γ2, ts⟩ := p2
      rw [e3, Option.bind_some] at e
      dsimp only at e
      split at e
      · rename_i hl
        cases e
        refine ha Hf H σ Γ R I Γ1 rs e1 _ fun Hf1 H1 R1 Ss vs st1 I1 g1 r1 => ?_
        obtain ⟨Hf2, R2, z, pa⟩ := fzAll_ok I1 r1.ws e3
        refine ⟨by rw [← pa.len]; exact sz4 hl, fun p hp => ?_⟩
        have al : Al Hf2 H1 (upd Hf2 p (.tup vs)) (upd H1 p (.tup vs)) No := al_fz z.er.w hp
        have st := (z.stp st1).trans (M2 := []) (al.stp (R := R2))
        refine q _ _ R2 No (.ref p) (st.more fun i z => by rw [List.append_nil] at z; exact z) (al.er z.er) (fun i n => ?_) (al.rs z.er (per_newT (z.er.w.none hp) pa).rep)
        exact (z.kp i fun z => n (List.mem_append_right _ z)).2.trans (g1 i fun z => n (List.mem_append_left _ z))
      · cases e

/-! ### a < b < c -/
def bl? : Option T → Option Bool
  | some (.v (.bl b)) => some b
  | _ => none
def fCh (Mb Mc : List Nat) (g g' : T → T → Option T) (fa fb fc : Ge → Option (Ge × Rs)) : Ge → Option (Ge × Rs) := fun Γ =>
  (fa Γ).bind fun p => (fb p.1).bind fun q => if p.2.free Mb = true then (getT q.1 p.2).bind fun a => (getT q.1 q.2).bind fun b => (bl? (g a b)).bind fun c =>
    if c = true then (fc q.1).bind fun z => if q.2.free Mc = true then (getT z.1 q.2).bind fun b' => (getT z.1 z.2).bind fun d => (g' b' d).map fun c => (z.1, .val c) else none else some (q.1, .val (.v (.bl false))) else none
theorem ev_ch {r r' : R2} {g g' : T → T → Option T} (h : PR2 K cl r g) (h' : PR2 K cl r' g') (ha : EvOk K cl Ma ta fa) (hb : EvOk K cl Mb tb fb) (hc : EvOk K cl Mc tc fc) : EvOk K cl ((Ma ++ Mb) ++ Mc) (tChain r r' ta tb tc) (fCh Mb Mc g g' fa fb fc) := fun Hf H σ Γ R I Γ' r0 e Q q => by
  unfold fCh at e
  cases e1 : fa Γ with
  | none => rw [e1] at e; cases e
  | some p =>
    obtain ⟨Γ1, ra⟩ := p
    rw [e1, Option.bind_some] at e
    cases e2 : fb Γ1 with
    | none => rw [e2] at e; cases e
    | some p2 =>
      obtain ⟨Γ2, rb⟩ := p2
      rw [e2, Option.bind_some] at e
      dsimp only at e
      by_cases fr : ra.free Mb = true
      · rw [if_pos fr] at e
        cases e3 : getT Γ2 ra with
        | none => rw [e3] at e; cases e
        | some a =>
          rw [e3, Option.bind_some] at e
          cases e4 : getT Γ2 rb with
          | none => rw [e4] at e; cases e
          | some b =>
            rw [e4, Option.bind_some] at e
            cases e5 : g a b with
            | none => rw [e5] at e; cases e
            | some c =>
              rw [e5] at e
              cases e6 : bl? (some c) with
              | none => rw [e6] at e; cases e
              | some k =>
                rw [e6, Option.bind_some] at e
                have hc' : c = .v (.bl k) := by
                  unfold bl? at e6
                  split at e6
                  · rename_i z
                    cases e6
                    cases z
                    rfl
                  · cases e6
                refine ev_seq ha hb I e1 e2 fr fun Hf2 H2 R2 S1 S2 v1 v2 st I2 g2 r1 r2 dj => ?_
                obtain ⟨G1, w1, _⟩ := r1.view I2 e3
                obtain ⟨G2, w2, _⟩ := r2.view I2 e4
                refine h Hf2 H2 v1 v2 a b c G1 G2 I2.w w1 w2 e5 _ fun Hf3 H3 z S al rz => ?_
                subst hc'
                refine ⟨k, rz.1, ?_⟩
                have st3 := (⟨st.fr, st.kp, st.nw, fun a s => st.ns a (.inr s), st.le, st.nf⟩ : Stp Hf H R (Ma ++ Mb) Hf2 H2 R2 S2)
                have sta : Stp Hf2 H2 R2 [] Hf3 H3 R2 No := (al.stp (R := R2)).noS
                have st4 := (st3.trans sta).more (M2 := Ma ++ Mb) fun i z => by rw [List.append_nil] at z; exact z
                have I3 := al.er I2
                have r2' := r2.keep I2 sta (fun _ _ => rfl) (by cases rb <;> simp [Rs.free])
                cases k with
                | false =>
                  rw [if_neg Bool.false_ne_true] at e ⊢
                  cases e
                  obtain ⟨s, g⟩ := stp1 Mc st4 g2
                  exact q Hf3 H3 R2 No _ s I3 g (rs_sc rfl)
                | true =>
                  rw [if_pos rfl] at e ⊢
                  cases e7 : fc Γ2 with
                  | none => rw [e7] at e; cases e
                  | some p3 =>
                    obtain ⟨Γ3, rc⟩ := p3
                    rw [e7, Option.bind_some] at e
                    dsimp only at e
                    by_cases fr2 : rb.free Mc = true
                    · rw [if_pos fr2] at e
                      cases e8 : getT Γ3 rb with
                      | none => rw [e8] at e; cases e
                      | some b' =>
                        rw [e8, Option.bind_some] at e
                        cases e9 : getT Γ3 rc with
                        | none => rw [e9] at e; cases e
                        | some d =>
                          rw [e9, Option.bind_some] at e
                          cases e10 : g' b' d with
                          | none => rw [e10] at e; cases e
                          | some c2 =>
                            rw [e10, Option.map_some] at e
                            cases e
                            refine hc Hf3 H3 σ Γ2 R2 I3 _ rc e7 _ fun Hf4 H4 R4 S4 v4 st5 I4 g4 r4 => ?_
                            have rb4 := r2'.keep I3 st5 g4 fr2
                            obtain ⟨G5, w5, _⟩ := rb4.view I4 e8
                            obtain ⟨G6, w6, _⟩ := r4.view I4 e9
                            refine h' Hf4 H4 v2 v4 b' d c2 G5 G6 I4.w w5 w6 e10 Q fun Hf5 H5 z5 S5 al5 rz5 => ?_
                            have st6 := (st4.trans st5).trans (M2 := []) (al5.stp (R := R4))
                            exact q Hf5 H5 R4 S5 z5 (st6.more fun i z => by rw [List.append_nil] at z; exact z) (al5.er I4) (fun i n => (g4 i fun z => n (List.mem_append_right _ z)).trans (g2 i fun z => n (List.mem_append_left _ z))) (al5.rs I4 rz5)
                    · rw [if_neg fr2] at e
                      cases e
      · rw [if_neg fr] at e
        cases e
end
end Vx

set_option maxRecDepth 100000
/-! Vx9: statements -/
namespace Vx
open PySem L2

/-- how a statement ends -/
inductive Out where
  | nx (Γ : Ge)
  | rt (Γ : Ge) (t : T)
  | bk (Γ : Ge)
  | ct (Γ : Ge)
  | ex (Γ : Ge)
/-- slots that stand: as values, as trees -/
def Eq2 (A M : List Nat) (σ : St) (Γ : Ge) (σ' : St) (Γ' : Ge) : Prop := (∀ i, i ∉ A → σ'[i]? = σ[i]?) ∧ (∀ i, i ∉ M → Γ'[i]? = Γ[i]?) ∧ σ'.length = σ.length
section
variable (K : PySem.W.Frag) (cl : Nat → Addr)
def Fin (A M : List Nat) (Hf H : Hp) (σ : St) (Γ : Ge) (R : Nat → Rg) (E : St → Hp → Prop) (D : Ends) : Out → Prop
  | .nx Γ' => ∀ Hf' H' σ' R', Stp Hf H R M Hf' H' R' No → ER K cl Hf' H' σ' Γ' R' → Eq2 A M σ Γ σ' Γ' → D.nx σ' H'
  | .rt Γ' t => ∀ Hf' H' σ' R' S v, Stp Hf H R M Hf' H' R' S → ER K cl Hf' H' σ' Γ' R' → Eq2 A M σ Γ σ' Γ' → RsOk K cl Hf' H' σ' Γ' R' (.val t) v S → D.rt v H'
  | .bk Γ' => ∀ Hf' H' σ' R', Stp Hf H R M Hf' H' R' No → ER K cl Hf' H' σ' Γ' R' → Eq2 A M σ Γ σ' Γ' → D.bk σ' H'
  | .ct Γ' => ∀ Hf' H' σ' R', Stp Hf H R M Hf' H' R' No → ER K cl Hf' H' σ' Γ' R' → Eq2 A M σ Γ σ' Γ' → D.ct σ' H'
  | .ex Γ' => ∀ Hf' H' σ' R', Stp Hf H R M Hf' H' R' No → ER K cl Hf' H' σ' Γ' R' → Eq2 A M σ Γ σ' Γ' → E σ' H'
/-- what a statement's reading gives; E: what is wished where it raises -/
def StOk (E : St → Hp → Prop) (A M : List Nat) (ts : TS) (g : Ge → Option Out) : Prop :=
  ∀ (Hf H : Hp) (σ : St) (Γ : Ge) (R : Nat → Rg), ER K cl Hf H σ Γ R → ∀ o, g Γ = some o → ∀ D, Fin K cl A M Hf H σ Γ R E D o → ts D σ H
end
section
variable {K : PySem.W.Frag} {cl : Nat → Addr} {Hf Hf' H H' : Hp} {E : St → Hp → Prop} {A B M Ma Mb Mc : List Nat} {ts tu : TS} {te : TE} {f : Ge → Option (Ge × Rs)} {g g' : Ge → Option Out} {tt : TT} {ft : Ge → Option (Ge × Bool)}
theorem Eq2.refl {σ : St} {Γ : Ge} : Eq2 A M σ Γ σ Γ := ⟨fun _ _ => rfl, fun _ _ => rfl, rfl⟩
theorem Eq2.trans {σ σ1 σ2 : St} {Γ Γ1 Γ2 : Ge} (h : Eq2 A Ma σ Γ σ1 Γ1) (k : Eq2 B Mb σ1 Γ1 σ2 Γ2) : Eq2 (A ++ B) (Ma ++ Mb) σ Γ σ2 Γ2 :=
  ⟨fun i n => (k.1 i fun z => n (List.mem_append_right _ z)).trans (h.1 i fun z => n (List.mem_append_left _ z)), fun i n => (k.2.1 i fun z => n (List.mem_append_right _ z)).trans (h.2.1 i fun z => n (List.mem_append_left _ z)), k.2.2.trans h.2.2⟩
theorem Eq2.more {A' M' : List Nat} {σ σ1 : St} {Γ Γ1 : Ge} (h : Eq2 A M σ Γ σ1 Γ1) (ka : ∀ i, i ∈ A → i ∈ A') (km : ∀ i, i ∈ M → i ∈ M') : Eq2 A' M' σ Γ σ1 Γ1 :=
  ⟨fun i n => h.1 i fun z => n (ka i z), fun i n => h.2.1 i fun z => n (km i z), h.2.2⟩
/-- going on from a later moment -/
theorem Fin.later {σ σ1 : St} {Γ Γ1 : Ge} {R R1 : Nat → Rg} {Hf1 H1 : Hp} {D : Ends} {o : Out} (st : Stp Hf H R Ma Hf1 H1 R1 No) (eq : Eq2 A Ma σ Γ σ1 Γ1) (h : Fin K cl (A ++ B) (Ma ++ Mb) Hf H σ Γ R E D o) : Fin K cl B Mb Hf1 H1 σ1 Γ1 R1 E D o := by
  cases o with
  | nx Γ' => exact fun Hf' H' σ' R' s I e => h Hf' H' σ' R' (st.trans s) I (eq.trans e)
  | rt Γ' t => exact fun Hf' H' σ' R' S v s I e r => h Hf' H' σ' R' S v (st.trans s) I (eq.trans e) r
  | bk Γ' => exact fun Hf' H' σ' R' s I e => h Hf' H' σ' R' (st.trans s) I (eq.trans e)
  | ct Γ' => exact fun Hf' H' σ' R' s I e => h Hf' H' σ' R' (st.trans s) I (eq.trans e)
  | ex Γ' => exact fun Hf' H' σ' R' s I e => h Hf' H' σ' R' (st.trans s) I (eq.trans e)
theorem Fin.less {A' M' : List Nat} {σ : St} {Γ : Ge} {R : Nat → Rg} {D : Ends} {o : Out} (ka : ∀ i, i ∈ A → i ∈ A') (km : ∀ i, i ∈ M → i ∈ M') (h : Fin K cl A' M' Hf H σ Γ R E D o) : Fin K cl A M Hf H σ Γ R E D o := by
  cases o with
  | nx Γ' => exact fun Hf' H' σ' R' s I e => h Hf' H' σ' R' (s.more km) I (e.more ka km)
  | rt Γ' t => exact fun Hf' H' σ' R' S v s I e r => h Hf' H' σ' R' S v (s.more km) I (e.more ka km) r
  | bk Γ' => exact fun Hf' H' σ' R' s I e => h Hf' H' σ' R' (s.more km) I (e.more ka km)
  | ct Γ' => exact fun Hf' H' σ' R' s I e => h Hf' H' σ' R' (s.more km) I (e.more ka km)
  | ex Γ' => exact fun Hf' H' σ' R' s I e => h Hf' H' σ' R' (s.more km) I (e.more ka km)
theorem StOk.more {A' M' : List Nat} (h : StOk K cl E A M ts g) (ka : ∀ i, i ∈ A → i ∈ A') (km : ∀ i, i ∈ M → i ∈ M') : StOk K cl E A' M' ts g := fun Hf H σ Γ R I o e D fin =>
  h Hf H σ Γ R I o e D (fin.less ka km)

/-! ### blocks -/
def gSeq (g g' : Ge → Option Out) : Ge → Option Out := fun Γ => match g Γ with
  | some (.nx Γ') => g' Γ'
  | o => o
def gNx : Ge → Option Out := fun Γ => some (.nx Γ)
theorem st_next : StOk K cl E [] [] tNext gNx := fun Hf H σ Γ R I o e D fin => by
  cases e
  exact fin Hf H σ R Stp.refl I Eq2.refl
theorem st_seq (h : StOk K cl E A Ma ts g) (k : StOk K cl E B Mb tu g') : StOk K cl E (A ++ B) (Ma ++ Mb) (tSeq ts tu) (gSeq g g') := fun Hf H σ Γ R I o e D fin => by
  unfold gSeq at e
  have fin' : Fin K cl A Ma Hf H σ Γ R E D o := fin.less (fun i z => List.mem_append_left _ z) (fun i z => List.mem_append_left _ z)
  cases e1 : g Γ with
  | none => rw [e1] at e; cases e
  | some o1 =>
    rw [e1] at e
    refine h Hf H σ Γ R I o1 e1 { D with nx := tu D } ?_
    cases o1 with
    | nx Γ' => exact fun Hf1 H1 σ1 R1 st1 I1 eq1 => k Hf1 H1 σ1 Γ' R1 I1 o e D (fin.later st1 eq1)
    | rt Γ' t => cases e; exact fin'
    | bk Γ' => cases e; exact fin'
    | ct Γ' => cases e; exact fin'
    | ex Γ' => cases e; exact fin'
def gBk : Ge → Option Out := fun Γ => some (.bk Γ)
def gCt : Ge → Option Out := fun Γ => some (.ct Γ)
theorem st_break : StOk K cl E [] [] tBreak gBk := fun Hf H σ Γ R I o e D fin => by
  cases e
  exact fin Hf H σ R Stp.refl I Eq2.refl
theorem st_cont : StOk K cl E [] [] tCont gCt := fun Hf H σ Γ R I o e D fin => by
  cases e
  exact fin Hf H σ R Stp.refl I Eq2.refl
def gIf (ft : Ge → Option (Ge × Bool)) (g g' : Ge → Option Out) : Ge → Option Out := fun Γ => (ft Γ).bind fun p => if p.2 = true then g p.1 else g' p.1
theorem st_if (ht : EvTOk K cl Mc tt ft) (h : StOk K cl E A Ma ts g) (k : StOk K cl E B Mb tu g') : StOk K cl E (A ++ B) (Mc ++ (Ma ++ Mb)) (tIfS tt ts tu) (gIf ft g g') := fun Hf H σ Γ R I o e D fin => by
  unfold gIf at e
  cases e1 : ft Γ with
  | none => rw [e1] at e; cases e
  | some p =>
    obtain ⟨Γ1, b⟩ := p
    rw [e1, Option.bind_some] at e
    dsimp only at e
    refine ht Hf H σ Γ R I Γ1 b e1 _ fun Hf1 H1 R1 st1 I1 g1 => ?_
    have fin1 : Fin K cl (A ++ B) (Ma ++ Mb) Hf1 H1 σ Γ1 R1 E D o := Fin.later (A := []) st1 ⟨fun _ _ => rfl, g1, rfl⟩ fin
    cases b with
    | true =>
      rw [if_pos rfl] at e ⊢
      exact h Hf1 H1 σ Γ1 R1 I1 o e D (fin1.less (fun i z => List.mem_append_left _ z) (fun i z => List.mem_append_left _ z))
    | false =>
      rw [if_neg Bool.false_ne_true] at e ⊢
      exact k Hf1 H1 σ Γ1 R1 I1 o e D (fin1.less (fun i z => List.mem_append_right _ z) (fun i z => List.mem_append_right _ z))

/-! ### x = e -/
/-- a result as a tree that the frame may own: a value as it is; a whole slot is moved; a place within is frozen -/
def mvIn (M : List Nat) (Γ : Ge) : Rs → Option (Ge × T)
  | .val t => some (Γ, t)
  | .at i [] => if i ∈ M then match Γ[i]? with
    | some (some t) => some (Γ.set i none, t)
    | _ => none else none
  | .at i π => fzIn M Γ (.at i π)
/-- its region behind that -/
theorem mvIn_ok {σ : St} {Γ Γ' : Ge} {R : Nat → Rg} {r : Rs} {v : V} {S : Rg} {t' : T} (I : ER K cl Hf H σ Γ R) (h : RsW K cl Hf H σ R r v S) (e : mvIn M Γ r = some (Γ', t')) :
    ∃ Hf' R' S', Fz K cl M Hf H σ Γ R S Hf' Γ' R' ∧ RsOk K cl Hf' H σ Γ' R' (.val t') v S' ∧ ∀ a, S' a → S a ∨ ∃ i, R i a := by
  have gen : fzIn M Γ r = some (Γ', t') → ∃ Hf' R' S', Fz K cl M Hf H σ Γ R S Hf' Γ' R' ∧ RsOk K cl Hf' H σ Γ' R' (.val t') v S' ∧ ∀ a, S' a → S a ∨ ∃ i, R i a := fun e => by
    obtain ⟨Hf', R', z, p⟩ := fzIn_ok I h e
    exact ⟨Hf', R', No, z, ⟨p.rep, fun _ _ z => z.elim, fun _ z => z.elim⟩, fun _ z => z.elim⟩
  cases r with
  | val t =>
    cases e
    exact ⟨Hf, R, S, ⟨I, Le.refl _, fun _ _ e => .inl e, fun _ _ r => r, fun _ _ => ⟨rfl, rfl⟩⟩, h, fun a s => .inl s⟩
  | «at» i π =>
    cases π with
    | cons n π => exact gen e
    | nil =>
      unfold mvIn at e
      dsimp only at e
      split at e
      · rename_i hm
        split at e
        · rename_i t et
          cases e
          obtain ⟨_, v0, hv, hr⟩ := h
          cases hr
          obtain ⟨v1, f1, f2⟩ := I.rep i _ et
          rw [hv] at f1
          cases f1
          have hlt : i < Γ.length := (List.getElem?_eq_some_iff.mp et).1
          refine ⟨Hf, fun j a => R j a ∧ j ≠ i, R i, ⟨⟨I.w, by rw [List.length_set]; exact I.len, fun j tj ej => ?_, fun j k a p q => I.dis j k a p.1 q.1, fun j a p => I.trk j a p.1⟩, Le.refl _, fun _ _ e => .inl e, fun j a p => p.1, fun j hj => ?_⟩, ⟨f2, fun j a r p => p.2 (I.dis j i a p.1 r), fun a r => I.trk i a r⟩, fun a r => .inr ⟨i, r⟩⟩
          · by_cases hji : j = i
            · subst hji
              rw [List.getElem?_set_self hlt] at ej
              cases ej
            · rw [List.getElem?_set_ne (Ne.symm hji)] at ej
              obtain ⟨vj, a1, a2⟩ := I.rep j tj ej
              exact ⟨vj, a1, a2.weak fun a r => ⟨r, hji⟩⟩
          · have hji : j ≠ i := fun z => hj (z ▸ hm)
            exact ⟨funext fun a => propext ⟨fun p => p.1, fun r => ⟨r, hji⟩⟩, by rw [List.getElem?_set_ne (Ne.symm hji)]⟩
        · cases e
      · cases e
theorem Fz.stpS {H0 Hf0 : Hp} {R0 : Nat → Rg} {σ : St} {Γ Γ' : Ge} {R R' : Nat → Rg} {S S' : Rg} (st : Stp Hf0 H0 R0 Ma Hf H R S) (z : Fz K cl M Hf H σ Γ R S Hf' Γ' R') (k : ∀ a, S' a → S a ∨ ∃ i, R i a) : Stp Hf0 H0 R0 (Ma ++ M) Hf' H R' S' :=
  let s := z.stp st
  ⟨s.fr, s.kp, s.nw, fun a h => (k a h).elim (st.ns a) fun ⟨i, r⟩ => st.nw i a r, s.le, s.nf⟩
def stS (i : Nat) (t : T) (Γ : Ge) : Ge := Γ.set i (some t)
/-- a slot takes a value with its region -/
def upR (R : Nat → Rg) (i : Nat) (S : Rg) : Nat → Rg := fun j a => (j = i ∧ S a) ∨ (j ≠ i ∧ R j a)
theorem er_set {σ : St} {Γ : Ge} {R : Nat → Rg} {i : Nat} {t : T} {v : V} {S : Rg} (I : ER K cl Hf H σ Γ R) (h : RsOk K cl Hf H σ Γ R (.val t) v S) : ER K cl Hf H (σ.set i (some v)) (Γ.set i (some t)) (upR R i S) where
  w := I.w
  len := by rw [List.length_set, List.length_set]; exact I.len
  rep := fun j tj ej => by
    by_cases hji : j = i
    · subst hji
      have hlt : j < Γ.length := by
        have := (List.getElem?_eq_some_iff.mp ej).1
        rwa [List.length_set] at this
      rw [List.getElem?_set_self hlt] at ej
      cases ej
      exact ⟨v, by rw [List.getElem?_set_self (by rw [← I.len]; exact hlt)], h.1.weak fun a s => .inl ⟨rfl, s⟩⟩
    · rw [List.getElem?_set_ne (Ne.symm hji)] at ej
      obtain ⟨vj, a1, a2⟩ := I.rep j tj ej
      exact ⟨vj, by rw [List.getElem?_set_ne (Ne.symm hji)]; exact a1, a2.weak fun a r => .inr ⟨hji, r⟩⟩
  dis := fun j k a p q => by
    rcases p with ⟨rfl, p⟩ | ⟨hj, p⟩
    · rcases q with ⟨rfl, q⟩ | ⟨hk, q⟩
      · rfl
      · exact (h.2.1 k a p q).elim
    · rcases q with ⟨rfl, q⟩ | ⟨hk, q⟩
      · exact (h.2.1 j a q p).elim
      · exact I.dis j k a p q
  trk := fun j a p => by
    rcases p with ⟨rfl, p⟩ | ⟨hj, p⟩
    · exact h.2.2 a p
    · exact I.trk j a p
theorem stp_set {R R1 : Nat → Rg} {i : Nat} {S : Rg} (st : Stp Hf H R M Hf' H' R1 S) : Stp Hf H R (M ++ [i]) Hf' H' (upR R1 i S) No where
  fr := st.fr
  kp := fun j hj => by
    have hji : j ≠ i := fun z => hj (List.mem_append_right _ (by rw [z]; exact List.mem_singleton.mpr rfl))
    obtain ⟨a, b⟩ := st.kp j fun z => hj (List.mem_append_left _ z)
    refine ⟨?_, b⟩
    rw [← a]
    funext x
    exact propext ⟨fun p => p.elim (fun p => (hji p.1).elim) fun p => p.2, fun p => .inr ⟨hji, p⟩⟩
  nw := fun j a p => p.elim (fun p => st.ns a p.2) fun p => st.nw j a p.2
  ns := fun _ z => z.elim
  le := st.le
  nf := st.nf
theorem eq2_set {σ : St} {Γ Γ1 : Ge} {i : Nat} {v : V} {t : T} (g : ∀ i, i ∉ M → Γ1[i]? = Γ[i]?) : Eq2 [i] (M ++ [i]) σ Γ (σ.set i (some v)) (Γ1.set i (some t)) :=
  ⟨fun j n => by
    have hji : j ≠ i := fun z => n (List.mem_singleton.mpr z)
    rw [List.getElem?_set_ne (Ne.symm hji)], fun j n => by
    have hji : j ≠ i := fun z => n (List.mem_append_right _ (List.mem_singleton.mpr z))
    rw [List.getElem?_set_ne (Ne.symm hji)]
    exact g j fun z => n (List.mem_append_left _ z), List.length_set⟩
def gSet (Mf : List Nat) (i : Nat) (f : Ge → Option (Ge × Rs)) : Ge → Option Out := fun Γ =>
  (f Γ).bind fun p => (mvIn Mf p.1 p.2).map fun q => .nx (q.1.set i (some q.2))
theorem st_set (Mf : List Nat) {i : Nat} (h : EvOk K cl M te f) : StOk K cl E [i] ((M ++ Mf) ++ [i]) (tAsg te (gName i)) (gSet Mf i f) := fun Hf H σ Γ R I o e D fin => by
  unfold gSet at e
  cases e1 : f Γ with
  | none => rw [e1] at e; cases e
  | some p =>
    obtain ⟨Γ1, r⟩ := p
    rw [e1, Option.bind_some] at e
    dsimp only at e
    cases e2 : mvIn Mf Γ1 r with
    | none => rw [e2] at e; cases e
    | some p2 =>
      obtain ⟨Γ2, t⟩ := p2
      rw [e2, Option.map_some] at e
      cases e
      refine h Hf H σ Γ R I Γ1 r e1 _ fun Hf1 H1 R1 S1 v1 st1 I1 g1 r1 => ?_
      obtain ⟨Hf2, R2, S2, z, rs, sb⟩ := mvIn_ok I1 r1.w e2
      exact fin Hf2 H1 (σ.set i (some v1)) (upR R2 i S2) (stp_set (z.stpS st1 sb)) (er_set z.er rs) (eq2_set fun j n => (z.kp j fun y => n (List.mem_append_right _ y)).2.trans (g1 j fun y => n (List.mem_append_left _ y)))
/-- return e -/
def gRet (Mf : List Nat) (f : Ge → Option (Ge × Rs)) : Ge → Option Out := fun Γ =>
  (f Γ).bind fun p => (mvIn Mf p.1 p.2).map fun q => .rt q.1 q.2
theorem st_ret (Mf : List Nat) (h : EvOk K cl M te f) : StOk K cl E [] (M ++ Mf) (tRet te) (gRet Mf f) := fun Hf H σ Γ R I o e D fin => by
  unfold gRet at e
  cases e1 : f Γ with
  | none => rw [e1] at e; cases e
  | some p =>
    obtain ⟨Γ1, r⟩ := p
    rw [e1, Option.bind_some] at e
    dsimp only at e
    cases e2 : mvIn Mf Γ1 r with
    | none => rw [e2] at e; cases e
    | some p2 =>
      obtain ⟨Γ2, t⟩ := p2
      rw [e2, Option.map_some] at e
      cases e
      refine h Hf H σ Γ R I Γ1 r e1 _ fun Hf1 H1 R1 S1 v1 st1 I1 g1 r1 => ?_
      obtain ⟨Hf2, R2, S2, z, rs, sb⟩ := mvIn_ok I1 r1.w e2
      exact fin Hf2 H1 σ R2 S2 v1 (z.stpS st1 sb) z.er ⟨fun _ _ => rfl, fun j n => (z.kp j fun y => n (List.mem_append_right _ y)).2.trans (g1 j fun y => n (List.mem_append_left _ y)), rfl⟩ rs
def gRetN : Ge → Option Out := fun Γ => some (.rt Γ (.v .non))
theorem st_retN : StOk K cl E [] [] tRetN gRetN := fun Hf H σ Γ R I o e D fin => by
  cases e
  exact fin Hf H σ R No .non Stp.refl I Eq2.refl (rs_sc rfl)
def gDrop (f : Ge → Option (Ge × Rs)) : Ge → Option Out := fun Γ => (f Γ).map fun p => .nx p.1
theorem st_drop (h : EvOk K cl M te f) : StOk K cl E [] M (tDrop te) (gDrop f) := fun Hf H σ Γ R I o e D fin => by
  unfold gDrop at e
  cases e1 : f Γ with
  | none => rw [e1] at e; cases e
  | some p =>
    rw [e1, Option.map_some] at e
    cases e
    exact h Hf H σ Γ R I p.1 p.2 e1 _ fun Hf1 H1 R1 S1 v1 st1 I1 g1 r1 => fin Hf1 H1 σ R1 st1.noS I1 ⟨fun _ _ => rfl, g1, rfl⟩
/-- raise: the one class that is told -/
def gRaise : Ge → Option Out := fun Γ => some (.ex Γ)
theorem st_raise : StOk K cl E [] [] (fun _ σ H => E σ H) gRaise := fun Hf H σ Γ R I o e D fin => by
  cases e
  exact fin Hf H σ R Stp.refl I Eq2.refl
/-- x op= e, x a local that holds an int -/
def gAug (M : List Nat) (i : Nat) (g : T → T → Option T) (f : Ge → Option (Ge × Rs)) : Ge → Option Out := fun Γ => match Γ[i]? with
  | some (some x) => if x.pers = true then (f Γ).bind fun p => (getT p.1 p.2).bind fun y => (g x y).map fun z => .nx (p.1.set i (some z)) else none
  | _ => none
theorem st_aug {i : Nat} {ti : TIp} {g : T → T → Option T} (hp : PR2 K cl ti g) (h : EvOk K cl M te f) : StOk K cl E [i] (M ++ [i]) (tAug i te ti) (gAug M i g f) := fun Hf H σ Γ R I o e D fin => by
  unfold gAug at e
  split at e
  · rename_i x ex
    split at e
    · rename_i px
      obtain ⟨vx, hx, rx⟩ := I.rep i x ex
      cases e1 : f Γ with
      | none => rw [e1] at e; cases e
      | some p =>
        obtain ⟨Γ1, r⟩ := p
        rw [e1, Option.bind_some] at e
        dsimp only at e
        cases e2 : getT Γ1 r with
        | none => rw [e2] at e; cases e
        | some y =>
          rw [e2, Option.bind_some] at e
          cases e3 : g x y with
          | none => rw [e3] at e; cases e
          | some z =>
            rw [e3, Option.map_some] at e
            cases e
            refine ⟨vx, hx, h Hf H σ Γ R I Γ1 r e1 _ fun Hf1 H1 R1 S1 v1 st1 I1 g1 r1 => ?_⟩
            obtain ⟨G, w, _⟩ := r1.view I1 e2
            refine hp Hf1 H1 vx v1 x y z No G I1.w (Per.le st1.le _ _ (rx.per px)).rep w e3 _ fun Hf2 H2 zv S2 al rz => ?_
            have st2 := (st1.trans (M2 := []) (al.stp (R := R1))).more (M2 := M) fun i z => by rw [List.append_nil] at z; exact z
            exact fin Hf2 H2 (σ.set i (some zv)) (upR R1 i S2) (stp_set st2) (er_set (al.er I1) (al.rs I1 rz)) (eq2_set g1)
    · cases e
  · cases e
end
end Vx

set_option maxRecDepth 100000
/-! Vx10: what is walked, targets, loops, comprehensions -/
namespace Vx
open PySem L2

structure Src (J : It) (P : Hp → Hp → Prop) (vs : List V) : Prop where
  go : ∀ i Hf H, P Hf H → i < vs.length → J.go i H
  yld : ∀ (i : Nat) Hf H x H', P Hf H → i < vs.length → J.yld i H x H' → H' = H ∧ vs[i]? = some x
  stop : ∀ Hf H, P Hf H → J.stop vs.length H
def Rs.own (r : Rs) (S : Rg) (R : Nat → Rg) (a : Addr) : Prop := match r with
  | .val _ => S a
  | .at i _ => R i a
section
variable (K : PySem.W.Frag) (cl : Nat → Addr)
def SvOk (M : List Nat) (wi : TI) (fs : Ge → Option (Ge × Rs × List T)) : Prop :=
  ∀ (Hf H : Hp) (σ : St) (Γ : Ge) (R : Nat → Rg), ER K cl Hf H σ Γ R → ∀ Γ' r xs, fs Γ = some (Γ', r, xs) → ∀ Q : It → Hp → Prop,
    (∀ Hf' H' R' S J P vs v, Stp Hf H R M Hf' H' R' S → ER K cl Hf' H' σ Γ' R' → (∀ i, i ∉ M → Γ'[i]? = Γ[i]?) → RsOk K cl Hf' H' σ Γ' R' r v S → Src J P vs → PerAll K Hf' xs vs → P Hf' H' →
      (∀ Hf2 H2, Le Hf' Hf2 → W Hf2 H2 → (∀ a o, r.own S R' a → H' a = some o → H2 a = some o) → P Hf2 H2) → Q J H') → wi σ H Q
def TgOk (A : List Nat) (g : TG) (ft : Ge → T → Option Ge) : Prop :=
  ∀ (Hf H : Hp) (σ : St) (Γ : Ge) (R : Nat → Rg) (x : V) (t : T), ER K cl Hf H σ Γ R → Per K Hf t x → ∀ Γ', ft Γ t = some Γ' → ∀ Q : St → Hp → Prop,
    (∀ σ' R', ER K cl Hf H σ' Γ' R' → Eq2 A A σ Γ σ' Γ' → (∀ j, j ∉ A → R' j = R j) → (∀ j a, R' j a → R j a) → Q σ' H) → g x σ H Q
def TgsOk (A : List Nat) (g : TGs) (ft : Ge → List T → Option Ge) : Prop :=
  ∀ (Hf H : Hp) (σ : St) (Γ : Ge) (R : Nat → Rg) (xs : List V) (ts : List T), ER K cl Hf H σ Γ R → PerAll K Hf ts xs → ∀ Γ', ft Γ ts = some Γ' → ∀ Q : St → Hp → Prop,
    (∀ σ' R', ER K cl Hf H σ' Γ' R' → Eq2 A A σ Γ σ' Γ' → (∀ j, j ∉ A → R' j = R j) → (∀ j a, R' j a → R j a) → Q σ' H) → g xs σ H Q
end
section
variable {K : PySem.W.Frag} {cl : Nat → Addr} {Hf Hf' H H' : Hp} {E : St → Hp → Prop} {A B M Ma Mb Mc : List Nat} {ts tu tb : TS} {te : TE} {f : Ge → Option (Ge × Rs)} {g g' gb : Ge → Option Out} {tt : TT} {ft : Ge → Option (Ge × Bool)}
/-! ### targets -/
def fNm (i : Nat) : Ge → T → Option Ge := fun Γ t => some (Γ.set i (some t))
theorem tg_name {i : Nat} : TgOk K cl [i] (gName i) (fNm i) := fun Hf H σ Γ R x t I p Γ' e Q q => by
  cases e
  refine q (σ.set i (some x)) (upR R i No) (er_set I ⟨p.rep, fun _ _ z => z.elim, fun _ z => z.elim⟩) (eq2_set (M := []) fun _ _ => rfl) (fun j n => ?_) fun j a p => p.elim (fun z => z.2.elim) fun z => z.2
  have hji : j ≠ i := fun z => n (List.mem_singleton.mpr z)
  funext a
  exact propext ⟨fun p => p.elim (fun p => (hji p.1).elim) fun p => p.2, fun p => .inr ⟨hji, p⟩⟩
def fTNil : Ge → List T → Option Ge
  | Γ, [] => some Γ
  | _, _ => none
def fTCons (f : Ge → T → Option Ge) (fr : Ge → List T → Option Ge) : Ge → List T → Option Ge
  | Γ, t :: ts => (f Γ t).bind fun Γ1 => fr Γ1 ts
  | _, [] => none
theorem tgs_nil : TgsOk K cl [] gNil fTNil := fun Hf H σ Γ R xs ts I p Γ' e Q q => by
  cases ts with
  | cons t ts => cases e
  | nil =>
    cases xs with
    | cons x xs => exact p.elim
    | nil =>
      cases e
      exact ⟨rfl, q σ R I Eq2.refl (fun _ _ => rfl) fun _ _ r => r⟩
theorem tgs_cons {g : TG} {gs : TGs} {f : Ge → T → Option Ge} {fr : Ge → List T → Option Ge} (h : TgOk K cl A g f) (k : TgsOk K cl B gs fr) : TgsOk K cl (A ++ B) (gCons g gs) (fTCons f fr) := fun Hf H σ Γ R xs ts I p Γ' e Q q => by
  cases ts with
  | nil => cases e
  | cons t ts =>
    cases xs with
    | nil => exact p.elim
    | cons x xs =>
      unfold fTCons at e
      dsimp only at e
      cases e1 : f Γ t with
      | none => rw [e1] at e; cases e
      | some Γ1 =>
        rw [e1, Option.bind_some] at e
        refine ⟨x, xs, rfl, h Hf H σ Γ R x t I p.1 Γ1 e1 _ fun σ1 R1 I1 eq1 k1 s1 => ?_⟩
        refine k Hf H σ1 Γ1 R1 xs ts I1 p.2 Γ' e Q fun σ2 R2 I2 eq2 k2 s2 => ?_
        exact q σ2 R2 I2 (eq1.trans eq2) (fun j n => (k2 j fun z => n (List.mem_append_right _ z)).trans (k1 j fun z => n (List.mem_append_left _ z))) fun j a r => s1 j a (s2 j a r)
def fTgT (n : Nat) (fr : Ge → List T → Option Ge) : Ge → T → Option Ge := fun Γ t => (asT t).bind fun xs => if xs.length = n then fr Γ xs else none
theorem tg_tup {n : Nat} {gs : TGs} {fr : Ge → List T → Option Ge} (k : TgsOk K cl A gs fr) : TgOk K cl A (gTup K n gs) (fTgT n fr) := fun Hf H σ Γ R x t I p Γ' e Q q => by
  unfold fTgT at e
  cases e1 : asT t with
  | none => rw [e1] at e; cases e
  | some xs =>
    rw [e1, Option.bind_some] at e
    split at e
    · rename_i hn
      obtain ⟨a, vs, rfl, h1, h2⟩ := Rep.asT (cl := cl) (F := No) I.w p.rep e1
      exact ⟨a, vs, rfl, h1, by rw [← h2.len]; exact hn, k Hf H σ Γ R vs xs I h2 Γ' e Q q⟩
    · cases e
/-- a target behind a value that is there: x, y = e -/
def gAsT (ft : Ge → T → Option Ge) (f : Ge → Option (Ge × Rs)) : Ge → Option Out := fun Γ => (f Γ).bind fun p => match p.2 with
  | .val t => if t.pers = true then (ft p.1 t).map Out.nx else none
  | _ => none
theorem st_asT {gt : TG} {fg : Ge → T → Option Ge} (h : EvOk K cl M te f) (k : TgOk K cl A gt fg) : StOk K cl E A (M ++ A) (tAsg te gt) (gAsT fg f) := fun Hf H σ Γ R I o e D fin => by
  unfold gAsT at e
  cases e1 : f Γ with
  | none => rw [e1] at e; cases e
  | some p =>
    obtain ⟨Γ1, r⟩ := p
    rw [e1, Option.bind_some] at e
    dsimp only at e
    split at e
    · rename_i t
      split at e
      · rename_i hp
        cases e2 : fg Γ1 t with
        | none => rw [e2] at e; cases e
        | some Γ2 =>
          rw [e2, Option.map_some] at e
          cases e
          refine h Hf H σ Γ R I Γ1 _ e1 _ fun Hf1 H1 R1 S1 v1 st1 I1 g1 r1 => ?_
          refine k Hf1 H1 σ Γ1 R1 v1 t I1 (r1.1.per hp) Γ2 e2 _ fun σ2 R2 I2 eq2 k2 s2 => ?_
          refine fin Hf1 H1 σ2 R2 ⟨st1.fr, fun i n => ?_, fun i a r => st1.nw i a (s2 i a r), fun _ z => z.elim, st1.le, st1.nf⟩ I2 ((Eq2.trans (A := []) (Ma := M) ⟨fun _ _ => rfl, g1, rfl⟩ eq2).more (fun i z => z) (fun i z => z))
          obtain ⟨a, b⟩ := st1.kp i fun z => n (List.mem_append_left _ z)
          exact ⟨(k2 i fun z => n (List.mem_append_right _ z)).trans a, b⟩
      · cases e
    · cases e

/-! ### sources -/
def sqT (t : T) : Option (List T) := match fzSq t with
  | some xs => some xs
  | none => match t with
    | .ow false .lst xs => some xs
    | _ => none
def fSrc (f : Ge → Option (Ge × Rs)) : Ge → Option (Ge × Rs × List T) := fun Γ =>
  (f Γ).bind fun p => (getT p.1 p.2).bind fun t => (sqT t).bind fun xs => if xs.all T.pers = true then some (p.1, p.2, xs) else none
/-- a list or a tuple -/
def iSq (K : PySem.W.Frag) (te : TE) : TI := fun σ H R => iList K te σ H R ∨ iTup K te σ H R
theorem pi_sq {X : Cx} {tg l : Expr} {te : TE} (h : PE X l te) : PI X tg l (iSq X.K te) := ⟨fun pins s σ H R I q => q.elim ((pi_list h).run pins s σ H R I) ((pi_tup h).run pins s σ H R I)⟩
theorem src_list {a : Addr} {vs : List V} : Src (Itl K a) (fun _ H => SqL K H a vs) vs where
  go := fun i Hf H p hi => ⟨vs, vs[i], p, List.getElem?_eq_getElem hi⟩
  yld := fun i Hf H x H' p hi y => ⟨y.1, y.2 vs p⟩
  stop := fun Hf H p => ⟨vs, p, Nat.le_refl _⟩
theorem src_tup {a : Addr} {vs : List V} : Src (Itt K a) (fun _ H => SqT K H a vs) vs where
  go := fun i Hf H p hi => ⟨vs, vs[i], p, List.getElem?_eq_getElem hi⟩
  yld := fun i Hf H x H' p hi y => ⟨y.1, y.2 vs p⟩
  stop := fun Hf H p => ⟨vs, p, Nat.le_refl _⟩
theorem sv_sq (h : EvOk K cl M te f) : SvOk K cl M (iSq K te) (fSrc f) := fun Hf H σ Γ R I Γ' r xs e Q q => by
  unfold fSrc at e
  cases e1 : f Γ with
  | none => rw [e1] at e; cases e
  | some p =>
    obtain ⟨Γ1, r1⟩ := p
    rw [e1, Option.bind_some] at e
    dsimp only at e
    cases e2 : getT Γ1 r1 with
    | none => rw [e2] at e; cases e
    | some t =>
      rw [e2, Option.bind_some] at e
      cases e3 : sqT t with
      | none => rw [e3] at e; cases e
      | some ys =>
        rw [e3, Option.bind_some] at e
        split at e
        · rename_i hp
          cases e
          unfold sqT at e3
          cases e4 : fzSq t with
          | some zs =>
            rw [e4] at e3
            cases e3
            -- a frozen one
            cases t with
            | v x => cases e4
            | ow l s zs => cases e4
            | out x => cases e4
            | fz s zs =>
              have key : (s = .tup ∨ s = .wtup) ∨ (s = .lst ∨ s = .wlst) := by
                cases s <;> first | exact .inl (.inl rfl) | exact .inl (.inr rfl) | exact .inr (.inl rfl) | exact .inr (.inr rfl) | cases e4
              have hx : zs = xs := by
                cases s <;> first | exact Option.some.inj e4 | cases e4
              subst hx
              rcases key with ks | ks
              · refine .inr (h Hf H σ Γ R I _ _ e1 _ fun Hf1 H1 R1 S1 v1 st1 I1 g1 rs => ?_)
                obtain ⟨G, w, _⟩ := rs.view I1 e2
                obtain ⟨a, vs, h1, h2, h3⟩ := w
                exact ⟨a, h1, ⟨vs, h2.sqT I1.w ks⟩, q Hf1 H1 R1 S1 _ _ vs v1 st1 I1 g1 rs src_tup h3 (h2.sqT I1.w ks) fun Hf2 H2 le w2 _ => (h2.le le).sqT w2 ks⟩
              · refine .inl (h Hf H σ Γ R I _ _ e1 _ fun Hf1 H1 R1 S1 v1 st1 I1 g1 rs => ?_)
                obtain ⟨G, w, _⟩ := rs.view I1 e2
                obtain ⟨a, vs, h1, h2, h3⟩ := w
                exact ⟨a, h1, ⟨vs, h2.sqL I1.w ks⟩, q Hf1 H1 R1 S1 _ _ vs v1 st1 I1 g1 rs src_list h3 (h2.sqL I1.w ks) fun Hf2 H2 le w2 _ => (h2.le le).sqL w2 ks⟩
          | none =>
            rw [e4] at e3
            dsimp only at e3
            split at e3
            · cases e3
              refine .inl (h Hf H σ Γ R I _ _ e1 _ fun Hf1 H1 R1 S1 v1 st1 I1 g1 rs => ?_)
              have wv : ∃ G, Rep K cl Hf1 H1 (.ow false .lst xs) v1 G ∧ ∀ a, G a → r.own S1 R1 a := by
                cases r with
                | val t => cases e2; exact ⟨S1, rs.1, fun a s => s⟩
                | «at» i π =>
                  obtain ⟨_, t, u, v0, a1, a2, a3, a4⟩ := rs
                  unfold getT at e2
                  dsimp only at e2
                  rw [a1] at e2
                  obtain ⟨v9, f1, f2⟩ := I1.rep i t a1
                  rw [a2] at f1
                  cases f1
                  obtain ⟨w, G, b1, b2, b3, _⟩ := focus π t v0 (R1 i) _ f2 e2
                  cases reach_det b3 a4
                  exact ⟨G, b1, fun a g => b2 a g⟩
              obtain ⟨G, w, hG⟩ := wv
              obtain ⟨a, dx, vs, G', h1, h2, h3, h4, h5, h6, h7⟩ := w
              exact ⟨a, h1, ⟨vs, SqL.of h4.2⟩, q Hf1 H1 R1 S1 _ _ vs v1 st1 I1 g1 rs src_list (per_all h7 hp) (SqL.of h4.2) fun Hf2 H2 le w2 fr => SqL.of (fr a _ (hG a h2) h4.2)⟩
            · cases e3
        · cases e
/-- range(n), range(a, b) -/
def rgT (lo : Int) (n : Nat) : List T := (List.range n).map fun (k : Nat) => T.v (.int (lo + (k : Int)))
theorem src_rng {lo : Int} {n : Nat} : Src (Itr lo n) (fun _ _ => True) ((List.range n).map fun (k : Nat) => V.int (lo + (k : Int))) where
  go := fun i Hf H p hi => by
    rw [List.length_map, List.length_range] at hi
    exact hi
  yld := fun i Hf H x H' p hi y => ⟨y.1, by
    rw [List.length_map, List.length_range] at hi
    rw [y.2, List.getElem?_map, List.getElem?_range hi]
    rfl⟩
  stop := fun Hf H p => by
    rw [List.length_map, List.length_range]
    exact Nat.le_refl n
theorem per_rng {lo : Int} : ∀ (ks : List Nat), PerAll K Hf (ks.map fun (k : Nat) => T.v (.int (lo + (k : Int)))) (ks.map fun (k : Nat) => V.int (lo + (k : Int)))
  | [] => True.intro
  | _ :: ks => ⟨⟨rfl, rfl⟩, per_rng ks⟩
variable {ta : TA} {fa : Ge → Option (Ge × List Rs)}
def fR1 (fa : Ge → Option (Ge × List Rs)) : Ge → Option (Ge × Rs × List T) := fun Γ => (fa Γ).bind fun p => match p.2 with
  | [.val (.v (.int n))] => if n ≤ 1000000 ∧ -1000000 ≤ n then some (p.1, .val (.v .non), rgT 0 n.toNat) else none
  | _ => none
def fR2 (fa : Ge → Option (Ge × List Rs)) : Ge → Option (Ge × Rs × List T) := fun Γ => (fa Γ).bind fun p => match p.2 with
  | [.val (.v (.int a)), .val (.v (.int b))] => if (b ≤ 1000000000000 ∧ -1000000000000 ≤ b) ∧ (a ≤ 1000000000000 ∧ -1000000000000 ≤ a) then some (p.1, .val (.v .non), rgT a (b - a).toNat) else none
  | _ => none
theorem sv_r1 (h : EvAOk K cl M ta fa) : SvOk K cl M (iRng1 ta) (fR1 fa) := fun Hf H σ Γ R I Γ' r xs e Q q => by
  unfold fR1 at e
  cases e1 : fa Γ with
  | none => rw [e1] at e; cases e
  | some p =>
    obtain ⟨Γ1, rs⟩ := p
    rw [e1, Option.bind_some] at e
    dsimp only at e
    split at e
    · split at e
      · rename_i n hn
        cases e
        refine h Hf H σ Γ R I _ _ e1 _ fun Hf1 H1 R1 Ss vs st1 I1 g1 rs => ?_
        match vs, Ss, rs with
        | [v], [S], rs =>
          refine ⟨n, by rw [rs.1.1.1], by omega, by omega, ?_⟩
          exact q Hf1 H1 R1 No _ _ _ .non (st1.noS) I1 g1 (rs_sc rfl) src_rng (per_rng _) True.intro fun _ _ _ _ _ => True.intro
        | [], _, rs => exact rs.elim
        | _ :: _ :: _, [_], rs => exact rs.2.2.elim
        | _ :: _, [], rs => exact rs.elim
        | [_], _ :: _ :: _, rs => exact rs.2.2.elim
        | _ :: _ :: _, _ :: _ :: _, rs => exact rs.2.2.elim
      · cases e
    · cases e
theorem sv_r2 (h : EvAOk K cl M ta fa) : SvOk K cl M (iRng2 ta) (fR2 fa) := fun Hf H σ Γ R I Γ' r xs e Q q => by
  unfold fR2 at e
  cases e1 : fa Γ with
  | none => rw [e1] at e; cases e
  | some p =>
    obtain ⟨Γ1, rs⟩ := p
    rw [e1, Option.bind_some] at e
    dsimp only at e
    split at e
    · split at e
      · rename_i a b hn
        cases e
        refine h Hf H σ Γ R I _ _ e1 _ fun Hf1 H1 R1 Ss vs st1 I1 g1 rs => ?_
        match vs, Ss, rs with
        | [v, w], [S, S'], rs =>
          refine ⟨a, b, by rw [rs.1.1.1, rs.2.2.1.1.1], ⟨by omega, by omega, by omega, by omega⟩, ?_⟩
          exact q Hf1 H1 R1 No _ _ _ .non (st1.noS) I1 g1 (rs_sc rfl) src_rng (per_rng _) True.intro fun _ _ _ _ _ => True.intro
        | [], _, rs => exact rs.elim
        | [_], [], rs => exact rs.elim
        | [_], [_], rs => exact rs.2.2.elim
        | [_], _ :: _ :: _, rs => exact rs.2.2.elim
        | _ :: _ :: _, [], rs => exact rs.elim
        | _ :: _ :: _, [_], rs => exact rs.2.2.elim
        | _ :: _ :: _ :: _, [_, _], rs => exact rs.2.2.2.2.elim
        | [_, _], _ :: _ :: _ :: _, rs => exact rs.2.2.2.2.elim
        | _ :: _ :: _ :: _, _ :: _ :: _ :: _, rs => exact rs.2.2.2.2.elim
      · cases e
    · cases e

theorem free_at {i : Nat} {π : List Nat} (h : (Rs.at i π).free M = true) : i ∉ M := fun z => by
  simp [Rs.free, z] at h
/-! ### for -/
def forGo (ft : Ge → T → Option Ge) (gb : Ge → Option Out) : List T → Ge → Option Out
  | [], Γ => some (.nx Γ)
  | x :: xs, Γ => (ft Γ x).bind fun Γ1 => (gb Γ1).bind fun o => match o with
    | .nx Γ2 => forGo ft gb xs Γ2
    | .ct Γ2 => forGo ft gb xs Γ2
    | .bk Γ2 => some (.nx Γ2)
    | .rt Γ2 t => some (.rt Γ2 t)
    | .ex Γ2 => some (.ex Γ2)
def gFor (Ml : List Nat) (fs : Ge → Option (Ge × Rs × List T)) (ft : Ge → T → Option Ge) (gb : Ge → Option Out) : Ge → Option Out := fun Γ =>
  (fs Γ).bind fun p => if p.2.1.free Ml = true then forGo ft gb p.2.2 p.1 else none
theorem mem_dup {l : List Nat} : ∀ i, i ∈ l ++ l → i ∈ l := fun i h => (List.mem_append.mp h).elim id id
theorem st_for {wi : TI} {gt : TG} {fs : Ge → Option (Ge × Rs × List T)} {ft : Ge → T → Option Ge} (hs : SvOk K cl M wi fs) (hg : TgOk K cl A gt ft) (hb : StOk K cl E B Mb tb gb) :
    StOk K cl E (A ++ B) (M ++ (A ++ Mb)) (tFor wi gt tb) (gFor (A ++ Mb) fs ft gb) := fun Hf H σ Γ R I o e D fin => by
  unfold gFor at e
  cases e1 : fs Γ with
  | none => rw [e1] at e; cases e
  | some p =>
    obtain ⟨Γ1, r, xs⟩ := p
    rw [e1, Option.bind_some] at e
    dsimp only at e
    split at e
    · rename_i fr
      refine hs Hf H σ Γ R I Γ1 r xs e1 _ fun Hf1 H1 R1 S1 J P vs v1 st1 I1 g1 rs sr pa p1 pst => ?_
      have hlen := pa.len
      -- what stands while the loop goes
      have st1' := st1.noS
      refine ⟨fun i m σ' H' => m = vs.length - i ∧ i ≤ vs.length ∧ ∃ Hf' Γ' R', Stp Hf1 H1 R1 (A ++ Mb) Hf' H' R' No ∧ ER K cl Hf' H' σ' Γ' R' ∧ Eq2 (A ++ B) (A ++ Mb) σ Γ1 σ' Γ' ∧ forGo ft gb (xs.drop i) Γ' = some o, ⟨vs.length, by omega, Nat.zero_le _, Hf1, Γ1, R1, Stp.refl, I1, Eq2.refl, by rw [List.drop_zero]; exact e⟩, ?_⟩
      rintro i m σ' H' ⟨rfl, hi, Hf', Γ', R', st', I', eq', go'⟩
      have P' : P Hf' H' := pst Hf' H' st'.le I'.w fun a o ow ea => by
        cases r with
        | val t => exact st'.fr a o ea fun j z => rs.2.1 j a ow z
        | «at» j π =>
          have nj : j ∉ A ++ Mb := by
            exact free_at fr
          exact (st'.kp j nj).2 a o ow ea
      have fin' : Fin K cl (A ++ B) (A ++ Mb) Hf' H' σ' Γ' R' E D o := by
        have f1 : Fin K cl (A ++ B) (A ++ Mb) Hf1 H1 σ Γ1 R1 E D o := Fin.later (A := []) st1' ⟨fun _ _ => rfl, g1, rfl⟩ fin
        exact Fin.later (A := A ++ B) (B := A ++ B) (Ma := A ++ Mb) (Mb := A ++ Mb) st' eq' (f1.less mem_dup mem_dup)
      by_cases hlt : i < vs.length
      · refine .inr ⟨sr.go i Hf' H' P' hlt, ?_⟩
        have hx : xs[i]? = some xs[i] := List.getElem?_eq_getElem (by omega)
        have hd : xs.drop i = xs[i] :: xs.drop (i + 1) := List.drop_eq_getElem_cons (by omega)
        rw [hd] at go'
        unfold forGo at go'
        cases e2 : ft Γ' xs[i] with
        | none => rw [e2] at go'; cases go'
        | some Γ2 =>
          rw [e2, Option.bind_some] at go'
          cases e3 : gb Γ2 with
          | none => rw [e3] at go'; cases go'
          | some ob =>
            rw [e3, Option.bind_some] at go'
            refine ⟨fun σ3 H3 => ∃ Hf3 Γ3 R3, Stp Hf' H' R' (A ++ Mb) Hf3 H3 R3 No ∧ ER K cl Hf3 H3 σ3 Γ3 R3 ∧ Eq2 (A ++ B) (A ++ Mb) σ' Γ' σ3 Γ3 ∧ forGo ft gb (xs.drop (i + 1)) Γ3 = some o, fun σ3 H3 ⟨Hf3, Γ3, R3, a1, a2, a3, a4⟩ => ⟨vs.length - (i + 1), by omega, rfl, hlt, Hf3, Γ3, R3, (st'.trans a1).more mem_dup, a2, (eq'.trans a3).more mem_dup mem_dup, a4⟩, fun x H2 y => ?_⟩
            obtain ⟨rfl, hv⟩ := sr.yld i Hf' H' x H2 P' hlt y
            obtain ⟨w, hw, pw⟩ := (PerAll.le st'.le _ _ pa).get hx
            rw [hv] at hw
            cases hw
            refine hg Hf' H2 σ' Γ' R' x xs[i] I' pw Γ2 e2 _ fun σ4 R4 I4 eq4 k4 s4 => ?_
            have stA : Stp Hf' H2 R' A Hf' H2 R4 No := ⟨fun a o e _ => e, fun j n => ⟨k4 j n, fun a o _ e => e⟩, fun j a z => .inl ⟨j, s4 j a z⟩, fun _ z => z.elim, Le.refl _, fun _ _ e => .inl e⟩
            refine hb Hf' H2 σ4 Γ2 R4 I4 ob e3 _ ?_
            have finB : Fin K cl B Mb Hf' H2 σ4 Γ2 R4 E D o := Fin.later stA eq4 fin'
            cases ob with
            | nx Γ3 => exact fun Hf3 H3 σ3 R3 s3 I3 eq3 => ⟨Hf3, Γ3, R3, stA.trans s3, I3, eq4.trans eq3, go'⟩
            | ct Γ3 => exact fun Hf3 H3 σ3 R3 s3 I3 eq3 => ⟨Hf3, Γ3, R3, stA.trans s3, I3, eq4.trans eq3, go'⟩
            | bk Γ3 =>
              cases go'
              exact finB
            | rt Γ3 t =>
              cases go'
              exact finB
            | ex Γ3 =>
              cases go'
              exact finB
      · have hi' : i = vs.length := by omega
        subst hi'
        refine .inl ⟨sr.stop Hf' H' P', ?_⟩
        rw [List.drop_eq_nil_of_le (by omega)] at go'
        cases go'
        exact fin' Hf' H' σ' R' Stp.refl I' Eq2.refl
    · cases e

/-! ### while -/
def whGo (ft : Ge → Option (Ge × Bool)) (gb : Ge → Option Out) : Nat → Ge → Option Out
  | 0, _ => none
  | n + 1, Γ => (ft Γ).bind fun p => if p.2 = true then (gb p.1).bind fun o => match o with
    | .nx Γ2 => whGo ft gb n Γ2
    | .ct Γ2 => whGo ft gb n Γ2
    | .bk Γ2 => some (.nx Γ2)
    | .rt Γ2 t => some (.rt Γ2 t)
    | .ex Γ2 => some (.ex Γ2)
    else some (.nx p.1)
theorem st_while (n : Nat) (ht : EvTOk K cl Mc tt ft) (hb : StOk K cl E B Mb tb gb) : StOk K cl E B (Mc ++ Mb) (tWhile tt tb) (whGo ft gb n) := fun Hf H σ Γ R I o e D fin => by
  refine ⟨fun m σ' H' => ∃ Hf' Γ' R', Stp Hf H R (Mc ++ Mb) Hf' H' R' No ∧ ER K cl Hf' H' σ' Γ' R' ∧ Eq2 B (Mc ++ Mb) σ Γ σ' Γ' ∧ whGo ft gb m Γ' = some o, ⟨n, Hf, Γ, R, Stp.refl, I, Eq2.refl, e⟩, ?_⟩
  rintro m σ' H' ⟨Hf', Γ', R', st', I', eq', go'⟩
  have fin' : Fin K cl B (Mc ++ Mb) Hf' H' σ' Γ' R' E D o := Fin.later (A := B) (B := B) (Ma := Mc ++ Mb) (Mb := Mc ++ Mb) st' eq' (fin.less mem_dup mem_dup)
  cases m with
  | zero => cases go'
  | succ m =>
    unfold whGo at go'
    cases e1 : ft Γ' with
    | none => rw [e1] at go'; cases go'
    | some p =>
      obtain ⟨Γ1, b⟩ := p
      rw [e1, Option.bind_some] at go'
      dsimp only at go'
      refine ht Hf' H' σ' Γ' R' I' Γ1 b e1 _ fun Hf1 H1 R1 st1 I1 g1 => ?_
      have fin1 : Fin K cl B Mb Hf1 H1 σ' Γ1 R1 E D o := Fin.later (A := []) st1 ⟨fun _ _ => rfl, g1, rfl⟩ fin'
      cases b with
      | false =>
        rw [if_neg Bool.false_ne_true] at go' ⊢
        cases go'
        exact fin1 Hf1 H1 σ' R1 Stp.refl I1 Eq2.refl
      | true =>
        rw [if_pos rfl] at go' ⊢
        cases e2 : gb Γ1 with
        | none => rw [e2] at go'; cases go'
        | some ob =>
          rw [e2, Option.bind_some] at go'
          refine ⟨fun σ3 H3 => ∃ Hf3 Γ3 R3, Stp Hf' H' R' (Mc ++ Mb) Hf3 H3 R3 No ∧ ER K cl Hf3 H3 σ3 Γ3 R3 ∧ Eq2 B (Mc ++ Mb) σ' Γ' σ3 Γ3 ∧ whGo ft gb m Γ3 = some o, fun σ3 H3 ⟨Hf3, Γ3, R3, a1, a2, a3, a4⟩ => ⟨m, Nat.lt_succ_self m, Hf3, Γ3, R3, (st'.trans a1).more mem_dup, a2, (eq'.trans a3).more mem_dup mem_dup, a4⟩, ?_⟩
          refine hb Hf1 H1 σ' Γ1 R1 I1 ob e2 _ ?_
          cases ob with
          | nx Γ3 => exact fun Hf3 H3 σ3 R3 s3 I3 eq3 => ⟨Hf3, Γ3, R3, st1.trans s3, I3, Eq2.trans (A := []) ⟨fun _ _ => rfl, g1, rfl⟩ eq3, go'⟩
          | ct Γ3 => exact fun Hf3 H3 σ3 R3 s3 I3 eq3 => ⟨Hf3, Γ3, R3, st1.trans s3, I3, Eq2.trans (A := []) ⟨fun _ _ => rfl, g1, rfl⟩ eq3, go'⟩
          | bk Γ3 =>
            cases go'
            exact fin1
          | rt Γ3 t =>
            cases go'
            exact fin1
          | ex Γ3 =>
            cases go'
            exact fin1
end
end Vx

set_option maxRecDepth 100000
/-! Vx11: list comprehensions -/
namespace Vx
open PySem L2

def wipeG (Γ : Ge) : List Nat → Ge
  | [] => Γ
  | v :: vs => (wipeG Γ vs).set v none
def rstG (Γ0 Γ : Ge) : List Nat → Ge
  | [] => Γ
  | v :: vs => match Γ0[v]? with
    | some o => (rstG Γ0 Γ vs).set v o
    | none => rstG Γ0 Γ vs
def persVs (Γ : Ge) (vs : List Nat) : Bool := vs.all fun v => match Γ[v]? with
  | some (some t) => t.pers
  | _ => true
theorem wipeG_len {Γ : Ge} : ∀ {vs : List Nat}, (wipeG Γ vs).length = Γ.length
  | [] => rfl
  | v :: vs => by unfold wipeG; rw [List.length_set, wipeG_len]
theorem wipeG_out {Γ : Ge} {i : Nat} : ∀ {vs : List Nat}, i ∉ vs → (wipeG Γ vs)[i]? = Γ[i]?
  | [], _ => rfl
  | v :: vs, h => by
    simp only [List.mem_cons, not_or] at h
    unfold wipeG
    rw [List.getElem?_set_ne (Ne.symm h.1), wipeG_out h.2]
theorem wipeG_in {Γ : Ge} {i : Nat} {t : T} : ∀ {vs : List Nat}, (wipeG Γ vs)[i]? = some (some t) → i ∉ vs ∧ Γ[i]? = some (some t)
  | [], h => ⟨by simp, h⟩
  | v :: vs, h => by
    unfold wipeG at h
    by_cases hi : v = i
    · subst hi
      by_cases hv : v < (wipeG Γ vs).length
      · rw [List.getElem?_set_self hv] at h; cases h
      · rw [List.getElem?_eq_none (by simpa using hv)] at h; cases h
    · rw [List.getElem?_set_ne hi] at h
      obtain ⟨h1, h2⟩ := wipeG_in h
      exact ⟨by simp only [List.mem_cons, not_or]; exact ⟨fun e => hi e.symm, h1⟩, h2⟩
theorem wipe_out {σ : L2.St} {i : Nat} : ∀ {vs : List Nat}, i ∉ vs → (wipe σ vs)[i]? = σ[i]?
  | [], _ => rfl
  | v :: vs, h => by
    simp only [List.mem_cons, not_or] at h
    unfold wipe
    rw [List.getElem?_set_ne (Ne.symm h.1), wipe_out h.2]
theorem wipe_in {σ : L2.St} {i : Nat} : ∀ {vs : List Nat}, i ∈ vs → i < σ.length → (wipe σ vs)[i]? = some none
  | [], h, _ => by simp at h
  | v :: vs, h, hl => by
    unfold wipe
    by_cases hi : v = i
    · subst hi
      exact List.getElem?_set_self (by rw [wipe_length]; exact hl)
    · rw [List.getElem?_set_ne hi]
      simp only [List.mem_cons] at h
      exact wipe_in (h.elim (fun z => (hi z.symm).elim) id) hl
theorem wipe_eq {σ σ' : L2.St} {vs : List Nat} (hl : σ'.length = σ.length) (h : ∀ i, i ∉ vs → σ'[i]? = σ[i]?) : wipe σ' vs = wipe σ vs := by
  refine List.ext_getElem? fun i => ?_
  by_cases hi : i ∈ vs
  · by_cases hlt : i < σ.length
    · rw [wipe_in hi hlt, wipe_in hi (by omega)]
    · rw [List.getElem?_eq_none (by rw [wipe_length]; omega), List.getElem?_eq_none (by rw [wipe_length]; omega)]
  · rw [wipe_out hi, wipe_out hi, h i hi]
theorem rstG_len {Γ0 Γ : Ge} : ∀ {vs : List Nat}, (rstG Γ0 Γ vs).length = Γ.length
  | [] => rfl
  | v :: vs => by
    unfold rstG
    split
    · rw [List.length_set, rstG_len]
    · exact rstG_len
theorem rstG_out {Γ0 Γ : Ge} {i : Nat} : ∀ {vs : List Nat}, i ∉ vs → (rstG Γ0 Γ vs)[i]? = Γ[i]?
  | [], _ => rfl
  | v :: vs, h => by
    simp only [List.mem_cons, not_or] at h
    unfold rstG
    split
    · rw [List.getElem?_set_ne (Ne.symm h.1), rstG_out h.2]
    · exact rstG_out h.2
theorem rstG_in {Γ0 Γ : Ge} {i : Nat} : ∀ {vs : List Nat}, i ∈ vs → Γ0.length = Γ.length → (rstG Γ0 Γ vs)[i]? = Γ0[i]?
  | [], h, _ => by simp at h
  | v :: vs, h, hl => by
    unfold rstG
    by_cases hi : v = i
    · subst hi
      split
      · rename_i o ho
        have := (List.getElem?_eq_some_iff.mp ho).1
        rw [List.getElem?_set_self (by rw [rstG_len]; omega), ho]
      · rename_i ho
        rw [ho]
        have := List.getElem?_eq_none_iff.mp ho
        exact List.getElem?_eq_none (by rw [rstG_len]; omega)
    · simp only [List.mem_cons] at h
      have h' := h.elim (fun z => (hi z.symm).elim) id
      split
      · rw [List.getElem?_set_ne hi, rstG_in h' hl]
      · exact rstG_in h' hl

section
variable {K : PySem.W.Frag} {cl : Nat → Addr} {Hf Hf' H H' : Hp} {A B M Ma Mb Mc Mt Me : List Nat} {te : TE} {fe : Ge → Option (Ge × Rs)} {tt : TT} {ft : Ge → Option (Ge × Bool)}
theorem ER.wipe {σ : L2.St} {Γ : Ge} {R : Nat → Rg} (I : ER K cl Hf H σ Γ R) (vs : List Nat) : ER K cl Hf H (wipe σ vs) (wipeG Γ vs) R where
  w := I.w
  len := by rw [wipeG_len, wipe_length]; exact I.len
  rep := fun i t e => by
    obtain ⟨hi, e⟩ := wipeG_in e
    obtain ⟨v, a, b⟩ := I.rep i t e
    exact ⟨v, by rw [wipe_out hi]; exact a, b⟩
  dis := I.dis
  trk := I.trk
/-- an object of our own beside the frame turns -/
theorem ER.beside {σ : L2.St} {Γ : Ge} {R : Nat → Rg} {D : Addr} {o : HO} (I : ER K cl Hf H σ Γ R) (n : ∀ i, ¬ R i D) (f : Hf D = none) (ho : ∀ ys, o ≠ .tup ys := by intro _ z; cases z) : ER K cl Hf (upd H D o) σ Γ R where
  w := ⟨fun a u e => by
    have : a ≠ D := fun z => by rw [z, f] at e; cases e
    rw [upd_ne this]
    exact I.w a u e, fun b xs z => I.w.tp b xs (tp_upd ho z)⟩
  len := I.len
  rep := fun i t e => by
    obtain ⟨v, a, b⟩ := I.rep i t e
    exact ⟨v, a, Rep.frame (Le.refl _) _ _ _ (fun b u r q => by rw [upd_ne (fun z => n i (by rw [← z]; exact r))]; exact q) b⟩
  dis := I.dis
  trk := fun i a r => by
    rw [upd_ne (fun z => n i (by rw [← z]; exact r))]
    exact I.trk i a r
theorem Stp.beside {Hf1 H1 : Hp} {R R1 : Nat → Rg} {S : Rg} {D : Addr} {o : HO} (s : Stp Hf H R M Hf1 H1 R1 S) (hD : H D = none) : Stp Hf H R M Hf1 (upd H1 D o) R1 S where
  fr := fun a u e n => by
    rw [upd_ne (ne_of_none e hD)]
    exact s.fr a u e n
  kp := fun i n => ⟨(s.kp i n).1, fun a u r e => by
    rw [upd_ne (ne_of_none e hD)]
    exact (s.kp i n).2 a u r e⟩
  nw := s.nw
  ns := s.ns
  le := s.le
  nf := s.nf
def lcGo (Mf vs : List Nat) (fg : Ge → T → Option Ge) (ft : Ge → Option (Ge × Bool)) (fe : Ge → Option (Ge × Rs)) : List T → Ge → List T → Option (Ge × List T)
  | [], Γ, acc => some (Γ, acc)
  | x :: xs, Γ, acc => (fg (wipeG Γ vs) x).bind fun Γ1 => (ft Γ1).bind fun p => if p.2 = true then (fe p.1).bind fun q => (fzIn Mf q.1 q.2).bind fun z => lcGo Mf vs fg ft fe xs z.1 (acc ++ [z.2])
    else lcGo Mf vs fg ft fe xs p.1 acc
def fLc (Mf Ml vs : List Nat) (fs : Ge → Option (Ge × Rs × List T)) (fg : Ge → T → Option Ge) (ft : Ge → Option (Ge × Bool)) (fe : Ge → Option (Ge × Rs)) : Ge → Option (Ge × Rs) := fun Γ =>
  (fs Γ).bind fun p => if (p.2.1.free Ml && persVs p.1 vs && decide (p.2.2.length ≤ 10000)) = true then (lcGo Mf vs fg ft fe p.2.2 p.1 []).map fun q => (rstG p.1 q.1 vs, .val (.ow false .lst q.2)) else none
theorem ev_lc {wi : TI} {gt : TG} {fs : Ge → Option (Ge × Rs × List T)} {fg : Ge → T → Option Ge} {vs : List Nat} (Mf : List Nat) (hs : SvOk K cl M wi fs) (hg : TgOk K cl A gt fg) (hA : ∀ i, i ∈ A → i ∈ vs) (ht : EvTOk K cl Mt tt ft) (he : EvOk K cl Me te fe) :
    EvOk K cl (M ++ (vs ++ (Mt ++ (Me ++ Mf)))) (tLc wi gt tt te vs) (fLc Mf (vs ++ (Mt ++ (Me ++ Mf))) vs fs fg ft fe) := fun Hf H σ Γ R I Γ' r0 e Q q => by
  unfold fLc at e
  cases e1 : fs Γ with
  | none => rw [e1] at e; cases e
  | some p =>
    obtain ⟨Γ1, r, xs⟩ := p
    rw [e1, Option.bind_some] at e
    dsimp only at e
    split at e
    · rename_i hcond
      simp only [Bool.and_eq_true, decide_eq_true_eq] at hcond
      obtain ⟨⟨fr, hpv⟩, hxl⟩ := hcond
      cases e2 : lcGo Mf vs fg ft fe xs Γ1 [] with
      | none => rw [e2] at e; cases e
      | some pr =>
        obtain ⟨Γz, accz⟩ := pr
        rw [e2, Option.map_some] at e
        cases e
        refine hs Hf H σ Γ R I Γ1 r xs e1 _ fun Hf1 H1 R1 S1 J P us v1 st1 I1 g1 rs sr pa p1 pst => ?_
        intro D hD
        have hlen := pa.len
        have nR1 : ∀ i, ¬ R1 i D := fun i z => (I1.trk i D z).1 hD
        have subv : ∀ i, i ∈ vs → i ∈ vs ++ (Mt ++ (Me ++ Mf)) := fun i z => List.mem_append_left _ z
        -- what stands between two turns
        refine ⟨fun i m H' => m = us.length - i ∧ i ≤ us.length ∧ ∃ Hf' Γ' R' accT acc, Stp Hf1 H1 R1 (vs ++ (Mt ++ (Me ++ Mf))) Hf' H' R' No ∧ ER K cl Hf' H' (wipe σ vs) (wipeG Γ' vs) R' ∧ (∀ j, ¬ R' j D) ∧ Hf' D = none ∧ H' D = some (.lst acc) ∧ PerAll K Hf' accT acc ∧ accT.length ≤ i ∧
            (∀ j, j ∉ vs ++ (Mt ++ (Me ++ Mf)) → Γ'[j]? = Γ1[j]?) ∧ Γ'.length = Γ1.length ∧ lcGo Mf vs fg ft fe (xs.drop i) Γ' accT = some (Γz, accz),
          ⟨us.length, by omega, Nat.zero_le _, Hf1, Γ1, R1, [], [], Stp.refl.beside hD, (I1.wipe vs).beside nR1 (I1.w.none hD), nR1, I1.w.none hD, upd_same, True.intro, Nat.le_refl _, fun _ _ => rfl, rfl, by rw [List.drop_zero]; exact e2⟩, ?_⟩
        rintro i m H' ⟨rfl, hi, Hf', Γ', R', accT, acc, st', I', nD, fD, hDl, pacc, hal, gq, gl, go'⟩
        have P' : P Hf' H' := pst Hf' H' st'.le I'.w fun a o ow ea => by
          cases r with
          | val t => exact st'.fr a o ea fun j z => rs.2.1 j a ow z
          | «at» j π => exact (st'.kp j (free_at fr)).2 a o ow ea
        by_cases hlt : i < us.length
        · refine .inr ⟨sr.go i Hf' H' P' hlt, ?_⟩
          have hx : xs[i]? = some xs[i] := List.getElem?_eq_getElem (by omega)
          have hd : xs.drop i = xs[i] :: xs.drop (i + 1) := List.drop_eq_getElem_cons (by omega)
          rw [hd] at go'
          unfold lcGo at go'
          cases e3 : fg (wipeG Γ' vs) xs[i] with
          | none => rw [e3] at go'; cases go'
          | some Γ2 =>
            rw [e3, Option.bind_some] at go'
            cases e4 : ft Γ2 with
            | none => rw [e4] at go'; cases go'
            | some p4 =>
              obtain ⟨Γ4, b⟩ := p4
              rw [e4, Option.bind_some] at go'
              dsimp only at go'
              refine ⟨fun H3 => (us.length - (i + 1) = us.length - (i + 1)) ∧ i + 1 ≤ us.length ∧ ∃ Hf' Γ' R' accT acc, Stp Hf1 H1 R1 (vs ++ (Mt ++ (Me ++ Mf))) Hf' H3 R' No ∧ ER K cl Hf' H3 (wipe σ vs) (wipeG Γ' vs) R' ∧ (∀ j, ¬ R' j D) ∧ Hf' D = none ∧ H3 D = some (.lst acc) ∧ PerAll K Hf' accT acc ∧ accT.length ≤ i + 1 ∧
                (∀ j, j ∉ vs ++ (Mt ++ (Me ++ Mf)) → Γ'[j]? = Γ1[j]?) ∧ Γ'.length = Γ1.length ∧ lcGo Mf vs fg ft fe (xs.drop (i + 1)) Γ' accT = some (Γz, accz), fun H3 z => ⟨us.length - (i + 1), by omega, z⟩, fun x H2 y => ?_⟩
              obtain ⟨rfl, hv⟩ := sr.yld i Hf' H' x H2 P' hlt y
              obtain ⟨w, hw, pw⟩ := (PerAll.le st'.le _ _ pa).get hx
              rw [hv] at hw
              cases hw
              refine hg Hf' H2 (wipe σ vs) (wipeG Γ' vs) R' x xs[i] I' pw Γ2 e3 _ fun σ4 R4 I4 eq4 k4 s4 => ?_
              have l4 : σ4.length = σ.length := by rw [eq4.2.2, wipe_length]
              refine ⟨(wipe_eq l4 fun j hj => by rw [eq4.1 j fun z => hj (hA j z), wipe_out hj]), ?_⟩
              have stA : Stp Hf' H2 R' vs Hf' H2 R4 No := ⟨fun a o e _ => e, fun j n => ⟨k4 j fun z => n (hA j z), fun a o _ e => e⟩, fun j a z => .inl ⟨j, s4 j a z⟩, fun _ z => z.elim, Le.refl _, fun _ _ e => .inl e⟩
              have nD4 : ∀ j, ¬ R4 j D := fun j z => nD j (s4 j D z)
              -- D stands beside the frame all the while
              have keepD : ∀ {Hf5 H5 : Hp} {R5 : Nat → Rg} {M5 : List Nat} {S5 : Rg}, Stp Hf' H2 R4 M5 Hf5 H5 R5 S5 → (∀ j, ¬ R5 j D) ∧ Hf5 D = none ∧ H5 D = some (.lst acc) ∧ ¬ S5 D := fun {Hf5 H5 R5 M5 S5} s5 => by
                refine ⟨fun j z => ?_, ?_, s5.fr D _ hDl nD4, fun z => ?_⟩
                · rcases s5.nw j D z with ⟨k, y⟩ | y
                  · exact nD4 k y
                  · rw [hDl] at y; cases y
                · cases q : Hf5 D with
                  | none => rfl
                  | some o =>
                    rcases s5.nf D o q with y | ⟨k, y⟩ | y
                    · rw [fD] at y; cases y
                    · exact (nD4 k y).elim
                    · rw [hDl] at y; cases y
                · rcases s5.ns D z with ⟨k, y⟩ | y
                  · exact nD4 k y
                  · rw [hDl] at y; cases y
              refine ht Hf' H2 σ4 Γ2 R4 I4 Γ4 b e4 _ fun Hf5 H5 R5 st5 I5 g5 => ?_
              obtain ⟨nD5, fD5, hD5, _⟩ := keepD st5
              have g45 : ∀ j, j ∉ vs ++ Mt → Γ4[j]? = Γ'[j]? := fun j n => by
                rw [g5 j fun z => n (List.mem_append_right _ z), eq4.2.1 j fun z => n (List.mem_append_left _ (hA j z)), wipeG_out fun z => n (List.mem_append_left _ z)]
              have wi : wipe σ4 vs = wipe σ vs := wipe_eq l4 fun j hj => by rw [eq4.1 j fun z => hj (hA j z), wipe_out hj]
              have len4 : Γ4.length = Γ1.length := by
                have a := I5.len
                have b := I1.len
                omega
              cases b with
              | false =>
                rw [if_neg Bool.false_ne_true] at go' ⊢
                have I6 := I5.wipe vs
                rw [wi] at I6
                refine ⟨rfl, hlt, Hf5, Γ4, R5, accT, acc, ((st'.trans (stA.trans st5)).more fun j z => ?_), I6, nD5, fD5, hD5, PerAll.le (st5.le) _ _ pacc, Nat.le_succ_of_le hal, fun j n => ?_, len4, go'⟩
                · rcases List.mem_append.mp z with z | z
                  · exact z
                  · rcases List.mem_append.mp z with z | z
                    · exact List.mem_append_left _ z
                    · exact List.mem_append_right _ (List.mem_append_left _ z)
                · rw [g45 j fun z => n ?_, gq j n]
                  rcases List.mem_append.mp z with z | z
                  · exact List.mem_append_left _ z
                  · exact List.mem_append_right _ (List.mem_append_left _ z)
              | true =>
                rw [if_pos rfl] at go' ⊢
                cases e6 : fe Γ4 with
                | none => rw [e6] at go'; cases go'
                | some p6 =>
                  obtain ⟨Γ6, r6⟩ := p6
                  rw [e6, Option.bind_some] at go'
                  dsimp only at go'
                  cases e7 : fzIn Mf Γ6 r6 with
                  | none => rw [e7] at go'; cases go'
                  | some p7 =>
                    obtain ⟨Γ7, t7⟩ := p7
                    rw [e7, Option.bind_some] at go'
                    dsimp only at go'
                    refine he Hf5 H5 σ4 Γ4 R5 I5 Γ6 r6 e6 _ fun Hf6 H6 R6 S6 v6 st6 I6 g6 r6ok => ?_
                    obtain ⟨Hf7, R7, z7, p7⟩ := fzIn_ok I6 r6ok.w e7
                    have st7 := z7.stp (st5.trans st6)
                    obtain ⟨nD7, fD7, hD7, _⟩ := keepD st7
                    refine ⟨acc, hD7, Nat.lt_of_le_of_lt (show acc.length ≤ 10000 by rw [← pacc.len]; omega) (by decide), rfl, hlt, Hf7, Γ7, R7, accT ++ [t7], acc ++ [v6], ?_⟩
                    have I8 := (z7.er.beside (o := .lst (acc ++ [v6])) nD7 fD7).wipe vs
                    rw [wi] at I8
                    have len7 : Γ7.length = Γ1.length := by
                      have a := z7.er.len
                      have b := I1.len
                      omega
                    refine ⟨(((st'.trans (stA.trans st7)).more fun j z => ?_).beside hD), I8, nD7, fD7, upd_same, ?_, by rw [List.length_append]; simp only [List.length_cons, List.length_nil]; omega, fun j n => ?_, len7, go'⟩
                    · simp only [List.mem_append] at z ⊢
                      rcases z with (z | z | z | z) | z | (z | z) | z
                      · exact .inl z
                      · exact .inr (.inl z)
                      · exact .inr (.inr (.inl z))
                      · exact .inr (.inr (.inr z))
                      · exact .inl z
                      · exact .inr (.inl z)
                      · exact .inr (.inr (.inl z))
                      · exact .inr (.inr (.inr z))
                    · have pq := PerAll.le st7.le _ _ pacc
                      refine PerAll.intro (by rw [List.length_append, List.length_append, pq.len]; rfl) fun k t w a b => ?_
                      by_cases hk : k < accT.length
                      · rw [List.getElem?_append_left hk] at a
                        rw [List.getElem?_append_left (by rw [← pq.len]; exact hk)] at b
                        obtain ⟨w', e, pr⟩ := pq.get a
                        rw [e] at b
                        cases b
                        exact pr
                      · rw [List.getElem?_append_right (by omega)] at a
                        rw [List.getElem?_append_right (by rw [← pq.len]; omega), ← pq.len] at b
                        cases hz : k - accT.length with
                        | zero =>
                          rw [hz] at a b
                          cases a
                          cases b
                          exact p7
                        | succ m =>
                          rw [hz] at a
                          simp at a
                    · have n' : j ∉ vs ++ Mt := fun z => n (by
                        rcases List.mem_append.mp z with z | z
                        · exact List.mem_append_left _ z
                        · exact List.mem_append_right _ (List.mem_append_left _ z))
                      rw [(z7.kp j fun z => n (List.mem_append_right _ (List.mem_append_right _ (List.mem_append_right _ z)))).2, g6 j fun z => n (List.mem_append_right _ (List.mem_append_right _ (List.mem_append_left _ z))), g45 j n', gq j n]
        · have hi' : i = us.length := by omega
          subst hi'
          refine .inl ⟨sr.stop Hf' H' P', ?_⟩
          rw [List.drop_eq_nil_of_le (by omega)] at go'
          cases go'
          have st9 := st1.noS.trans st'
          have lenz : Γ1.length = Γz.length := gl.symm
          refine q Hf' H' R' (fun a => a = D) (.ref D) ⟨st9.fr, st9.kp, st9.nw, fun a s => ?_, st9.le, st9.nf⟩ ⟨I'.w, by rw [rstG_len, gl]; exact I1.len, fun j t e => ?_, I'.dis, I'.trk⟩ (fun j n => ?_) ⟨?_, fun j a s z => nD j (s ▸ z), fun a s => ?_⟩
          · cases s
            exact st1.noneBack hD
          · by_cases hj : j ∈ vs
            · rw [rstG_in hj lenz] at e
              obtain ⟨w, a, b⟩ := I1.rep j t e
              have pt : t.pers = true := by
                have := List.all_eq_true.mp hpv j hj
                rw [e] at this
                exact this
              exact ⟨w, a, (Per.le st'.le _ _ (b.per pt)).rep⟩
            · rw [rstG_out hj] at e
              obtain ⟨w, a, b⟩ := I'.rep j t (by rw [wipeG_out hj]; exact e)
              rw [wipe_out hj] at a
              exact ⟨w, a, b⟩
          · have hj : j ∉ vs := fun z => n (List.mem_append_right _ (List.mem_append_left _ z))
            rw [rstG_out hj, gq j fun z => n (List.mem_append_right _ z), g1 j fun z => n (List.mem_append_left _ z)]
          · exact ⟨D, D, acc, fun _ _ => False, rfl, rfl, (fun z => nomatch z), ⟨rfl, hDl⟩, (fun _ _ z => z.elim), (fun _ _ _ z => z.elim), pacc.reps⟩
          · cases s
            exact ⟨(by rw [hDl]; exact fun z => nomatch z), fD⟩
    · cases e
end
end Vx

set_option maxRecDepth 100000
/-! Vx12: things that are changed in their place -/
namespace Vx
open PySem L2
section
variable {K : PySem.W.Frag} {cl : Nat → Addr} {Hf Hf' H H' : Hp} {E : St → Hp → Prop} {A B M Ma Mb Mc Mt Me : List Nat} {te to ti tv : TE} {ta : TA} {fe fo fi fv : Ge → Option (Ge × Rs)} {fa : Ge → Option (Ge × List Rs)}

/-- a place of the frame takes another tree -/
theorem place {σ : L2.St} {Γ : Ge} {R : Nat → Rg} {i : Nat} {π : List Nat} {t u : T} {v0 w : V} (I : ER K cl Hf H σ Γ R) (et : Γ[i]? = some (some t)) (eu : getAt π t = some u) (ev : σ[i]? = some (some v0)) (re : Reach H π v0 w) :
    ∃ G, Rep K cl Hf H u w G ∧ (∀ a, G a → R i a) ∧ ∀ (Hf' H' : Hp) (u' : T) (G' : Rg), Le Hf Hf' → W Hf' H' → (∀ a o, H a = some o → ¬ G a → (∃ j, R j a) → H' a = some o) → Rep K cl Hf' H' u' w G' → (∀ j a, G' a → R j a → G a) →
      (∀ a, G' a → H' a ≠ none ∧ Hf' a = none) → (∀ j a, R j a → ¬ G a → Hf' a = none) →
      ∃ t', putAt π u' t = some t' ∧ ER K cl Hf' H' σ (Γ.set i (some t')) (fun j a => (R j a ∧ ¬ G a) ∨ (j = i ∧ G' a)) := by
  obtain ⟨v1, f1, f2⟩ := I.rep i t et
  rw [ev] at f1
  cases f1
  obtain ⟨w', G, g1, g2, g3, g4⟩ := focus π t v0 (R i) u f2 eu
  cases reach_det g3 re
  refine ⟨G, g1, g2, fun Hf' H' u' G' le w' fr r' dj tk fz => ?_⟩
  obtain ⟨t', p1, p2⟩ := g4 Hf' H' u' G' le (fun a o ra ga e => fr a o e ga ⟨i, ra⟩) r' (fun a g r => dj i a g r)
  have hlt : i < Γ.length := (List.getElem?_eq_some_iff.mp et).1
  have gd : ∀ j a, G a → R j a → j = i := fun j a g r => I.dis j i a r (g2 a g)
  refine ⟨t', p1, ⟨w', by rw [List.length_set]; exact I.len, fun j tj ej => ?_, fun j k a p q => ?_, fun j a p => ?_⟩⟩
  · by_cases hji : j = i
    · subst hji
      rw [List.getElem?_set_self hlt] at ej
      cases ej
      exact ⟨v0, ev, p2.weak fun a z => z.elim .inl fun g => .inr ⟨rfl, g⟩⟩
    · rw [List.getElem?_set_ne (Ne.symm hji)] at ej
      obtain ⟨vj, a1, a2⟩ := I.rep j tj ej
      have nG : ∀ a, R j a → ¬ G a := fun a r g => hji (gd j a g r)
      have a3 : Rep K cl Hf' H' tj vj (R j) := Rep.frame le _ _ _ (fun a o r e => fr a o e (nG a r) ⟨j, r⟩) a2
      exact ⟨vj, a1, a3.weak fun a r => .inl ⟨r, nG a r⟩⟩
  · rcases p with p | ⟨rfl, p⟩
    · rcases q with q | ⟨rfl, q⟩
      · exact I.dis j k a p.1 q.1
      · exact (p.2 (dj j a q p.1)).elim
    · rcases q with q | ⟨rfl, q⟩
      · exact (q.2 (dj k a p q.1)).elim
      · rfl
  · rcases p with p | ⟨rfl, p⟩
    · refine ⟨?_, fz j a p.1 p.2⟩
      have n := (I.trk j a p.1).1
      cases q : H a with
      | none => exact absurd q n
      | some o => rw [fr a o q p.2 ⟨j, p.1⟩]; exact fun z => nomatch z
    · exact tk a p

/-! ### arguments that are handed over -/
def emb (M : List Nat) (Γ : Ge) : Rs → Option (Ge × T)
  | .val t => some (Γ, t)
  | .at i π => fzIn M Γ (.at i π)
def embAll (M : List Nat) : Ge → List Rs → Option (Ge × List T)
  | Γ, [] => some (Γ, [])
  | Γ, r :: rs => (emb M Γ r).bind fun p => (embAll M p.1 rs).map fun q => (q.1, p.2 :: q.2)
theorem Fz.refl {σ : L2.St} {Γ : Ge} {R : Nat → Rg} {S : Rg} (I : ER K cl Hf H σ Γ R) : Fz K cl M Hf H σ Γ R S Hf Γ R := ⟨I, Le.refl _, fun _ _ e => .inl e, fun _ _ r => r, fun _ _ => ⟨rfl, rfl⟩⟩
theorem emb_ok {σ : L2.St} {Γ Γ' : Ge} {R : Nat → Rg} {r : Rs} {v : V} {S : Rg} {t' : T} (I : ER K cl Hf H σ Γ R) (h : RsW K cl Hf H σ R r v S) (e : emb M Γ r = some (Γ', t')) :
    ∃ Hf' R' S', Fz K cl M Hf H σ Γ R S Hf' Γ' R' ∧ RsW K cl Hf' H σ R' (.val t') v S' ∧ ∀ a, S' a → S a := by
  cases r with
  | val t =>
    cases e
    exact ⟨Hf, R, S, Fz.refl I, h, fun _ s => s⟩
  | «at» i π =>
    obtain ⟨Hf', R', z, p⟩ := fzIn_ok (r := .at i π) I h e
    exact ⟨Hf', R', No, z, ⟨p.rep, fun _ _ z => z.elim, fun _ z => z.elim⟩, fun _ z => z.elim⟩
theorem embAll_ok {σ : L2.St} : ∀ {rs : List Rs} {vs : List V} {Ss : List Rg} {Γ Γ' : Ge} {R : Nat → Rg} {Hf : Hp} {ts : List T}, ER K cl Hf H σ Γ R → RsWs K cl Hf H σ R rs vs Ss → embAll M Γ rs = some (Γ', ts) →
    ∃ Hf' R' Ss', Fz K cl M Hf H σ Γ R (fun a => ∃ S ∈ Ss, S a) Hf' Γ' R' ∧ RsWs K cl Hf' H σ R' (ts.map Rs.val) vs Ss' ∧ ∀ S' ∈ Ss', ∀ a, S' a → ∃ S ∈ Ss, S a
  | [], [], [], Γ, Γ', R, Hf, ts, I, h, e => by
    unfold embAll at e
    cases e
    exact ⟨Hf, R, [], Fz.refl I, True.intro, fun S' m => by simp at m⟩
  | r :: rs, v :: vs, S :: Ss, Γ, Γ', R, Hf, ts, I, h, e => by
    unfold embAll at e
    cases e1 : emb M Γ r with
    | none => rw [e1] at e; cases e
    | some p =>
      obtain ⟨Γ1, t1⟩ := p
      rw [e1, Option.bind_some] at e
      cases e2 : embAll M Γ1 rs with
      | none => rw [e2] at e; cases e
      | some p2 =>
        obtain ⟨Γ2, ts2⟩ := p2
        rw [e2, Option.map_some] at e
        cases e
        obtain ⟨Hf1, R1, S1, z1, p1, q1⟩ := emb_ok I h.1 e1
        obtain ⟨Hf2, R2, Ss2, z2, p2, q2⟩ := embAll_ok z1.er (RsWs.fz z1 h.2.2 fun S' m a s s' => h.2.1 a s S' m s') e2
        refine ⟨Hf2, R2, S1 :: Ss2, ⟨z2.er, z1.le.trans z2.le, fun a o e => ?_, fun i a r => z1.sub i a (z2.sub i a r), fun i n => ⟨(z2.kp i n).1.trans (z1.kp i n).1, (z2.kp i n).2.trans (z1.kp i n).2⟩⟩,
          ⟨p1.fz z2 fun a s ⟨S', m, s'⟩ => h.2.1 a (q1 a s) S' m s', fun a s S' m s' => ?_, p2⟩, fun S' m a s => ?_⟩
        · rcases z2.bk a o e with y | ⟨S', m, y⟩ | ⟨i, y⟩
          · rcases z1.bk a o y with y | y | y
            · exact .inl y
            · exact .inr (.inl ⟨S, List.mem_cons_self, y⟩)
            · exact .inr (.inr y)
          · exact .inr (.inl ⟨S', List.mem_cons_of_mem _ m, y⟩)
          · exact .inr (.inr ⟨i, z1.sub i a y⟩)
        · obtain ⟨S2, m2, y⟩ := q2 S' m a s'
          exact h.2.1 a (q1 a s) S2 m2 y
        · rcases List.mem_cons.mp m with y | y
          · subst y
            exact ⟨S, List.mem_cons_self, q1 a s⟩
          · obtain ⟨S2, m2, z⟩ := q2 S' y a s
            exact ⟨S2, List.mem_cons_of_mem _ m2, z⟩
  | [], [], _ :: _, _, _, _, _, _, _, h, _ => h.elim
  | [], _ :: _, _, _, _, _, _, _, _, h, _ => h.elim
  | _ :: _, [], _, _, _, _, _, _, _, h, _ => h.elim
  | _ :: _, _ :: _, [], _, _, _, _, _, _, h, _ => h.elim
/-- trees handed over, as a list with regions -/
theorem RsWs.vals {σ : L2.St} {R : Nat → Rg} : ∀ {ts : List T} {vs : List V} {Ss : List Rg} {m : Nat}, RsWs K cl Hf H σ R (ts.map Rs.val) vs Ss →
    RepAll K cl Hf H ts vs (fun i a => ∃ S : Rg, Ss[i - m]? = some S ∧ m ≤ i ∧ S a) m ∧ (∀ (i j : Nat) (a : Addr) (S S' : Rg), Ss[i]? = some S → Ss[j]? = some S' → S a → S' a → i = j) ∧ (∀ S ∈ Ss, ∀ a, S a → (∀ i, ¬ R i a) ∧ H a ≠ none ∧ Hf a = none)
  | [], [], [], m, _ => ⟨True.intro, fun i j a S S' h => by simp at h, fun S h => by simp at h⟩
  | t :: ts, v :: vs, S :: Ss, m, h => by
    obtain ⟨k1, k2, k3⟩ := RsWs.vals (m := m + 1) h.2.2
    obtain ⟨h1, h2, h3⟩ := h.1
    refine ⟨⟨h1.weak fun a s => ⟨S, by simp, Nat.le_refl _, s⟩, ?_⟩, fun i j a U U' hi hj u u' => ?_, fun U hU a u => ?_⟩
    · refine RepAll.intro k1.len fun n t v a b => ?_
      obtain ⟨w, e1, r1⟩ := k1.get a
      rw [e1] at b
      cases b
      exact r1.weak fun a ⟨S', q1, q2, q3⟩ => ⟨S', by rw [show m + 1 + n - m = (m + 1 + n - (m + 1)) + 1 by omega]; simpa using q1, by omega, q3⟩
    · cases i with
      | zero =>
        cases j with
        | zero => rfl
        | succ j =>
          simp at hi hj
          subst hi
          exact (h.2.1 a u U' (List.mem_of_getElem? hj) u').elim
      | succ i =>
        cases j with
        | zero =>
          simp at hi hj
          subst hj
          exact (h.2.1 a u' U (List.mem_of_getElem? hi) u).elim
        | succ j => exact congrArg (· + 1) (k2 i j a U U' (by simpa using hi) (by simpa using hj) u u')
    · rcases List.mem_cons.mp hU with z | z
      · subst z
        exact ⟨fun i => h2 i a u, h3 a u⟩
      · exact k3 U z a u
  | [], [], _ :: _, _, h => h.elim
  | [], _ :: _, _, _, h => h.elim
  | _ :: _, [], _, _, h => h.elim
  | _ :: _, _ :: _, [], _, h => h.elim

/-! ### an operation that changes its receiver -/
variable (K cl)
/-- args as trees with regions of their own, apart from the receiver's -/
structure Arg (Hf H : Hp) (ts : List T) (vs : List V) (Ss : Nat → Rg) (G : Rg) : Prop where
  rep : RepAll K cl Hf H ts vs Ss 0
  dis : ∀ i j a, Ss i a → Ss j a → i = j
  ap : ∀ i a, Ss i a → ¬ G a
  tk : ∀ i a, Ss i a → H a ≠ none ∧ Hf a = none
def PRm (rm : V → List V → Hp → VK → Prop) (gm : T → List T → Option (T × T)) : Prop :=
  ∀ (Hf H : Hp) (x : V) (vs : List V) (tn : T) (ts : List T) (G : Rg) (Ss : Nat → Rg) (tn' tr : T), W Hf H → Rep K cl Hf H tn x G → (∀ a, G a → H a ≠ none ∧ Hf a = none) → Arg K cl Hf H ts vs Ss G → gm tn ts = some (tn', tr) →
    ∀ Q : VK, (∀ H' z G' S', (∀ a o, H a = some o → ¬ G a → H' a = some o) → (∀ b xs, H' b = some (.tup xs) → H b = some (.tup xs)) → Rep K cl Hf H' tn' x G' → Rep K cl Hf H' tr z S' → (∀ a, G' a → G a ∨ ∃ i, Ss i a) → (∀ a, S' a → G a ∨ ∃ i, Ss i a) → (∀ a, G' a → ¬ S' a) → (∀ a, G' a ∨ S' a → H' a ≠ none) → Q z H') → rm x vs H Q
variable {K cl}
def setPl (Γ : Ge) (i : Nat) (π : List Nat) (u : T) : Option Ge := match Γ[i]? with
  | some (some t) => (putAt π u t).map fun t' => Γ.set i (some t')
  | _ => none
/-- what a change at a place does to the frame -/
theorem mut_ok {rm : V → List V → Hp → VK → Prop} {gm : T → List T → Option (T × T)} (hm : PRm K cl rm gm) {σ : L2.St} {Γ Γ' : Ge} {R : Nat → Rg} {i : Nat} {π : List Nat} {u u' tr : T} {ts : List T} {vs : List V} {Ss : List Rg} {v0 w : V}
    (I : ER K cl Hf H σ Γ R) (eu : getT Γ (.at i π) = some u) (ev : σ[i]? = some (some v0)) (re : Reach H π v0 w) (ra : RsWs K cl Hf H σ R (ts.map Rs.val) vs Ss) (eg : gm u ts = some (u', tr)) (es : setPl Γ i π u' = some Γ') :
    ∀ Q : VK, (∀ H' R' S' z, Stp Hf H (fun j a => R j a ∨ (j = i ∧ ∃ S ∈ Ss, S a)) [i] Hf H' R' S' → ER K cl Hf H' σ Γ' R' → RsOk K cl Hf H' σ Γ' R' (.val tr) z S' → (∀ j, j ≠ i → R' j = R j) → Q z H') → rm w vs H Q := fun Q q => by
  unfold getT at eu
  dsimp only at eu
  split at eu
  · rename_i t et
    obtain ⟨G, g1, g2, g3⟩ := place I et eu ev re
    obtain ⟨k1, k2, k3⟩ := RsWs.vals (m := 0) ra
    have k1' : RepAll K cl Hf H ts vs (fun i a => ∃ S : Rg, Ss[i]? = some S ∧ S a) 0 := RepAll.intro k1.len fun n t w a b => by
      obtain ⟨w', e1, r1⟩ := k1.get a
      rw [e1] at b
      cases b
      exact r1.weak fun a ⟨S', q1, _, q3⟩ => ⟨S', by simpa using q1, q3⟩
    have arg : Arg K cl Hf H ts vs (fun i a => ∃ S : Rg, Ss[i]? = some S ∧ S a) G := ⟨k1', fun n m a ⟨S, s1, s2⟩ ⟨S', s3, s4⟩ => k2 n m a S S' s1 s3 s2 s4, fun n a ⟨S, s1, s2⟩ g => (k3 S (List.mem_of_getElem? s1) a s2).1 i (g2 a g), fun n a ⟨S, s1, s2⟩ => (k3 S (List.mem_of_getElem? s1) a s2).2⟩
    refine hm Hf H w vs u ts G _ u' tr I.w g1 (fun a g => I.trk i a (g2 a g)) arg eg Q fun H' z G' S' fr tp r1 r2 sg ss dj tk => ?_
    have w' : W Hf H' := by
     refine ⟨fun a o e => ?_, fun b xs e => I.w.tp b xs (tp b xs e)⟩
     · have nG : ¬ G a := fun g => by rw [(I.trk i a (g2 a g)).2] at e; cases e
       rcases I.w a o e with y | ⟨od, d, y⟩
       · exact .inl (fr a _ y nG)
       · exact .inr ⟨od, d, fr a _ y nG⟩
    have frz' : ∀ a, G' a ∨ S' a → Hf a = none := fun a h => by
      have : G a ∨ ∃ (n : Nat) (S : Rg), Ss[n]? = some S ∧ S a := h.elim (fun h => sg a h) fun h => ss a h
      rcases this with g | ⟨n, S, s1, s2⟩
      · exact (I.trk i a (g2 a g)).2
      · exact (k3 S (List.mem_of_getElem? s1) a s2).2.2
    have inR : ∀ j a, (G' a ∨ S' a) → R j a → G a := fun j a h r => by
      have : G a ∨ ∃ (n : Nat) (S : Rg), Ss[n]? = some S ∧ S a := h.elim (fun h => sg a h) fun h => ss a h
      rcases this with g | ⟨n, S, s1, s2⟩
      · exact g
      · exact ((k3 S (List.mem_of_getElem? s1) a s2).1 j r).elim
    obtain ⟨t', p1, I'⟩ := g3 Hf H' u' G' (Le.refl _) w' (fun a o e ng _ => fr a o e ng) r1 (fun j a g r => inR j a (.inl g) r) (fun a g => ⟨tk a (.inl g), frz' a (.inl g)⟩) (fun j a r _ => (I.trk j a r).2)
    unfold setPl at es
    rw [et] at es
    dsimp only at es
    rw [p1, Option.map_some] at es
    cases es
    have gd : ∀ j a, G a → R j a → j = i := fun j a g r => I.dis j i a r (g2 a g)
    refine q H' _ S' z ⟨fun a o e n => fr a o e fun g => n i (.inl (g2 a g)), fun j hj => ⟨?_, fun a o r e => fr a o e fun g => ?_⟩, fun j a r => ?_, fun a s => ?_, Le.refl _, fun _ _ e => .inl e⟩ I' ⟨r2, fun j a s r => ?_, fun a s => ⟨tk a (.inr s), frz' a (.inr s)⟩⟩ fun j hj => ?_
    · have hji : j ≠ i := fun z => hj (List.mem_singleton.mpr z)
      funext a
      exact propext ⟨fun r => r.elim (fun r => .inl r.1) fun r => (hji r.1).elim, fun r => r.elim (fun r => .inl ⟨r, fun g => hji (gd j a g r)⟩) fun r => (hji r.1).elim⟩
    · have hji : j ≠ i := fun z => hj (List.mem_singleton.mpr z)
      rcases r with r | r
      · exact hji (gd j a g r)
      · exact hji r.1
    · rcases r with r | ⟨rfl, g⟩
      · exact .inl ⟨j, .inl r.1⟩
      · rcases sg a g with g | ⟨n, S, s1, s2⟩
        · exact .inl ⟨j, .inl (g2 a g)⟩
        · exact .inl ⟨j, .inr ⟨rfl, S, List.mem_of_getElem? s1, s2⟩⟩
    · rcases ss a s with g | ⟨n, S, s1, s2⟩
      · exact .inl ⟨i, .inl (g2 a g)⟩
      · exact .inl ⟨i, .inr ⟨rfl, S, List.mem_of_getElem? s1, s2⟩⟩
    · rcases r with r | ⟨rfl, g⟩
      · exact r.2 (inR j a (.inr s) r.1)
      · exact dj a g s
    · funext a
      exact propext ⟨fun r => r.elim (fun r => r.1) fun r => (hj r.1).elim, fun r => .inl ⟨r, fun g => hj (gd j a g r)⟩⟩
  · cases eu
/-- .. put together with what went before it -/
theorem Stp.mut {Hf1 H1 H2 : Hp} {R R1 R2 : Nat → Rg} {S2 : Rg} {i : Nat} {Ss : Rg} (s : Stp Hf H R M Hf1 H1 R1 Ss) (k : Stp Hf1 H1 (fun j a => R1 j a ∨ (j = i ∧ Ss a)) [i] Hf1 H2 R2 S2) (kr : ∀ j, j ≠ i → R2 j = R1 j) : Stp Hf H R (M ++ [i]) Hf1 H2 R2 S2 where
  fr := fun a o e n => k.fr a o (s.fr a o e n) fun j r => by
    rcases r with r | ⟨_, r⟩
    · rcases s.nw j a r with ⟨m, z⟩ | z
      · exact n m z
      · rw [e] at z; cases z
    · rcases s.ns a r with ⟨m, z⟩ | z
      · exact n m z
      · rw [e] at z; cases z
  kp := fun j hj => by
    have n1 : j ∉ M := fun z => hj (List.mem_append_left _ z)
    have hji : j ≠ i := fun z => hj (List.mem_append_right _ (List.mem_singleton.mpr z))
    obtain ⟨a1, a2⟩ := s.kp j n1
    exact ⟨(kr j hji).trans a1, fun a o r e => (k.kp j fun z => hji (List.mem_singleton.mp z)).2 a o (.inl (by rw [a1]; exact r)) (a2 a o r e)⟩
  nw := fun j a r => by
    rcases k.nw j a r with ⟨m, z | ⟨_, z⟩⟩ | z
    · exact s.nw m a z
    · exact s.ns a z
    · exact s.noneBack z
  ns := fun a r => by
    rcases k.ns a r with ⟨m, z | ⟨_, z⟩⟩ | z
    · exact s.nw m a z
    · exact s.ns a z
    · exact s.noneBack z
  le := s.le.trans k.le
  nf := fun a o e => by
    rcases k.nf a o e with z | ⟨m, z | ⟨_, z⟩⟩ | z
    · exact s.nf a o z
    · exact .inr (s.nw m a z)
    · exact .inr (s.ns a z)
    · exact .inr (s.noneBack z)
end
end Vx

set_option maxRecDepth 100000
/-! Vx13: append, extend, pop, stores -/
namespace Vx
open PySem L2
section
variable {K : PySem.W.Frag} {cl : Nat → Addr} {Hf Hf' H H' : Hp} {E : St → Hp → Prop} {A B M Ma Mb Mc Mt Me : List Nat} {te to ti tv : TE} {ta : TA} {fe fo fi fv : Ge → Option (Ge × Rs)} {fa : Ge → Option (Ge × List Rs)}
theorem owL {x : V} {xs : List T} {G : Rg} (h : Rep K cl Hf H (.ow false .lst xs) x G) : ∃ a dx vs G0, x = .ref a ∧ G a ∧ H a = some (.lst vs) ∧ (∀ i b, G0 i b → G b ∧ b ≠ a) ∧ (∀ i j b, G0 i b → G0 j b → i = j) ∧ RepAll K cl Hf H xs vs G0 0 ∧ dx = a := by
  obtain ⟨a, dx, vs, G0, h1, h2, h3, h4, h5, h6, h7⟩ := h
  exact ⟨a, a, vs, G0, h1, h2, h4.2, fun i b g => ⟨(h5 i b g).1, (h5 i b g).2.1⟩, h6, h7, rfl⟩
theorem arg1 {t : T} {vs : List V} {Ss : Nat → Rg} {G : Rg} (h : Arg K cl Hf H [t] vs Ss G) : ∃ v, vs = [v] ∧ Rep K cl Hf H t v (Ss 0) := by
  have l := h.rep.len
  match vs, l, h.rep with
  | [v], _, r => exact ⟨v, rfl, r.1⟩
theorem arg0 {vs : List V} {Ss : Nat → Rg} {G : Rg} (h : Arg K cl Hf H [] vs Ss G) : vs = [] := by
  have l := h.rep.len
  match vs, l with
  | [], _ => rfl
theorem arg2 {t u : T} {vs : List V} {Ss : Nat → Rg} {G : Rg} (h : Arg K cl Hf H [t, u] vs Ss G) : ∃ v w, vs = [v, w] ∧ Rep K cl Hf H t v (Ss 0) ∧ Rep K cl Hf H u w (Ss 1) := by
  have l := h.rep.len
  match vs, l, h.rep with
  | [v, w], _, r => exact ⟨v, w, rfl, r.1, r.2.1⟩
def nT : T := .v .non
def gApp : T → List T → Option (T × T)
  | .ow false .lst xs, [t] => if xs.length < 100000 then some (.ow false .lst (xs ++ [t]), .v .non) else none
  | _, _ => none
theorem sz6 {n : Nat} (h : n < 100000) : n < sizeLine := Nat.lt_of_lt_of_le h (by decide)
theorem prm_app : PRm K cl rAppend gApp := fun Hf H x vs tn ts G Ss tn' tr w rx tk ar e Q q => by
  unfold gApp at e
  split at e
  · split at e
    · rename_i xs t hl
      cases e
      obtain ⟨a, dx, us, G0, rfl, g1, g2, g3, g4, g5, _⟩ := owL rx
      obtain ⟨v, rfl, rv⟩ := arg1 ar
      have na : ∀ b, Ss 0 b → b ≠ a := fun b s z => ar.ap 0 b s (z ▸ g1)
      refine ⟨a, us, v, rfl, rfl, g2, by rw [← g5.len]; exact sz6 hl, q (upd H a (.lst (us ++ [v]))) .non (fun b => G b ∨ Ss 0 b) No (fun b o e n => by rw [upd_ne (fun z => n (by rw [z]; exact g1))]; exact e) (by intro b xs z; exact tp_upd (by intro _ z; cases z) z) ?_ ⟨rfl, rfl⟩ (fun b h => h.elim .inl fun h => .inr ⟨0, h⟩) (fun b z => z.elim) (fun b _ z => z) fun b h => ?_⟩
      · refine ⟨a, a, us ++ [v], fun i b => (i < xs.length ∧ G0 i b) ∨ (i = xs.length ∧ Ss 0 b), rfl, .inl g1, (fun z => nomatch z), ⟨rfl, upd_same⟩, fun i b h => ?_, fun i j b p q => ?_, ?_⟩
        · rcases h with ⟨_, h⟩ | ⟨_, h⟩
          · exact ⟨.inl (g3 i b h).1, (g3 i b h).2, fun z => nomatch z⟩
          · exact ⟨.inr h, na b h, fun z => nomatch z⟩
        · rcases p with ⟨p1, p⟩ | ⟨p1, p⟩
          · rcases q with ⟨q1, q⟩ | ⟨q1, q⟩
            · exact g4 i j b p q
            · exact (ar.ap 0 b q (g3 i b p).1).elim
          · rcases q with ⟨q1, q⟩ | ⟨q1, q⟩
            · exact (ar.ap 0 b p (g3 j b q).1).elim
            · omega
        · refine RepAll.intro (by rw [List.length_append, List.length_append, g5.len]; rfl) fun n t' w' e1 e2 => ?_
          rw [Nat.zero_add]
          by_cases hn : n < xs.length
          · rw [List.getElem?_append_left hn] at e1
            rw [List.getElem?_append_left (by rw [← g5.len]; exact hn)] at e2
            obtain ⟨w2, e3, r2⟩ := g5.get e1
            rw [e3] at e2
            cases e2
            rw [Nat.zero_add] at r2
            have r3 : Rep K cl Hf (upd H a (.lst (us ++ [v]))) t' w' (G0 n) := Rep.frame (Le.refl _) _ _ _ (fun b o g q => by rw [upd_ne (g3 n b g).2]; exact q) r2
            exact r3.weak fun b g => .inl ⟨hn, g⟩
          · rw [List.getElem?_append_right (by omega)] at e1
            rw [List.getElem?_append_right (by rw [← g5.len]; omega), ← g5.len] at e2
            cases hz : n - xs.length with
            | zero =>
              rw [hz] at e1 e2
              cases e1
              cases e2
              have r3 : Rep K cl Hf (upd H a (.lst (us ++ [v]))) t v (Ss 0) := Rep.frame (Le.refl _) _ _ _ (fun b o g q => by rw [upd_ne (na b g)]; exact q) rv
              exact r3.weak fun b g => .inr ⟨by omega, g⟩
            | succ m =>
              rw [hz] at e1
              simp at e1
      · rcases h with (h | h) | h
        · by_cases z : b = a
          · rw [z, upd_same]; exact fun z => nomatch z
          · rw [upd_ne z]; exact (tk b h).1
        · rw [upd_ne (na b h)]; exact (ar.tk 0 b h).1
        · exact h.elim
    · cases e
  · cases e
/-- a list whose object is a plain list -/
def lstX : T → Option (List T)
  | .fz .lst xs => some xs
  | .ow false .lst xs => some xs
  | _ => none
theorem Rep.lstX {t : T} {v : V} {F : Rg} {xs : List T} (w : W Hf H) (h : Rep K cl Hf H t v F) (e : lstX t = some xs) (p : xs.all T.pers = true) : ∃ a vs, v = .ref a ∧ H a = some (.lst vs) ∧ PerAll K Hf xs vs := by
  unfold Vx.lstX at e
  split at e
  · cases e
    obtain ⟨a, vs, h1, h2, h3⟩ := h
    rcases w _ _ h2 with q | ⟨od, d, _⟩
    · exact ⟨a, vs, h1, q, h3⟩
    · cases d
  · cases e
    obtain ⟨a, dx, vs, G, h1, h2, h3, h4, h5, h6, h7⟩ := h
    exact ⟨a, vs, h1, h4.2, per_all h7 p⟩
  · cases e
def gExt : T → List T → Option (T × T)
  | .ow false .lst xs, [t] => (lstX t).bind fun ys => if ys.all T.pers = true ∧ xs.length + ys.length ≤ 100000 then some (.ow false .lst (xs ++ ys), .v .non) else none
  | _, _ => none
theorem prm_ext : PRm K cl rExtend gExt := fun Hf H x vs tn ts G Ss tn' tr w rx tk ar e Q q => by
  unfold gExt at e
  split at e
  · rename_i xs t
    cases e1 : lstX t with
    | none => rw [e1] at e; cases e
    | some ys =>
      rw [e1, Option.bind_some] at e
      split at e
      · rename_i hc
        cases e
        obtain ⟨a, dx, us, G0, rfl, g1, g2, g3, g4, g5, _⟩ := owL rx
        obtain ⟨v, rfl, rv⟩ := arg1 ar
        obtain ⟨b, zs, rfl, h2, h3⟩ := rv.lstX w e1 hc.1
        refine ⟨a, b, us, zs, rfl, rfl, g2, h2, by rw [← g5.len, ← h3.len]; exact sz5 hc.2, q (upd H a (.lst (us ++ zs))) .non G No (fun b o e n => by rw [upd_ne (fun z => n (by rw [z]; exact g1))]; exact e) (by intro b xs z; exact tp_upd (by intro _ z; cases z) z) ?_ ⟨rfl, rfl⟩ (fun b h => .inl h) (fun b z => z.elim) (fun b _ z => z) fun b h => ?_⟩
        · refine ⟨a, a, us ++ zs, fun i b => i < xs.length ∧ G0 i b, rfl, g1, (fun z => nomatch z), ⟨rfl, upd_same⟩, fun i b h => ⟨(g3 i b h.2).1, (g3 i b h.2).2, fun z => nomatch z⟩, fun i j b p q => g4 i j b p.2 q.2, ?_⟩
          refine RepAll.intro (by rw [List.length_append, List.length_append, g5.len, h3.len]) fun n t' w' e1 e2 => ?_
          rw [Nat.zero_add]
          by_cases hn : n < xs.length
          · rw [List.getElem?_append_left hn] at e1
            rw [List.getElem?_append_left (by rw [← g5.len]; exact hn)] at e2
            obtain ⟨w2, e3, r2⟩ := g5.get e1
            rw [e3] at e2
            cases e2
            rw [Nat.zero_add] at r2
            have r3 : Rep K cl Hf (upd H a (.lst (us ++ zs))) t' w' (G0 n) := Rep.frame (Le.refl _) _ _ _ (fun b o g q => by rw [upd_ne (g3 n b g).2]; exact q) r2
            exact r3.weak fun b g => ⟨hn, g⟩
          · rw [List.getElem?_append_right (by omega)] at e1
            rw [List.getElem?_append_right (by rw [← g5.len]; omega), ← g5.len] at e2
            obtain ⟨w2, e3, r2⟩ := h3.get e1
            rw [e3] at e2
            cases e2
            exact r2.rep
        · rcases h with h | h
          · by_cases z : b = a
            · rw [z, upd_same]; exact fun z => nomatch z
            · rw [upd_ne z]; exact (tk b h).1
          · exact h.elim
      · cases e
  · cases e
def gPop : T → List T → Option (T × T)
  | .ow false .lst xs, [] => match xs.getLast? with
    | some t => some (.ow false .lst xs.dropLast, t)
    | none => none
  | _, _ => none
theorem prm_pop : PRm K cl rPop gPop := fun Hf H x vs tn ts G Ss tn' tr w rx tk ar e Q q => by
  unfold gPop at e
  split at e
  · rename_i xs
    split at e
    · rename_i t hl
      cases e
      obtain ⟨a, dx, us, G0, rfl, g1, g2, g3, g4, g5, _⟩ := owL rx
      cases arg0 ar
      rw [List.getLast?_eq_getElem?] at hl
      obtain ⟨y, h1, h2⟩ := g5.get hl
      rw [Nat.zero_add] at h2
      have hlen := g5.len
      have hpos := (List.getElem?_eq_some_iff.mp hl).1
      refine ⟨a, us, y, rfl, rfl, g2, by rw [← hlen]; exact h1, q (upd H a (.lst us.dropLast)) y (fun b => G b ∧ ¬ G0 (xs.length - 1) b) (G0 (xs.length - 1)) (fun b o e n => by rw [upd_ne (fun z => n (by rw [z]; exact g1))]; exact e) (by intro b xs z; exact tp_upd (by intro _ z; cases z) z) ?_ ?_ (fun b h => .inl h.1) (fun b h => .inl (g3 _ b h).1) (fun b h z => h.2 z) fun b h => ?_⟩
      · refine ⟨a, a, us.dropLast, fun i b => i < xs.length - 1 ∧ G0 i b, rfl, ⟨g1, fun z => (g3 _ a z).2 rfl⟩, (fun z => nomatch z), ⟨rfl, upd_same⟩, fun i b h => ⟨⟨(g3 i b h.2).1, fun z => by have := g4 i _ b h.2 z; omega⟩, (g3 i b h.2).2, fun z => nomatch z⟩, fun i j b p q => g4 i j b p.2 q.2, ?_⟩
        refine RepAll.intro (by rw [List.length_dropLast, List.length_dropLast, hlen]) fun n t' w' e1 e2 => ?_
        rw [Nat.zero_add]
        have hn : n < xs.length - 1 := by
          have := (List.getElem?_eq_some_iff.mp e1).1
          rwa [List.length_dropLast] at this
        rw [List.getElem?_dropLast, if_pos hn] at e1
        rw [List.getElem?_dropLast, if_pos (by rw [← hlen]; exact hn)] at e2
        obtain ⟨w2, e3, r2⟩ := g5.get e1
        rw [e3] at e2
        cases e2
        rw [Nat.zero_add] at r2
        have r3 : Rep K cl Hf (upd H a (.lst us.dropLast)) t' w' (G0 n) := Rep.frame (Le.refl _) _ _ _ (fun b o g q => by rw [upd_ne (g3 n b g).2]; exact q) r2
        exact r3.weak fun b g => ⟨hn, g⟩
      · exact Rep.frame (Le.refl _) _ _ _ (fun b o g q => by rw [upd_ne (g3 _ b g).2]; exact q) h2
      · have hG : G b := h.elim (fun h => h.1) fun h => (g3 _ b h).1
        by_cases z : b = a
        · rw [z, upd_same]; exact fun z => nomatch z
        · rw [upd_ne z]; exact (tk b hG).1
    · cases e
  · cases e

/-! ### o.m(..) of a built-in type that changes o -/
def isLst : T → Bool
  | .ow false .lst _ => true
  | _ => false
theorem isLst_ok {t : T} {x : V} {G : Rg} (h : Rep K cl Hf H t x G) (e : isLst t = true) : tyV K "list" x H := by
  unfold isLst at e
  split at e
  · obtain ⟨a, dx, vs, G0, rfl, g1, g2, _⟩ := owL h
    exact .inl ⟨rfl, vs, SqL.of g2⟩
  · cases e
def fMt (Mr Mf Ma : List Nat) (ok : T → Bool) (gm : T → List T → Option (T × T)) (fr : Ge → Option (Ge × Rs)) (fa : Ge → Option (Ge × List Rs)) : Ge → Option (Ge × Rs) := fun Γ =>
  (fr Γ).bind fun p => (fa p.1).bind fun q => match p.2 with
  | .at i π => if Mr.contains i = true ∧ p.2.free Ma = true then (getT p.1 p.2).bind fun u0 => if ok u0 = true then (embAll Mf q.1 q.2).bind fun z => (getT z.1 p.2).bind fun u => (gm u z.2).bind fun r => (setPl z.1 i π r.1).map fun Γ' => (Γ', .val r.2) else none else none
  | .val _ => none
theorem ev_mt {Tn : String} {ok : T → Bool} {rm : V → List V → Hp → VK → Prop} {gm : T → List T → Option (T × T)} (Mr Mf : List Nat) (hok : ∀ {Hf H : Hp} {t : T} {x : V} {G : Rg}, Rep K cl Hf H t x G → ok t = true → tyV K Tn x H) (hm : PRm K cl rm gm)
    (hr : EvOk K cl M to fo) (ha : EvAOk K cl Ma ta fa) : EvOk K cl (((M ++ Ma) ++ Mf) ++ Mr) (tBM K Tn rm to ta) (fMt Mr Mf Ma ok gm fo fa) := fun Hf H σ Γ R I Γ' r0 e Q q => by
  unfold fMt at e
  cases e1 : fo Γ with
  | none => rw [e1] at e; cases e
  | some p =>
    obtain ⟨Γ1, r⟩ := p
    rw [e1, Option.bind_some] at e
    cases e2 : fa Γ1 with
    | none => rw [e2] at e; cases e
    | some p2 =>
      obtain ⟨Γ2, rs⟩ := p2
      rw [e2, Option.bind_some] at e
      dsimp only at e
      split at e
      · rename_i i π
        split at e
        · rename_i hc
          cases e3 : getT Γ1 (.at i π) with
          | none => rw [e3] at e; cases e
          | some u0 =>
            rw [e3, Option.bind_some] at e
            split at e
            · rename_i hk
              cases e4 : embAll Mf Γ2 rs with
              | none => rw [e4] at e; cases e
              | some p4 =>
                obtain ⟨Γ4, ts⟩ := p4
                rw [e4, Option.bind_some] at e
                dsimp only at e
                cases e5 : getT Γ4 (.at i π) with
                | none => rw [e5] at e; cases e
                | some u =>
                  rw [e5, Option.bind_some] at e
                  cases e6 : gm u ts with
                  | none => rw [e6] at e; cases e
                  | some r6 =>
                    rw [e6, Option.bind_some] at e
                    cases e7 : setPl Γ4 i π r6.1 with
                    | none => rw [e7] at e; cases e
                    | some Γ7 =>
                      rw [e7, Option.map_some] at e
                      cases e
                      refine hr Hf H σ Γ R I Γ1 _ e1 _ fun Hf1 H1 R1 S1 v1 st1 I1 g1 r1 => ?_
                      obtain ⟨G1, w1, _⟩ := r1.view I1 e3
                      refine ⟨hok w1 hk, ?_⟩
                      refine ha Hf1 H1 σ Γ1 R1 I1 Γ2 rs e2 _ fun Hf2 H2 R2 Ss vs st2 I2 g2 rs2 => ?_
                      have r1' := r1.keep I1 st2 g2 hc.2
                      obtain ⟨_, t, u2, v0, a1, a2, a3, a4⟩ := r1'
                      obtain ⟨Hf3, R3, Ss3, z3, ra3, q3⟩ := embAll_ok I2 rs2.ws e4
                      refine mut_ok hm z3.er e5 a2 a4 ra3 e6 e7 Q fun H5 R5 S5 z5 st5 I5 r5 kr5 => ?_
                      have stA := (st1.noS (S := S1)).trans st2
                      have stB : Stp Hf H R ((M ++ Ma) ++ Mf) Hf3 H2 R3 (fun a => ∃ S ∈ Ss3, S a) := z3.stpS stA fun a ⟨S, m, s⟩ => .inl (q3 S m a s)
                      have stC := Stp.mut stB st5 kr5
                      refine q Hf3 H5 R5 S5 z5 (stC.more fun j z => ?_) I5 (fun j n => ?_) r5
                      · rcases List.mem_append.mp z with z | z
                        · exact List.mem_append_left _ z
                        · rw [List.mem_singleton.mp z]
                          exact List.mem_append_right _ (List.contains_iff_mem.mp hc.1)
                      · have hji : j ≠ i := fun z => n (List.mem_append_right _ (by rw [z]; exact List.contains_iff_mem.mp hc.1))
                        unfold setPl at e7
                        split at e7
                        · rename_i t7 _
                          cases e8 : putAt π r6.1 t7 with
                          | none => rw [e8] at e7; cases e7
                          | some t8 =>
                            rw [e8, Option.map_some] at e7
                            cases e7
                            rw [List.getElem?_set_ne (Ne.symm hji)]
                            have n1 := fun z => n (List.mem_append_left _ z)
                            rw [(z3.kp j fun z => n1 (List.mem_append_right _ z)).2]
                            exact (g2 j fun z => n1 (List.mem_append_left _ (List.mem_append_right _ z))).trans (g1 j fun z => n1 (List.mem_append_left _ (List.mem_append_left _ z)))
                        · cases e7
            · cases e
        · cases e
      · cases e
/-- without arguments: tBM0 -/
theorem ev_mt0 {Tn : String} {ok : T → Bool} {rm : V → List V → Hp → VK → Prop} {gm : T → List T → Option (T × T)} (Mr : List Nat) (hok : ∀ {Hf H : Hp} {t : T} {x : V} {G : Rg}, Rep K cl Hf H t x G → ok t = true → tyV K Tn x H) (hm : PRm K cl rm gm)
    (hr : EvOk K cl M to fo) : EvOk K cl (((M ++ []) ++ []) ++ Mr) (tBM0 K Tn rm to) (fMt Mr [] [] ok gm fo fANil) := ev_mt Mr [] hok hm hr ea_nil
end
end Vx

set_option maxRecDepth 100000
/-! Vx14: stores to a place -/
namespace Vx
open PySem L2
section
variable {K : PySem.W.Frag} {cl : Nat → Addr} {Hf Hf' H H' : Hp} {E : St → Hp → Prop} {A B M Ma Mb Mc Mo Mi Mv : List Nat} {te to ti tv : TE} {fe fo fi fv : Ge → Option (Ge × Rs)}

/-- one child of an owned node is another one, the node itself is o' -/
theorem node_set {a dx : Addr} {l : Bool} {s : Sh} {xs : List T} {us : List V} {G : Rg} {G0 : Nat → Rg} {n : Nat} {t : T} {v : V} {S : Rg} {o' : HO} (hs : s.isI = false) (g1 : G a) (g3 : ∀ i b, G0 i b → G b ∧ b ≠ a) (g4 : ∀ i j b, G0 i b → G0 j b → i = j) (g5 : RepAll K cl Hf H xs us G0 0)
    (hn : n < xs.length) (rv : Rep K cl Hf H t v S) (ap : ∀ b, S b → ¬ G b) (ho : OwAt cl (upd H a o') a a l s (us.set n v)) :
    Rep K cl Hf (upd H a o') (.ow l s (xs.set n t)) (.ref a) (fun b => G b ∨ S b) := by
  have na : ∀ b, S b → b ≠ a := fun b s z => ap b s (by rw [z]; exact g1)
  refine ⟨a, a, us.set n v, upG G0 n S, rfl, .inl g1, (fun z => by rw [hs] at z; cases z), ho, fun i b h => ?_, fun i j b p q => ?_, ?_⟩
  · rcases h with ⟨_, h⟩ | ⟨_, h⟩
    · exact ⟨.inr h, na b h, fun z => by rw [hs] at z; cases z⟩
    · exact ⟨.inl (g3 i b h).1, (g3 i b h).2, fun z => by rw [hs] at z; cases z⟩
  · rcases p with ⟨p1, p⟩ | ⟨p1, p⟩
    · rcases q with ⟨q1, q⟩ | ⟨q1, q⟩
      · rw [p1, q1]
      · exact (ap b p (g3 j b q).1).elim
    · rcases q with ⟨q1, q⟩ | ⟨q1, q⟩
      · exact (ap b q (g3 i b p).1).elim
      · exact g4 i j b p q
  · refine RepAll.intro (by rw [List.length_set, List.length_set, g5.len]) fun m t' w' e1 e2 => ?_
    rw [Nat.zero_add]
    by_cases hm : m = n
    · subst hm
      rw [List.getElem?_set_self hn] at e1
      rw [List.getElem?_set_self (by rw [← g5.len]; exact hn)] at e2
      cases e1
      cases e2
      have r3 : Rep K cl Hf (upd H a o') t v S := Rep.frame (Le.refl _) _ _ _ (fun b o g q => by rw [upd_ne (na b g)]; exact q) rv
      exact r3.weak fun b g => upG_same g
    · rw [List.getElem?_set_ne (Ne.symm hm)] at e1
      rw [List.getElem?_set_ne (Ne.symm hm)] at e2
      obtain ⟨w2, e3, r2⟩ := g5.get e1
      rw [e3] at e2
      cases e2
      rw [Nat.zero_add] at r2
      have r3 : Rep K cl Hf (upd H a o') t' w' (G0 m) := Rep.frame (Le.refl _) _ _ _ (fun b o g q => by rw [upd_ne (g3 m b g).2]; exact q) r2
      exact r3.weak (F' := upG G0 n S m) fun b g => upG_ne hm g
/-- a further child at the end -/
theorem node_app {a dx : Addr} {l : Bool} {s s' : Sh} {xs : List T} {us : List V} {G : Rg} {G0 : Nat → Rg} {t : T} {v : V} {S : Rg} {o' : HO} (hs : s'.isI = false) (g1 : G a) (g3 : ∀ i b, G0 i b → G b ∧ b ≠ a) (g4 : ∀ i j b, G0 i b → G0 j b → i = j) (g5 : RepAll K cl Hf H xs us G0 0)
    (rv : Rep K cl Hf H t v S) (ap : ∀ b, S b → ¬ G b) (ho : OwAt cl (upd H a o') a a l s' (us ++ [v])) :
    Rep K cl Hf (upd H a o') (.ow l s' (xs ++ [t])) (.ref a) (fun b => G b ∨ S b) := by
  have na : ∀ b, S b → b ≠ a := fun b s z => ap b s (by rw [z]; exact g1)
  refine ⟨a, a, us ++ [v], fun i b => (i < xs.length ∧ G0 i b) ∨ (i = xs.length ∧ S b), rfl, .inl g1, (fun z => by rw [hs] at z; cases z), ho, fun i b h => ?_, fun i j b p q => ?_, ?_⟩
  · rcases h with ⟨_, h⟩ | ⟨_, h⟩
    · exact ⟨.inl (g3 i b h).1, (g3 i b h).2, fun z => by rw [hs] at z; cases z⟩
    · exact ⟨.inr h, na b h, fun z => by rw [hs] at z; cases z⟩
  · rcases p with ⟨p1, p⟩ | ⟨p1, p⟩
    · rcases q with ⟨q1, q⟩ | ⟨q1, q⟩
      · exact g4 i j b p q
      · exact (ap b q (g3 i b p).1).elim
    · rcases q with ⟨q1, q⟩ | ⟨q1, q⟩
      · exact (ap b p (g3 j b q).1).elim
      · omega
  · refine RepAll.intro (by rw [List.length_append, List.length_append, g5.len]; rfl) fun n t' w' e1 e2 => ?_
    rw [Nat.zero_add]
    by_cases hn : n < xs.length
    · rw [List.getElem?_append_left hn] at e1
      rw [List.getElem?_append_left (by rw [← g5.len]; exact hn)] at e2
      obtain ⟨w2, e3, r2⟩ := g5.get e1
      rw [e3] at e2
      cases e2
      rw [Nat.zero_add] at r2
      have r3 : Rep K cl Hf (upd H a o') t' w' (G0 n) := Rep.frame (Le.refl _) _ _ _ (fun b o g q => by rw [upd_ne (g3 n b g).2]; exact q) r2
      exact r3.weak fun b g => .inl ⟨hn, g⟩
    · rw [List.getElem?_append_right (by omega)] at e1
      rw [List.getElem?_append_right (by rw [← g5.len]; omega), ← g5.len] at e2
      cases hz : n - xs.length with
      | zero =>
        rw [hz] at e1 e2
        cases e1
        cases e2
        have r3 : Rep K cl Hf (upd H a o') t v S := Rep.frame (Le.refl _) _ _ _ (fun b o g q => by rw [upd_ne (na b g)]; exact q) rv
        exact r3.weak fun b g => .inr ⟨by omega, g⟩
      | succ m =>
        rw [hz] at e1
        simp at e1
theorem tk_upd {a : Addr} {o' : HO} {G S : Rg} (tk : ∀ b, G b → H b ≠ none ∧ Hf b = none) (tk' : ∀ b, S b → H b ≠ none ∧ Hf b = none) : ∀ b, (G b ∨ S b) ∨ No b → upd H a o' b ≠ none := fun b h => by
  by_cases z : b = a
  · rw [z, upd_same]; exact fun z => nomatch z
  · rw [upd_ne z]
    rcases h with (h | h) | h
    · exact (tk b h).1
    · exact (tk' b h).1
    · exact h.elim
/-- a store, by values: the object, the index, the value -/
abbrev RSt := V → V → V → Hp → (Hp → Prop) → Prop
def rmSt (rs : RSt) : V → List V → Hp → VK → Prop := fun x vs H Q => ∃ v y, vs = [v, y] ∧ rs x y v H fun H' => Q .non H'
def sSt (rs : RSt) (to ti tv : TE) : TS := fun D σ H => tv σ H fun v H1 => to σ H1 fun x H2 => ti σ H2 fun y H3 => rs x y v H3 fun H4 => D.nx σ H4
theorem sSt_asg {t : TSet} : tAsg tv (L2.gSub to ti t) = sSt t to ti tv := rfl
def rPut : RSt := fun x y v H Q => ∃ a H4, x = .ref a ∧ DPut H a y v H4 ∧ Q H4
theorem sSt_put : sDPut to ti tv = sSt rPut to ti tv := rfl
def gSetL : T → List T → Option (T × T)
  | .ow false .lst xs, [t, .v (.int i)] => (ixN xs.length i).map fun n => (.ow false .lst (xs.set n t), .v .non)
  | _, _ => none
theorem ixN_lt {n m : Nat} {i : Int} (e : ixN n i = some m) : m < n := by
  unfold ixN at e
  split at e
  · split at e
    · cases e; omega
    · cases e
  · split at e
    · cases e; omega
    · cases e
theorem prm_setL : PRm K cl (rmSt rSetL) gSetL := fun Hf H x vs tn ts G Ss tn' tr w rx tk ar e Q q => by
  unfold gSetL at e
  split at e
  · rename_i xs t i
    cases e1 : ixN xs.length i with
    | none => rw [e1] at e; cases e
    | some n =>
      rw [e1, Option.map_some] at e
      cases e
      obtain ⟨a, dx, us, G0, rfl, g1, g2, g3, g4, g5, _⟩ := owL rx
      obtain ⟨v, y, rfl, rv, ry⟩ := arg2 ar
      cases ry.1
      refine ⟨v, _, rfl, a, us, i, n, rfl, rfl, g2, by rw [← g5.len]; exact e1, q _ .non (fun b => G b ∨ Ss 0 b) No (fun b o e n => by rw [upd_ne (fun z => n (by rw [z]; exact g1))]; exact e) (by intro b xs z; exact tp_upd (by intro _ z; cases z) z) (node_set (dx := a) rfl g1 g3 g4 g5 (ixN_lt e1) rv (ar.ap 0) ⟨rfl, upd_same⟩) ⟨rfl, rfl⟩ (fun b h => h.elim .inl fun h => .inr ⟨0, h⟩) (fun b z => z.elim) (fun b _ z => z) (tk_upd tk (ar.tk 0))⟩
  · cases e
/-- where a key stands, if it stands there alone; dicts with a key twice are told by none -/
def uIx {κ : Type} [DecidableEq κ] (ks : List κ) (k : κ) : Option (Option Nat) := match dIx ks k with
  | none => some none
  | some n => if (dIx (ks.drop (n + 1)) k).isNone = true then some (some n) else none
theorem dIx_none {κ : Type} [DecidableEq κ] : ∀ {ks : List κ} {k : κ}, dIx ks k = none → k ∉ ks
  | [], _, _ => by simp
  | a :: ks, k, e => by
    rw [dIx_cons] at e
    split at e
    · cases e
    · rename_i h
      cases e1 : dIx ks k with
      | none =>
        have := dIx_none e1
        simp only [List.mem_cons, not_or]
        exact ⟨fun z => h z.symm, this⟩
      | some n => rw [e1] at e; cases e
theorem any_key {κ : Type} [DecidableEq κ] : ∀ {ks : List κ} {vs : List V} {k : κ}, ks.length = vs.length → ((ks.zip vs).any fun kv => decide (kv.1 = k)) = (dIx ks k).isSome
  | [], _, _, _ => by simp [dIx]
  | a :: ks, v :: vs, k, h => by
    rw [List.zip_cons_cons, List.any_cons, any_key (Nat.succ.inj h), dIx_cons]
    by_cases e : a = k
    · rw [if_pos e, decide_eq_true e]; rfl
    · rw [if_neg e, decide_eq_false e]
      cases dIx ks k <;> rfl
  | _ :: _, [], _, h => by simp at h
theorem map_key_none {κ : Type} [DecidableEq κ] : ∀ {ks : List κ} {vs : List V} {k : κ} {v : V}, k ∉ ks → (ks.zip vs).map (fun kv => if kv.1 = k then (kv.1, v) else kv) = ks.zip vs
  | [], _, _, _, _ => by simp
  | a :: ks, [], k, v, _ => by simp
  | a :: ks, u :: vs, k, v, h => by
    simp only [List.mem_cons, not_or] at h
    rw [List.zip_cons_cons, List.map_cons, map_key_none h.2, if_neg (fun z => h.1 z.symm)]
theorem map_key {κ : Type} [DecidableEq κ] : ∀ {ks : List κ} {vs : List V} {k : κ} {v : V} {n : Nat}, ks.length = vs.length → uIx ks k = some (some n) → (ks.zip vs).map (fun kv => if kv.1 = k then (kv.1, v) else kv) = ks.zip (vs.set n v)
  | [], _, _, _, _, _, e => by
    unfold uIx dIx at e
    cases e
  | a :: ks, u :: vs, k, v, n, h, e => by
    unfold uIx at e
    rw [dIx_cons] at e
    by_cases ha : a = k
    · rw [if_pos ha] at e
      dsimp only at e
      split at e
      · rename_i hn
        cases e
        have : k ∉ ks := dIx_none (by simpa using hn)
        rw [List.zip_cons_cons, List.map_cons, map_key_none this, if_pos ha]
        rfl
      · cases e
    · rw [if_neg ha] at e
      cases e1 : dIx ks k with
      | none => rw [e1] at e; cases e
      | some m =>
        rw [e1] at e
        simp only [Option.map_some] at e
        split at e
        · rename_i hn
          cases e
          have : uIx ks k = some (some m) := by
            unfold uIx
            rw [e1]
            dsimp only
            rw [if_pos]
            simpa using hn
          rw [List.zip_cons_cons, List.map_cons, map_key (Nat.succ.inj h) this, if_neg ha]
          rfl
        · cases e
  | _ :: _, [], _, _, _, h, _ => by simp at h
theorem putK_zip {κ : Type} [DecidableEq κ] {ks : List κ} {vs : List V} {k : κ} {v : V} (h : ks.length = vs.length) : (∀ n, uIx ks k = some (some n) → putK (ks.zip vs) k v = ks.zip (vs.set n v)) ∧ (uIx ks k = some none → putK (ks.zip vs) k v = (ks ++ [k]).zip (vs ++ [v])) := by
  refine ⟨fun n e => ?_, fun e => ?_⟩
  · have hs : (dIx ks k).isSome = true := by
      unfold uIx at e
      cases q : dIx ks k with
      | none => rw [q] at e; cases e
      | some m => rfl
    unfold putK
    rw [any_key h, if_pos hs]
    exact map_key h e
  · have hs : (dIx ks k).isSome = false := by
      unfold uIx at e
      cases q : dIx ks k with
      | none => rfl
      | some m =>
        rw [q] at e
        dsimp only at e
        split at e <;> cases e
    unfold putK
    rw [any_key h, if_neg (by rw [hs]; exact Bool.false_ne_true), List.zip_append h]
    rfl
theorem uIx_lt {κ : Type} [DecidableEq κ] {ks : List κ} {k : κ} {n : Nat} (e : uIx ks k = some (some n)) : n < ks.length := by
  unfold uIx at e
  cases q : dIx ks k with
  | none => rw [q] at e; cases e
  | some m =>
    rw [q] at e
    dsimp only at e
    split at e
    · cases e
      exact dIx_lt q
    · cases e
def gPut : T → List T → Option (T × T)
  | .ow false (.dK ks) xs, [t, kt] => (keyOf kt).bind fun k => (uIx ks k).bind fun o => match o with
    | some n => if ks.length < 100000 then some (.ow false (.dK ks) (xs.set n t), .v .non) else none
    | none => if ks.length < 100000 then some (.ow false (.dK (ks ++ [k])) (xs ++ [t]), .v .non) else none
  | .ow false (.dT ks) xs, [t, kt] => (keyT kt).bind fun k => (uIx ks k).bind fun o => match o with
    | some n => if ks.length < 100000 then some (.ow false (.dT ks) (xs.set n t), .v .non) else none
    | none => if ks.length < 100000 then some (.ow false (.dT (ks ++ [k])) (xs ++ [t]), .v .non) else none
  | _, _ => none
theorem owN {l : Bool} {s : Sh} {x : V} {xs : List T} {G : Rg} (hs : s.isI = false) (h : Rep K cl Hf H (.ow l s xs) x G) : ∃ a vs G0, x = .ref a ∧ G a ∧ OwAt cl H a a l s vs ∧ (∀ i b, G0 i b → G b ∧ b ≠ a) ∧ (∀ i j b, G0 i b → G0 j b → i = j) ∧ RepAll K cl Hf H xs vs G0 0 := by
  obtain ⟨a, dx, vs, G0, h1, h2, h3, h4, h5, h6, h7⟩ := h
  refine ⟨a, vs, G0, h1, h2, ?_, fun i b g => ⟨(h5 i b g).1, (h5 i b g).2.1⟩, h6, h7⟩
  cases s with
  | ins c ns => cases hs
  | _ => exact h4
theorem len_lt {κ : Type} {ks : List κ} {vs : List V} (h : ks.length = vs.length) (hl : ks.length < 100000) : (ks.zip vs).length < sizeLine := by
  rw [List.length_zip, ← h, Nat.min_self]
  exact sz6 hl
theorem prm_put : PRm K cl (rmSt rPut) gPut := fun Hf H x vs tn ts G Ss tn' tr w rx tk ar e Q q => by
  unfold gPut at e
  split at e
  · rename_i ks xs t kt
    cases e1 : keyOf kt with
    | none => rw [e1] at e; cases e
    | some k =>
      rw [e1, Option.bind_some] at e
      cases e2 : uIx ks k with
      | none => rw [e2] at e; cases e
      | some o =>
        rw [e2, Option.bind_some] at e
        obtain ⟨a, us, G0, rfl, g1, g2, g3, g4, g5⟩ := owN rfl rx
        obtain ⟨v, y, rfl, rv, ry⟩ := arg2 ar
        cases keyOf_v ry e1
        have hz := putK_zip (k := k) (v := v) g2.1
        cases o with
        | some n =>
          dsimp only at e
          split at e
          · rename_i hl
            cases e
            refine ⟨v, _, rfl, a, _, rfl, .inl ⟨_, k, g2.2.1 rfl, rfl, len_lt g2.1 hl, rfl⟩, q _ .non (fun b => G b ∨ Ss 0 b) No (fun b o e n => by rw [upd_ne (fun z => n (by rw [z]; exact g1))]; exact e) (by intro b xs z; exact tp_upd (by intro _ z; cases z) z) (node_set (dx := a) rfl g1 g3 g4 g5 (by rw [g5.len, ← g2.1]; exact uIx_lt e2) rv (ar.ap 0) ⟨by rw [List.length_set]; exact g2.1, fun _ => by rw [hz.1 n e2]; exact upd_same, fun z => by cases z⟩) ⟨rfl, rfl⟩ (fun b h => h.elim .inl fun h => .inr ⟨0, h⟩) (fun b z => z.elim) (fun b _ z => z) (tk_upd tk (ar.tk 0))⟩
          · cases e
        | none =>
          dsimp only at e
          split at e
          · rename_i hl
            cases e
            refine ⟨v, _, rfl, a, _, rfl, .inl ⟨_, k, g2.2.1 rfl, rfl, len_lt g2.1 hl, rfl⟩, q _ .non (fun b => G b ∨ Ss 0 b) No (fun b o e n => by rw [upd_ne (fun z => n (by rw [z]; exact g1))]; exact e) (by intro b xs z; exact tp_upd (by intro _ z; cases z) z) (node_app (dx := a) (s := .dK ks) rfl g1 g3 g4 g5 rv (ar.ap 0) ⟨by rw [List.length_append, List.length_append, g2.1]; rfl, fun _ => by rw [hz.2 e2]; exact upd_same, fun z => by cases z⟩) ⟨rfl, rfl⟩ (fun b h => h.elim .inl fun h => .inr ⟨0, h⟩) (fun b z => z.elim) (fun b _ z => z) (tk_upd tk (ar.tk 0))⟩
          · cases e
  · rename_i ks xs t kt
    cases e1 : keyT kt with
    | none => rw [e1] at e; cases e
    | some k =>
      rw [e1, Option.bind_some] at e
      cases e2 : uIx ks k with
      | none => rw [e2] at e; cases e
      | some o =>
        rw [e2, Option.bind_some] at e
        obtain ⟨a, us, G0, rfl, g1, g2, g3, g4, g5⟩ := owN rfl rx
        obtain ⟨v, y, rfl, rv, ry⟩ := arg2 ar
        obtain ⟨kb, rfl, hkb⟩ := keyT_v w ry e1
        have hz := putK_zip (k := k) (v := v) g2.1
        cases o with
        | some n =>
          dsimp only at e
          split at e
          · rename_i hl
            cases e
            refine ⟨v, _, rfl, a, _, rfl, .inr ⟨_, k, kb, g2.2.1 rfl, rfl, hkb, len_lt g2.1 hl, rfl⟩, q _ .non (fun b => G b ∨ Ss 0 b) No (fun b o e n => by rw [upd_ne (fun z => n (by rw [z]; exact g1))]; exact e) (by intro b xs z; exact tp_upd (by intro _ z; cases z) z) (node_set (dx := a) rfl g1 g3 g4 g5 (by rw [g5.len, ← g2.1]; exact uIx_lt e2) rv (ar.ap 0) ⟨by rw [List.length_set]; exact g2.1, fun _ => by rw [hz.1 n e2]; exact upd_same, fun z => by cases z⟩) ⟨rfl, rfl⟩ (fun b h => h.elim .inl fun h => .inr ⟨0, h⟩) (fun b z => z.elim) (fun b _ z => z) (tk_upd tk (ar.tk 0))⟩
          · cases e
        | none =>
          dsimp only at e
          split at e
          · rename_i hl
            cases e
            refine ⟨v, _, rfl, a, _, rfl, .inr ⟨_, k, kb, g2.2.1 rfl, rfl, hkb, len_lt g2.1 hl, rfl⟩, q _ .non (fun b => G b ∨ Ss 0 b) No (fun b o e n => by rw [upd_ne (fun z => n (by rw [z]; exact g1))]; exact e) (by intro b xs z; exact tp_upd (by intro _ z; cases z) z) (node_app (dx := a) (s := .dT ks) rfl g1 g3 g4 g5 rv (ar.ap 0) ⟨by rw [List.length_append, List.length_append, g2.1]; rfl, fun _ => by rw [hz.2 e2]; exact upd_same, fun z => by cases z⟩) ⟨rfl, rfl⟩ (fun b h => h.elim .inl fun h => .inr ⟨0, h⟩) (fun b z => z.elim) (fun b _ z => z) (tk_upd tk (ar.tk 0))⟩
          · cases e
  · cases e
/-! ### statements that store -/
def gSt (Mr Mf Mo Mi : List Nat) (gm : T → List T → Option (T × T)) (fv fo fi : Ge → Option (Ge × Rs)) : Ge → Option Out := fun Γ =>
  (fv Γ).bind fun p => (fo p.1).bind fun q => (fi q.1).bind fun z => match q.2 with
  | .at i π => if (Mr.contains i && p.2.free (Mo ++ Mi) && q.2.free Mi) = true then (embAll Mf z.1 [p.2, z.2]).bind fun w => (getT w.1 q.2).bind fun u => (gm u w.2).bind fun r => (setPl w.1 i π r.1).map Out.nx else none
  | .val _ => none
theorem st_st {rs : RSt} {gm : T → List T → Option (T × T)} (Mr Mf : List Nat) (hm : PRm K cl (rmSt rs) gm) (hv : EvOk K cl Mv tv fv) (ho : EvOk K cl Mo to fo) (hi : EvOk K cl Mi ti fi) :
    StOk K cl E [] (((Mv ++ (Mo ++ Mi)) ++ Mf) ++ Mr) (sSt rs to ti tv) (gSt Mr Mf Mo Mi gm fv fo fi) := fun Hf H σ Γ R I o e D fin => by
  unfold gSt at e
  cases e1 : fv Γ with
  | none => rw [e1] at e; cases e
  | some p =>
    obtain ⟨Γ1, rv⟩ := p
    rw [e1, Option.bind_some] at e
    dsimp only at e
    cases e2 : fo Γ1 with
    | none => rw [e2] at e; cases e
    | some p2 =>
      obtain ⟨Γ2, ro⟩ := p2
      rw [e2, Option.bind_some] at e
      dsimp only at e
      cases e3 : fi Γ2 with
      | none => rw [e3] at e; cases e
      | some p3 =>
        obtain ⟨Γ3, ri⟩ := p3
        rw [e3, Option.bind_some] at e
        dsimp only at e
        split at e
        · rename_i i π
          split at e
          · rename_i hc
            simp only [Bool.and_eq_true] at hc
            obtain ⟨⟨hc1, hc2⟩, hc3⟩ := hc
            cases e4 : embAll Mf Γ3 [rv, ri] with
            | none => rw [e4] at e; cases e
            | some p4 =>
              obtain ⟨Γ4, ts⟩ := p4
              rw [e4, Option.bind_some] at e
              dsimp only at e
              cases e5 : getT Γ4 (.at i π) with
              | none => rw [e5] at e; cases e
              | some u =>
                rw [e5, Option.bind_some] at e
                cases e6 : gm u ts with
                | none => rw [e6] at e; cases e
                | some r6 =>
                  rw [e6, Option.bind_some] at e
                  cases e7 : setPl Γ4 i π r6.1 with
                  | none => rw [e7] at e; cases e
                  | some Γ7 =>
                    rw [e7, Option.map_some] at e
                    cases e
                    refine hv Hf H σ Γ R I Γ1 rv e1 _ fun Hf1 H1 R1 S1 v1 st1 I1 g1 r1 => ?_
                    refine ho Hf1 H1 σ Γ1 R1 I1 Γ2 _ e2 _ fun Hf2 H2 R2 S2 v2 st2 I2 g2 r2 => ?_
                    refine hi Hf2 H2 σ Γ2 R2 I2 Γ3 ri e3 _ fun Hf3 H3 R3 S3 v3 st3 I3 g3 r3 => ?_
                    have r2' := r2.keep I2 st3 g3 hc3
                    have st23 : Stp Hf1 H1 R1 (Mo ++ Mi) Hf3 H3 R3 S3 := st2.trans st3
                    have r1' := r1.keep I1 st23 (fun j n => (g3 j fun z => n (List.mem_append_right _ z)).trans (g2 j fun z => n (List.mem_append_left _ z))) hc2
                    have st13 := st1.trans st23
                    have d13 := S_dis r1 st23
                    obtain ⟨_, t, u2, v0, a1, a2, a3, a4⟩ := r2'
                    obtain ⟨Hf4, R4, Ss4, z4, ra4, q4⟩ := embAll_ok (rs := [rv, ri]) (vs := [v1, v3]) (Ss := [S1, S3]) I3 ⟨r1'.w, fun a s S' m => by rw [List.mem_singleton.mp m]; exact d13 a s, r3.w, fun a s S' m => by simp at m, True.intro⟩ e4
                    have hS : ∀ a, (∃ S ∈ Ss4, S a) → S1 a ∨ S3 a := fun a ⟨S, m, s⟩ => by
                      obtain ⟨S', m', s'⟩ := q4 S m a s
                      simp only [List.mem_cons, List.not_mem_nil, or_false] at m'
                      rcases m' with rfl | rfl
                      · exact .inl s'
                      · exact .inr s'
                    have key : rmSt rs v2 [v1, v3] H3 fun _ H' => D.nx σ H' := by
                      refine mut_ok hm z4.er e5 a2 a4 ra4 e6 e7 (fun _ H' => D.nx σ H') fun H5 R5 S5 z5 st5 I5 r5 kr5 => ?_
                      have stA : Stp Hf H R (Mv ++ (Mo ++ Mi)) Hf3 H3 R3 (fun a => S1 a ∨ S3 a) := ⟨st13.fr, st13.kp, st13.nw, fun a s => s.elim (st1.ns a) (st13.ns a), st13.le, st13.nf⟩
                      have z4' : Fz K cl Mf Hf3 H3 σ Γ3 R3 (fun a => S1 a ∨ S3 a) Hf4 Γ4 R4 := ⟨z4.er, z4.le, fun a o e => (z4.bk a o e).elim .inl fun z => .inr (z.elim (fun ⟨S, m, s⟩ => .inl (by
                        simp only [List.mem_cons, List.not_mem_nil, or_false] at m
                        rcases m with rfl | rfl
                        · exact .inl s
                        · exact .inr s)) .inr), z4.sub, z4.kp⟩
                      have stB : Stp Hf H R ((Mv ++ (Mo ++ Mi)) ++ Mf) Hf4 H3 R4 (fun a => ∃ S ∈ Ss4, S a) := z4'.stpS stA fun a s => .inl (hS a s)
                      have stC := Stp.mut stB st5 kr5
                      refine fin Hf4 H5 σ R5 (stC.noS.more fun j z => ?_) I5 ⟨fun _ _ => rfl, fun j n => ?_, rfl⟩
                      · rcases List.mem_append.mp z with z | z
                        · exact List.mem_append_left _ z
                        · rw [List.mem_singleton.mp z]
                          exact List.mem_append_right _ (List.contains_iff_mem.mp hc1)
                      · have hji : j ≠ i := fun z => n (List.mem_append_right _ (by rw [z]; exact List.contains_iff_mem.mp hc1))
                        unfold setPl at e7
                        split at e7
                        · rename_i t7 _
                          cases e8 : putAt π r6.1 t7 with
                          | none => rw [e8] at e7; cases e7
                          | some t8 =>
                            rw [e8, Option.map_some] at e7
                            cases e7
                            rw [List.getElem?_set_ne (Ne.symm hji)]
                            have n1 := fun z => n (List.mem_append_left _ z)
                            have n2 := fun z => n1 (List.mem_append_left _ z)
                            rw [(z4.kp j fun z => n1 (List.mem_append_right _ z)).2, g3 j fun z => n2 (List.mem_append_right _ (List.mem_append_right _ z)), g2 j fun z => n2 (List.mem_append_right _ (List.mem_append_left _ z)), g1 j fun z => n2 (List.mem_append_left _ z)]
                        · cases e7
                    obtain ⟨v', y', ev, h⟩ := key
                    cases ev
                    exact h
          · cases e
        · cases e
end
end Vx

set_option maxRecDepth 100000
/-! Vx15: calls of defs -/
namespace Vx
open PySem L2

inductive Rv where
  | ret (t : T)
  | exc
section
variable (K : PySem.W.Frag) (cl : Nat → Addr)
/-- a def's promise: from trees to a tree and the arguments' trees behind the call; M: the parameters that it may change -/
def spF (C : Value) (M : List Nat) (sem : List T → Option (Rv × List T)) : Sp := fun vs H Q E => ∃ (Hf : Hp) (ts : List T) (R : Nat → Rg) (r : Rv) (us : List T),
  ER K cl Hf H (vs.map some) (ts.map some) R ∧ (∀ j, vs.length ≤ j → R j = No) ∧ sem ts = some (r, us) ∧ us.length = vs.length ∧
    match r with
    | .ret t => ∀ Hf' H' R' S v, Stp Hf H R M Hf' H' R' S → ER K cl Hf' H' (vs.map some) (us.map some) R' → RsOk K cl Hf' H' (vs.map some) (us.map some) R' (.val t) v S → Q v H'
    | .exc => ∀ Hf' H' R', Stp Hf H R M Hf' H' R' No → ER K cl Hf' H' (vs.map some) (us.map some) R' → E C none H'
end
def rootsOk : List Rs → Bool
  | [] => true
  | .val _ :: rs => rootsOk rs
  | .at i _ :: rs => (rs.all fun r => r.free [i]) && rootsOk rs
theorem rootsOk_inj : ∀ {rs : List Rs} {k l i : Nat} {π ρ : List Nat}, rootsOk rs = true → rs[k]? = some (.at i π) → rs[l]? = some (.at i ρ) → k = l
  | [], k, l, i, π, ρ, _, e, _ => by simp at e
  | .val t :: rs, k, l, i, π, ρ, h, e, f => by
    cases k with
    | zero => simp at e
    | succ k =>
      cases l with
      | zero => simp at f
      | succ l => exact congrArg (· + 1) (rootsOk_inj (rs := rs) h (by simpa using e) (by simpa using f))
  | .at j θ :: rs, k, l, i, π, ρ, h, e, f => by
    unfold rootsOk at h
    rw [Bool.and_eq_true] at h
    have key : ∀ {m : Nat} {τ : List Nat}, rs[m]? = some (.at j τ) → False := fun {m τ} q => by
      have := List.all_eq_true.mp h.1 _ (List.mem_of_getElem? q)
      simp [Rs.free] at this
    cases k with
    | zero =>
      simp at e
      cases l with
      | zero => rfl
      | succ l =>
        rw [← e.1] at f
        exact (key (by simpa using f)).elim
    | succ k =>
      cases l with
      | zero =>
        simp at f
        rw [← f.1] at e
        exact (key (by simpa using e)).elim
      | succ l => exact congrArg (· + 1) (rootsOk_inj (rs := rs) h.2 (by simpa using e) (by simpa using f))
/-- the places of changed arguments get their new trees -/
def putBack (M : List Nat) : Nat → Ge → List Rs → List T → Option Ge
  | _, Γ, [], _ => some Γ
  | k, Γ, .val _ :: rs, us => putBack M (k + 1) Γ rs us.tail
  | k, Γ, .at i π :: rs, us => if M.contains k = true then match us with
      | u :: us => (setPl Γ i π u).bind fun Γ' => putBack M (k + 1) Γ' rs us
      | [] => none
    else putBack M (k + 1) Γ rs us.tail
theorem setPl_some {Γ Γ' : Ge} {i : Nat} {π : List Nat} {u : T} (e : setPl Γ i π u = some Γ') : ∃ t t', Γ[i]? = some (some t) ∧ putAt π u t = some t' ∧ Γ' = Γ.set i (some t') := by
  unfold setPl at e
  split at e
  · rename_i t et
    cases e1 : putAt π u t with
    | none => rw [e1] at e; cases e
    | some t' =>
      rw [e1, Option.map_some] at e
      cases e
      exact ⟨t, t', et, e1, rfl⟩
  · cases e
theorem putBack_get {M : List Nat} : ∀ {rs : List Rs} {us : List T} {m : Nat} {Γ Γ' : Ge}, rootsOk rs = true → putBack M m Γ rs us = some Γ' → Γ'.length = Γ.length ∧ ∀ j,
    (∃ (k : Nat) (π : List Nat) (t u t' : T), rs[k]? = some (.at j π) ∧ m + k ∈ M ∧ Γ[j]? = some (some t) ∧ us[k]? = some u ∧ putAt π u t = some t' ∧ Γ'[j]? = some (some t')) ∨
    ((∀ (k : Nat) π, rs[k]? = some (.at j π) → m + k ∉ M) ∧ Γ'[j]? = Γ[j]?)
  | [], us, m, Γ, Γ', _, e => by
    unfold putBack at e
    cases e
    exact ⟨rfl, fun j => .inr ⟨fun k π h => by simp at h, rfl⟩⟩
  | .val t :: rs, us, m, Γ, Γ', h, e => by
    unfold putBack at e
    obtain ⟨l, k⟩ := putBack_get (rs := rs) h e
    refine ⟨l, fun j => ?_⟩
    rcases k j with ⟨k, π, t, u, t', a1, a2, a3, a4, a5, a6⟩ | ⟨a1, a2⟩
    · exact .inl ⟨k + 1, π, t, u, t', by simpa using a1, by rw [show m + (k + 1) = m + 1 + k by omega]; exact a2, a3, by rw [List.getElem?_tail] at a4; exact a4, a5, a6⟩
    · refine .inr ⟨fun k π q => ?_, a2⟩
      cases k with
      | zero => simp at q
      | succ k => rw [show m + (k + 1) = m + 1 + k by omega]; exact a1 k π (by simpa using q)
  | .at i ρ :: rs, us, m, Γ, Γ', h, e => by
    unfold rootsOk at h
    rw [Bool.and_eq_true] at h
    have nk : ∀ {k : Nat} {τ : List Nat}, rs[k]? = some (.at i τ) → False := fun {k τ} q => by
      have := List.all_eq_true.mp h.1 _ (List.mem_of_getElem? q)
      simp [Rs.free] at this
    unfold putBack at e
    split at e
    · rename_i hm
      split at e
      · rename_i u us'
        cases e1 : setPl Γ i ρ u with
        | none => rw [e1] at e; cases e
        | some Γ1 =>
          rw [e1, Option.bind_some] at e
          obtain ⟨t, t', b1, b2, rfl⟩ := setPl_some e1
          have hlt : i < Γ.length := (List.getElem?_eq_some_iff.mp b1).1
          obtain ⟨l, k⟩ := putBack_get (rs := rs) h.2 e
          refine ⟨by rw [l, List.length_set], fun j => ?_⟩
          rcases k j with ⟨k, π, t2, u2, t3, a1, a2, a3, a4, a5, a6⟩ | ⟨a1, a2⟩
          · have hji : j ≠ i := fun z => nk (by rw [← z]; exact a1)
            rw [List.getElem?_set_ne (Ne.symm hji)] at a3
            exact .inl ⟨k + 1, π, t2, u2, t3, by simpa using a1, by rw [show m + (k + 1) = m + 1 + k by omega]; exact a2, a3, by simpa using a4, a5, a6⟩
          · by_cases hji : j = i
            · subst hji
              rw [List.getElem?_set_self hlt] at a2
              exact .inl ⟨0, ρ, t, u, t', rfl, List.contains_iff_mem.mp hm, b1, rfl, b2, a2⟩
            · rw [List.getElem?_set_ne (Ne.symm hji)] at a2
              refine .inr ⟨fun k π q => ?_, a2⟩
              cases k with
              | zero => simp at q; exact (hji q.1.symm).elim
              | succ k => rw [show m + (k + 1) = m + 1 + k by omega]; exact a1 k π (by simpa using q)
      · cases e
    · rename_i hm
      obtain ⟨l, k⟩ := putBack_get (rs := rs) h.2 e
      refine ⟨l, fun j => ?_⟩
      rcases k j with ⟨k, π, t, u, t', a1, a2, a3, a4, a5, a6⟩ | ⟨a1, a2⟩
      · exact .inl ⟨k + 1, π, t, u, t', by simpa using a1, by rw [show m + (k + 1) = m + 1 + k by omega]; exact a2, a3, by rw [List.getElem?_tail] at a4; exact a4, a5, a6⟩
      · refine .inr ⟨fun k π q => ?_, a2⟩
        cases k with
        | zero => exact fun z => hm (List.contains_iff_mem.mpr z)
        | succ k => rw [show m + (k + 1) = m + 1 + k by omega]; exact a1 k π (by simpa using q)
section
variable {K : PySem.W.Frag} {cl : Nat → Addr} {Hf Hf' H H' : Hp} {M Ma Mb : List Nat} {te : TE} {ta : TA} {fe : Ge → Option (Ge × Rs)} {fa : Ge → Option (Ge × List Rs)}
/-- what a place is for the frame -/
theorem at_focus {σ : L2.St} {Γ : Ge} {R : Nat → Rg} {i : Nat} {π : List Nat} {v : V} {S : Rg} {u : T} (I : ER K cl Hf H σ Γ R) (h : RsOk K cl Hf H σ Γ R (.at i π) v S) (e : getT Γ (.at i π) = some u) :
    ∃ (t : T) (v0 : V) (G : Rg), Γ[i]? = some (some t) ∧ σ[i]? = some (some v0) ∧ Rep K cl Hf H u v G ∧ (∀ a, G a → R i a) ∧
      ∀ (Hf' H' : Hp) (u' : T) (G' : Rg), Le Hf Hf' → (∀ a o, R i a → ¬ G a → H a = some o → H' a = some o) → Rep K cl Hf' H' u' v G' → (∀ a, G' a → R i a → G a) → ∃ t', putAt π u' t = some t' ∧ Rep K cl Hf' H' t' v0 (fun a => (R i a ∧ ¬ G a) ∨ G' a) := by
  obtain ⟨_, t, u2, v0, a1, a2, a3, a4⟩ := h
  unfold getT at e
  dsimp only at e
  rw [a1] at e
  obtain ⟨v1, f1, f2⟩ := I.rep i t a1
  rw [a2] at f1
  cases f1
  obtain ⟨w, G, g1, g2, g3, g4⟩ := focus π t v0 (R i) u f2 e
  cases reach_det g3 a4
  exact ⟨t, v0, G, a1, a2, g1, g2, g4⟩
theorem getTs_get {Γ : Ge} : ∀ {rs : List Rs} {ts : List T} {k : Nat} {r : Rs}, getTs Γ rs = some ts → rs[k]? = some r → ∃ t, ts[k]? = some t ∧ getT Γ r = some t
  | [], ts, k, r, _, e => by simp at e
  | r0 :: rs, ts, k, r, h, e => by
    unfold getTs at h
    cases e1 : getT Γ r0 with
    | none => rw [e1] at h; cases h
    | some t =>
      cases e2 : getTs Γ rs with
      | none => rw [e1, e2] at h; cases h
      | some ts' =>
        rw [e1, e2] at h
        cases h
        cases k with
        | zero =>
          simp at e
          subst e
          exact ⟨t, rfl, e1⟩
        | succ k =>
          obtain ⟨t2, a, b⟩ := getTs_get (k := k) e2 (by simpa using e)
          exact ⟨t2, by simpa using a, b⟩
theorem RsAll.len {σ : L2.St} {Γ : Ge} {R : Nat → Rg} : ∀ {rs : List Rs} {vs : List V} {Ss : List Rg}, RsAll K cl Hf H σ Γ R rs vs Ss → rs.length = vs.length ∧ Ss.length = vs.length
  | [], [], [], _ => ⟨rfl, rfl⟩
  | _ :: _, _ :: _, _ :: _, h => ⟨congrArg (· + 1) (RsAll.len h.2.2).1, congrArg (· + 1) (RsAll.len h.2.2).2⟩
  | [], [], _ :: _, h => h.elim
  | [], _ :: _, _, h => h.elim
  | _ :: _, [], _, h => h.elim
  | _ :: _, _ :: _, [], h => h.elim
theorem RsAll.get {σ : L2.St} {Γ : Ge} {R : Nat → Rg} : ∀ {rs : List Rs} {vs : List V} {Ss : List Rg} {k : Nat} {r : Rs} {v : V} {S : Rg}, RsAll K cl Hf H σ Γ R rs vs Ss → rs[k]? = some r → vs[k]? = some v → Ss[k]? = some S → RsOk K cl Hf H σ Γ R r v S ∧ ∀ (l : Nat) (S' : Rg), Ss[l]? = some S' → l ≠ k → ∀ a, S a → ¬ S' a
  | [], [], [], k, r, v, S, _, e, _, _ => by simp at e
  | r0 :: rs, v0 :: vs, S0 :: Ss, k, r, v, S, h, e1, e2, e3 => by
    cases k with
    | zero =>
      simp at e1 e2 e3
      subst e1 e2 e3
      refine ⟨h.1, fun l S' el hl a s => ?_⟩
      cases l with
      | zero => exact (hl rfl).elim
      | succ l => exact h.2.1 a s S' (List.mem_of_getElem? (by simpa using el))
    | succ k =>
      obtain ⟨a1, a2⟩ := RsAll.get (k := k) h.2.2 (by simpa using e1) (by simpa using e2) (by simpa using e3)
      refine ⟨a1, fun l S' el hl a s => ?_⟩
      cases l with
      | zero =>
        simp at el
        subst el
        exact fun s0 => h.2.1 a s0 S (List.mem_of_getElem? (by simpa using e3)) s
      | succ l => exact a2 l S' (by simpa using el) (by omega) a s
  | [], [], _ :: _, _, _, _, _, h, _, _, _ => h.elim
  | [], _ :: _, _, _, _, _, _, h, _, _, _ => h.elim
  | _ :: _, [], _, _, _, _, _, h, _, _, _ => h.elim
  | _ :: _, _ :: _, [], _, _, _, _, h, _, _, _ => h.elim
/-- the arguments as a frame of their own -/
theorem args_er {σ : L2.St} {Γ : Ge} {R : Nat → Rg} {rs : List Rs} {vs : List V} {Ss : List Rg} {ts : List T} (I : ER K cl Hf H σ Γ R) (h : RsAll K cl Hf H σ Γ R rs vs Ss) (e : getTs Γ rs = some ts) (ro : rootsOk rs = true) :
    ∃ Ra : Nat → Rg, ER K cl Hf H (vs.map some) (ts.map some) Ra ∧ (∀ j, vs.length ≤ j → Ra j = No) ∧ (∀ (k : Nat) a, Ra k a → (∃ S, Ss[k]? = some S ∧ S a) ∨ ∃ i π, rs[k]? = some (.at i π) ∧ R i a) ∧
      (∀ (k : Nat) i π v, rs[k]? = some (.at i π) → vs[k]? = some v → ∃ (t : T) (v0 : V), Γ[i]? = some (some t) ∧ σ[i]? = some (some v0) ∧ (∀ a, Ra k a → R i a) ∧
        ∀ (Hf' H' : Hp) (u' : T) (G' : Rg), Le Hf Hf' → (∀ a o, R i a → ¬ Ra k a → H a = some o → H' a = some o) → Rep K cl Hf' H' u' v G' → (∀ a, G' a → R i a → Ra k a) → ∃ t', putAt π u' t = some t' ∧ Rep K cl Hf' H' t' v0 (fun a => (R i a ∧ ¬ Ra k a) ∨ G' a)) := by
  obtain ⟨l1, l2⟩ := h.len
  have l3 : ts.length = vs.length := (h.views I e).1
  -- the region of each argument
  have ex : ∀ k : Nat, ∃ G : Rg, (k < vs.length → ∀ r v S u, rs[k]? = some r → vs[k]? = some v → Ss[k]? = some S → getT Γ r = some u → Rep K cl Hf H u v G ∧ (∀ a, G a → (∃ t, r = .val t ∧ S a) ∨ ∃ i π, r = .at i π ∧ R i a) ∧
      (∀ i π, r = .at i π → ∃ (t : T) (v0 : V), Γ[i]? = some (some t) ∧ σ[i]? = some (some v0) ∧
        ∀ (Hf' H' : Hp) (u' : T) (G' : Rg), Le Hf Hf' → (∀ a o, R i a → ¬ G a → H a = some o → H' a = some o) → Rep K cl Hf' H' u' v G' → (∀ a, G' a → R i a → G a) → ∃ t', putAt π u' t = some t' ∧ Rep K cl Hf' H' t' v0 (fun a => (R i a ∧ ¬ G a) ∨ G' a))) ∧ (¬ k < vs.length → G = No) := fun k => by
    by_cases hk : k < vs.length
    · have e1 : rs[k]? = some rs[k] := List.getElem?_eq_getElem (by omega)
      have e2 : vs[k]? = some vs[k] := List.getElem?_eq_getElem hk
      have e3 : Ss[k]? = some Ss[k] := List.getElem?_eq_getElem (by omega)
      obtain ⟨u, e4, e5⟩ := getTs_get e e1
      obtain ⟨o1, _⟩ := h.get e1 e2 e3
      cases er : rs[k] with
      | val t =>
        rw [er] at o1 e5
        cases e5
        refine ⟨Ss[k], fun _ r v S u' a b c d => ?_, fun z => absurd hk z⟩
        rw [e1, er] at a
        cases a
        rw [e2] at b
        cases b
        rw [e3] at c
        cases c
        cases d
        exact ⟨o1.1, fun a s => .inl ⟨_, rfl, s⟩, fun i π z => nomatch z⟩
      | «at» i π =>
        rw [er] at o1 e5
        obtain ⟨t, v0, G, a1, a2, a3, a4, a5⟩ := at_focus I o1 e5
        refine ⟨G, fun _ r v S u' a b c d => ?_, fun z => absurd hk z⟩
        rw [e1, er] at a
        cases a
        rw [e2] at b
        cases b
        rw [e5] at d
        cases d
        exact ⟨a3, fun a g => .inr ⟨i, π, rfl, a4 a g⟩, fun i' π' z => by cases z; exact ⟨t, v0, a1, a2, a5⟩⟩
    · exact ⟨No, fun z => absurd z hk, fun _ => rfl⟩
  obtain ⟨Ra, hRa⟩ := Classical.axiomOfChoice ex
  have full : ∀ k, k < vs.length → ∃ r v S u, rs[k]? = some r ∧ vs[k]? = some v ∧ Ss[k]? = some S ∧ ts[k]? = some u ∧ getT Γ r = some u := fun k hk => by
    have e1 : rs[k]? = some rs[k] := List.getElem?_eq_getElem (by omega)
    obtain ⟨u, e4, e5⟩ := getTs_get e e1
    exact ⟨_, _, _, u, e1, List.getElem?_eq_getElem hk, List.getElem?_eq_getElem (by omega), e4, e5⟩
  have inn : ∀ k a, Ra k a → k < vs.length := fun k a r => by
    by_cases hk : k < vs.length
    · exact hk
    · rw [(hRa k).2 hk] at r; exact r.elim
  have dis : ∀ k l a, Ra k a → Ra l a → k = l := fun k l a p q => by
    obtain ⟨r, v, S, u, a1, a2, a3, a4, a5⟩ := full k (inn k a p)
    obtain ⟨r', v', S', u', b1, b2, b3, b4, b5⟩ := full l (inn l a q)
    obtain ⟨_, c1, _⟩ := (hRa k).1 (inn k a p) r v S u a1 a2 a3 a5
    obtain ⟨_, d1, _⟩ := (hRa l).1 (inn l a q) r' v' S' u' b1 b2 b3 b5
    rcases c1 a p with ⟨t, rfl, s⟩ | ⟨i, π, rfl, s⟩
    · obtain ⟨o, dj⟩ := h.get a1 a2 a3
      rcases d1 a q with ⟨t', rfl, s'⟩ | ⟨i', π', rfl, s'⟩
      · by_cases hkl : k = l
        · exact hkl
        · exact (dj l S' b3 (fun z => hkl z.symm) a s s').elim
      · exact (o.2.1 i' a s s').elim
    · rcases d1 a q with ⟨t', rfl, s'⟩ | ⟨i', π', rfl, s'⟩
      · obtain ⟨o, dj⟩ := h.get b1 b2 b3
        exact (o.2.1 i a s' s).elim
      · cases I.dis i i' a s s'
        exact rootsOk_inj ro a1 b1
  refine ⟨Ra, ⟨I.w, by rw [List.length_map, List.length_map]; exact l3, fun k t ek => ?_, dis, fun k a p => ?_⟩, fun j hj => (hRa j).2 (by omega), fun k a p => ?_, fun k i π v e1 e2 => ?_⟩
  · rw [List.getElem?_map] at ek
    cases et : ts[k]? with
    | none => rw [et] at ek; cases ek
    | some t' =>
      rw [et] at ek
      cases ek
      have hk : k < vs.length := by rw [← l3]; exact (List.getElem?_eq_some_iff.mp et).1
      obtain ⟨r, v, S, u, a1, a2, a3, a4, a5⟩ := full k hk
      rw [et] at a4
      cases a4
      exact ⟨v, by rw [List.getElem?_map, a2]; rfl, ((hRa k).1 hk r v S t a1 a2 a3 a5).1⟩
  · obtain ⟨r, v, S, u, a1, a2, a3, a4, a5⟩ := full k (inn k a p)
    obtain ⟨_, c1, _⟩ := (hRa k).1 (inn k a p) r v S u a1 a2 a3 a5
    rcases c1 a p with ⟨t, rfl, s⟩ | ⟨i, π, rfl, s⟩
    · exact (h.get a1 a2 a3).1.2.2 a s
    · exact I.trk i a s
  · obtain ⟨r, v, S, u, a1, a2, a3, a4, a5⟩ := full k (inn k a p)
    obtain ⟨_, c1, _⟩ := (hRa k).1 (inn k a p) r v S u a1 a2 a3 a5
    rcases c1 a p with ⟨t, rfl, s⟩ | ⟨i, π, rfl, s⟩
    · exact .inl ⟨S, a3, s⟩
    · exact .inr ⟨i, π, a1, s⟩
  · have hk : k < vs.length := (List.getElem?_eq_some_iff.mp e2).1
    obtain ⟨r, v', S, u, a1, a2, a3, a4, a5⟩ := full k hk
    rw [e1] at a1
    cases a1
    rw [e2] at a2
    cases a2
    obtain ⟨c0, c1, c2⟩ := (hRa k).1 hk (.at i π) v S u e1 e2 a3 a5
    obtain ⟨t, v0, d1, d2, d3⟩ := c2 i π rfl
    exact ⟨t, v0, d1, d2, fun a p => by
      rcases c1 a p with ⟨t, z, s⟩ | ⟨i', π', z, s⟩
      · cases z
      · cases z; exact s, d3⟩
end
end Vx

set_option maxRecDepth 100000
/-! Vx16: a call's step; calls, methods, instances made -/
namespace Vx
open PySem L2
section
variable {K : PySem.W.Frag} {cl : Nat → Addr} {Hf Hf' H H' : Hp} {M Ma Mb Mu Mr : List Nat} {te to : TE} {ta : TA} {fe fo : Ge → Option (Ge × Rs)} {fa : Ge → Option (Ge × List Rs)}

/-- a step from a frame and results beside it -/
structure St3 (Hf H : Hp) (R : Nat → Rg) (Ss : Rg) (M : List Nat) (Hf' H' : Hp) (R' : Nat → Rg) (S : Rg) : Prop where
  fr : ∀ a o, H a = some o → (∀ i, ¬ R i a) → ¬ Ss a → H' a = some o
  kp : ∀ i, i ∉ M → R' i = R i ∧ ∀ a o, R i a → H a = some o → H' a = some o
  nw : ∀ i a, R' i a → (∃ j, R j a) ∨ Ss a ∨ H a = none
  ns : ∀ a, S a → (∃ j, R j a) ∨ Ss a ∨ H a = none
  le : Le Hf Hf'
  nf : ∀ a o, Hf' a = some o → Hf a = some o ∨ (∃ j, R j a) ∨ Ss a ∨ H a = none
theorem Stp.then3 {Hf1 H1 Hf2 H2 : Hp} {R R1 R2 : Nat → Rg} {Ss S2 : Rg} (s : Stp Hf H R M Hf1 H1 R1 Ss) (k : St3 Hf1 H1 R1 Ss Mr Hf2 H2 R2 S2) : Stp Hf H R (M ++ Mr) Hf2 H2 R2 S2 where
  fr := fun a o e n => k.fr a o (s.fr a o e n) (fun i r => by
    rcases s.nw i a r with ⟨m, z⟩ | z
    · exact n m z
    · rw [e] at z; cases z) fun r => by
    rcases s.ns a r with ⟨m, z⟩ | z
    · exact n m z
    · rw [e] at z; cases z
  kp := fun i n => by
    obtain ⟨a1, a2⟩ := s.kp i fun z => n (List.mem_append_left _ z)
    obtain ⟨b1, b2⟩ := k.kp i fun z => n (List.mem_append_right _ z)
    exact ⟨b1.trans a1, fun a o r e => b2 a o (by rw [a1]; exact r) (a2 a o r e)⟩
  nw := fun i a r => by
    rcases k.nw i a r with ⟨m, z⟩ | z | z
    · exact s.nw m a z
    · exact s.ns a z
    · exact s.noneBack z
  ns := fun a r => by
    rcases k.ns a r with ⟨m, z⟩ | z | z
    · exact s.nw m a z
    · exact s.ns a z
    · exact s.noneBack z
  le := s.le.trans k.le
  nf := fun a o e => by
    rcases k.nf a o e with z | ⟨m, z⟩ | z | z
    · exact s.nf a o z
    · exact .inr (s.nw m a z)
    · exact .inr (s.ns a z)
    · exact .inr (s.noneBack z)
theorem er_more {ts dts us : List T} {vs dvs : List V} {Ra : Nat → Rg} (I : ER K cl Hf H (vs.map some) (ts.map some) Ra) (hd : PerAll K Hf dts dvs) : ER K cl Hf H ((vs ++ dvs).map some) ((ts ++ dts).map some) Ra where
  w := I.w
  len := by
    have := I.len
    simp only [List.length_map] at this
    rw [List.length_map, List.length_map, List.length_append, List.length_append, this, hd.len]
  rep := fun i t e => by
    have hl := I.len
    simp only [List.length_map] at hl
    rw [List.map_append] at e
    by_cases hi : i < ts.length
    · rw [List.getElem?_append_left (by rw [List.length_map]; exact hi)] at e
      obtain ⟨v, a, b⟩ := I.rep i t e
      exact ⟨v, by rw [List.map_append, List.getElem?_append_left (by rw [List.length_map]; omega)]; exact a, b⟩
    · rw [List.getElem?_append_right (by rw [List.length_map]; omega), List.length_map, List.getElem?_map] at e
      cases q : dts[i - ts.length]? with
      | none => rw [q] at e; cases e
      | some d =>
        rw [q] at e
        cases e
        obtain ⟨w, a, b⟩ := hd.get q
        exact ⟨w, by rw [List.map_append, List.getElem?_append_right (by rw [List.length_map]; omega), List.length_map, ← hl, List.getElem?_map, a]; rfl, b.rep⟩
  dis := I.dis
  trk := I.trk
/-- the heart of a call -/
theorem call_core {C : Value} {sem : List T → Option (Rv × List T)} {σ : L2.St} {Γ Γ' : Ge} {R : Nat → Rg} {rs : List Rs} {vs dvs : List V} {Ss : List Rg} {ts dts us : List T} {t : T} {E : XK} (I : ER K cl Hf H σ Γ R) (h : RsAll K cl Hf H σ Γ R rs vs Ss) (e : getTs Γ rs = some ts) (ro : rootsOk rs = true)
    (hd : PerAll K Hf dts dvs) (es : sem (ts ++ dts) = some (.ret t, us)) (hl : us.length = (ts ++ dts).length) (ep : putBack Mu 0 Γ rs us = some Γ') (hMr : ∀ (k : Nat) i π, rs[k]? = some (.at i π) → k ∈ Mu → i ∈ Mr) :
    ∀ Q : VK, (∀ Hf' H' R' S v, St3 Hf H R (fun a => ∃ S ∈ Ss, S a) Mr Hf' H' R' S → ER K cl Hf' H' σ Γ' R' → (∀ i, i ∉ Mr → Γ'[i]? = Γ[i]?) → RsOk K cl Hf' H' σ Γ' R' (.val t) v S →
      (∀ (k : Nat) t0 u w, rs[k]? = some (.val t0) → us[k]? = some u → vs[k]? = some w → ∃ S', RsOk K cl Hf' H' σ Γ' R' (.val u) w S' ∧ ∀ a, S' a → (∃ j, R j a) ∨ (∃ S ∈ Ss, S a) ∨ H a = none) → Q v H') → spF K cl C Mu sem (vs ++ dvs) H Q E := fun Q q => by
  obtain ⟨Ra, IA, hA1, hA2, hA3⟩ := args_er I h e ro
  have lts : ts.length = vs.length := (h.views I e).1
  have ldt := hd.len
  refine ⟨Hf, ts ++ dts, Ra, .ret t, us, er_more (us := us) IA hd, fun j hj => hA1 j (by rw [List.length_append] at hj; omega), es, by rw [hl, List.length_append, List.length_append, lts, ldt], fun Hf' H' Ra' S v st I' rs' => ?_⟩
  obtain ⟨l1, l2⟩ := h.len
  obtain ⟨pl, pb⟩ := putBack_get ro ep
  -- which argument an owned address belongs to
  have inR : ∀ {l j a}, Ra l a → R j a → ∃ π, rs[l]? = some (.at j π) := fun {l j a} p r => by
    rcases hA2 l a p with ⟨S, s1, s2⟩ | ⟨i, π, s1, s2⟩
    · have hlv : l < vs.length := by rw [← l2]; exact (List.getElem?_eq_some_iff.mp s1).1
      have e1 : rs[l]? = some rs[l] := List.getElem?_eq_getElem (by omega)
      obtain ⟨o, _⟩ := h.get e1 (List.getElem?_eq_getElem hlv) s1
      cases er : rs[l] with
      | val t0 => rw [er] at o; exact (o.2.1 j a s2 r).elim
      | «at» i π => rw [er] at o; rw [o.1] at s2; exact s2.elim
    · cases I.dis i j a s2 r
      exact ⟨π, s1⟩
  have stay : ∀ {j a o}, R j a → H a = some o → (∀ k π, rs[k]? = some (.at j π) → k ∈ Mu → ¬ Ra k a) → H' a = some o := fun {j a o} r ea n => by
    by_cases z : ∃ l, Ra l a
    · obtain ⟨l, p⟩ := z
      obtain ⟨π, hl⟩ := inR p r
      have : l ∉ Mu := fun z => n l π hl z p
      exact (st.kp l this).2 a o p ea
    · exact st.fr a o ea fun l p => z ⟨l, p⟩
  let R' : Nat → Rg := fun j a => (R j a ∧ ∀ k π, rs[k]? = some (.at j π) → k ∈ Mu → ¬ Ra k a) ∨ ∃ k π, rs[k]? = some (.at j π) ∧ k ∈ Mu ∧ Ra' k a
  have nwA : ∀ {k a}, Ra' k a → (∃ j, R j a) ∨ (∃ S ∈ Ss, S a) ∨ H a = none := fun {k a} p => by
    rcases st.nw k a p with ⟨l, z⟩ | z
    · rcases hA2 l a z with ⟨S, s1, s2⟩ | ⟨i, π, s1, s2⟩
      · exact .inr (.inl ⟨S, List.mem_of_getElem? s1, s2⟩)
      · exact .inl ⟨i, s2⟩
    · exact .inr (.inr z)
  -- an address of an unchanged part of the frame is in no changed argument behind the call
  have apart : ∀ {i k a}, R i a → (∀ k π, rs[k]? = some (.at i π) → k ∈ Mu → ¬ Ra k a) → Ra' k a → ∃ π, rs[k]? = some (.at i π) ∧ k ∉ Mu := fun {i k a} r n p => by
    rcases st.nw k a p with ⟨l, z⟩ | z
    · obtain ⟨π, hl⟩ := inR z r
      have nl : l ∉ Mu := fun y => n l π hl y z
      have : Ra' l a := by rw [(st.kp l nl).1]; exact z
      cases I'.dis l k a this p
      exact ⟨π, hl, nl⟩
    · exact absurd z (I.trk i a r).1
  have I'' : ER K cl Hf' H' σ Γ' R' := ⟨I'.w, by rw [pl]; exact I.len, fun j tj ej => ?_, fun i j a p q => ?_, fun i a p => ?_⟩
  · refine q Hf' H' R' S v ⟨fun a o ea n1 n2 => ?_, fun i hi => ⟨?_, fun a o r ea => ?_⟩, fun i a p => ?_, fun a s => ?_, st.le, fun a o ea => ?_⟩ I'' (fun i hi => ?_) ⟨rs'.1, fun i a s p => ?_, rs'.2.2⟩ fun k t0 u w k1 k2 k3 => ?_
    · refine st.fr a o ea fun l p => ?_
      rcases hA2 l a p with ⟨S, s1, s2⟩ | ⟨i, π, s1, s2⟩
      · exact n2 ⟨S, List.mem_of_getElem? s1, s2⟩
      · exact n1 i s2
    · funext a
      refine propext ⟨fun p => p.elim (fun p => p.1) fun ⟨k, π, y1, y2, _⟩ => (hi (hMr k i π y1 y2)).elim, fun p => .inl ⟨p, fun k π y1 y2 _ => hi (hMr k i π y1 y2)⟩⟩
    · exact stay r ea fun k π y1 y2 _ => hi (hMr k i π y1 y2)
    · rcases p with p | ⟨k, π, y1, y2, p⟩
      · exact .inl ⟨i, p.1⟩
      · exact nwA p
    · rcases st.ns a s with ⟨l, z⟩ | z
      · rcases hA2 l a z with ⟨S, s1, s2⟩ | ⟨i, π, s1, s2⟩
        · exact .inr (.inl ⟨S, List.mem_of_getElem? s1, s2⟩)
        · exact .inl ⟨i, s2⟩
      · exact .inr (.inr z)
    · rcases st.nf a o ea with z | ⟨l, z⟩ | z
      · exact .inl z
      · rcases hA2 l a z with ⟨S, s1, s2⟩ | ⟨i, π, s1, s2⟩
        · exact .inr (.inr (.inl ⟨S, List.mem_of_getElem? s1, s2⟩))
        · exact .inr (.inl ⟨i, s2⟩)
      · exact .inr (.inr (.inr z))
    · rcases pb i with ⟨k, π, t1, u, t2, a1, a2, _⟩ | ⟨_, a2⟩
      · rw [Nat.zero_add] at a2
        exact (hi (hMr k i π a1 a2)).elim
      · exact a2
    · rcases p with p | ⟨k, π, y1, y2, p⟩
      · rcases st.ns a s with ⟨l, z⟩ | z
        · obtain ⟨π, hl⟩ := inR z p.1
          have nl : l ∉ Mu := fun y => p.2 l π hl y z
          exact rs'.2.1 l a s (by rw [(st.kp l nl).1]; exact z)
        · exact absurd z (I.trk i a p.1).1
      · exact rs'.2.1 k a s p
    · have hk : k < vs.length := (List.getElem?_eq_some_iff.mp k3).1
      obtain ⟨w', c1, c2⟩ := I'.rep k u (by rw [List.getElem?_map, k2]; rfl)
      rw [List.getElem?_map, List.getElem?_append_left hk, k3] at c1
      cases c1
      refine ⟨Ra' k, ⟨c2, fun i a s p => ?_, fun a s => I'.trk k a s⟩, fun a s => nwA s⟩
      rcases p with p | ⟨l, π, y1, y2, p⟩
      · obtain ⟨π, y, _⟩ := apart p.1 p.2 s
        rw [k1] at y
        cases y
      · cases I'.dis k l a s p
        rw [k1] at y1
        cases y1
  · rcases pb j with ⟨k, π, t1, u, t2, a1, a2, a3, a4, a5, a6⟩ | ⟨a1, a2⟩
    · rw [Nat.zero_add] at a2
      rw [a6] at ej
      cases ej
      have hk : k < vs.length := by rw [← l1]; exact (List.getElem?_eq_some_iff.mp a1).1
      obtain ⟨tt, v0, b1, b2, b3, b4⟩ := hA3 k j π vs[k] a1 (List.getElem?_eq_getElem hk)
      rw [a3] at b1
      cases b1
      obtain ⟨w', c1, c2⟩ := I'.rep k u (by rw [List.getElem?_map, a4]; rfl)
      rw [List.getElem?_map, List.getElem?_append_left hk, List.getElem?_eq_getElem hk] at c1
      cases c1
      obtain ⟨t', d1, d2⟩ := b4 Hf' H' u (Ra' k) st.le (fun a o r n ea => stay r ea fun l ρ y1 y2 => by
        cases rootsOk_inj ro y1 a1
        exact n) c2 fun a p r => by
          rcases st.nw k a p with ⟨l, z⟩ | z
          · obtain ⟨ρ, y⟩ := inR z r
            cases rootsOk_inj ro y a1
            exact z
          · exact absurd z (I.trk j a r).1
      rw [a5] at d1
      cases d1
      exact ⟨v0, b2, d2.weak fun a z => z.elim (fun z => .inl ⟨z.1, fun l ρ y1 y2 => by
        cases rootsOk_inj ro y1 a1
        exact z.2⟩) fun z => .inr ⟨k, π, a1, a2, z⟩⟩
    · rw [a2] at ej
      obtain ⟨v0, b1, b2⟩ := I.rep j tj ej
      have n : ∀ a, ∀ k π, rs[k]? = some (.at j π) → k ∈ Mu → ¬ Ra k a := fun a k π y1 y2 _ => a1 k π y1 (by rw [Nat.zero_add]; exact y2)
      have b3 : Rep K cl Hf' H' tj v0 (R j) := Rep.frame st.le _ _ _ (fun a o r ea => stay r ea (n a)) b2
      exact ⟨v0, b1, b3.weak fun a r => .inl ⟨r, n a⟩⟩
  · rcases p with p | ⟨k, π, y1, y2, p⟩
    · rcases q with q | ⟨l, ρ, z1, z2, q⟩
      · exact I.dis i j a p.1 q.1
      · obtain ⟨τ, y, ny⟩ := apart p.1 p.2 q
        exact (ny z2).elim
    · rcases q with q | ⟨l, ρ, z1, z2, q⟩
      · obtain ⟨τ, y, ny⟩ := apart q.1 q.2 p
        exact (ny y2).elim
      · cases I'.dis k l a p q
        rw [y1] at z1
        cases z1
        rfl
  · rcases p with p | ⟨k, π, y1, y2, p⟩
    · refine ⟨?_, ?_⟩
      · cases ea : H a with
        | none => exact absurd ea (I.trk i a p.1).1
        | some o => rw [stay p.1 ea p.2]; exact fun z => nomatch z
      · cases ea : Hf' a with
        | none => rfl
        | some o =>
          rcases st.nf a o ea with z | ⟨l, z⟩ | z
          · rw [(I.trk i a p.1).2] at z; cases z
          · obtain ⟨π, hl⟩ := inR z p.1
            have nl : l ∉ Mu := fun y => p.2 l π hl y z
            have := (I'.trk l a (by rw [(st.kp l nl).1]; exact z)).2
            rw [ea] at this
            cases this
          · exact absurd z (I.trk i a p.1).1
    · exact I'.trk k a p
/-- f(..) -/
def argsIn (Mr Mu : List Nat) : Nat → List Rs → Bool
  | _, [] => true
  | k, .val _ :: rs => argsIn Mr Mu (k + 1) rs
  | k, .at i _ :: rs => (!Mu.contains k || Mr.contains i) && argsIn Mr Mu (k + 1) rs
theorem argsIn_ok : ∀ {rs : List Rs} {m : Nat}, argsIn Mr Mu m rs = true → ∀ (k : Nat) i π, rs[k]? = some (.at i π) → m + k ∈ Mu → i ∈ Mr
  | [], m, _, k, i, π, e, _ => by simp at e
  | .val t :: rs, m, h, k, i, π, e, hm => by
    cases k with
    | zero => simp at e
    | succ k => exact argsIn_ok (rs := rs) h k i π (by simpa using e) (by rw [show m + 1 + k = m + (k + 1) by omega]; exact hm)
  | .at j ρ :: rs, m, h, k, i, π, e, hm => by
    unfold argsIn at h
    rw [Bool.and_eq_true] at h
    cases k with
    | zero =>
      simp at e
      obtain ⟨rfl, _⟩ := e
      have h1 := h.1
      rw [Bool.or_eq_true] at h1
      rcases h1 with h1 | h1
      · have h2 := List.contains_iff_mem.mpr hm
        rw [Nat.add_zero] at h2
        rw [h2] at h1
        cases h1
      · exact List.contains_iff_mem.mp h1
    | succ k => exact argsIn_ok (rs := rs) h.2 k i π (by simpa using e) (by rw [show m + 1 + k = m + (k + 1) by omega]; exact hm)
def runS (sem : List T → Option (Rv × List T)) (ts : List T) : Option (T × List T) := match sem ts with
  | some (.ret t, us) => if us.length = ts.length then some (t, us) else none
  | _ => none
theorem runS_some {sem : List T → Option (Rv × List T)} {ts us : List T} {t : T} (e : runS sem ts = some (t, us)) : sem ts = some (.ret t, us) ∧ us.length = ts.length := by
  unfold runS at e
  split at e
  · rename_i t' us' h
    split at e
    · rename_i hl
      cases e
      exact ⟨h, hl⟩
    · cases e
  · cases e
def fCall (Mr Mu : List Nat) (sem : List T → Option (Rv × List T)) (dts : List T) (fa : Ge → Option (Ge × List Rs)) : Ge → Option (Ge × Rs) := fun Γ =>
  (fa Γ).bind fun p => if (rootsOk p.2 && argsIn Mr Mu 0 p.2) = true then (getTs p.1 p.2).bind fun ts => (runS sem (ts ++ dts)).bind fun ro => (putBack Mu 0 p.1 p.2 ro.2).map fun Γ' => (Γ', .val ro.1) else none
theorem ev_call {C : Value} {sem : List T → Option (Rv × List T)} {dvs : List V} {dts : List T} {E : XK} (Mr : List Nat) (hd : ∀ Hf, PerAll K Hf dts dvs) (ha : EvAOk K cl M ta fa) : EvOk K cl (M ++ Mr) (tCall (spF K cl C Mu sem) dvs E ta) (fCall Mr Mu sem dts fa) := fun Hf H σ Γ R I Γ' r0 e Q q => by
  unfold fCall at e
  cases e1 : fa Γ with
  | none => rw [e1] at e; cases e
  | some p =>
    obtain ⟨Γ1, rs⟩ := p
    rw [e1, Option.bind_some] at e
    dsimp only at e
    split at e
    · rename_i hc
      rw [Bool.and_eq_true] at hc
      cases e2 : getTs Γ1 rs with
      | none => rw [e2] at e; cases e
      | some ts =>
        rw [e2, Option.bind_some] at e
        cases e3 : runS sem (ts ++ dts) with
        | none => rw [e3] at e; cases e
        | some ro =>
          obtain ⟨t, us⟩ := ro
          rw [e3, Option.bind_some] at e
          dsimp only at e
          cases e4 : putBack Mu 0 Γ1 rs us with
          | none => rw [e4] at e; cases e
          | some Γ2 =>
            rw [e4, Option.map_some] at e
            cases e
            obtain ⟨f1, f2⟩ := runS_some e3
            refine ha Hf H σ Γ R I Γ1 rs e1 _ fun Hf1 H1 R1 Ss vs st1 I1 g1 rs1 => ?_
            refine call_core I1 rs1 e2 hc.1 (hd Hf1) f1 f2 e4 (fun k i π a b => argsIn_ok hc.2 k i π a (by rw [Nat.zero_add]; exact b)) Q fun Hf2 H2 R2 S2 v2 st2 I2 g2 r2 _ => ?_
            exact q Hf2 H2 R2 S2 v2 (st1.then3 st2) I2 (fun i n => (g2 i fun z => n (List.mem_append_right _ z)).trans (g1 i fun z => n (List.mem_append_left _ z))) r2
    · cases e
/-- o.m(..) -/
def insOk (c : Nat) (m : Str) : T → Bool
  | .ow false (.ins c' ns) _ => c' == c && !ns.contains m
  | _ => false
theorem lookup_none {ns : List Str} {vs : List V} {m : Str} (h : ns.contains m = false) : (ns.zip vs).lookup m = none := by
  induction ns generalizing vs with
  | nil => rfl
  | cons n ns ih =>
    cases vs with
    | nil => rfl
    | cons v vs =>
      rw [List.contains_cons, Bool.or_eq_false_iff] at h
      rw [List.zip_cons_cons, List.lookup_cons, h.1]
      exact ih h.2
theorem insOk_ok {c : Nat} {m : Str} {t : T} {x : V} {G : Rg} (h : Rep K cl Hf H t x G) (e : insOk c m t = true) : ∃ a dx fs, x = .ref a ∧ H a = some (.ins (cl c) dx fs) ∧ fs.lookup m = none := by
  unfold insOk at e
  split at e
  · rw [Bool.and_eq_true, beq_iff_eq] at e
    obtain ⟨rfl, e2⟩ := e
    obtain ⟨a, dx, vs, G0, h1, h2, h3, h4, _⟩ := h
    exact ⟨a, dx, _, h1, h4.2.2.1, lookup_none (by simpa using e2)⟩
  · cases e
def fMeth (Mr Mu Ma : List Nat) (c : Nat) (m : Str) (sem : List T → Option (Rv × List T)) (dts : List T) (fo : Ge → Option (Ge × Rs)) (fa : Ge → Option (Ge × List Rs)) : Ge → Option (Ge × Rs) := fun Γ =>
  (fo Γ).bind fun p => (getT p.1 p.2).bind fun u => if insOk c m u = true then (fa p.1).bind fun z => if (p.2.free Ma && (rootsOk (p.2 :: z.2) && argsIn Mr Mu 0 (p.2 :: z.2))) = true then
    (getTs z.1 (p.2 :: z.2)).bind fun ts => (runS sem (ts ++ dts)).bind fun ro => (putBack Mu 0 z.1 (p.2 :: z.2) ro.2).map fun Γ' => (Γ', .val ro.1) else none else none
theorem ev_meth {C : Value} {c : Nat} {m : Str} {sem : List T → Option (Rv × List T)} {dvs : List V} {dts : List T} {E : XK} (Mr : List Nat) (hd : ∀ Hf, PerAll K Hf dts dvs) (ho : EvOk K cl M to fo) (ha : EvAOk K cl Ma ta fa) :
    EvOk K cl ((M ++ Ma) ++ Mr) (tMeth (cl c) m (spF K cl C Mu sem) dvs E to ta) (fMeth Mr Mu Ma c m sem dts fo fa) := fun Hf H σ Γ R I Γ' r0 e Q q => by
  unfold fMeth at e
  cases e1 : fo Γ with
  | none => rw [e1] at e; cases e
  | some p =>
    obtain ⟨Γ1, ro⟩ := p
    rw [e1, Option.bind_some] at e
    dsimp only at e
    cases e5 : getT Γ1 ro with
    | none => rw [e5] at e; cases e
    | some u =>
      rw [e5, Option.bind_some] at e
      split at e
      · rename_i hins
        cases e6 : fa Γ1 with
        | none => rw [e6] at e; cases e
        | some p6 =>
          obtain ⟨Γ2, rs⟩ := p6
          rw [e6, Option.bind_some] at e
          dsimp only at e
          split at e
          · rename_i hc
            rw [Bool.and_eq_true, Bool.and_eq_true] at hc
            cases e2 : getTs Γ2 (ro :: rs) with
            | none => rw [e2] at e; cases e
            | some ts =>
              rw [e2, Option.bind_some] at e
              cases e3 : runS sem (ts ++ dts) with
              | none => rw [e3] at e; cases e
              | some rr =>
                obtain ⟨t, us⟩ := rr
                rw [e3, Option.bind_some] at e
                dsimp only at e
                cases e4 : putBack Mu 0 Γ2 (ro :: rs) us with
                | none => rw [e4] at e; cases e
                | some Γ3 =>
                  rw [e4, Option.map_some] at e
                  cases e
                  obtain ⟨f1, f2⟩ := runS_some e3
                  refine ho Hf H σ Γ R I Γ1 ro e1 _ fun Hf1 H1 R1 S1 v1 st1 I1 g1 r1 => ?_
                  obtain ⟨G, w1, _⟩ := r1.view I1 e5
                  obtain ⟨a, dx, fs, hx, h1, h2⟩ := insOk_ok w1 hins
                  refine ⟨a, dx, fs, hx, h1, h2, ?_⟩
                  refine ha Hf1 H1 σ Γ1 R1 I1 Γ2 rs e6 _ fun Hf2 H2 R2 Ss vs st2 I2 g2 rs2 => ?_
                  have st := st1.trans st2
                  have r1' := r1.keep I1 st2 g2 hc.1
                  have dj := S_dis r1 st2
                  have stA : Stp Hf H R (M ++ Ma) Hf2 H2 R2 (fun a => ∃ S ∈ S1 :: Ss, S a) := ⟨st.fr, st.kp, st.nw, fun a ⟨S, m, s⟩ => by
                    rcases List.mem_cons.mp m with z | z
                    · subst z; exact st1.ns a s
                    · exact st.ns a ⟨S, z, s⟩, st.le, st.nf⟩
                  refine call_core (rs := ro :: rs) (vs := v1 :: vs) (Ss := S1 :: Ss) I2 ⟨r1', fun a s S' m s' => dj a s ⟨S', m, s'⟩, rs2⟩ e2 hc.2.1 (hd Hf2) f1 f2 e4 (fun k i π a b => argsIn_ok hc.2.2 k i π a (by rw [Nat.zero_add]; exact b)) Q fun Hf3 H3 R3 S3 v3 st3 I3 g3 r3 _ => ?_
                  exact q Hf3 H3 R3 S3 v3 (stA.then3 st3) I3 (fun i n => (g3 i fun z => n (List.mem_append_right _ z)).trans ((g2 i fun z => n (List.mem_append_left _ (List.mem_append_right _ z))).trans (g1 i fun z => n (List.mem_append_left _ (List.mem_append_left _ z))))) r3
          · cases e
      · cases e
end
end Vx

set_option maxRecDepth 100000
/-! Vx17: a def's body keeps its promise -/
namespace Vx
open PySem L2 PyProof.Rows

/-- what the parameters are behind the body -/
def outAt (A : List Nat) (k : Nat) (t : T) (Γ : Ge) : Option T := if t.pers = true then some t else if A.contains k = true then none else match Γ[k]? with
  | some (some u) => some u
  | _ => none
def outs (A : List Nat) : Nat → List T → Ge → Option (List T)
  | _, [], _ => some []
  | k, t :: ts, Γ => match outAt A k t Γ, outs A (k + 1) ts Γ with
    | some u, some us => some (u :: us)
    | _, _ => none
theorem outs_get {A : List Nat} : ∀ {ts us : List T} {m : Nat} {Γ : Ge}, outs A m ts Γ = some us → us.length = ts.length ∧ ∀ (k : Nat) (u : T), us[k]? = some u → ∃ t, ts[k]? = some t ∧ outAt A (m + k) t Γ = some u
  | [], us, m, Γ, e => by
    cases e
    exact ⟨rfl, fun k u z => by simp at z⟩
  | t :: ts, us, m, Γ, e => by
    unfold outs at e
    split at e
    · rename_i u0 us0 e1 e2
      cases e
      obtain ⟨l, k⟩ := outs_get e2
      refine ⟨congrArg (· + 1) l, fun j u z => ?_⟩
      cases j with
      | zero =>
        simp at z
        subst z
        exact ⟨t, rfl, e1⟩
      | succ j =>
        obtain ⟨t', a, b⟩ := k j u (by simpa using z)
        exact ⟨t', by simpa using a, by rw [show m + (j + 1) = m + 1 + j by omega]; exact b⟩
    · cases e
def startG (n : Nat) (ts : List T) : Ge := ts.map some ++ List.replicate (n - ts.length) none
def runB (np n : Nat) (A : List Nat) (g : Ge → Option Out) (ts : List T) : Option (Rv × List T) := if ts.length = np then (g (startG n ts)).bind fun o => match o with
  | .nx Γ => (outs A 0 ts Γ).map fun us => (.ret (.v .non), us)
  | .rt Γ t => (outs A 0 ts Γ).map fun us => (.ret t, us)
  | .ex Γ => (outs A 0 ts Γ).map fun us => (.exc, us)
  | _ => none else none
section
variable {K : PySem.W.Frag} {cl : Nat → Addr} {Hf Hf' H H' : Hp} {A M : List Nat}
/-- the frame of the arguments behind the body -/
theorem body_er {N : List Str} {vs : List V} {ts us : List T} {R R' : Nat → Rg} {Γ' : Ge} {σ' : L2.St} {S : Rg} {n : Nat} (I : ER K cl Hf H (vs.map some) (ts.map some) R) (hR : ∀ j, vs.length ≤ j → R j = No)
    (st : Stp Hf H R M Hf' H' R' S) (I' : ER K cl Hf' H' σ' Γ' R') (eq : Eq2 A M (L2.start N vs) (startG n ts) σ' Γ') (e : outs A 0 ts Γ' = some us) :
    ∃ R'', Stp Hf H R (M.filter fun i => decide (i < vs.length)) Hf' H' R'' S ∧ ER K cl Hf' H' (vs.map some) (us.map some) R'' ∧ ∀ i a, R'' i a → R' i a := by
  have l1 : ts.length = vs.length := by simpa using I.len
  obtain ⟨l2, o⟩ := outs_get e
  let R'' : Nat → Rg := fun i a => i < vs.length ∧ ¬ (i ∈ A ∧ i ∈ M) ∧ R' i a
  refine ⟨R'', ⟨st.fr, fun i hi => ?_, fun i a r => st.nw i a r.2.2, st.ns, st.le, st.nf⟩, ⟨I'.w, by rw [List.length_map, List.length_map]; omega, fun k u ek => ?_, fun i j a p q => I'.dis i j a p.2.2 q.2.2, fun i a p => I'.trk i a p.2.2⟩, fun i a p => p.2.2⟩
  · by_cases h : i < vs.length
    · have n1 : i ∉ M := fun z => hi (List.mem_filter.mpr ⟨z, by simpa using h⟩)
      obtain ⟨a1, a2⟩ := st.kp i n1
      refine ⟨?_, a2⟩
      rw [← a1]
      funext a
      exact propext ⟨fun p => p.2.2, fun p => ⟨h, fun z => n1 z.2, p⟩⟩
    · have e0 := hR i (by omega)
      refine ⟨?_, fun a o r => by rw [e0] at r; exact r.elim⟩
      rw [e0]
      funext a
      exact propext ⟨fun p => (h p.1).elim, fun p => p.elim⟩
  · have ek' : us[k]? = some u := by
      rw [List.getElem?_map] at ek
      cases z : us[k]? with
      | none => rw [z] at ek; cases ek
      | some u' => rw [z] at ek; cases ek; rfl
    obtain ⟨t, h1, h2⟩ := o k u ek'
    rw [Nat.zero_add] at h2
    have hk : k < vs.length := by
      rw [← l1]
      exact (List.getElem?_eq_some_iff.mp h1).1
    obtain ⟨v, w1, w2⟩ := I.rep k t (by rw [List.getElem?_map, h1]; rfl)
    refine ⟨v, w1, ?_⟩
    unfold outAt at h2
    split at h2
    · rename_i p
      cases h2
      exact (Per.le st.le _ _ (w2.per p)).rep
    · split at h2
      · cases h2
      · rename_i hA
        split at h2
        · rename_i u' eu
          cases h2
          have hA' : k ∉ A := fun z => hA (List.contains_iff_mem.mpr z)
          obtain ⟨v', b1, b2⟩ := I'.rep k u eu
          have b3 := eq.1 k hA'
          rw [b1] at b3
          unfold L2.start at b3
          rw [List.getElem?_append_left (by rw [List.length_map]; exact hk), w1] at b3
          cases b3
          exact b2.weak fun a r => ⟨hk, fun z => hA' z.1, r⟩
        · cases h2
theorem start_er {N : List Str} {vs : List V} {ts : List T} {R : Nat → Rg} {n : Nat} (hn : n = N.length) (I : ER K cl Hf H (vs.map some) (ts.map some) R) : ER K cl Hf H (L2.start N vs) (startG n ts) R where
  w := I.w
  len := by
    have l1 : ts.length = vs.length := by simpa using I.len
    unfold startG L2.start
    rw [hn, List.length_append, List.length_append, List.length_map, List.length_map, l1, List.length_replicate, List.length_replicate]
  rep := fun i t e => by
    have l1 : ts.length = vs.length := by simpa using I.len
    unfold startG at e
    by_cases h : i < ts.length
    · rw [List.getElem?_append_left (by rw [List.length_map]; exact h)] at e
      obtain ⟨v, a, b⟩ := I.rep i t e
      exact ⟨v, by unfold L2.start; rw [List.getElem?_append_left (by rw [List.length_map]; omega)]; exact a, b⟩
    · rw [List.getElem?_append_right (by rw [List.length_map]; omega)] at e
      have := List.mem_of_getElem? e
      have := (List.mem_replicate.mp this).2
      cases this
  dis := I.dis
  trk := I.trk
/-- THE RULE: a body's statements as a reading, and what the reading computes -/
theorem fn_ok {P : Program} {w : World} {mg : Str → Option Value} {base : Heap} {x qual : Str} {st : Stmt} {f : Addr} {fd : FuncData} {N ps : List Str} {k : Nat} {C : Value} {g : Ge → Option Out} (t : XK → TS)
    (F : Fun K x qual st f fd) (S : FnScope N ps (defScope st))
    (hP : ∀ (cdv : Value) (Ar : Around) (outer : List Env) (s : Shared) (H : Hp) (E : XK), Room k (Ar.deeper (envOfC qual (defScope st) s.heap.objs.size f cdv)) → PSs (cxOf (L2.CX P w) P w K mg base N qual (defScope st) f cdv Ar outer s H E) (defBody st) (t E))
    (hS : ∀ E : XK, StOk K cl (fun _ H' => E C none H') A M (t E) g) :
    FnOk P w K mg base (L2.CX P w) (k + 1) f fd ps (spF K cl C (M.filter fun i => decide (i < ps.length)) (runB ps.length N.length A g)) := by
  have len : ∀ vs H Q E, spF K cl C (M.filter fun i => decide (i < ps.length)) (runB ps.length N.length A g) vs H Q E → vs.length = ps.length := fun vs H Q E h => by
    obtain ⟨Hf, ts, R, r, us, I, hR, e, hl, _⟩ := h
    have l1 : ts.length = vs.length := by simpa using I.len
    unfold runB at e
    split at e
    · rename_i h0
      omega
    · cases e
  refine F.okX S len fun cdv Ar outer s H vs Q E hr h => ⟨t E, hP cdv Ar outer s H E hr, ?_⟩
  have lv := len vs H Q E h
  obtain ⟨Hf, ts, R, r, us, I, hR, e, hl, k⟩ := h
  unfold runB at e
  split at e
  · rename_i h0
    cases e1 : g (startG N.length ts) with
    | none => rw [e1] at e; cases e
    | some o =>
      rw [e1, Option.bind_some] at e
      refine hS E Hf H (L2.start N vs) (startG N.length ts) R (start_er rfl I) o e1 _ ?_
      cases o with
      | nx Γ =>
        dsimp only at e
        cases e2 : outs A 0 ts Γ with
        | none => rw [e2] at e; cases e
        | some us' =>
          rw [e2, Option.map_some] at e
          cases e
          intro Hf' H' σ' R' st' I' eq'
          obtain ⟨R'', b1, b2, b3⟩ := body_er I hR st' I' eq' e2
          rw [lv] at b1
          exact k Hf' H' R'' No .non b1 b2 ⟨⟨rfl, rfl⟩, fun _ _ z => z.elim, fun _ z => z.elim⟩
      | rt Γ t =>
        dsimp only at e
        cases e2 : outs A 0 ts Γ with
        | none => rw [e2] at e; cases e
        | some us' =>
          rw [e2, Option.map_some] at e
          cases e
          intro Hf' H' σ' R' S' v st' I' eq' rs
          obtain ⟨R'', b1, b2, b3⟩ := body_er I hR st' I' eq' e2
          rw [lv] at b1
          exact k Hf' H' R'' S' v b1 b2 ⟨rs.1, fun i a s r => rs.2.1 i a s (b3 i a r), rs.2.2⟩
      | bk Γ => cases e
      | ct Γ => cases e
      | ex Γ =>
        dsimp only at e
        cases e2 : outs A 0 ts Γ with
        | none => rw [e2] at e; cases e
        | some us' =>
          rw [e2, Option.map_some] at e
          cases e
          intro Hf' H' σ' R' st' I' eq'
          obtain ⟨R'', b1, b2, b3⟩ := body_er I hR st' I' eq' e2
          rw [lv] at b1
          exact k Hf' H' R'' b1 b2
  · cases e
end
end Vx

set_option maxRecDepth 100000
/-! Vx18: o[i] op= e, slices, lists together, freezing -/
namespace Vx
open PySem L2
section
variable {K : PySem.W.Frag} {cl : Nat → Addr} {Hf Hf' H H' : Hp} {E : L2.St → Hp → Prop} {M Ma Mb Me Mi Ml Mh : List Nat} {te to ti : TE} {f fo fi fe : Ge → Option (Ge × Rs)}

/-- an expression whose value is made frozen -/
def fFrz (Mf : List Nat) (f : Ge → Option (Ge × Rs)) : Ge → Option (Ge × Rs) := fun Γ => (f Γ).bind fun p => (fzIn Mf p.1 p.2).map fun q => (q.1, .val q.2)
theorem ev_frz (Mf : List Nat) (h : EvOk K cl M te f) : EvOk K cl (M ++ Mf) te (fFrz Mf f) := fun Hf H σ Γ R I Γ' r0 e Q q => by
  unfold fFrz at e
  cases e1 : f Γ with
  | none => rw [e1] at e; cases e
  | some p =>
    obtain ⟨Γ1, r⟩ := p
    rw [e1, Option.bind_some] at e
    dsimp only at e
    cases e2 : fzIn Mf Γ1 r with
    | none => rw [e2] at e; cases e
    | some p2 =>
      obtain ⟨Γ2, t⟩ := p2
      rw [e2, Option.map_some] at e
      cases e
      refine h Hf H σ Γ R I Γ1 r e1 _ fun Hf1 H1 R1 S1 v1 st1 I1 g1 r1 => ?_
      obtain ⟨Hf2, R2, z, p⟩ := fzIn_ok I1 r1.w e2
      exact q Hf2 H1 R2 No v1 (z.stp st1) z.er (fun i n => (z.kp i fun y => n (List.mem_append_right _ y)).2.trans (g1 i fun y => n (List.mem_append_left _ y))) ⟨p.rep, fun _ _ z => z.elim, fun _ z => z.elim⟩

/-- o[i] op= e -/
def gAugS (Mr Mi Me : List Nat) (g : T → T → Option (Nat × T)) (gi : T → T → Option T) (gm : T → List T → Option (T × T)) (fo fi fe : Ge → Option (Ge × Rs)) : Ge → Option Out := fun Γ =>
  (fo Γ).bind fun p => (fi p.1).bind fun q => match p.2, q.2 with
  | .at i π, .val k => if (Mr.contains i && p.2.free (Mi ++ Me) && k.pers) = true then (getT q.1 p.2).bind fun u => (g u k).bind fun c => if c.2.pers = true then (fe q.1).bind fun z => (getT z.1 z.2).bind fun y =>
      (gi c.2 y).bind fun x => if x.pers = true then (gm u [x, k]).bind fun r => (setPl z.1 i π r.1).map Out.nx else none else none else none
  | _, _ => none
theorem st_augS {tget : R2} {tip : TIp} {tset : TSet} {g : T → T → Option (Nat × T)} {gi : T → T → Option T} {gm : T → List T → Option (T × T)} (Mr : List Nat) (hg : PRx K cl tget g) (hp : PR2 K cl tip gi) (hm : PRm K cl (rmSt tset) gm)
    (ho : EvOk K cl M to fo) (hi : EvOk K cl Mi ti fi) (he : EvOk K cl Me te fe) : StOk K cl E [] ((M ++ (Mi ++ Me)) ++ Mr) (tAugS to ti te tget tip tset) (gAugS Mr Mi Me g gi gm fo fi fe) := fun Hf H σ Γ R I o e D fin => by
  unfold gAugS at e
  cases e1 : fo Γ with
  | none => rw [e1] at e; cases e
  | some p =>
    obtain ⟨Γ1, ro⟩ := p
    rw [e1, Option.bind_some] at e
    dsimp only at e
    cases e2 : fi Γ1 with
    | none => rw [e2] at e; cases e
    | some p2 =>
      obtain ⟨Γ2, ri⟩ := p2
      rw [e2, Option.bind_some] at e
      dsimp only at e
      split at e
      · rename_i i π k
        split at e
        · rename_i hc
          simp only [Bool.and_eq_true] at hc
          obtain ⟨⟨hc1, hc2⟩, hc3⟩ := hc
          have hcI : Rs.free (.at i π) Mi = true := by
            simp only [Rs.free, Bool.not_eq_true', List.contains_eq_mem, decide_eq_false_iff_not, List.mem_append, not_or] at hc2 ⊢
            exact hc2.1
          have hcE : Rs.free (.at i π) Me = true := by
            simp only [Rs.free, Bool.not_eq_true', List.contains_eq_mem, decide_eq_false_iff_not, List.mem_append, not_or] at hc2 ⊢
            exact hc2.2
          cases e3 : getT Γ2 (.at i π) with
          | none => rw [e3] at e; cases e
          | some u =>
            rw [e3, Option.bind_some] at e
            cases e4 : g u k with
            | none => rw [e4] at e; cases e
            | some c =>
              rw [e4, Option.bind_some] at e
              split at e
              · rename_i hcp
                cases e5 : fe Γ2 with
                | none => rw [e5] at e; cases e
                | some p5 =>
                  obtain ⟨Γ3, re⟩ := p5
                  rw [e5, Option.bind_some] at e
                  dsimp only at e
                  cases e6 : getT Γ3 re with
                  | none => rw [e6] at e; cases e
                  | some y =>
                    rw [e6, Option.bind_some] at e
                    cases e7 : gi c.2 y with
                    | none => rw [e7] at e; cases e
                    | some x =>
                      rw [e7, Option.bind_some] at e
                      split at e
                      · rename_i hxp
                        cases e8 : gm u [x, k] with
                        | none => rw [e8] at e; cases e
                        | some r8 =>
                          rw [e8, Option.bind_some] at e
                          cases e9 : setPl Γ3 i π r8.1 with
                          | none => rw [e9] at e; cases e
                          | some Γ9 =>
                            rw [e9, Option.map_some] at e
                            cases e
                            refine ho Hf H σ Γ R I Γ1 _ e1 _ fun Hf1 H1 R1 S1 v1 st1 I1 g1 r1 => ?_
                            refine hi Hf1 H1 σ Γ1 R1 I1 Γ2 _ e2 _ fun Hf2 H2 R2 S2 v2 st2 I2 g2 r2 => ?_
                            have r1' := r1.keep I1 st2 g2 hcI
                            obtain ⟨G1, w1, w1'⟩ := view_in I2 r1' e3
                            have p2 : Per K Hf2 k v2 := r2.1.per hc3
                            obtain ⟨w, it, kk⟩ := hg Hf2 H2 v1 v2 u k c.2 c.1 G1 No I2.w w1 p2.rep e4
                            obtain ⟨⟨G, it1, _⟩, _⟩ := it
                            have pc : Per K Hf2 c.2 w := it1.per hcp
                            refine kk _ ?_
                            refine he Hf2 H2 σ Γ2 R2 I2 Γ3 re e5 _ fun Hf3 H3 R3 S3 v3 st3 I3 g3 r3 => ?_
                            obtain ⟨G3, w3, _⟩ := r3.view I3 e6
                            have r1'' := r1'.keep I2 st3 g3 hcE
                            refine hp Hf3 H3 w v3 c.2 y x No G3 I3.w (Per.le st3.le _ _ pc).rep w3 e7 _ fun Hf4 H4 z S4 al rz => ?_
                            have I4 := al.er I3
                            have st4 := (st3.trans (M2 := []) (al.stp (R := R3))).more (M2 := Me) fun i z => by rw [List.append_nil] at z; exact z
                            have pz : Per K Hf4 x z := rz.per hxp
                            have pk : Per K Hf4 k v2 := Per.le (st4.le) _ _ p2
                            obtain ⟨_, t, u2, v0, a1, a2, a3, a4⟩ := r1''.keep I3 (al.stp (M := [])) (fun _ _ => rfl) (by simp [Rs.free])
                            have e3' : getT Γ3 (.at i π) = some u := by
                              have := g3 i (by simpa [Rs.free] using hcE)
                              unfold getT at e3 ⊢
                              dsimp only at e3 ⊢
                              rw [this]
                              exact e3
                            have key : rmSt tset v1 [z, v2] H4 fun _ H' => D.nx σ H' := by
                              refine mut_ok hm (ts := [x, k]) (vs := [z, v2]) (Ss := [No, No]) I4 e3' a2 a4 ⟨⟨pz.rep, fun _ _ z => z.elim, fun _ z => z.elim⟩, fun a s => s.elim, ⟨pk.rep, fun _ _ z => z.elim, fun _ z => z.elim⟩, fun a s => s.elim, True.intro⟩ e8 e9 (fun _ H' => D.nx σ H') fun H5 R5 S5 z5 st5 I5 r5 kr5 => ?_
                              have stA := (st1.trans (st2.trans st4)).noS
                              have stC := Stp.mut (Ss := No) (i := i) stA (Stp.noS ⟨fun a o q n => st5.fr a o q fun j r => r.elim (fun r => n j (.inl r)) fun ⟨_, S, m, s⟩ => by
                                simp only [List.mem_cons, List.not_mem_nil, or_false, or_self] at m
                                subst m
                                exact s, fun j n => by
                                  obtain ⟨b1, b2⟩ := st5.kp j n
                                  refine ⟨?_, fun a o r => b2 a o (r.elim .inl fun z => z.2.elim)⟩
                                  rw [b1]
                                  funext a
                                  refine propext ⟨fun r => r.elim .inl fun ⟨_, S, m, s⟩ => ?_, fun r => r.elim .inl fun z => z.2.elim⟩
                                  simp only [List.mem_cons, List.not_mem_nil, or_false, or_self] at m
                                  subst m
                                  exact s.elim, fun j a r => (st5.nw j a r).elim (fun ⟨l, r⟩ => .inl ⟨l, r.elim .inl fun ⟨_, S, m, s⟩ => by
                                    simp only [List.mem_cons, List.not_mem_nil, or_false, or_self] at m
                                    subst m
                                    exact s.elim⟩) .inr, fun a r => (st5.ns a r).elim (fun ⟨l, r⟩ => .inl ⟨l, r.elim .inl fun ⟨_, S, m, s⟩ => by
                                    simp only [List.mem_cons, List.not_mem_nil, or_false, or_self] at m
                                    subst m
                                    exact s.elim⟩) .inr, st5.le, fun a o q => (st5.nf a o q).elim .inl fun z => .inr (z.elim (fun ⟨l, r⟩ => .inl ⟨l, r.elim .inl fun ⟨_, S, m, s⟩ => by
                                    simp only [List.mem_cons, List.not_mem_nil, or_false, or_self] at m
                                    subst m
                                    exact s.elim⟩) .inr)⟩) kr5
                              refine fin Hf4 H5 σ R5 (stC.more fun j z => ?_) I5 ⟨fun _ _ => rfl, fun j n => ?_, rfl⟩
                              · rcases List.mem_append.mp z with z | z
                                · exact List.mem_append_left _ z
                                · rw [List.mem_singleton.mp z]
                                  exact List.mem_append_right _ (List.contains_iff_mem.mp hc1)
                              · have hji : j ≠ i := fun z => n (List.mem_append_right _ (by rw [z]; exact List.contains_iff_mem.mp hc1))
                                obtain ⟨t7, t8, b1, b2, rfl⟩ := setPl_some e9
                                rw [List.getElem?_set_ne (Ne.symm hji)]
                                have n1 := fun z => n (List.mem_append_left _ z)
                                have n2 := fun z => n1 (List.mem_append_right _ z)
                                rw [g3 j fun z => n2 (List.mem_append_right _ z), g2 j fun z => n2 (List.mem_append_left _ z), g1 j fun z => n1 (List.mem_append_left _ z)]
                            obtain ⟨v', y', ev, h⟩ := key
                            cases ev
                            exact h
                      · cases e
              · cases e
        · cases e
      · cases e

/-! ### list + list, list * int, tuple + tuple -/
def plL : T → Option (List T)
  | .fz .lst xs => some xs
  | .ow false .lst xs => some xs
  | _ => none
theorem Rep.plL {t : T} {v : V} {F : Rg} {xs : List T} (w : W Hf H) (h : Rep K cl Hf H t v F) (e : plL t = some xs) : ∃ a vs G, v = .ref a ∧ H a = some (.lst vs) ∧ RepAll K cl Hf H xs vs G 0 := by
  unfold Vx.plL at e
  split at e
  · cases e
    obtain ⟨a, vs, h1, h2, h3⟩ := h
    rcases w _ _ h2 with z | ⟨od, d, z⟩
    · exact ⟨a, vs, fun _ _ => False, h1, z, h3.reps⟩
    · cases d
  · cases e
    obtain ⟨a, dx, vs, G, h1, h2, h3, h4, h5, h6, h7⟩ := h
    exact ⟨a, vs, G, h1, h4.2, h7⟩
  · cases e
theorem PerAll.app {ts us : List T} {vs ws : List V} (h : PerAll K Hf ts vs) (k : PerAll K Hf us ws) : PerAll K Hf (ts ++ us) (vs ++ ws) := by
  have l := h.len
  refine PerAll.intro (by rw [List.length_append, List.length_append, l, k.len]) fun n t w a b => ?_
  by_cases hn : n < ts.length
  · rw [List.getElem?_append_left hn] at a
    rw [List.getElem?_append_left (by omega)] at b
    obtain ⟨w', c, d⟩ := h.get a
    rw [c] at b
    cases b
    exact d
  · rw [List.getElem?_append_right (by omega)] at a
    rw [List.getElem?_append_right (by omega), ← l] at b
    obtain ⟨w', c, d⟩ := k.get a
    rw [c] at b
    cases b
    exact d
def gCat : T → T → Option T := fun a b => match plL a, plL b with
  | some xs, some ys => if (xs.all T.pers && ys.all T.pers && decide (xs.length + ys.length ≤ 100000)) = true then some (.ow false .lst (xs ++ ys)) else none
  | _, _ => none
theorem pr_cat : PR2 K cl rCat gCat := fun Hf H x y tx ty tz Fx Fy w rx ry e Q q => by
  unfold gCat at e
  split at e
  · rename_i xs ys e1 e2
    split at e
    · rename_i hc
      simp only [Bool.and_eq_true, decide_eq_true_eq] at hc
      cases e
      obtain ⟨a, vs, G, rfl, h1, h2⟩ := rx.plL w e1
      obtain ⟨b, us, G', rfl, k1, k2⟩ := ry.plL w e2
      refine ⟨a, b, vs, us, rfl, rfl, h1, k1, sz5 (by rw [← h2.len, ← k2.len]; exact hc.2), fun p hp => ?_⟩
      exact q Hf _ _ _ (al_ow w hp) (rep_newL ((per_all h2 hc.1.1).app (per_all k2 hc.1.2)))
    · cases e
  · cases e
def gCatA : T → T → Option T := fun a b => match asT a, asT b with
  | some xs, some ys => if decide (xs.length + ys.length ≤ 100000) = true then (if xs = [] then some b else if ys = [] then some a else some (.fz .tup (xs ++ ys))) else none
  | _, _ => none
theorem asT_pers {t : T} {xs : List T} (e : asT t = some xs) : t.pers = true := by
  unfold asT at e
  split at e
  · exact rfl
  · exact rfl
  · cases e
theorem pr_catA : PR2 K cl (rCatA K) gCatA := fun Hf H x y tx ty tz Fx Fy w rx ry e Q q => by
  unfold gCatA at e
  split at e
  · rename_i xs ys e1 e2
    split at e
    · rename_i hc
      rw [decide_eq_true_eq] at hc
      obtain ⟨a, vs, hva, h1, h2⟩ := rx.asT w e1
      obtain ⟨b, us, hvb, k1, k2⟩ := ry.asT w e2
      subst hva hvb
      have z1 : vs = [] ↔ xs = [] := by rw [← List.length_eq_zero_iff, ← h2.len, List.length_eq_zero_iff]
      have z2 : us = [] ↔ ys = [] := by rw [← List.length_eq_zero_iff, ← k2.len, List.length_eq_zero_iff]
      refine ⟨a, b, vs, us, rfl, rfl, h1, k1, sz5 (by rw [← h2.len, ← k2.len]; exact hc), fun h => ?_, fun h k => ?_, fun h k p hp => ?_⟩
      · rw [if_pos (z1.mp h)] at e
        cases e
        exact q Hf H _ No (Al.refl w) (ry.per (asT_pers e2)).rep
      · rw [if_neg (fun z => h (z1.mpr z)), if_pos (z2.mp k)] at e
        cases e
        exact q Hf H _ No (Al.refl w) (rx.per (asT_pers e1)).rep
      · rw [if_neg (fun z => h (z1.mpr z)), if_neg (fun z => k (z2.mpr z))] at e
        cases e
        exact q _ _ _ No (al_fz w hp) (per_newT (w.none hp) (h2.app k2)).rep
    · cases e
  · cases e
theorem PerAll.rep {ts : List T} {vs : List V} (h : PerAll K Hf ts vs) : ∀ n : Nat, PerAll K Hf (List.replicate n ts).flatten (List.replicate n vs).flatten
  | 0 => True.intro
  | n + 1 => by
    rw [List.replicate_succ, List.replicate_succ, List.flatten_cons, List.flatten_cons]
    exact h.app (h.rep n)
def gRep : T → T → Option T := fun a b => match plL a, b with
  | some xs, .v (.int k) => if (xs.all T.pers && decide (k < 2 ^ 63) && decide (-(2 ^ 63) ≤ k) && decide (xs.length * k.toNat ≤ 100000)) = true then some (.ow false .lst (List.replicate k.toNat xs).flatten) else none
  | _, _ => none
theorem pr_rep : PR2 K cl rRep gRep := fun Hf H x y tx ty tz Fx Fy w rx ry e Q q => by
  unfold gRep at e
  split at e
  · rename_i xs k e1
    split at e
    · rename_i hc
      simp only [Bool.and_eq_true, decide_eq_true_eq] at hc
      cases e
      cases ry.1
      obtain ⟨a, vs, G, rfl, h1, h2⟩ := rx.plL w e1
      refine ⟨a, k, vs, rfl, rfl, h1, hc.1.2, hc.1.1.2, sz5 (by rw [← h2.len]; exact hc.2), fun p hp => ?_⟩
      exact q Hf _ _ _ (al_ow w hp) (rep_newL ((per_all h2 hc.1.1.1).rep _))
    · cases e
  · cases e

/-! ### slices -/
def EvOOk (K : PySem.W.Frag) (cl : Nat → Addr) (M : List Nat) (to : TO) (f : Ge → Option (Ge × Option Int)) : Prop :=
  ∀ (Hf H : Hp) (σ : L2.St) (Γ : Ge) (R : Nat → Rg), ER K cl Hf H σ Γ R → ∀ Γ' o, f Γ = some (Γ', o) → ∀ Q : Option Int → Hp → Prop,
    (∀ Hf' H' R', Stp Hf H R M Hf' H' R' No → ER K cl Hf' H' σ Γ' R' → (∀ i, i ∉ M → Γ'[i]? = Γ[i]?) → Q o H') → to σ H Q
def fO0 : Ge → Option (Ge × Option Int) := fun Γ => some (Γ, none)
theorem eo_none : EvOOk K cl [] tNoPart fO0 := fun Hf H σ Γ R I Γ' o e Q q => by
  cases e
  exact q Hf H R Stp.refl I fun _ _ => rfl
def fO1 (f : Ge → Option (Ge × Rs)) : Ge → Option (Ge × Option Int) := fun Γ => (f Γ).bind fun p => match p.2 with
  | .val (.v (.int i)) => some (p.1, some i)
  | _ => none
theorem eo_some (h : EvOk K cl M te f) : EvOOk K cl M (tPart te) (fO1 f) := fun Hf H σ Γ R I Γ' o e Q q => by
  unfold fO1 at e
  cases e1 : f Γ with
  | none => rw [e1] at e; cases e
  | some p =>
    obtain ⟨Γ1, r⟩ := p
    rw [e1, Option.bind_some] at e
    dsimp only at e
    split at e
    · cases e
      rename_i i
      exact h Hf H σ Γ R I _ _ e1 _ fun Hf1 H1 R1 S1 v1 st1 I1 g1 r1 => ⟨i, r1.1.1, q Hf1 H1 R1 st1.noS I1 g1⟩
    · cases e
def PRs (K : PySem.W.Frag) (cl : Nat → Addr) (r : V → Option Int → Option Int → Hp → VK → Prop) (g : T → Option Int → Option Int → Option T) : Prop := ∀ (Hf H : Hp) (x : V) (tx tz : T) (lo hi : Option Int) (Fx : Rg), W Hf H → Rep K cl Hf H tx x Fx → g tx lo hi = some tz →
  ∀ Q : VK, (∀ Hf' H' z S, Al Hf H Hf' H' S → Rep K cl Hf' H' tz z S → Q z H') → r x lo hi H Q
def fSl (Ml Mh : List Nat) (g : T → Option Int → Option Int → Option T) (f : Ge → Option (Ge × Rs)) (fl fh : Ge → Option (Ge × Option Int)) : Ge → Option (Ge × Rs) := fun Γ =>
  (f Γ).bind fun p => (fl p.1).bind fun l => (fh l.1).bind fun h => if p.2.free (Ml ++ Mh) = true then (getT h.1 p.2).bind fun u => (g u l.2 h.2).map fun z => (h.1, .val z) else none
theorem ev_sl {r : V → Option Int → Option Int → Hp → VK → Prop} {g : T → Option Int → Option Int → Option T} {tl th : TO} {fl fh : Ge → Option (Ge × Option Int)} (hr : PRs K cl r g) (h : EvOk K cl M te f) (hl : EvOOk K cl Ml tl fl) (hh : EvOOk K cl Mh th fh) :
    EvOk K cl (M ++ (Ml ++ Mh)) (tSl r te tl th) (fSl Ml Mh g f fl fh) := fun Hf H σ Γ R I Γ' r0 e Q q => by
  unfold fSl at e
  cases e1 : f Γ with
  | none => rw [e1] at e; cases e
  | some p =>
    obtain ⟨Γ1, ra⟩ := p
    rw [e1, Option.bind_some] at e
    dsimp only at e
    cases e2 : fl Γ1 with
    | none => rw [e2] at e; cases e
    | some p2 =>
      obtain ⟨Γ2, lo⟩ := p2
      rw [e2, Option.bind_some] at e
      dsimp only at e
      cases e3 : fh Γ2 with
      | none => rw [e3] at e; cases e
      | some p3 =>
        obtain ⟨Γ3, hi⟩ := p3
        rw [e3, Option.bind_some] at e
        dsimp only at e
        split at e
        · rename_i fr
          cases e4 : getT Γ3 ra with
          | none => rw [e4] at e; cases e
          | some u =>
            rw [e4, Option.bind_some] at e
            cases e5 : g u lo hi with
            | none => rw [e5] at e; cases e
            | some z =>
              rw [e5, Option.map_some] at e
              cases e
              refine h Hf H σ Γ R I Γ1 ra e1 _ fun Hf1 H1 R1 S1 v1 st1 I1 g1 r1 => ?_
              refine hl Hf1 H1 σ Γ1 R1 I1 Γ2 lo e2 _ fun Hf2 H2 R2 st2 I2 g2 => ?_
              refine hh Hf2 H2 σ Γ2 R2 I2 _ hi e3 _ fun Hf3 H3 R3 st3 I3 g3 => ?_
              have st23 := st2.trans st3
              have r1' := r1.keep I1 st23 (fun i n => (g3 i fun z => n (List.mem_append_right _ z)).trans (g2 i fun z => n (List.mem_append_left _ z))) fr
              obtain ⟨G, w, _⟩ := r1'.view I3 e4
              refine hr Hf3 H3 v1 u z lo hi G I3.w w e5 Q fun Hf4 H4 zv S al rz => ?_
              have st4 := ((st1.trans st23).trans (M2 := []) (al.stp (R := R3))).more (M2 := M ++ (Ml ++ Mh)) fun i z => by rw [List.append_nil] at z; exact z
              exact q Hf4 H4 R3 S zv st4 (al.er I3) (fun i n => (g3 i fun z => n (List.mem_append_right _ (List.mem_append_right _ z))).trans ((g2 i fun z => n (List.mem_append_right _ (List.mem_append_left _ z))).trans (g1 i fun z => n (List.mem_append_left _ z)))) (al.rs I3 rz)
        · cases e
/-- the trees of xs[lo:hi] -/
def cutT (xs : List T) (lo hi : Option Int) : List T := (xs.drop (HT.sIx xs.length 0 lo)).take (HT.sIx xs.length xs.length hi - HT.sIx xs.length 0 lo)
theorem PerAll.cut {ts : List T} {vs : List V} (h : PerAll K Hf ts vs) (lo hi : Option Int) : PerAll K Hf (cutT ts lo hi) (cutV vs lo hi) := by
  have l := h.len
  unfold cutT cutV
  rw [l]
  refine PerAll.intro (by simp [l]) fun n t w a b => ?_
  rw [List.getElem?_take] at a b
  split at a
  · rename_i hn
    rw [if_pos hn] at b
    rw [List.getElem?_drop] at a b
    obtain ⟨w', c, d⟩ := h.get a
    rw [c] at b
    cases b
    exact d
  · cases a
def gSlL : T → Option Int → Option Int → Option T := fun t lo hi => match asL t with
  | some xs => if xs.all T.pers = true then some (.ow false .lst (cutT xs lo hi)) else none
  | none => none
theorem prs_list : PRs K cl (rSlL K) gSlL := fun Hf H x tx tz lo hi Fx w rx e Q q => by
  unfold gSlL at e
  split at e
  · rename_i xs e1
    split at e
    · rename_i hc
      cases e
      obtain ⟨a, vs, G, rfl, h1, h2, _⟩ := rx.asL w e1
      exact ⟨a, vs, rfl, h1, fun p hp => q Hf _ _ _ (al_ow w hp) (rep_newL ((per_all h2 hc).cut lo hi))⟩
    · cases e
  · cases e
def gSlA : T → Option Int → Option Int → Option T := fun t lo hi => match asT t with
  | some xs => if HT.sIx xs.length 0 lo = 0 ∧ HT.sIx xs.length xs.length hi = xs.length then some t else some (.fz .tup (cutT xs lo hi))
  | none => none
theorem prs_tup : PRs K cl (rSlA K) gSlA := fun Hf H x tx tz lo hi Fx w rx e Q q => by
  unfold gSlA at e
  split at e
  · rename_i xs e1
    obtain ⟨a, vs, hv, h1, h2⟩ := rx.asT w e1
    subst hv
    have l := h2.len
    rw [l] at e
    refine ⟨a, vs, rfl, h1, fun hc => ?_, fun hc p hp => ?_⟩
    · rw [if_pos hc] at e
      cases e
      exact q Hf H _ No (Al.refl w) (rx.per (asT_pers e1)).rep
    · rw [if_neg hc] at e
      cases e
      exact q _ _ _ No (al_fz w hp) (per_newT (w.none hp) (h2.cut lo hi)).rep
  · cases e
def gEiS (g h : T → Option Int → Option Int → Option T) : T → Option Int → Option Int → Option T := fun t lo hi => match g t lo hi with
  | some z => some z
  | none => h t lo hi
theorem PRs.ei {r r' : V → Option Int → Option Int → Hp → VK → Prop} {g g' : T → Option Int → Option Int → Option T} (h : PRs K cl r g) (k : PRs K cl r' g') : PRs K cl (fun x lo hi H Q => r x lo hi H Q ∨ r' x lo hi H Q) (gEiS g g') := fun Hf H x tx tz lo hi Fx w rx e Q q => by
  unfold gEiS at e
  cases eg : g tx lo hi with
  | some c =>
    rw [eg] at e
    exact .inl (h Hf H x tx tz lo hi Fx w rx (eg.trans e) Q q)
  | none =>
    rw [eg] at e
    exact .inr (k Hf H x tx tz lo hi Fx w rx e Q q)
end
end Vx

set_option maxRecDepth 100000
/-! Vx19: a text's expressions with their readings -/
namespace Vx
open PySem L2 PyProof.Rows
structure Qx where
  P : Program
  w : World
  K : PySem.W.Frag
  cl : Nat → Addr
  mg : Str → Option Value
  base : Heap
  N : List Str
  sc : Scope
  k : Nat
/-- a global name -/
def GlN (sc : Scope) (x : Str) : Prop := sc.names.lookup x = some .globalImplicit
/-- a context within a def (or a comprehension's block) -/
structure Cok (q : Qx) (X : Cx) : Prop where
  prog : X.prog = q.P
  w : X.w = q.w
  K : X.K = q.K
  mg : X.mg = q.mg
  base : X.base = q.base
  N : X.N = q.N
  nd : X.N.Nodup
  sc : X.env.scope = q.sc
  room : Room q.k X.A
  calm : X.calm = true
/-- .. where statements stand -/
structure Sok (q : Qx) (W : WX) (X : Cx) : Prop extends Cok q X where
  takes : Takes X W
  own : PassesOwn (model X.prog X.w) X.A X.env X.xe
  stk : X.stack = X.env :: X.outer
  frm : X.env.frame = some X.env.locals
  ex : X.ex = []
  fn : ∀ x, X.fn x = true
section
variable (q : Qx)
def CE (e : Expr) (M : List Nat) (f : Ge → Option (Ge × Rs)) : Prop := ∃ t, (∀ X, Cok q X → PE X e t) ∧ EvOk q.K q.cl M t f
def CA (es : List Expr) (M : List Nat) (f : Ge → Option (Ge × List Rs)) : Prop := ∃ t, (∀ X, Cok q X → PA X es t) ∧ EvAOk q.K q.cl M t f
def CT (e : Expr) (M : List Nat) (f : Ge → Option (Ge × Bool)) : Prop := ∃ t, (∀ X, Cok q X → PT X e t) ∧ EvTOk q.K q.cl M t f
def CW (e : Expr) (M : List Nat) (f : Ge → Option (Ge × Bool)) : Prop := ∃ t, (∀ X, Cok q X → PW X e t) ∧ EvTOk q.K q.cl M t f
def CTs (es : List Expr) (M : List Nat) (f : Ge → Option (Ge × Bool)) : Prop := ∃ t, (∀ X, Cok q X → PTs X es t) ∧ EvTOk q.K q.cl M t f
def CO (e : Option Expr) (M : List Nat) (f : Ge → Option (Ge × Option Int)) : Prop := ∃ t, (∀ X, Cok q X → PO X e t) ∧ EvOOk q.K q.cl M t f
def CG (e : Expr) (A : List Nat) (f : Ge → T → Option Ge) : Prop := ∃ t, (∀ X, Cok q X → PG X e t) ∧ TgOk q.K q.cl A t f
def CGs (es : List Expr) (A : List Nat) (f : Ge → List T → Option Ge) : Prop := ∃ t, (∀ X, Cok q X → PGs X es t) ∧ TgsOk q.K q.cl A t f
def CI (tg e : Expr) (M : List Nat) (f : Ge → Option (Ge × Rs × List T)) : Prop := ∃ t, (∀ X, Cok q X → PI X tg e t) ∧ SvOk q.K q.cl M t f
def CS (W : WX) (C : Value) (A M : List Nat) (st : Stmt) (g : Ge → Option Out) : Prop := ∃ t, (∀ X, Sok q W X → PS X st t) ∧ StOk q.K q.cl (fun σ H => W C none σ H) A M t g
def CB (W : WX) (C : Value) (A M : List Nat) (st : List Stmt) (g : Ge → Option Out) : Prop := ∃ t, (∀ X, Sok q W X → PSs X st t) ∧ StOk q.K q.cl (fun σ H => W C none σ H) A M t g
end
section
variable {q : Qx} {X : Cx} {M Ma Mb Mc Mi Me Ml Mh A B : List Nat} {a b c e o : Expr} {es : List Expr} {pos pos' p apos : Pos} {fa fb fc f fe fo fi : Ge → Option (Ge × Rs)} {gs : Ge → Option (Ge × List Rs)} {x : Str} {i : Nat}
theorem Cok.gl (h : Cok q X) (e : GlN q.sc x) : Gl X x := by
  show X.env.scope.names.lookup x = _
  rw [h.sc]
  exact e
theorem Cok.vis (h : Cok q X) (e : Vis q.sc x) : Vis X.env.scope x := by rw [h.sc]; exact e
theorem Cok.ix (h : Cok q X) (e : q.N[i]? = some x) : X.N[i]? = some x := by rw [h.N]; exact e
theorem Cok.m (h : Cok q X) {v : Option Value} (e : q.mg x = v) : X.mg x = v := by rw [h.mg]; exact e
theorem Cok.u1 (h : Cok q X) : X.A.units + 1 < cLine := hu_of h.room
theorem Cok.u64 (h : Cok q X) : X.A.units + 64 < cLine := h.room.units
theorem Cok.u65 (h : Cok q X) : X.A.units + 65 < cLine := by have := h.room.un; omega
theorem Cok.fnok {k : Nat} {f : Addr} {fd : FuncData} {ps : List Str} {sp : Sp} (h : Cok q X) (F : FnOk q.P q.w q.K q.mg q.base (L2.CX q.P q.w) k f fd ps sp) : FnOk X.prog X.w X.K X.mg X.base (L2.CX X.prog X.w) k f fd ps sp := by
  rw [h.prog, h.w, h.K, h.mg, h.base]
  exact F

/-! ### names, constants -/
theorem x_int {n : Int} {j : Nat} : CE q (.Constant (.int n) j pos) [] (fC (.int n)) := ⟨_, fun _ _ => pe_int, ev_c rfl⟩
theorem x_bl {n : Bool} {j : Nat} : CE q (.Constant (.bool n) j pos) [] (fC (.bl n)) := ⟨_, fun _ _ => pe_bl, ev_c rfl⟩
theorem x_non {j : Nat} : CE q (.Constant .none j pos) [] (fC .non) := ⟨_, fun _ _ => pe_non, ev_c rfl⟩
theorem x_str {s : Str} {j : Nat} : CE q (.Constant (.str s) j pos) [] (fC (.str s)) := ⟨_, fun _ _ => pe_str, ev_c rfl⟩
theorem x_var (i : Nat) (hN : q.N[i]? = some x := by rfl) (hv : Vis q.sc x := by first | exact Or.inl rfl | exact Or.inr (Or.inl rfl) | exact Or.inr (Or.inr rfl)) (hd : (x == ("__debug__" : Str)) = false := by decide) (hcd : (x == ("__classdict__" : Str)) = false := by decide) :
    CE q (.Name x pos) [] (fVar i) := ⟨_, fun _ h => pe_var (h.ix hN) (h.vis hv) hd hcd, ev_var⟩
theorem x_glob {v : V} {u : Value} {t : T} (hm : q.mg x = some u) (r : RelV v u) (ht : ∀ Hf, Per q.K Hf t v) (hg : GlN q.sc x := by rfl) (hd : (x == ("__debug__" : Str)) = false := by decide) :
    CE q (.Name x pos) [] (fun Γ => some (Γ, .val t)) := ⟨_, fun _ h => pe_glob (h.gl hg) (h.m hm) r hd, ev_glob ht⟩
theorem x_globI {n : Int} {tk : Tok} (hm : q.mg x = some (.int n tk)) (hg : GlN q.sc x := by rfl) (hd : (x == ("__debug__" : Str)) = false := by decide) :
    CE q (.Name x pos) [] (fC (.int n)) := ⟨_, fun _ h => pe_glob (v := .int n) (h.gl hg) (h.m hm) ⟨tk, rfl⟩ hd, ev_c rfl⟩
theorem x_frz (Mf : List Nat) (h : CE q e M f) : CE q e (M ++ Mf) (fFrz Mf f) := let ⟨t, h1, h2⟩ := h; ⟨t, h1, ev_frz Mf h2⟩

/-! ### operations -/
theorem x_bin {op : Operator} {r : R2} {g : T → T → Option T} (ho : ∀ X, Cok q X → OpR X (binaryOp op) r) (hp : PR2 q.K q.cl r g) (ha : CE q a Ma fa) (hb : CE q b Mb fb) : CE q (.BinOp a op b pos) (Ma ++ Mb) (f2 Mb g fa fb) :=
  let ⟨_, a1, a2⟩ := ha; let ⟨_, b1, b2⟩ := hb; ⟨_, fun X h => pe_op (ho X h) (a1 X h) (b1 X h), ev2 hp a2 b2⟩
theorem x_add (ha : CE q a Ma fa) (hb : CE q b Mb fb) : CE q (.BinOp a .Add b pos) (Ma ++ Mb) (f2 Mb gAdd fa fb) := x_bin (fun _ _ => op_add) pr_add ha hb
theorem x_sub (ha : CE q a Ma fa) (hb : CE q b Mb fb) : CE q (.BinOp a .Sub b pos) (Ma ++ Mb) (f2 Mb Vx.gSub fa fb) := x_bin (fun _ _ => op_sub) pr_sub ha hb
theorem x_mul (ha : CE q a Ma fa) (hb : CE q b Mb fb) : CE q (.BinOp a .Mult b pos) (Ma ++ Mb) (f2 Mb gMul fa fb) := x_bin (fun _ _ => op_mul) pr_mul ha hb
theorem x_div (ha : CE q a Ma fa) (hb : CE q b Mb fb) : CE q (.BinOp a .FloorDiv b pos) (Ma ++ Mb) (f2 Mb gDiv fa fb) := x_bin (fun _ _ => op_fdivW) pr_div ha hb
theorem x_mod (ha : CE q a Ma fa) (hb : CE q b Mb fb) : CE q (.BinOp a .Mod b pos) (Ma ++ Mb) (f2 Mb gMod fa fb) := x_bin (fun _ _ => op_mod) pr_mod ha hb
theorem x_pow (ha : CE q a Ma fa) (hb : CE q b Mb fb) : CE q (.BinOp a .Pow b pos) (Ma ++ Mb) (f2 Mb gPow fa fb) := x_bin (fun _ _ => op_pow) pr_pow ha hb
theorem x_shr (ha : CE q a Ma fa) (hb : CE q b Mb fb) : CE q (.BinOp a .RShift b pos) (Ma ++ Mb) (f2 Mb gShr fa fb) := x_bin (fun _ _ => op_shr) pr_shr ha hb
theorem x_band (ha : CE q a Ma fa) (hb : CE q b Mb fb) : CE q (.BinOp a .BitAnd b pos) (Ma ++ Mb) (f2 Mb gAnd fa fb) := x_bin (fun _ _ => op_and) pr_and ha hb
theorem x_bxor (ha : CE q a Ma fa) (hb : CE q b Mb fb) : CE q (.BinOp a .BitXor b pos) (Ma ++ Mb) (f2 Mb gXor fa fb) := x_bin (fun _ _ => op_xor) pr_xor ha hb
theorem x_cat (ha : CE q a Ma fa) (hb : CE q b Mb fb) : CE q (.BinOp a .Add b pos) (Ma ++ Mb) (f2 Mb gCat fa fb) := x_bin (fun _ _ => op_cat) pr_cat ha hb
theorem x_catA (ha : CE q a Ma fa) (hb : CE q b Mb fb) : CE q (.BinOp a .Add b pos) (Ma ++ Mb) (f2 Mb gCatA fa fb) := x_bin (fun X h => h.K ▸ op_catA) pr_catA ha hb
theorem x_rep (ha : CE q a Ma fa) (hb : CE q b Mb fb) : CE q (.BinOp a .Mult b pos) (Ma ++ Mb) (f2 Mb gRep fa fb) := x_bin (fun _ _ => op_rep) pr_rep ha hb
theorem x_neg (ha : CE q a M fa) : CE q (.UnaryOp .USub a pos) M (f1 gNeg fa) := let ⟨_, a1, a2⟩ := ha; ⟨_, fun X h => pe_un un_neg (a1 X h), ev1 pr_neg a2⟩
theorem x_cmp {op : CmpOp} {r : R2} {g : T → T → Option T} (ho : ∀ X, Cok q X → OpR X (compareOp op) r) (hp : PR2 q.K q.cl r g) (ha : CE q a Ma fa) (hb : CE q b Mb fb) (hm : behindInMarks op b = false) : CE q (.Compare a [op] [b] pos) (Ma ++ Mb) (f2 Mb g fa fb) :=
  let ⟨_, a1, a2⟩ := ha; let ⟨_, b1, b2⟩ := hb; ⟨_, fun X h => pe_cmpR (ho X h) (a1 X h) (b1 X h) hm, ev2 hp a2 b2⟩
theorem x_lt (ha : CE q a Ma fa) (hb : CE q b Mb fb) : CE q (.Compare a [.Lt] [b] pos) (Ma ++ Mb) (f2 Mb gLt fa fb) := x_cmp (fun _ _ => op_lt) pr_lt ha hb (nomark _)
theorem x_le (ha : CE q a Ma fa) (hb : CE q b Mb fb) : CE q (.Compare a [.LtE] [b] pos) (Ma ++ Mb) (f2 Mb gLe fa fb) := x_cmp (fun _ _ => op_le) pr_le ha hb (nomark _)
theorem x_gt (ha : CE q a Ma fa) (hb : CE q b Mb fb) : CE q (.Compare a [.Gt] [b] pos) (Ma ++ Mb) (f2 Mb gGt fa fb) := x_cmp (fun _ _ => op_gt) pr_gt ha hb (nomark _)
theorem x_ge (ha : CE q a Ma fa) (hb : CE q b Mb fb) : CE q (.Compare a [.GtE] [b] pos) (Ma ++ Mb) (f2 Mb gGe fa fb) := x_cmp (fun _ _ => op_ge) pr_ge ha hb (nomark _)
theorem x_eq (ha : CE q a Ma fa) (hb : CE q b Mb fb) : CE q (.Compare a [.Eq] [b] pos) (Ma ++ Mb) (f2 Mb gEq fa fb) := x_cmp (fun X h => h.K ▸ op_eqD h.u64) pr_eq ha hb (nomark _)
theorem x_ne (ha : CE q a Ma fa) (hb : CE q b Mb fb) : CE q (.Compare a [.NotEq] [b] pos) (Ma ++ Mb) (f2 Mb gNe fa fb) := x_cmp (fun X h => h.K ▸ op_neD h.u64) pr_ne ha hb (nomark _)
theorem x_isN (ha : CE q a Ma fa) (hb : CE q b Mb fb) : CE q (.Compare a [.Is] [b] pos) (Ma ++ Mb) (f2 Mb (gIsN false) fa fb) := x_cmp (fun _ _ => op_isN) pr_isN ha hb (nomark _)
theorem x_notN (ha : CE q a Ma fa) (hb : CE q b Mb fb) : CE q (.Compare a [.IsNot] [b] pos) (Ma ++ Mb) (f2 Mb (gIsN true) fa fb) := x_cmp (fun _ _ => op_notN) pr_notN ha hb (nomark _)
theorem x_inT (ha : CE q a Ma fa) (hb : CE q b Mb fb) (hm : behindInMarks .In b = false := by with_unfolding_all rfl) : CE q (.Compare a [.In] [b] pos) (Ma ++ Mb) (f2 Mb (gInT false) fa fb) := x_cmp (fun X h => h.K ▸ op_in_seq) pr_inT ha hb hm
theorem x_ninT (ha : CE q a Ma fa) (hb : CE q b Mb fb) (hm : behindInMarks .NotIn b = false := by with_unfolding_all rfl) : CE q (.Compare a [.NotIn] [b] pos) (Ma ++ Mb) (f2 Mb (gInT true) fa fb) := x_cmp (fun X h => h.K ▸ op_notIn_seq) pr_inT ha hb hm
theorem x_inD (ha : CE q a Ma fa) (hb : CE q b Mb fb) (hm : behindInMarks .In b = false := by with_unfolding_all rfl) : CE q (.Compare a [.In] [b] pos) (Ma ++ Mb) (f2 Mb (gInD false) fa fb) := x_cmp (fun X h => h.K ▸ op_inD h.u65) pr_inD ha hb hm
theorem x_ninD (ha : CE q a Ma fa) (hb : CE q b Mb fb) (hm : behindInMarks .NotIn b = false := by with_unfolding_all rfl) : CE q (.Compare a [.NotIn] [b] pos) (Ma ++ Mb) (f2 Mb (gInD true) fa fb) := x_cmp (fun X h => h.K ▸ op_notInD h.u65) pr_notInD ha hb hm
theorem x_ch {op op' : CmpOp} {r r' : R2} {g g' : T → T → Option T} (ho : ∀ X, Cok q X → OpR X (compareOp op) r) (ho' : ∀ X, Cok q X → OpR X (compareOp op') r') (hp : PR2 q.K q.cl r g) (hp' : PR2 q.K q.cl r' g') (ha : CE q a Ma fa) (hb : CE q b Mb fb) (hc : CE q c Mc fc)
    (hm : lastMarks [op, op'] [b, c] = false := by with_unfolding_all rfl) : CE q (.Compare a [op, op'] [b, c] pos) ((Ma ++ Mb) ++ Mc) (fCh Mb Mc g g' fa fb fc) :=
  let ⟨_, a1, a2⟩ := ha; let ⟨_, b1, b2⟩ := hb; let ⟨_, c1, c2⟩ := hc; ⟨_, fun X h => pe_chain (ho X h) (ho' X h) (a1 X h) (b1 X h) (c1 X h) hm, ev_ch hp hp' a2 b2 c2⟩
theorem x_chLL (ha : CE q a Ma fa) (hb : CE q b Mb fb) (hc : CE q c Mc fc) (hm : lastMarks [.LtE, .LtE] [b, c] = false := by with_unfolding_all rfl) : CE q (.Compare a [.LtE, .LtE] [b, c] pos) ((Ma ++ Mb) ++ Mc) (fCh Mb Mc gLe gLe fa fb fc) :=
  x_ch (fun _ _ => op_le) (fun _ _ => op_le) pr_le pr_le ha hb hc hm
theorem x_chLl (ha : CE q a Ma fa) (hb : CE q b Mb fb) (hc : CE q c Mc fc) (hm : lastMarks [.LtE, .Lt] [b, c] = false := by with_unfolding_all rfl) : CE q (.Compare a [.LtE, .Lt] [b, c] pos) ((Ma ++ Mb) ++ Mc) (fCh Mb Mc gLe gLt fa fb fc) :=
  x_ch (fun _ _ => op_le) (fun _ _ => op_lt) pr_le pr_lt ha hb hc hm
theorem x_chlL (ha : CE q a Ma fa) (hb : CE q b Mb fb) (hc : CE q c Mc fc) (hm : lastMarks [.Lt, .LtE] [b, c] = false := by with_unfolding_all rfl) : CE q (.Compare a [.Lt, .LtE] [b, c] pos) ((Ma ++ Mb) ++ Mc) (fCh Mb Mc gLt gLe fa fb fc) :=
  x_ch (fun _ _ => op_lt) (fun _ _ => op_le) pr_lt pr_le ha hb hc hm
theorem x_and {rest : List Expr} (ha : CE q a Ma fa) (hb : CE q (.BoolOp .And (b :: rest) pos) Mb fb) : CE q (.BoolOp .And (a :: b :: rest) pos) (Ma ++ Mb) (fAndV fa fb) :=
  let ⟨_, a1, a2⟩ := ha; let ⟨_, b1, b2⟩ := hb; ⟨_, fun X h => pe_and (a1 X h) (b1 X h), ev_andV a2 b2⟩
theorem x_or {rest : List Expr} (ha : CE q a Ma fa) (hb : CE q (.BoolOp .Or (b :: rest) pos) Mb fb) : CE q (.BoolOp .Or (a :: b :: rest) pos) (Ma ++ Mb) (fOrV fa fb) :=
  let ⟨_, a1, a2⟩ := ha; let ⟨_, b1, b2⟩ := hb; ⟨_, fun X h => pe_or (a1 X h) (b1 X h), ev_orV a2 b2⟩
theorem x_not (ha : CE q a Ma fa) : CE q (.UnaryOp .Not a pos) Ma (fNotV fa) := let ⟨_, a1, a2⟩ := ha; ⟨_, fun X h => pe_not (a1 X h), ev_notV a2⟩
theorem x_if {ft : Ge → Option (Ge × Bool)} (hc : CT q c Mc ft) (ha : CE q a Ma fa) (hb : CE q b Mb fb) : CE q (.IfExp c a b pos) (Mc ++ (Ma ++ Mb)) (fIf ft fa fb) :=
  let ⟨_, c1, c2⟩ := hc; let ⟨_, a1, a2⟩ := ha; let ⟨_, b1, b2⟩ := hb; ⟨_, fun X h => pe_ifExp (c1 X h) (a1 X h) (b1 X h), ev_if c2 a2 b2⟩

/-! ### argument lists, displays -/
theorem x_nil : CA q [] [] fANil := ⟨_, fun _ _ => pa_nil, ea_nil⟩
theorem x_cons (ha : CE q a Ma fa) (hs : CA q es Mb gs) (hst : ∀ env, starEach (a :: es) env = (false, eval a env) :: starEach es env := by intro _; rfl) : CA q (a :: es) (Ma ++ Mb) (fACons Mb fa gs) :=
  let ⟨_, a1, a2⟩ := ha; let ⟨_, b1, b2⟩ := hs; ⟨_, fun X h => pa_cons (a1 X h) (b1 X h) (hst _), ea_cons a2 b2⟩
theorem x_lst (hs : CA q es M gs) : CE q (.List es pos) M (fLst gs) := let ⟨_, b1, b2⟩ := hs; ⟨_, fun X h => pe_lst (b1 X h), ev_lst b2⟩
theorem x_tup (Mf : List Nat) {x1 : Nat} (hs : CA q es M gs) : CE q (.Tuple es x1 pos) (M ++ Mf) (fTup Mf gs) := let ⟨_, b1, b2⟩ := hs; ⟨_, fun X h => pe_tup (b1 X h), ev_tup Mf b2⟩

/-! ### subscripts -/
theorem x_ix (ha : CE q a Ma fa) (hb : CE q b Mb fb) (hs : PlainIx b := by intro _ _; rfl) : CE q (.Subscript a b pos) (Ma ++ Mb) (fIx Mb gIx fa fb) :=
  let ⟨_, a1, a2⟩ := ha; let ⟨_, b1, b2⟩ := hb; ⟨_, fun X h => pe_ix (h.K ▸ ix_seq) (a1 X h) (b1 X h) hs, ev_ix prx_ix a2 b2⟩
theorem x_o0 : CO q none [] fO0 := ⟨_, fun _ _ => po_none, eo_none⟩
theorem x_o1 (ha : CE q a Ma fa) : CO q (some a) Ma (fO1 fa) := let ⟨_, a1, a2⟩ := ha; ⟨_, fun X h => po_some (a1 X h), eo_some a2⟩
theorem x_slL {lo hi : Option Expr} {fl fh : Ge → Option (Ge × Option Int)} (ha : CE q a Ma fa) (hl : CO q lo Ml fl) (hh : CO q hi Mh fh) : CE q (.Subscript a (.Slice lo hi none p) pos) (Ma ++ (Ml ++ Mh)) (fSl Ml Mh gSlL fa fl fh) :=
  let ⟨_, a1, a2⟩ := ha; let ⟨_, b1, b2⟩ := hl; let ⟨_, c1, c2⟩ := hh; ⟨_, fun X h => pe_slice (h.K ▸ sl_list) (a1 X h) (b1 X h) (c1 X h), ev_sl prs_list a2 b2 c2⟩
theorem x_slA {lo hi : Option Expr} {fl fh : Ge → Option (Ge × Option Int)} (ha : CE q a Ma fa) (hl : CO q lo Ml fl) (hh : CO q hi Mh fh) : CE q (.Subscript a (.Slice lo hi none p) pos) (Ma ++ (Ml ++ Mh)) (fSl Ml Mh gSlA fa fl fh) :=
  let ⟨_, a1, a2⟩ := ha; let ⟨_, b1, b2⟩ := hl; let ⟨_, c1, c2⟩ := hh; ⟨_, fun X h => pe_slice (h.K ▸ sl_tupA) (a1 X h) (b1 X h) (c1 X h), ev_sl prs_tup a2 b2 c2⟩

/-! ### built-in functions -/
theorem x_cb {id : String} {r : List V → Hp → VK → Prop} {g : List T → Option T} (hc : ∀ X, Cok q X → CallR X (.builtin id) r) (hp : PRn q.K q.cl r g) (hm : q.mg x = none) (hs : CA q (e :: es) M gs) (hv : bootBuiltins x = some (.builtin id)) (hg : GlN q.sc x)
    (hn : x ≠ "__name__") (hdb : (x == ("__debug__" : Str)) = false)
    (he : ∀ env, starEach (e :: es) env = (false, eval e env) :: starEach es env) (hpl : ∀ env, (backTo pos (starEach es env)).any (·.1) = false) : CE q (.Call (.Name x p) (e :: es) [] pos) M (fN g gs) :=
  let ⟨_, b1, b2⟩ := hs; ⟨_, fun X h => pe_callB (hc X h) (h.gl hg) (h.m hm) hv (b1 X h) hn hdb (he _) (hpl _), evN hp b2⟩
theorem x_ct {id : String} {r : List V → Hp → VK → Prop} {g : List T → Option T} (hc : ∀ X, Cok q X → CallR X (.type id) r) (hp : PRn q.K q.cl r g) (hm : q.mg x = none) (hs : CA q (e :: es) M gs) (hv : bootBuiltins x = some (.type id)) (hg : GlN q.sc x)
    (hn : x ≠ "__name__") (hdb : (x == ("__debug__" : Str)) = false)
    (he : ∀ env, starEach (e :: es) env = (false, eval e env) :: starEach es env) (hpl : ∀ env, (backTo pos (starEach es env)).any (·.1) = false) : CE q (.Call (.Name x p) (e :: es) [] pos) M (fN g gs) :=
  let ⟨_, b1, b2⟩ := hs; ⟨_, fun X h => pe_callTy (hc X h) (h.gl hg) (h.m hm) hv (b1 X h) hn hdb (he _) (hpl _), evN hp b2⟩
end
end Vx

set_option maxRecDepth 100000
/-! Vx20: built-ins, comprehensions, tests -/
namespace Vx
open PySem L2 PyProof.Rows
section
variable {q : Qx} {X : Cx} {M Ma Mb Mc Mi Me Mt A B : List Nat} {a b c e o : Expr} {es : List Expr} {pos pos' p apos : Pos} {fa fb fc f fe fo fi : Ge → Option (Ge × Rs)} {gs : Ge → Option (Ge × List Rs)} {x : Str} {i : Nat} {ft fu : Ge → Option (Ge × Bool)}
theorem x_len (hm : q.mg "len" = none) (hs : CE q e M f) (hg : GlN q.sc "len" := by rfl) (he : ∀ env, starEach [e] env = (false, eval e env) :: starEach [] env := by intro _; rfl) :
    CE q (.Call (.Name "len" p) [e] [] pos) (M ++ []) (fN gLen (fACons [] f fANil)) := x_cb (fun X h => h.K ▸ call_len) pr_len hm (x_cons hs x_nil he) (by decide +kernel) hg (by decide) (by decide) he fun _ => rfl
theorem x_list (hm : q.mg "list" = none) (hs : CE q e M f) (hg : GlN q.sc "list" := by rfl) (he : ∀ env, starEach [e] env = (false, eval e env) :: starEach [] env := by intro _; rfl) :
    CE q (.Call (.Name "list" p) [e] [] pos) (M ++ []) (fN gList (fACons [] f fANil)) := x_ct (fun X h => h.K ▸ call_list_of) pr_list hm (x_cons hs x_nil he) (by decide +kernel) hg (by decide) (by decide) he fun _ => rfl
theorem x_tuple (hm : q.mg "tuple" = none) (hs : CE q e M f) (hg : GlN q.sc "tuple" := by rfl) (he : ∀ env, starEach [e] env = (false, eval e env) :: starEach [] env := by intro _; rfl) :
    CE q (.Call (.Name "tuple" p) [e] [] pos) (M ++ []) (fN gTuple (fACons [] f fANil)) := x_ct (fun X h => h.K ▸ call_tuple_of) pr_tuple hm (x_cons hs x_nil he) (by decide +kernel) hg (by decide) (by decide) he fun _ => rfl
theorem x_toint (hm : q.mg "int" = none) (hs : CE q e M f) (hg : GlN q.sc "int" := by rfl) (he : ∀ env, starEach [e] env = (false, eval e env) :: starEach [] env := by intro _; rfl) :
    CE q (.Call (.Name "int" p) [e] [] pos) (M ++ []) (fN gInt (fACons [] f fANil)) := x_ct (fun X h => call_int1) pr_int hm (x_cons hs x_nil he) (by decide +kernel) hg (by decide) (by decide) he fun _ => rfl
theorem x_abs (hm : q.mg "abs" = none) (hs : CE q e M f) (hg : GlN q.sc "abs" := by rfl) (he : ∀ env, starEach [e] env = (false, eval e env) :: starEach [] env := by intro _; rfl) :
    CE q (.Call (.Name "abs" p) [e] [] pos) (M ++ []) (fN gAbs (fACons [] f fANil)) := x_cb (fun X h => call_abs) pr_abs hm (x_cons hs x_nil he) (by decide +kernel) hg (by decide) (by decide) he fun _ => rfl
theorem x_all (hm : q.mg "all" = none) (hs : CE q e M f) (hg : GlN q.sc "all" := by rfl) (he : ∀ env, starEach [e] env = (false, eval e env) :: starEach [] env := by intro _; rfl) :
    CE q (.Call (.Name "all" p) [e] [] pos) (M ++ []) (fN gAll (fACons [] f fANil)) := x_cb (fun X h => h.K ▸ cr_all h.calm) pr_all hm (x_cons hs x_nil he) (by decide +kernel) hg (by decide) (by decide) he fun _ => rfl
theorem x_any (hm : q.mg "any" = none) (hs : CE q e M f) (hg : GlN q.sc "any" := by rfl) (he : ∀ env, starEach [e] env = (false, eval e env) :: starEach [] env := by intro _; rfl) :
    CE q (.Call (.Name "any" p) [e] [] pos) (M ++ []) (fN gAny (fACons [] f fANil)) := x_cb (fun X h => h.K ▸ cr_any h.calm) pr_any hm (x_cons hs x_nil he) (by decide +kernel) hg (by decide) (by decide) he fun _ => rfl
theorem x_sum (hm : q.mg "sum" = none) (hs : CE q e M f) (hg : GlN q.sc "sum" := by rfl) (he : ∀ env, starEach [e] env = (false, eval e env) :: starEach [] env := by intro _; rfl) :
    CE q (.Call (.Name "sum" p) [e] [] pos) (M ++ []) (fN gSum (fACons [] f fANil)) := x_cb (fun X h => h.K ▸ cr_sum h.calm) pr_sum hm (x_cons hs x_nil he) (by decide +kernel) hg (by decide) (by decide) he fun _ => rfl
theorem x_max2 {Mc : List Nat} (hm : q.mg "max" = none) (ha : CE q a Ma fa) (hb : CE q b Mb fb) (hg : GlN q.sc "max" := by rfl) (he : ∀ env, starEach [a, b] env = (false, eval a env) :: starEach [b] env := by intro _; rfl)
    (he2 : ∀ env, starEach [b] env = (false, eval b env) :: starEach [] env := by intro _; rfl) (hpl : ∀ env, (backTo pos (starEach [b] env)).any (·.1) = false := by intro _; rfl) (hM : Mb ++ [] = Mc := by rfl) :
    CE q (.Call (.Name "max" p) [a, b] [] pos) (Ma ++ Mc) (fN gMax2 (fACons Mc fa (fACons [] fb fANil))) := by
  subst hM
  exact x_cb (fun X h => call_max2 h.calm) pr_max2 hm (x_cons ha (x_cons hb x_nil he2) he) (by decide +kernel) hg (by decide) (by decide) he hpl
theorem x_min2 {Mc : List Nat} (hm : q.mg "min" = none) (ha : CE q a Ma fa) (hb : CE q b Mb fb) (hg : GlN q.sc "min" := by rfl) (he : ∀ env, starEach [a, b] env = (false, eval a env) :: starEach [b] env := by intro _; rfl)
    (he2 : ∀ env, starEach [b] env = (false, eval b env) :: starEach [] env := by intro _; rfl) (hpl : ∀ env, (backTo pos (starEach [b] env)).any (·.1) = false := by intro _; rfl) (hM : Mb ++ [] = Mc := by rfl) :
    CE q (.Call (.Name "min" p) [a, b] [] pos) (Ma ++ Mc) (fN gMin2 (fACons Mc fa (fACons [] fb fANil))) := by
  subst hM
  exact x_cb (fun X h => call_min2 h.calm) pr_min2 hm (x_cons ha (x_cons hb x_nil he2) he) (by decide +kernel) hg (by decide) (by decide) he hpl
/-- isinstance(e, T), T a built-in type's name -/
theorem x_isi {n : String} {xn : Str} {pn : Pos} (hm : q.mg "isinstance" = none) (hn : q.mg xn = none) (hv : bootBuiltins xn = some (.type n)) (hs : CE q e M f) (hg : GlN q.sc "isinstance" := by rfl) (hgn : GlN q.sc xn := by rfl)
    (hnn : xn ≠ "__name__" := by decide) (hnd : (xn == ("__debug__" : Str)) = false := by decide)
    (he : ∀ env, starEach [e, .Name xn pn] env = (false, eval e env) :: starEach [.Name xn pn] env := by intro _; rfl) : CE q (.Call (.Name "isinstance" p) [e, .Name xn pn] [] pos) M (f1 (gIsi n) f) :=
  let ⟨_, b1, b2⟩ := hs
  ⟨_, fun X h => pe_callB (h.K ▸ call_isi) (h.gl hg) (h.m hm) PyProof.Rows.boot_isinstance (pa_cons (b1 X h) (pa_cons (pe_bltn (v := .ty n) (h.gl hgn) (h.m hn) hv rfl hnn hnd) pa_nil) (he _)) (by decide) (by decide) (he _) rfl, ev_isi b2⟩

/-! ### calls -/
/-- a def of the text behind the top: what it keeps -/
def Cal (P : Program) (w : World) (K : PySem.W.Frag) (cl : Nat → Addr) (mg : Str → Option Value) (base : Heap) (k : Nat) (x : Str) (C : Value) (Mu : List Nat) (sem : List T → Option (Rv × List T)) (dts : List T) : Prop :=
  ∃ (f : Addr) (fd : FuncData) (ps : List Str) (dvs : List V) (ds : List Value), FnOk P w K mg base (L2.CX P w) k f fd ps (spF K cl C Mu sem) ∧ mg x = some (.ref f) ∧ PySem.W.keepIn K (.ref f) = true ∧ Binds K fd ps ds ∧ Vals dvs ds ∧ ∀ Hf, PerAll K Hf dts dvs
theorem x_call {k : Nat} {C : Value} {Mu : List Nat} {sem : List T → Option (Rv × List T)} {dts : List T} (Mr : List Nat) (hc : Cal q.P q.w q.K q.cl q.mg q.base k x C Mu sem dts) (hs : CA q (e :: es) M gs) (hk : Nat.ble k q.k = true := by rfl) (hg : GlN q.sc x := by rfl)
    (hdb : (x == ("__debug__" : Str)) = false := by decide) (he : ∀ env, starEach (e :: es) env = (false, eval e env) :: starEach es env := by intro _; rfl) (hpl : ∀ env, (backTo pos (starEach es env)).any (·.1) = false := by intro _; rfl) :
    CE q (.Call (.Name x p) (e :: es) [] pos) (M ++ Mr) (fCall Mr Mu sem dts gs) := by
  obtain ⟨g, fd, ps, dvs, ds, F, hm, hkp, hb, hd, hv⟩ := hc
  obtain ⟨_, b1, b2⟩ := hs
  refine ⟨_, fun X h => pe_call (h.fnok F) (h.room.mono (Nat.le_of_ble_eq_true hk)) (h.gl hg) (h.m hm) (by rw [h.K]; exact hkp) (by rw [h.K]; exact hb) hd passL (b1 X h) hdb (he _) (hpl _), ev_call (E := E0) Mr hv b2⟩

/-! ### tests -/
theorem y_val (ha : CE q a M fa) (hi : ∀ env whole, isTrue a env whole = (do let v ← whole; standAt a.pos; holding [v] (truthy v)) := by intro _ _; rfl) : CT q a M (fT fa) := let ⟨_, a1, a2⟩ := ha; ⟨_, fun X h => pt_val (a1 X h) (hi _), et_bool a2⟩
theorem y_tru (ha : CE q a M fa) (hi : ∀ env whole, isTrue a env whole = (do let v ← whole; standAt a.pos; holding [v] (truthy v)) := by intro _ _; rfl) : CT q a M (fTr fa) := let ⟨_, a1, a2⟩ := ha; ⟨_, fun X h => h.K ▸ pt_truth (a1 X h) (hi _), et_tru a2⟩
theorem y_cmp {op : CmpOp} {r : R2} {g : T → T → Option T} (ho : ∀ X, Cok q X → OpR X (compareOp op) r) (hp : PR2 q.K q.cl r g) (ha : CE q a Ma fa) (hb : CE q b Mb fb) (hm : behindInMarks op b = false) : CT q (.Compare a [op] [b] pos) (Ma ++ Mb) (fT (f2 Mb g fa fb)) :=
  let ⟨_, a1, a2⟩ := ha; let ⟨_, b1, b2⟩ := hb; ⟨_, fun X h => pt_cmpR (ho X h) (a1 X h) (b1 X h) hm, et_test (ev2 hp a2 b2)⟩
theorem y_lt (ha : CE q a Ma fa) (hb : CE q b Mb fb) : CT q (.Compare a [.Lt] [b] pos) (Ma ++ Mb) (fT (f2 Mb gLt fa fb)) := y_cmp (fun _ _ => op_lt) pr_lt ha hb (nomark _)
theorem y_le (ha : CE q a Ma fa) (hb : CE q b Mb fb) : CT q (.Compare a [.LtE] [b] pos) (Ma ++ Mb) (fT (f2 Mb gLe fa fb)) := y_cmp (fun _ _ => op_le) pr_le ha hb (nomark _)
theorem y_gt (ha : CE q a Ma fa) (hb : CE q b Mb fb) : CT q (.Compare a [.Gt] [b] pos) (Ma ++ Mb) (fT (f2 Mb gGt fa fb)) := y_cmp (fun _ _ => op_gt) pr_gt ha hb (nomark _)
theorem y_ge (ha : CE q a Ma fa) (hb : CE q b Mb fb) : CT q (.Compare a [.GtE] [b] pos) (Ma ++ Mb) (fT (f2 Mb gGe fa fb)) := y_cmp (fun _ _ => op_ge) pr_ge ha hb (nomark _)
theorem y_eq (ha : CE q a Ma fa) (hb : CE q b Mb fb) : CT q (.Compare a [.Eq] [b] pos) (Ma ++ Mb) (fT (f2 Mb gEq fa fb)) := y_cmp (fun X h => h.K ▸ op_eqD h.u64) pr_eq ha hb (nomark _)
theorem y_ne (ha : CE q a Ma fa) (hb : CE q b Mb fb) : CT q (.Compare a [.NotEq] [b] pos) (Ma ++ Mb) (fT (f2 Mb gNe fa fb)) := y_cmp (fun X h => h.K ▸ op_neD h.u64) pr_ne ha hb (nomark _)
theorem y_isN (ha : CE q a Ma fa) (hb : CE q b Mb fb) : CT q (.Compare a [.Is] [b] pos) (Ma ++ Mb) (fT (f2 Mb (gIsN false) fa fb)) := y_cmp (fun _ _ => op_isN) pr_isN ha hb (nomark _)
theorem y_notN (ha : CE q a Ma fa) (hb : CE q b Mb fb) : CT q (.Compare a [.IsNot] [b] pos) (Ma ++ Mb) (fT (f2 Mb (gIsN true) fa fb)) := y_cmp (fun _ _ => op_notN) pr_notN ha hb (nomark _)
theorem y_inT (ha : CE q a Ma fa) (hb : CE q b Mb fb) (hm : behindInMarks .In b = false := by with_unfolding_all rfl) : CT q (.Compare a [.In] [b] pos) (Ma ++ Mb) (fT (f2 Mb (gInT false) fa fb)) := y_cmp (fun X h => h.K ▸ op_in_seq) pr_inT ha hb hm
theorem y_ninT (ha : CE q a Ma fa) (hb : CE q b Mb fb) (hm : behindInMarks .NotIn b = false := by with_unfolding_all rfl) : CT q (.Compare a [.NotIn] [b] pos) (Ma ++ Mb) (fT (f2 Mb (gInT true) fa fb)) := y_cmp (fun X h => h.K ▸ op_notIn_seq) pr_inT ha hb hm
theorem y_inD (ha : CE q a Ma fa) (hb : CE q b Mb fb) (hm : behindInMarks .In b = false := by with_unfolding_all rfl) : CT q (.Compare a [.In] [b] pos) (Ma ++ Mb) (fT (f2 Mb (gInD false) fa fb)) := y_cmp (fun X h => h.K ▸ op_inD h.u65) pr_inD ha hb hm
theorem y_ninD (ha : CE q a Ma fa) (hb : CE q b Mb fb) (hm : behindInMarks .NotIn b = false := by with_unfolding_all rfl) : CT q (.Compare a [.NotIn] [b] pos) (Ma ++ Mb) (fT (f2 Mb (gInD true) fa fb)) := y_cmp (fun X h => h.K ▸ op_notInD h.u65) pr_notInD ha hb hm
theorem y_ch {op op' : CmpOp} {r r' : R2} {g g' : T → T → Option T} (ho : ∀ X, Cok q X → OpR X (compareOp op) r) (ho' : ∀ X, Cok q X → OpR X (compareOp op') r') (hp : PR2 q.K q.cl r g) (hp' : PR2 q.K q.cl r' g') (ha : CE q a Ma fa) (hb : CE q b Mb fb) (hc : CE q c Mc fc)
    (hm : lastMarks [op, op'] [b, c] = false := by with_unfolding_all rfl) : CT q (.Compare a [op, op'] [b, c] pos) ((Ma ++ Mb) ++ Mc) (fT (fCh Mb Mc g g' fa fb fc)) :=
  let ⟨_, a1, a2⟩ := ha; let ⟨_, b1, b2⟩ := hb; let ⟨_, c1, c2⟩ := hc; ⟨_, fun X h => pt_chain (ho X h) (ho' X h) (a1 X h) (b1 X h) (c1 X h) hm, et_test (ev_ch hp hp' a2 b2 c2)⟩
theorem y_not (ha : CT q a Ma ft) : CT q (.UnaryOp .Not a pos) Ma (fNot ft) := let ⟨_, a1, a2⟩ := ha; ⟨_, fun X h => pt_not (a1 X h), et_not a2⟩
theorem w_and1 (ha : CT q a M ft) : CW q (.BoolOp .And [a] pos) M ft := let ⟨_, a1, a2⟩ := ha; ⟨_, fun X h => pw_and1 (a1 X h), a2⟩
theorem w_or1 (ha : CT q a M ft) : CW q (.BoolOp .Or [a] pos) M ft := let ⟨_, a1, a2⟩ := ha; ⟨_, fun X h => pw_or1 (a1 X h), a2⟩
theorem w_and {rest : List Expr} (ha : CT q a Ma ft) (hb : CW q (.BoolOp .And (b :: rest) pos) Mb fu) : CW q (.BoolOp .And (a :: b :: rest) pos) (Ma ++ Mb) (fAnd ft fu) := let ⟨_, a1, a2⟩ := ha; let ⟨_, b1, b2⟩ := hb; ⟨_, fun X h => pw_and (a1 X h) (b1 X h), et_and a2 b2⟩
theorem w_or {rest : List Expr} (ha : CT q a Ma ft) (hb : CW q (.BoolOp .Or (b :: rest) pos) Mb fu) : CW q (.BoolOp .Or (a :: b :: rest) pos) (Ma ++ Mb) (fOr ft fu) := let ⟨_, a1, a2⟩ := ha; let ⟨_, b1, b2⟩ := hb; ⟨_, fun X h => pw_or (a1 X h) (b1 X h), et_or a2 b2⟩
theorem y_w (h : CW q a M ft) : CT q a M ft := let ⟨t, a1, a2⟩ := h; ⟨t, fun X h => (a1 X h).pt, a2⟩
theorem y_nil : CTs q [] [] (fun Γ => some (Γ, true)) := ⟨_, fun _ _ => pts_nil, et_yes⟩
theorem y_one (h : CT q a M ft) : CTs q [a] M ft := let ⟨t, a1, a2⟩ := h; ⟨t, fun X h => pts_one (a1 X h), a2⟩

/-! ### targets, what is walked -/
theorem g_name (i : Nat) (hN : q.N[i]? = some x := by rfl) (hl : q.sc.names.lookup x = some .local := by rfl) : CG q (.Name x pos) [i] (fNm i) :=
  ⟨_, fun X h => pg_name h.nd (h.ix hN) (.inl (by rw [h.sc]; exact hl)) (.inr (by rw [h.sc]; exact hl)), tg_name⟩
theorem g_nil : CGs q [] [] fTNil := ⟨_, fun _ _ => pgs_nil, tgs_nil⟩
theorem i_sq {tg l : Expr} (h : CE q l M f) : CI q tg l M (fSrc f) := let ⟨_, a1, a2⟩ := h; ⟨_, fun X h => h.K ▸ pi_sq (a1 X h), sv_sq a2⟩
theorem i_r1 {tg : Expr} (hm : q.mg "range" = none) (ha : CE q a Ma fa) (hg : GlN q.sc "range" := by rfl) (he : ∀ env, starEach [a] env = [(false, eval a env)] := by intro _; rfl) :
    CI q tg (.Call (.Name "range" p) [a] [] pos) (Ma ++ []) (fR1 (fACons [] fa fANil)) := let ⟨_, b1, b2⟩ := x_cons ha x_nil he; ⟨_, fun X h => pi_range1 (h.gl hg) (h.m hm) (b1 X h) (he _), sv_r1 b2⟩
theorem i_r2 {tg : Expr} {Mc : List Nat} (hm : q.mg "range" = none) (ha : CE q a Ma fa) (hb : CE q b Mb fb) (hg : GlN q.sc "range" := by rfl) (he : ∀ env, starEach [a, b] env = [(false, eval a env), (false, eval b env)] := by intro _; rfl) (he2 : ∀ env, starEach [b] env = [(false, eval b env)] := by intro _; rfl) (hM : Mb ++ [] = Mc := by rfl) :
    CI q tg (.Call (.Name "range" p) [a, b] [] pos) (Ma ++ Mc) (fR2 (fACons Mc fa (fACons [] fb fANil))) := by
  subst hM
  exact let ⟨_, b1, b2⟩ := x_cons ha (x_cons hb x_nil he2) (fun env => (he env).trans (by rw [he2])); ⟨_, fun X h => pi_range2 (h.gl hg) (h.m hm) (b1 X h) (he _) (he2 _), sv_r2 b2⟩

/-! ### comprehensions -/
/-- a block's scope as it runs within a def of scope sc -/
def rlb (scope sc : Scope) : Scope := { scope with names := scope.names.map fun (n, k) => if (k == .free && sc.kind == .function && sc.names.lookup n == some .cell) then (n, .cell) else (n, k) }
theorem rlb_is {scope : Scope} {env : Env} {sc : Scope} (h : env.scope = sc) : relabel scope env = rlb scope sc := by
  subst h
  rfl
def Qx.blk (q : Qx) (scope : Scope) : Qx := { q with sc := rlb scope q.sc }
theorem Cok.blk (h : Cok q X) {s : Shared} {H : Hp} {scope : Scope} {C : Addr} {cl : List (Str × Addr)} {fp : List Addr} : Cok (q.blk scope) (X.blk s H scope (compEnvC scope cl C X.env) fp) :=
  ⟨h.prog, h.w, h.K, h.mg, h.base, h.N, h.nd, rlb_is h.sc, h.room, h.calm⟩
theorem x_lc {tg : Expr} {ifs : List Expr} {scope : Scope} {fs : Ge → Option (Ge × Rs × List T)} {fg : Ge → T → Option Ge} {Ml vs : List Nat} (own : List (Str × Nat)) (Mf : List Nat) (hi : CI q tg e M fs) (hg : CG (q.blk scope) tg A fg) (ht : CTs (q.blk scope) ifs Mt ft) (he : CE (q.blk scope) a Me fe)
    (hv : own.map (·.2) = vs := by rfl) (hl : vs ++ (Mt ++ (Me ++ Mf)) = Ml := by rfl) (hb : blkC q.N q.sc scope own = true := by (dsimp only [Qx.blk]; decide +kernel)) (hA : (A.all fun i => vs.contains i) = true := by rfl) (hs : ∀ env x, foldedSetIterable e env x = pure x := by intro _ _; rfl) :
    CE q (.ListComp a [⟨tg, e, ifs, 0⟩] scope pos) (M ++ Ml) (fLc Mf Ml vs fs fg ft fe) := by
  subst hv hl
  obtain ⟨_, a1, a2⟩ := hi
  obtain ⟨_, b1, b2⟩ := hg
  obtain ⟨_, c1, c2⟩ := ht
  obtain ⟨_, d1, d2⟩ := he
  exact ⟨_, fun X h => pe_lc h.calm h.nd (a1 X h) (by rw [h.N, h.sc]; exact blkOk_by hb) (fun _ _ _ _ _ => b1 _ h.blk) (fun _ _ _ _ _ => c1 _ h.blk) (fun _ _ _ _ _ => d1 _ h.blk) (hs _),
    ev_lc Mf a2 b2 (fun i m => List.contains_iff_mem.mp (List.all_eq_true.mp hA i m)) c2 d2⟩
end
end Vx

set_option maxRecDepth 100000
/-! Vx21: statements and bodies -/
namespace Vx
open PySem L2 PyProof.Rows
theorem op_getL {X : Cx} : PGet X (rIxL X.K) := by
  intro pins s σ H o i ov iv Q I ro ri h
  obtain ⟨p, xs, k, z, rfl, rfl, hq, he, hQ⟩ := h
  cases ro
  obtain ⟨t, rfl⟩ := ri
  obtain ⟨its, r, pl, hz⟩ := I.list hq
  obtain ⟨j, h1, h2, h3, h4, h5⟩ := atI_get he
  obtain ⟨w, ew, rw'⟩ := r.get h2
  have hl := r.length
  have hn := line63
  have fin : EP X pins σ Q w s := ⟨z, H, I, rw', hQ⟩
  by_cases h0 : 0 ≤ k
  · have hj : k.toNat = j := by
      rw [seqIndex_of h0 h5] at h1
      exact Option.some.inj h1
    exact wpAny_getItem_list pl.isList h0 (by omega) (by rw [hj]; simpa using ew) fin
  · have hj : (k + (its.toArray.size : Int)).toNat = j := by
      rw [seqIndex_neg (by omega) h4] at h1
      rw [List.size_toArray, ← hl]
      exact Option.some.inj h1
    exact wpAny_getItem_list_neg pl.isList (by omega) (by rw [List.size_toArray] <;> omega) (by omega) (by rw [hj]; simpa using ew) fin
section
variable {K : PySem.W.Frag} {cl : Nat → Addr}
/-- an item of an owned list alone -/
def gIxL : T → T → Option (Nat × T)
  | .ow false .lst xs, .v (.int i) => itm xs i
  | _, _ => none
theorem prx_ixL : PRx K cl (rIxL K) gIxL := fun Hf H x y tx ty c n Fx Fy w rx ry e => by
  unfold gIxL at e
  split at e
  · rename_i xs i
    cases ry.1
    obtain ⟨e2, e3⟩ := itm_some e
    obtain ⟨a, dx, vs, G, rfl, h2, h3, h4, h5, h6, h7⟩ := rx
    obtain ⟨z, z1, z2⟩ := h7.get e3
    have hl := h7.len
    have ha : atI vs i = some z := by unfold atI; rw [← hl, e2]; exact z1
    rw [Nat.zero_add] at z2
    exact ⟨z, ⟨⟨G n, z2, fun b g => (h5 n b g).1⟩, fun _ => ⟨⟨a, _, z, rfl, h4.2, z1, rfl⟩, _, _, xs, rfl, e3⟩⟩, fun Q q => ⟨a, vs, i, z, rfl, rfl, SqL.of h4.2, ha, q⟩⟩
  · cases e
/-- a class of exceptions -/
structure XcC (K : PySem.W.Frag) (mg : Str → Option Value) (x : Str) (C : Addr) (B nw ini : String) (bm : List Value) : Prop where
  F : ExcBaseFacts B nw ini bm
  q : PySem.W.excIn K C bm nw = true
  gC : mg x = some (.ref C)
  kC : PySem.W.keepIn K (.ref C) = true
  sB : PySem.W.subIn K (.ref C) (.type "BaseException") = some true
  tC : PySem.W.typeIn K (.ref C) = some (.type "type")
  ex : PySem.W.exmOne K (.ref C) (.ref C) = some true
end
theorem pmk_own0 {X : Cx} {C : Addr} {bmB : List Value} {B newId initId : String} {x : Str} {p pos : Pos} (F : ExcBaseFacts B newId initId bmB) (q : PySem.W.excIn X.K C bmB newId = true) (gC : X.mg x = some (.ref C)) (kC : PySem.W.keepIn X.K (.ref C) = true) (r : Raises X (.ref C)) (hg : Gl X x)
    (hdb : (x == ("__debug__" : Str)) = false := by decide) : PMk X (.Call (.Name x p) [] [] pos) (fun _ H Q => Q (.ref C) none H) := by
  intro pins s σ H Q I h
  refine wpAny_Call_Name_kw (ld_glob I hg gC ?_ hdb)
  refine PySem.W.callWith_K0 I.kIn kC ?_
  show wpAny _ _ (call (.ref C) []) _ _ _
  obtain ⟨bm, N, nm, qn, bs, hdct, sn, sub, ab, col, dd, k0, k1, k2, k3, k5, mN, hC, hN, hni, T⟩ := exc_obj I.kIn q
  obtain ⟨hp, g, d, tk, os⟩ := s
  refine wpAny_call_exc_subT F T hC hN hni (fun h' e hm => ?_) (by show 0 ≤ sizeLine; rw [sizeLine_eq]; omega)
  exact mk_of I hm r h (I.hok.gone hm.new)
section
variable {q : Qx} {X : Cx} {W : WX} {C : Value} {M Ma Mb Mc Mi Me Mt Mv Mo A B : List Nat} {a b c e o i2 : Expr} {es : List Expr} {pos pos' p apos tpos : Pos} {fa fb fc f fe fo fi fv : Ge → Option (Ge × Rs)} {gs : Ge → Option (Ge × List Rs)} {x : Str} {i : Nat} {ft fu : Ge → Option (Ge × Bool)} {st : Stmt} {sts : List Stmt} {g g' : Ge → Option Out}
theorem b_nil : CB q W C [] [] [] gNx := ⟨_, fun _ _ => pss_nil, st_next⟩
theorem b_cons (h : CS q W C A Ma st g) (k : CB q W C B Mb sts g') : CB q W C (A ++ B) (Ma ++ Mb) (st :: sts) (gSeq g g') := let ⟨_, a1, a2⟩ := h; let ⟨_, b1, b2⟩ := k; ⟨_, fun X h => pss_cons (a1 X h) (b1 X h), st_seq a2 b2⟩
theorem b_one (h : CS q W C A Ma st g) : CB q W C A Ma [st] g := let ⟨t, a1, a2⟩ := h; ⟨t, fun X h => pss_one (a1 X h), a2⟩
theorem s_pass : CS q W C [] [] (.Pass pos) gNx := ⟨_, fun _ _ => ps_pass, st_next⟩
theorem s_doc {s : Str} {j : Nat} : CS q W C [] [] (.Expr (.Constant (.str s) j pos) pos') gNx := ⟨_, fun _ _ => ps_doc, st_next⟩
theorem s_break : CS q W C [] [] (.Break pos) gBk := ⟨_, fun _ _ => ps_break, st_break⟩
theorem s_cont : CS q W C [] [] (.Continue pos) gCt := ⟨_, fun _ _ => ps_continue, st_cont⟩
theorem s_if (hc : CT q c Mc ft) (h : CB q W C A Ma sts g) {sts' : List Stmt} (k : CB q W C B Mb sts' g') : CS q W C (A ++ B) (Mc ++ (Ma ++ Mb)) (.If c sts sts' pos) (gIf ft g g') :=
  let ⟨_, c1, c2⟩ := hc; let ⟨_, a1, a2⟩ := h; let ⟨_, b1, b2⟩ := k; ⟨_, fun X h => ps_if (c1 X h.toCok) (a1 X h) (b1 X h), st_if c2 a2 b2⟩
theorem s_set (i : Nat) (Mf : List Nat) (h : CE q e M f) (hN : q.N[i]? = some x := by rfl) (hx : Loc q.sc x := by first | exact .inl rfl | exact .inr rfl) (hs : ∀ env, swapsWith e (some (.Name x pos')) pos.line env = pure false := by intro _; rfl) :
    CS q W C [i] ((M ++ Mf) ++ [i]) (.Assign [.Name x pos'] e pos) (gSet Mf i f) := let ⟨_, a1, a2⟩ := h; ⟨_, fun X h => ps_set h.nd (h.ix hN) (by rw [h.sc]; exact hx) (a1 X h.toCok) (hs _) (.inl (h.fn _)), st_set Mf a2⟩
theorem s_ret (Mf : List Nat) (h : CE q e M f) : CS q W C [] (M ++ Mf) (.Return (some e) pos) (gRet Mf f) := let ⟨_, a1, a2⟩ := h; ⟨_, fun X h => ps_ret (a1 X h.toCok), st_ret Mf a2⟩
theorem s_retN : CS q W C [] [] (.Return none pos) gRetN := ⟨_, fun X h => ps_retN, st_retN⟩
theorem s_drop (h : CE q e M f) (hs : ∀ env, swapsWith e none pos.line env = pure false := by intro _; rfl) : CS q W C [] M (.Expr e pos) (gDrop f) := let ⟨_, a1, a2⟩ := h; ⟨_, fun X h => ps_expr (a1 X h.toCok) (hs _), st_drop a2⟩
theorem s_asT {tg : Expr} {fg : Ge → T → Option Ge} (h : CE q e M f) (hg : CG q tg A fg) (hs : ∀ env, swapsWithSole [tg] e pos.line env = pure false := by intro _; rfl) (hw : ∀ env, swappedStores [tg] e env = pure none := by intro _; rfl)
    (h1 : ∀ env, (assignEach [tg] env).map (·.2) = [assign tg env] := by intro _; rfl) : CS q W C A (M ++ A) (.Assign [tg] e pos) (gAsT fg f) := let ⟨_, a1, a2⟩ := h; let ⟨_, b1, b2⟩ := hg; ⟨_, fun X h => ps_asg (a1 X h.toCok) (b1 X h.toCok) (hs _) (hw _) (h1 _), st_asT a2 b2⟩
theorem s_aug {op : Operator} {tp : TIp} {gg : T → T → Option T} (i : Nat) (ho : ∀ X, Cok q X → PIp X op tp) (hp : PR2 q.K q.cl tp gg) (h : CE q e M f) (hN : q.N[i]? = some x := by rfl) (hx : Loc q.sc x := by first | exact .inl rfl | exact .inr rfl) :
    CS q W C [i] (M ++ [i]) (.AugAssign (.Name x pos') op e pos) (gAug M i gg f) := let ⟨_, a1, a2⟩ := h; ⟨_, fun X h => ps_aug h.nd (h.ix hN) (by rw [h.sc]; exact hx) (a1 X h.toCok) (ho X h.toCok) (.inl (h.fn _)), st_aug hp a2⟩
theorem ip2 {K : PySem.W.Frag} {cl : Nat → Addr} {h : Int → Int → Int} : PR2 K cl (ipI h) (gI fun i j => some (.int (h i j))) := fun Hf H x y tx ty tz Fx Fy w rx ry e Q q => by
  obtain ⟨i, j, v, rfl, rfl, e1, rfl⟩ := gI_some e
  cases e1
  exact ⟨i, j, rx.1, ry.1, q Hf H _ No (Al.refl w) ⟨rfl, rfl⟩⟩
theorem s_augA (i : Nat) (h : CE q e M f) (hN : q.N[i]? = some x := by rfl) (hx : Loc q.sc x := by first | exact .inl rfl | exact .inr rfl) : CS q W C [i] (M ++ [i]) (.AugAssign (.Name x pos') .Add e pos) (gAug M i gAdd f) := s_aug i (fun _ _ => ip_add) ip2 h hN hx
theorem s_augM (i : Nat) (h : CE q e M f) (hN : q.N[i]? = some x := by rfl) (hx : Loc q.sc x := by first | exact .inl rfl | exact .inr rfl) : CS q W C [i] (M ++ [i]) (.AugAssign (.Name x pos') .Sub e pos) (gAug M i Vx.gSub f) := s_aug i (fun _ _ => ip_sub) ip2 h hN hx
/-- o[i] = v, o a list -/
theorem s_stL (Mr Mf : List Nat) (hv : CE q e Mv fv) (ho : CE q o Mo fo) (hi : CE q i2 Mi fi) (ha : ∀ env v, assign (.Subscript o i2 pos') env v = (do
      let ov ← holding [v] (eval o env)
      let iv ← holding [v, ov] (eval i2 env)
      standAt pos'
      holding [v, ov, iv] (setItem ov iv v)
      release [v, ov, iv] []) := by intro _ _; rfl) (hs : ∀ env, swapsWithSole [.Subscript o i2 pos'] e pos.line env = pure false := by intro _; rfl) (hw : ∀ env, swappedStores [.Subscript o i2 pos'] e env = pure none := by intro _; rfl)
    (h1 : ∀ env, (assignEach [.Subscript o i2 pos'] env).map (·.2) = [assign (.Subscript o i2 pos') env] := by intro _; rfl) : CS q W C [] (((Mv ++ (Mo ++ Mi)) ++ Mf) ++ Mr) (.Assign [.Subscript o i2 pos'] e pos) (gSt Mr Mf Mo Mi gSetL fv fo fi) :=
  let ⟨_, a1, a2⟩ := hv; let ⟨_, b1, b2⟩ := ho; let ⟨_, c1, c2⟩ := hi
  ⟨_, fun X h => ps_asg (a1 X h.toCok) (pg_sub (b1 X h.toCok) (c1 X h.toCok) set_list (ha _)) (hs _) (hw _) (h1 _), by
    rw [sSt_asg]
    exact st_st Mr Mf prm_setL a2 b2 c2⟩
/-- d[y] = v -/
theorem s_stD (Mr Mf : List Nat) (hv : CE q e Mv fv) (ho : CE q o Mo fo) (hi : CE q i2 Mi fi) (hs : ∀ env, swapsWith e (some (.Subscript o i2 pos')) pos.line env = pure false := by intro _; rfl) :
    CS q W C [] (((Mv ++ (Mo ++ Mi)) ++ Mf) ++ Mr) (.Assign [.Subscript o i2 pos'] e pos) (gSt Mr Mf Mo Mi gPut fv fo fi) :=
  let ⟨_, a1, a2⟩ := hv; let ⟨_, b1, b2⟩ := ho; let ⟨_, c1, c2⟩ := hi
  ⟨_, fun X h => ps_dput h.u1 (b1 X h.toCok) (c1 X h.toCok) (a1 X h.toCok) (hs _), by
    rw [sSt_put]
    exact st_st Mr Mf prm_put a2 b2 c2⟩
theorem s_agL {op : Operator} {tp : TIp} {gg : T → T → Option T} (Mr : List Nat) (hop : ∀ X, Cok q X → PIp X op tp) (hp : PR2 q.K q.cl tp gg) (ho : CE q o Mo fo) (hi : CE q i2 Mi fi) (he : CE q e Me fe)
    (ha : ∀ ov iv new, augStore i2 ov iv new = (do holding [new, ov, iv] (setItem ov iv new); release [new, ov, iv] []; pure .next) := by intros; rfl) :
    CS q W C [] ((Mo ++ (Mi ++ Me)) ++ Mr) (.AugAssign (.Subscript o i2 tpos) op e pos) (gAugS Mr Mi Me gIxL gg gSetL fo fi fe) :=
  let ⟨_, a1, a2⟩ := ho; let ⟨_, b1, b2⟩ := hi; let ⟨_, c1, c2⟩ := he
  ⟨_, fun X h => ps_augS (a1 X h.toCok) (b1 X h.toCok) (h.K ▸ op_getL) (c1 X h.toCok) (hop X h.toCok) set_list ha, st_augS Mr prx_ixL hp prm_setL a2 b2 c2⟩
theorem s_agLA (Mr : List Nat) (ho : CE q o Mo fo) (hi : CE q i2 Mi fi) (he : CE q e Me fe) (ha : ∀ ov iv new, augStore i2 ov iv new = (do holding [new, ov, iv] (setItem ov iv new); release [new, ov, iv] []; pure .next) := by intros; rfl) :
    CS q W C [] ((Mo ++ (Mi ++ Me)) ++ Mr) (.AugAssign (.Subscript o i2 tpos) .Add e pos) (gAugS Mr Mi Me gIxL gAdd gSetL fo fi fe) := s_agL Mr (fun _ _ => ip_add) ip2 ho hi he ha
theorem s_for {tg : Expr} {Ml : List Nat} {fs : Ge → Option (Ge × Rs × List T)} {fg : Ge → T → Option Ge} (hi : CI q tg e M fs) (hg : CG q tg A fg) (hb : CB q W C B Mb sts g) (hl : A ++ Mb = Ml := by rfl) (hs : ∀ env x, foldedSetIterable e env x = pure x := by intro _ _; rfl) :
    CS q W C (A ++ B) (M ++ Ml) (.For tg e sts [] pos) (gFor Ml fs fg g) := by
  subst hl
  exact let ⟨_, a1, a2⟩ := hi; let ⟨_, b1, b2⟩ := hg; let ⟨_, c1, c2⟩ := hb; ⟨_, fun X h => ps_for h.own h.calm (a1 X h.toCok) (b1 X h.toCok) (c1 X h) (hs _), st_for a2 b2 c2⟩
theorem s_while (n : Nat) (hc : CT q c Mc ft) (hb : CB q W C B Mb sts g) : CS q W C B (Mc ++ Mb) (.While c sts [] pos) (whGo ft g n) := let ⟨_, a1, a2⟩ := hc; let ⟨_, c1, c2⟩ := hb; ⟨_, fun X h => ps_while h.own (a1 X h.toCok) (c1 X h), st_while n a2 c2⟩
/-- raise C() -/
theorem s_raise0 {Ca : Addr} {B nw ini : String} {bm : List Value} (hX : XcC q.K q.mg x Ca B nw ini bm) (hg : GlN q.sc x := by rfl) (hdb : (x == ("__debug__" : Str)) = false := by decide) : CS q W (.ref Ca) [] [] (.Raise (some (.Call (.Name x p) [] [] pos')) none pos) gRaise :=
  ⟨_, fun X h => ps_raise h.calm h.takes (pmk_own0 hX.F (by rw [h.K]; exact hX.q) (h.m hX.gC) (by rw [h.K]; exact hX.kC) (raises_own (by rw [h.K]; exact hX.sB) (by rw [h.K]; exact hX.tC)) (h.gl hg) hdb), st_raise⟩
theorem s_raise1 {Ca : Addr} {B nw ini : String} {bm : List Value} {m : Str} {j : Nat} {p2 : Pos} (hX : XcC q.K q.mg x Ca B nw ini bm) (hg : GlN q.sc x := by rfl) (hdb : (x == ("__debug__" : Str)) = false := by decide) : CS q W (.ref Ca) [] [] (.Raise (some (.Call (.Name x p) [.Constant (.str m) j p2] [] pos')) none pos) gRaise :=
  ⟨_, fun X h => ps_raise h.calm h.takes (pmk_own hX.F (by rw [h.K]; exact hX.q) (h.m hX.gC) (by rw [h.K]; exact hX.kC) (raises_own (by rw [h.K]; exact hX.sB) (by rw [h.K]; exact hX.tC)) (h.gl hg) hdb), st_raise⟩

end
end Vx

set_option maxRecDepth 100000
/-! Vx22: calls that may raise, try; a def of the text -/
namespace Vx
open PySem L2 PyProof.Rows
section
variable {K : PySem.W.Frag} {cl : Nat → Addr} {Hf Hf' H H' : Hp} {E : L2.St → Hp → Prop} {M Ma Mu A : List Nat} {te : TE} {ta : TA} {fa : Ge → Option (Ge × List Rs)}
/-- an expression that may raise -/
def EvXOk (K : PySem.W.Frag) (cl : Nat → Addr) (E : L2.St → Hp → Prop) (M : List Nat) (te : TE) (f : Ge → Option (Ge × Option Rs)) : Prop :=
  ∀ (Hf H : Hp) (σ : L2.St) (Γ : Ge) (R : Nat → Rg), ER K cl Hf H σ Γ R → ∀ Γ' r, f Γ = some (Γ', r) → ∀ Q : VK,
    (∀ Hf' H' R' S v r', r = some r' → Stp Hf H R M Hf' H' R' S → ER K cl Hf' H' σ Γ' R' → (∀ i, i ∉ M → Γ'[i]? = Γ[i]?) → RsOk K cl Hf' H' σ Γ' R' r' v S → Q v H') →
    (∀ Hf' H' R', r = none → Stp Hf H R M Hf' H' R' No → ER K cl Hf' H' σ Γ' R' → (∀ i, i ∉ M → Γ'[i]? = Γ[i]?) → E σ H') → te σ H Q
def exS (sem : List T → Option (Rv × List T)) : List T → Option (Rv × List T) := fun ts => match sem ts with
  | some (.exc, us) => some (.ret (.v .non), us)
  | _ => none
theorem spF_exc {C : Value} {sem : List T → Option (Rv × List T)} {vs : List V} {Q : VK} {E : XK} (h : spF K cl C Mu (exS sem) vs H (fun _ H' => E C none H') E) : spF K cl C Mu sem vs H Q E := by
  obtain ⟨Hf, ts, R, r, us, I, hR, e, hl, k⟩ := h
  unfold exS at e
  split at e
  · rename_i us' e1
    cases e
    exact ⟨Hf, ts, R, .exc, us, I, hR, e1, hl, fun Hf' H' R' st I' => k Hf' H' R' No .non st I' ⟨⟨rfl, rfl⟩, fun _ _ z => z.elim, fun _ z => z.elim⟩⟩
  · cases e
def fCallX (Mr Mu : List Nat) (sem : List T → Option (Rv × List T)) (dts : List T) (fa : Ge → Option (Ge × List Rs)) : Ge → Option (Ge × Option Rs) := fun Γ => match fCall Mr Mu sem dts fa Γ with
  | some p => some (p.1, some p.2)
  | none => (fCall Mr Mu (exS sem) dts fa Γ).map fun p => (p.1, none)
theorem ev_callX {C : Value} {sem : List T → Option (Rv × List T)} {dvs : List V} {dts : List T} {Es : L2.St → XK} (Mr : List Nat) (hd : ∀ Hf, PerAll K Hf dts dvs) (ha : EvAOk K cl M ta fa) :
    EvXOk K cl (fun σ H => Es σ C none H) (M ++ Mr) (tCallSD (spF K cl C Mu sem) dvs Es ta) (fCallX Mr Mu sem dts fa) := fun Hf H σ Γ R I Γ' r0 e Q q qx => by
  unfold fCallX at e
  cases e1 : fCall Mr Mu sem dts fa Γ with
  | some p =>
    rw [e1] at e
    cases e
    exact ev_call (E := Es σ) Mr hd ha Hf H σ Γ R I p.1 p.2 e1 Q fun Hf' H' R' S v st I' g rs => q Hf' H' R' S v p.2 rfl st I' g rs
  | none =>
    rw [e1] at e
    cases e2 : fCall Mr Mu (exS sem) dts fa Γ with
    | none => rw [e2] at e; cases e
    | some p =>
      rw [e2] at e
      cases e
      have go : ∀ Q' : VK, (∀ Hf' H' R' S v, Stp Hf H R (M ++ Mr) Hf' H' R' S → ER K cl Hf' H' σ p.1 R' → (∀ i, i ∉ M ++ Mr → p.1[i]? = Γ[i]?) → RsOk K cl Hf' H' σ p.1 R' p.2 v S → Q' v H') → ta σ H fun vs H1 => spF K cl C Mu (exS sem) (vs ++ dvs) H1 Q' (Es σ) :=
        fun Q' q' => ev_call (E := Es σ) Mr hd ha Hf H σ Γ R I p.1 p.2 e2 Q' q'
      -- the same arguments, the promise read the other way
      unfold fCall at e2
      cases e3 : fa Γ with
      | none => rw [e3] at e2; cases e2
      | some p3 =>
        obtain ⟨Γ1, rs⟩ := p3
        rw [e3, Option.bind_some] at e2
        dsimp only at e2
        split at e2
        · rename_i hc
          rw [Bool.and_eq_true] at hc
          cases e4 : getTs Γ1 rs with
          | none => rw [e4] at e2; cases e2
          | some ts =>
            rw [e4, Option.bind_some] at e2
            cases e5 : runS (exS sem) (ts ++ dts) with
            | none => rw [e5] at e2; cases e2
            | some ro =>
              obtain ⟨t, us⟩ := ro
              rw [e5, Option.bind_some] at e2
              dsimp only at e2
              cases e6 : putBack Mu 0 Γ1 rs us with
              | none => rw [e6] at e2; cases e2
              | some Γ2 =>
                rw [e6, Option.map_some] at e2
                cases e2
                obtain ⟨f1, f2⟩ := runS_some e5
                refine ha Hf H σ Γ R I Γ1 rs e3 _ fun Hf1 H1 R1 Ss vs st1 I1 g1 rs1 => ?_
                refine spF_exc ?_
                refine call_core I1 rs1 e4 hc.1 (hd Hf1) f1 f2 e6 (fun k i π a b => argsIn_ok hc.2 k i π a (by rw [Nat.zero_add]; exact b)) (fun _ H' => Es σ C none H') fun Hf2 H2 R2 S2 v2 st2 I2 g2 r2 _ => ?_
                exact qx Hf2 H2 R2 rfl (st1.then3 st2).noS I2 fun i n => (g2 i fun z => n (List.mem_append_right _ z)).trans (g1 i fun z => n (List.mem_append_left _ z))
        · cases e2
def gDropX (f : Ge → Option (Ge × Option Rs)) : Ge → Option Out := fun Γ => match f Γ with
  | some (Γ', some _) => some (.nx Γ')
  | some (Γ', none) => some (.ex Γ')
  | none => none
theorem st_dropX {f : Ge → Option (Ge × Option Rs)} (h : EvXOk K cl E M te f) : StOk K cl E [] M (tDrop te) (gDropX f) := fun Hf H σ Γ R I o e D fin => by
  unfold gDropX at e
  split at e
  · rename_i Γ' r e1
    cases e
    exact h Hf H σ Γ R I Γ' _ e1 _ (fun Hf1 H1 R1 S1 v1 r' er st1 I1 g1 r1 => fin Hf1 H1 σ R1 st1.noS I1 ⟨fun _ _ => rfl, g1, rfl⟩) fun Hf1 H1 R1 er => by cases er
  · rename_i Γ' e1
    cases e
    exact h Hf H σ Γ R I Γ' _ e1 _ (fun Hf1 H1 R1 S1 v1 r' er => by cases er) fun Hf1 H1 R1 er st1 I1 g1 => fin Hf1 H1 σ R1 st1 I1 ⟨fun _ _ => rfl, g1, rfl⟩
  · cases e
def gSetX (Mf : List Nat) (i : Nat) (f : Ge → Option (Ge × Option Rs)) : Ge → Option Out := fun Γ => match f Γ with
  | some (Γ', some r) => (mvIn Mf Γ' r).map fun q => .nx (q.1.set i (some q.2))
  | some (Γ', none) => some (.ex Γ')
  | none => none
theorem st_setX {f : Ge → Option (Ge × Option Rs)} (Mf : List Nat) {i : Nat} (h : EvXOk K cl E M te f) : StOk K cl E [i] ((M ++ Mf) ++ [i]) (tAsg te (gName i)) (gSetX Mf i f) := fun Hf H σ Γ R I o e D fin => by
  unfold gSetX at e
  split at e
  · rename_i Γ1 r e1
    cases e2 : mvIn Mf Γ1 r with
    | none => rw [e2] at e; cases e
    | some p2 =>
      obtain ⟨Γ2, t⟩ := p2
      rw [e2, Option.map_some] at e
      cases e
      refine h Hf H σ Γ R I Γ1 _ e1 _ (fun Hf1 H1 R1 S1 v1 r' er st1 I1 g1 r1 => ?_) fun Hf1 H1 R1 er => by cases er
      cases er
      obtain ⟨Hf2, R2, S2, z, rs, sb⟩ := mvIn_ok I1 r1.w e2
      exact fin Hf2 H1 (σ.set i (some v1)) (upR R2 i S2) (stp_set (z.stpS st1 sb)) (er_set z.er rs) (eq2_set fun j n => (z.kp j fun y => n (List.mem_append_right _ y)).2.trans (g1 j fun y => n (List.mem_append_left _ y)))
  · rename_i Γ' e1
    cases e
    exact h Hf H σ Γ R I Γ' _ e1 _ (fun Hf1 H1 R1 S1 v1 r' er => by cases er) fun Hf1 H1 R1 er st1 I1 g1 => fin Hf1 H1 σ R1 (st1.more fun j z => List.mem_append_left _ (List.mem_append_left _ z)) I1 ⟨fun _ _ => rfl, fun j n => g1 j fun z => n (List.mem_append_left _ (List.mem_append_left _ z)), rfl⟩
  · cases e
def gRetX (Mf : List Nat) (f : Ge → Option (Ge × Option Rs)) : Ge → Option Out := fun Γ => match f Γ with
  | some (Γ', some r) => (mvIn Mf Γ' r).map fun q => .rt q.1 q.2
  | some (Γ', none) => some (.ex Γ')
  | none => none
theorem st_retX {f : Ge → Option (Ge × Option Rs)} (Mf : List Nat) (h : EvXOk K cl E M te f) : StOk K cl E [] (M ++ Mf) (tRet te) (gRetX Mf f) := fun Hf H σ Γ R I o e D fin => by
  unfold gRetX at e
  split at e
  · rename_i Γ1 r e1
    cases e2 : mvIn Mf Γ1 r with
    | none => rw [e2] at e; cases e
    | some p2 =>
      obtain ⟨Γ2, t⟩ := p2
      rw [e2, Option.map_some] at e
      cases e
      refine h Hf H σ Γ R I Γ1 _ e1 _ (fun Hf1 H1 R1 S1 v1 r' er st1 I1 g1 r1 => ?_) fun Hf1 H1 R1 er => by cases er
      cases er
      obtain ⟨Hf2, R2, S2, z, rs, sb⟩ := mvIn_ok I1 r1.w e2
      exact fin Hf2 H1 σ R2 S2 v1 (z.stpS st1 sb) z.er ⟨fun _ _ => rfl, fun j n => (z.kp j fun y => n (List.mem_append_right _ y)).2.trans (g1 j fun y => n (List.mem_append_left _ y)), rfl⟩ rs
  · rename_i Γ' e1
    cases e
    exact h Hf H σ Γ R I Γ' _ e1 _ (fun Hf1 H1 R1 S1 v1 r' er => by cases er) fun Hf1 H1 R1 er st1 I1 g1 => fin Hf1 H1 σ R1 (st1.more fun j z => List.mem_append_left _ z) I1 ⟨fun _ _ => rfl, fun j n => g1 j fun z => n (List.mem_append_left _ z), rfl⟩
  · cases e
end
section
variable {q : Qx} {X : Cx} {W : WX} {C : Value} {M Mf A : List Nat} {e : Expr} {es : List Expr} {pos pos' p np hp : Pos} {gs : Ge → Option (Ge × List Rs)} {x : Str} {i : Nat} {g : Ge → Option Out} {sts : List Stmt} {fx : Ge → Option (Ge × Option Rs)}
def CXE (q : Qx) (W : WX) (C : Value) (e : Expr) (M : List Nat) (f : Ge → Option (Ge × Option Rs)) : Prop := ∃ t, (∀ X, Sok q W X → PE X e t) ∧ EvXOk q.K q.cl (fun σ H => W C none σ H) M t f
theorem x_callX {k : Nat} {Mu : List Nat} {sem : List T → Option (Rv × List T)} {dts : List T} (Mr : List Nat) (hc : Cal q.P q.w q.K q.cl q.mg q.base k x C Mu sem dts) (hs : CA q (e :: es) M gs) (hk : Nat.ble k q.k = true := by rfl) (hg : GlN q.sc x := by rfl)
    (hdb : (x == ("__debug__" : Str)) = false := by decide) (he : ∀ env, starEach (e :: es) env = (false, eval e env) :: starEach es env := by intro _; rfl) (hpl : ∀ env, (backTo pos (starEach es env)).any (·.1) = false := by intro _; rfl) :
    CXE q W C (.Call (.Name x p) (e :: es) [] pos) (M ++ Mr) (fCallX Mr Mu sem dts gs) := by
  obtain ⟨g, fd, ps, dvs, ds, F, hm, hkp, hb, hd, hv⟩ := hc
  obtain ⟨_, b1, b2⟩ := hs
  refine ⟨_, fun X h => pe_callSD (E := WE W) (h.fnok F) (h.room.mono (Nat.le_of_ble_eq_true hk)) (h.gl hg) (h.m hm) (by rw [h.K]; exact hkp) (by rw [h.K]; exact hb) hd (fun σ => passAt h.takes σ) (b1 X h.toCok) hdb (he _) (hpl _), ev_callX (Es := WE W) Mr hv b2⟩
theorem s_dropX (h : CXE q W C e M fx) (hs : ∀ env, swapsWith e none pos.line env = pure false := by intro _; rfl) : CS q W C [] M (.Expr e pos) (gDropX fx) := let ⟨_, a1, a2⟩ := h; ⟨_, fun X h => ps_expr (a1 X h) (hs _), st_dropX a2⟩
theorem s_setX (i : Nat) (Mf : List Nat) (h : CXE q W C e M fx) (hN : q.N[i]? = some x := by rfl) (hx : Loc q.sc x := by first | exact .inl rfl | exact .inr rfl) (hs : ∀ env, swapsWith e (some (.Name x pos')) pos.line env = pure false := by intro _; rfl) :
    CS q W C [i] ((M ++ Mf) ++ [i]) (.Assign [.Name x pos'] e pos) (gSetX Mf i fx) := let ⟨_, a1, a2⟩ := h; ⟨_, fun X h => ps_set h.nd (h.ix hN) (by rw [h.sc]; exact hx) (a1 X h) (hs _) (.inl (h.fn _)), st_setX Mf a2⟩
theorem s_retX (Mf : List Nat) (h : CXE q W C e M fx) : CS q W C [] (M ++ Mf) (.Return (some e) pos) (gRetX Mf fx) := let ⟨_, a1, a2⟩ := h; ⟨_, fun X h => ps_ret (a1 X h), st_retX Mf a2⟩
/-- try: .. except C: return a constant -/
def gTryR (c : V) (g : Ge → Option Out) : Ge → Option Out := fun Γ => match g Γ with
  | some (.ex Γ') => some (.rt Γ' (.v c))
  | o => o
theorem Sok.tr (h : Sok q W X) {W' : WX} {pn : List (Addr × Obj)} {xe : Value → Shared → Prop} (tk : Takes (X.tr pn xe) W') (po : PassesOwn (model X.prog X.w) X.A X.env xe) : Sok q W' (X.tr pn xe) :=
  { prog := h.prog, w := h.w, K := h.K, mg := h.mg, base := h.base, N := h.N, nd := h.nd, sc := h.sc, room := h.room, calm := h.calm, takes := tk, own := po, stk := h.stk, frm := h.frm, ex := h.ex, fn := h.fn }
theorem s_tryB {b : Bool} {C' : Value} {c : Addr} {B nw ini : String} {bm : List Value} {j : Nat} {p1 p2 : Pos} (hX : XcC q.K q.mg x c B nw ini bm) (hb : ∀ W', CB q W' (.ref c) A M sts g) (hg : GlN q.sc x := by rfl) (hdb : (x == ("__debug__" : Str)) = false := by decide) :
    CS q W C' A M (.Try sts [.ExceptHandler (some (.Name x np)) none [.Return (some (.Constant (.bool b) j p1)) p2] hp] [] [] pos) (gTryR (.bl b) g) := by
  obtain ⟨tb, htb⟩ := Classical.axiomOfChoice hb
  refine ⟨fun D σ H => tb (wOnly q.K (.ref c) (fun _ _ _ => tRet (tC (.bl b))) (fun _ _ _ _ => False) D) D σ H, fun X h => ?_, fun Hf H σ Γ R I o e D fin => ?_⟩
  · have := ps_try_only (X := X) (x := x) (c := .ref c) (body := sts) (b₀ := .Return (some (.Constant (.bool b) j p1)) p2) (suite := []) (np := np) (pos := pos) (pos' := hp) (tb := tb) (ts := fun _ _ _ => tRet (tC (.bl b))) (Wout := fun _ _ _ _ => False)
      h.stk h.frm ⟨h.gl hg, hdb, .inl (h.m hX.gC)⟩ takes0 (fun W' pn xe tk po => (htb W').1 _ (h.tr tk po)) (fun _ _ _ _ _ _ _ => pss_one (ps_ret pe_bl))
    rw [h.K] at this
    exact this
  · unfold gTryR at e
    cases e1 : g Γ with
    | none => rw [e1] at e; cases e
    | some o1 =>
      rw [e1] at e
      refine (htb _).2 Hf H σ Γ R I o1 e1 D ?_
      cases o1 with
      | nx Γ' => cases e; exact fin
      | rt Γ' t => cases e; exact fin
      | bk Γ' => cases e; exact fin
      | ct Γ' => cases e; exact fin
      | ex Γ' =>
        cases e
        intro Hf' H' σ' R' st I' eq
        exact ⟨true, hX.ex, fun _ a _ => fin Hf' H' σ' R' No (.bl b) st I' eq ⟨⟨rfl, rfl⟩, fun _ _ z => z.elim, fun _ z => z.elim⟩, fun z => by cases z⟩

/-! ### a def -/
theorem fnok_of {P : Program} {w : World} {K : PySem.W.Frag} {cl : Nat → Addr} {mg : Str → Option Value} {base : Heap} {y qual : Str} {std : Stmt} {f : Addr} {fd : FuncData} {N ps : List Str} {k : Nat} {C : Value}
    (F : L2.Fun K y qual std f fd) (S : FnScope N ps (defScope std)) (h : ∀ W, CB ⟨P, w, K, cl, mg, base, N, defScope std, k⟩ W C A M (defBody std) g) :
    FnOk P w K mg base (L2.CX P w) (k + 1) f fd ps (spF K cl C (M.filter fun i => decide (i < ps.length)) (runB ps.length N.length A g)) := by
  obtain ⟨tb, htb⟩ := Classical.axiomOfChoice h
  refine fn_ok (fun E => tb fun cls d _ H => E cls d H) F S (fun cdv Ar outer s H E hr => (htb _).1 _ ?_) (fun E => (htb fun cls d _ H => E cls d H).2)
  exact { prog := rfl, w := rfl, K := rfl, mg := rfl, base := rfl, N := rfl, nd := S.nd, sc := rfl, room := hr, calm := rfl, takes := takes_of rfl rfl rfl rfl, own := passes_of rfl, stk := rfl, frm := rfl, ex := rfl, fn := fun _ => rfl }
theorem cal_of {P : Program} {w : World} {K : PySem.W.Frag} {cl : Nat → Addr} {mg : Str → Option Value} {base : Heap} {y qual : Str} {std : Stmt} {f : Addr} {fd : FuncData} {N ps : List Str} {k : Nat} {C : Value} {dts : List T} {dvs : List V} {ds : List Value}
    (F : L2.Fun K y qual std f fd) (S : FnScope N ps (defScope std)) (hm : mg y = some (.ref f)) (hb : Binds K fd ps ds) (hd : Vals dvs ds) (hv : ∀ Hf, PerAll K Hf dts dvs)
    (h : ∀ W, CB ⟨P, w, K, cl, mg, base, N, defScope std, k⟩ W C A M (defBody std) g) : Cal P w K cl mg base (k + 1) y C (M.filter fun i => decide (i < ps.length)) (runB ps.length N.length A g) dts :=
  ⟨f, fd, ps, dvs, ds, fnok_of F S h, hm, F.kp, hb, hd, hv⟩
theorem perAll0 {K : PySem.W.Frag} : ∀ Hf, PerAll K Hf [] [] := fun _ => True.intro
end
end Vx

set_option maxRecDepth 100000
/-! Vx23: operations by the trees' kinds; the script; the end -/
namespace Vx
open PySem L2 PyProof.Rows
section
variable {q : Qx} {X : Cx} {W : WX} {C : Value} {M Ma Mb A B A' M' : List Nat} {a b e : Expr} {pos pos' : Pos} {fa fb f : Ge → Option (Ge × Rs)} {x : Str} {g : Ge → Option Out} {sts : List Stmt}
theorem x_one {op : BoolOp} (ha : CE q a M f) : CE q (.BoolOp op [a] pos) M f := let ⟨t, a1, a2⟩ := ha; ⟨t, fun X h => pe_one (a1 X h), a2⟩
def gAddU : T → T → Option T := gEi gAdd (gEi gCat gCatA)
def gMulU : T → T → Option T := gEi gMul gRep
theorem x_addU (ha : CE q a Ma fa) (hb : CE q b Mb fb) : CE q (.BinOp a .Add b pos) (Ma ++ Mb) (f2 Mb gAddU fa fb) := x_bin (fun X h => OpR.ei op_add (OpR.ei op_cat (h.K ▸ op_catA))) (PR2.ei pr_add (PR2.ei pr_cat pr_catA)) ha hb
theorem x_mulU (ha : CE q a Ma fa) (hb : CE q b Mb fb) : CE q (.BinOp a .Mult b pos) (Ma ++ Mb) (f2 Mb gMulU fa fb) := x_bin (fun X h => OpR.ei op_mul op_rep) (PR2.ei pr_mul pr_rep) ha hb
def gSlU : T → Option Int → Option Int → Option T := gEiS gSlL gSlA
theorem x_slU {p : Pos} {Ml Mh : List Nat} {lo hi : Option Expr} {fl fh : Ge → Option (Ge × Option Int)} (ha : CE q a Ma fa) (hl : CO q lo Ml fl) (hh : CO q hi Mh fh) : CE q (.Subscript a (.Slice lo hi none p) pos) (Ma ++ (Ml ++ Mh)) (fSl Ml Mh gSlU fa fl fh) :=
  let ⟨_, a1, a2⟩ := ha; let ⟨_, b1, b2⟩ := hl; let ⟨_, c1, c2⟩ := hh; ⟨_, fun X h => pe_slice ((h.K ▸ sl_list : SlR X (rSlL q.K)).or (h.K ▸ sl_tupA)) (a1 X h) (b1 X h) (c1 X h), ev_sl (prs_list.ei prs_tup) a2 b2 c2⟩
theorem b_more (A' M' : List Nat) (h : CB q W C A M sts g) (ha : (A.all fun i => A'.contains i) = true := by rfl) (hm : (M.all fun i => M'.contains i) = true := by rfl) : CB q W C A' M' sts g :=
  let ⟨t, a1, a2⟩ := h; ⟨t, a1, a2.more (fun i z => List.contains_iff_mem.mp (List.all_eq_true.mp ha i z)) fun i z => List.contains_iff_mem.mp (List.all_eq_true.mp hm i z)⟩
theorem x_more (M' : List Nat) (h : CE q e M f) (hm : (M.all fun i => M'.contains i) = true := by rfl) : CE q e M' f :=
  let ⟨t, a1, a2⟩ := h; ⟨t, a1, a2.more fun i z => List.contains_iff_mem.mp (List.all_eq_true.mp hm i z)⟩
/-- name = [..] on one line, the name a local of the def's own -/
theorem s_setLc {y : Str} {tg e : Expr} {ifs : List Expr} {scope : Scope} {Mt Me : List Nat} {fs : Ge → Option (Ge × Rs × List T)} {fg : Ge → T → Option Ge} {ft : Ge → Option (Ge × Bool)} {fe : Ge → Option (Ge × Rs)} {Ml vs : List Nat} {py spos : Pos} (i : Nat) (own : List (Str × Nat)) (Mf : List Nat) (hi : CI q tg e M fs) (hg : CG (q.blk scope) tg A fg) (ht : CTs (q.blk scope) ifs Mt ft) (he : CE (q.blk scope) a Me fe)
    (hN : q.N[i]? = some y := by rfl) (hyl : q.sc.names.lookup y = some .local := by rfl) (hkd : q.sc.kind = .function := by rfl) (hln : (py.line == pos.line) = true := by rfl) (hnn : (scope.names.any fun (n, k) => n == y && (k == .local || k == .cell)) = false := by rfl)
    (hv : own.map (·.2) = vs := by rfl) (hl : vs ++ (Mt ++ (Me ++ Mf)) = Ml := by rfl) (hb : blkC q.N q.sc scope own = true := by (dsimp only [Qx.blk]; decide +kernel)) (hA : (A.all fun i => vs.contains i) = true := by rfl) (hs : ∀ env x, foldedSetIterable e env x = pure x := by intro _ _; rfl) :
    CS q W C [i] (((M ++ Ml) ++ []) ++ [i]) (.Assign [.Name y py] (.ListComp a [⟨tg, e, ifs, 0⟩] scope pos) spos) (gSet [] i (fLc Mf Ml vs fs fg ft fe)) := by
  subst hv hl
  obtain ⟨_, a1, a2⟩ := hi
  obtain ⟨_, b1, b2⟩ := hg
  obtain ⟨_, c1, c2⟩ := ht
  obtain ⟨_, d1, d2⟩ := he
  exact ⟨_, fun X h => ps_setLc h.calm h.nd (h.ix hN) (by rw [h.sc]; exact hyl) (sw_true (by rw [h.sc]; exact hkd) (by rw [h.sc]; exact hyl) hln hnn) (a1 X h.toCok) (by rw [h.N, h.sc]; exact blkOk_by hb) (fun _ _ _ _ _ => b1 _ h.toCok.blk) (fun _ _ _ _ _ => c1 _ h.toCok.blk) (fun _ _ _ _ _ => d1 _ h.toCok.blk) (hs _),
    st_set [] (ev_lc Mf a2 b2 (fun i m => List.contains_iff_mem.mp (List.all_eq_true.mp hA i m)) c2 d2)⟩
end
theorem cal_more {P : Program} {w : World} {K : PySem.W.Frag} {cl : Nat → Addr} {mg : Str → Option Value} {base : Heap} {k k' : Nat} {x : Str} {C : Value} {Mu : List Nat} {sem : List T → Option (Rv × List T)} {dts : List T} (h : Cal P w K cl mg base k x C Mu sem dts) (hk : k ≤ k') : Cal P w K cl mg base k' x C Mu sem dts :=
  let ⟨f, fd, ps, dvs, ds, F, r⟩ := h; ⟨f, fd, ps, dvs, ds, F.mono hk, r⟩
/-- the script as a tree -/
def scT (ns : List Int) : T := .fz .wlst (ns.map fun i => .v (.int i))
/-- the end: what the law's def computes, at every script -/
theorem law_spF {K : PySem.W.Frag} {cl : Nat → Addr} {sem : List T → Option (Rv × List T)} {n : Nat} (hs : ∀ ns : List Int, ns.length ≤ n → ∃ us, us.length = 1 ∧ sem [scT ns] = some (.ret (.v (.bl true)), us)) {H : Hp} {a : Addr} {ns : List Int} (hl : ns.length ≤ n) (hS : SqL K H a (ns.map V.int)) (C : Value) :
    spF K cl C [] sem [.ref a] H (fun v _ => v = .bl true) fun _ _ _ => False := by
  obtain ⟨us, l, e⟩ := hs ns hl
  let Hf : Hp := fun b => if b = a then H b else match H b with
    | some (.tup xs) => some (.tup xs)
    | _ => none
  have hW1 : ∀ b o, Hf b = some o → H b = some o ∨ ∃ od, isDc o = true ∧ H b = some (.frz od o) := fun b o z => by
    dsimp only [Hf] at z
    split at z
    · exact .inl z
    · split at z
      · rename_i e
        cases z
        exact .inl e
      · cases z
  have hW2 : ∀ b xs, H b = some (.tup xs) → Hf b = some (.tup xs) := fun b xs z => by
    dsimp only [Hf]
    split
    · exact z
    · rw [z]
  have hW : W Hf H := ⟨hW1, hW2⟩
  have hF : SqL K Hf a (ns.map V.int) := by
    rcases hS with (h | ⟨o, h⟩) | h
    · exact .inl (.inl (by dsimp only [Hf]; rw [if_pos rfl]; exact h))
    · exact .inl (.inr ⟨o, by dsimp only [Hf]; rw [if_pos rfl]; exact h⟩)
    · exact .inr h
  refine ⟨Hf, [scT ns], fun _ => No, .ret (.v (.bl true)), us, ⟨hW, rfl, fun i t et => ?_, fun _ _ _ z => z.elim, fun _ _ z => z.elim⟩, fun _ _ => rfl, e, l, fun Hf' H' R' S v _ _ rs => rs.1.1⟩
  cases i with
  | zero =>
    cases et
    refine ⟨.ref a, rfl, a, ns.map V.int, rfl, hF, PerAll.intro (by simp) fun m t w x y => ?_⟩
    rw [List.getElem?_map] at x y
    cases z : ns[m]? with
    | none => rw [z] at x; cases x
    | some i =>
      rw [z] at x y
      cases x
      cases y
      exact ⟨rfl, rfl⟩
  | succ i => simp at et
theorem cx_none {P : Program} {w : World} {H : Hp} {s : Shared} {e : Value} {s' : Shared} (h : L2.CX P w [] H s (fun _ _ _ => False) e s') : False := by
  obtain ⟨_, _, _, _, _, _, _, _, _, _, _, _, z⟩ := h
  exact z
theorem exm_own {K : PySem.W.Frag} {S : Addr} (h1 : PySem.W.subIn K (.ref S) (.type "BaseException") = some true) (h2 : PySem.W.isClsIn K S = true) (h3 : PySem.W.typeIn K (.ref S) = some (.type "type")) (h4 : PySem.W.subIn K (.ref S) (.ref S) = some true) : PySem.W.exmOne K (.ref S) (.ref S) = some true := by
  have h2' : (PySem.W.clsIn K S).isSome = true := h2
  unfold PySem.W.exmOne
  simp [PySem.W.kitCls, h1, h2', h3, h4]
end Vx
namespace Vx
open PySem L2 PyProof.Rows
/-- a constant that the top reckons -/
theorem loose_int {p : Program} {lv : List (Str × PySem.W.WData)} {mg : Str → Option Value} {h : Heap} {x : Str} {n : Int} (X : PySem.W.XL p lv mg h) (hm : (x, PySem.W.WData.int n) ∈ lv) : ∃ t, mg x = some (.int n t) := by
  obtain ⟨v, a, b⟩ := X.2.val _ hm
  cases b
  exact ⟨_, a⟩
/-- the end of a law row, with what is known of the loose names -/
theorem walk_ofX {l : PySem.W.OpenLaw} {n k : Nat} {q : Program} {loose : List Str} {XP : (Str → Option Value) → Heap → Prop} {YP : World → Heap → Prop} {d : DefRec} {K : Params → PySem.W.Frag} {CX : World → CXT} {sp : World → Sp} {x : Str}
    (hn : l.most = some n) (hn2 : n ≤ sizeLine) (hdf : d.params.defaults = []) (hr : Room k callerA) (hY : ∀ (w : World) (h : Heap), YP w h → (K w.params).In h)
    (F : ∀ (w : World) (mg : Str → Option Value) (fa : Addr) (h : Heap), XP mg h → (K w.params).In h → h.Ns mainGlobals mg → mg d.name = some (.ref fa) →
      ∃ fd : FuncData, (∀ (s : Shared) (u : Value), BindsTo s fd ⟨[u], []⟩ [(x, u)]) ∧ ∀ base : Heap, (K w.params).In base → base.Ns mainGlobals mg → FnOk l.prog w (K w.params) mg base (CX w) k fa fd [x] (sp w))
    (hsp : ∀ (w : World) (H : Hp) (a : Addr) (ns : List Int), ns.length ≤ n → SqL (K w.params) H a (ns.map V.int) → sp w [.ref a] H (fun v _ => v = .bl true) fun _ _ _ => False)
    (hCX : ∀ (w : World) (H : Hp) (s : Shared) (e : Value) (s' : Shared), CX w [] H s (fun _ _ _ => False) e s' → False) : PySem.W.WalkO q loose XP YP l.row.toRowW d [] (fun f vs => PySem.call f vs) := by
  refine Att.attach_call hn hdf fun w s₀ s₁ mg mb fa o pm cd doc a vs ns G Y ho hd hcd hmg hobj hints hlen hg => ?_
  have KX := hY w _ Y
  obtain ⟨fd, hb, hF⟩ := F w mg fa _ G.X KX G.T.g hmg
  exact law_call KX G.T.g G.T.b G.T.builtins G.T.nolimit hg hobj hints (Nat.le_trans hlen hn2) hr hF hb (fun H _ hS => hsp w H a ns hlen hS) fun H e s' => hCX w H s₁ e s'
end Vx

set_option maxRecDepth 100000
/-! Vx24: reckoning with readings -/
namespace Vx
open PySem L2
namespace Vp
/-- what hangs on a value, untouched until the value stands -/
inductive Tg {α : Sort _} (f : α) : Type where
  | mk
def bd {α β : Type} (x : Option α) (f : α → Option β) (_ : Tg f) : Option β := x.bind f
@[scoped simp] theorem bd_some {α β : Type} {a : α} {f : α → Option β} {t : Tg f} : bd (some a) f t = f a := rfl
@[scoped simp] theorem bd_none {α β : Type} {f : α → Option β} {t : Tg f} : bd none f t = none := rfl
section
@[scoped simp] theorem ap_fC {Γ : Ge} : fC x Γ = (some (Γ, .val (.v x))) := rfl
@[scoped simp] theorem ap_fANil {Γ : Ge} : fANil Γ = (some (Γ, [])) := rfl
@[scoped simp] theorem ap_fACons {Γ : Ge} : fACons M fa fr Γ = (bd (fa Γ) (fun p => bd (fr p.1) (fun q => if p.2.free M = true then some (q.1, p.2 :: q.2) else none) .mk) .mk) := rfl
@[scoped simp] theorem ap_fN {Γ : Ge} : fN g fa Γ = (bd (fa Γ) (fun p => bd (getTs p.1 p.2) (fun ts => (g ts).map fun c => (p.1, .val c)) .mk) .mk) := rfl
@[scoped simp] theorem ap_fLst {Γ : Ge} : fLst fa Γ = (bd (fa Γ) (fun p => bd (vals? p.2) (fun ts => if ts.length ≤ 10000 then some (p.1, .val (.ow false .lst ts)) else none) .mk) .mk) := rfl
@[scoped simp] theorem ap_f2 {Γ : Ge} : f2 M g fa fb Γ = (bd (fa Γ) (fun p => bd (fb p.1) (fun q => if p.2.free M = true then bd (getT q.1 p.2) (fun a => bd (getT q.1 q.2) (fun b => (g a b).map fun c => (q.1, .val c)) .mk) .mk else none) .mk) .mk) := rfl
@[scoped simp] theorem ap_f1 {Γ : Ge} : f1 g fa Γ = (bd (fa Γ) (fun p => bd (getT p.1 p.2) (fun a => (g a).map fun c => (p.1, .val c)) .mk) .mk) := rfl
@[scoped simp] theorem ap_fIx {Γ : Ge} : fIx M g fa fb Γ = (bd (fa Γ) (fun p => bd (fb p.1) (fun q => if p.2.free M = true then bd (getT q.1 p.2) (fun a => bd (getT q.1 q.2) (fun b => (g a b).map fun c => (q.1, sub p.2 c.1 c.2)) .mk) .mk else none) .mk) .mk) := rfl
@[scoped simp] theorem ap_fFld {Γ : Ge} : fFld g fa Γ = (bd (fa Γ) (fun p => bd (getT p.1 p.2) (fun a => (g a).map fun c => (p.1, sub p.2 c.1 c.2)) .mk) .mk) := rfl
@[scoped simp] theorem ap_fT {Γ : Ge} : fT fa Γ = (bd (fa Γ) (fun p => match p.2 with
  | .val (.v (.bl b)) => some (p.1, b)
  | _ => none) .mk) := rfl
@[scoped simp] theorem ap_fTr {Γ : Ge} : fTr fa Γ = (bd (fa Γ) (fun p => bd (getT p.1 p.2) (fun t => (gTru t).map fun b => (p.1, b)) .mk) .mk) := rfl
@[scoped simp] theorem ap_fAndV {Γ : Ge} : fAndV fa fb Γ = (bd (fT fa Γ) (fun p => if p.2 = true then fb p.1 else some (p.1, .val (.v (.bl false)))) .mk) := rfl
@[scoped simp] theorem ap_fOrV {Γ : Ge} : fOrV fa fb Γ = (bd (fT fa Γ) (fun p => if p.2 = true then some (p.1, .val (.v (.bl true))) else fb p.1) .mk) := rfl
@[scoped simp] theorem ap_fNotV {Γ : Ge} : fNotV fa Γ = ((fT fa Γ).map fun p => (p.1, .val (.v (.bl (!p.2))))) := rfl
@[scoped simp] theorem ap_fIf {Γ : Ge} : fIf ft fa fb Γ = (bd (ft Γ) (fun p => if p.2 = true then fa p.1 else fb p.1) .mk) := rfl
@[scoped simp] theorem ap_fTup {Γ : Ge} : fTup M fa Γ = (bd (fa Γ) (fun p => bd (fzAll M p.1 p.2) (fun q => if q.2.length ≤ 10000 then some (q.1, .val (.fz .tup q.2)) else none) .mk) .mk) := rfl
@[scoped simp] theorem ap_fCh {Γ : Ge} : fCh Mb Mc g g' fa fb fc Γ = (bd (fa Γ) (fun p => bd (fb p.1) (fun q => if p.2.free Mb = true then bd (getT q.1 p.2) (fun a => bd (getT q.1 q.2) (fun b => bd (bl? (g a b)) (fun c =>     if c = true then bd (fc q.1) (fun z => if q.2.free Mc = true then bd (getT z.1 q.2) (fun b' => bd (getT z.1 z.2) (fun d => (g' b' d).map fun c => (z.1, .val c)) .mk) .mk else none) .mk else some (q.1, .val (.v (.bl false)))) .mk) .mk) .mk else none) .mk) .mk) := rfl
@[scoped simp] theorem ap_fNm {Γ : Ge} : fNm i Γ t = (some (Γ.set i (some t))) := rfl
@[scoped simp] theorem ap_fTgT {Γ : Ge} : fTgT n fr Γ t = (bd (asT t) (fun xs => if xs.length = n then fr Γ xs else none) .mk) := rfl
@[scoped simp] theorem ap_fSrc {Γ : Ge} : fSrc f Γ = (bd (f Γ) (fun p => bd (getT p.1 p.2) (fun t => bd (sqT t) (fun xs => if xs.all T.pers = true then some (p.1, p.2, xs) else none) .mk) .mk) .mk) := rfl
@[scoped simp] theorem ap_fFrz {Γ : Ge} : fFrz Mf f Γ = (bd (f Γ) (fun p => (fzIn Mf p.1 p.2).map fun q => (q.1, .val q.2)) .mk) := rfl
@[scoped simp] theorem ap_fO0 {Γ : Ge} : fO0 Γ = (some (Γ, none)) := rfl
@[scoped simp] theorem ap_fSl {Γ : Ge} : fSl Ml Mh g f fl fh Γ = (bd (f Γ) (fun p => bd (fl p.1) (fun l => bd (fh l.1) (fun h => if p.2.free (Ml ++ Mh) = true then bd (getT h.1 p.2) (fun u => (g u l.2 h.2).map fun z => (h.1, .val z)) .mk else none) .mk) .mk) .mk) := rfl
@[scoped simp] theorem ap_fCall {Γ : Ge} : fCall Mr Mu sem dts fa Γ = (bd (fa Γ) (fun p => if (rootsOk p.2 && argsIn Mr Mu 0 p.2) = true then bd (getTs p.1 p.2) (fun ts => bd (runS sem (ts ++ dts)) (fun ro => (putBack Mu 0 p.1 p.2 ro.2).map fun Γ' => (Γ', .val ro.1)) .mk) .mk else none) .mk) := rfl
@[scoped simp] theorem ap_gNx {Γ : Ge} : gNx Γ = (some (.nx Γ)) := rfl
@[scoped simp] theorem ap_gBk {Γ : Ge} : gBk Γ = (some (.bk Γ)) := rfl
@[scoped simp] theorem ap_gCt {Γ : Ge} : gCt Γ = (some (.ct Γ)) := rfl
@[scoped simp] theorem ap_gRaise {Γ : Ge} : gRaise Γ = (some (.ex Γ)) := rfl
@[scoped simp] theorem ap_gRetN {Γ : Ge} : gRetN Γ = (some (.rt Γ (.v .non))) := rfl
@[scoped simp] theorem ap_gIf {Γ : Ge} : gIf ft g g' Γ = (bd (ft Γ) (fun p => if p.2 = true then g p.1 else g' p.1) .mk) := rfl
@[scoped simp] theorem ap_gSet {Γ : Ge} : gSet Mf i f Γ = (bd (f Γ) (fun p => (mvIn Mf p.1 p.2).map fun q => .nx (q.1.set i (some q.2))) .mk) := rfl
@[scoped simp] theorem ap_gRet {Γ : Ge} : gRet Mf f Γ = (bd (f Γ) (fun p => (mvIn Mf p.1 p.2).map fun q => .rt q.1 q.2) .mk) := rfl
@[scoped simp] theorem ap_gDrop {Γ : Ge} : gDrop f Γ = ((f Γ).map fun p => .nx p.1) := rfl
@[scoped simp] theorem ap_gAsT {Γ : Ge} : gAsT ft f Γ = (bd (f Γ) (fun p => match p.2 with
  | .val t => if t.pers = true then (ft p.1 t).map Out.nx else none
  | _ => none) .mk) := rfl
@[scoped simp] theorem ap_gFor {Γ : Ge} : gFor Ml fs ft gb Γ = (bd (fs Γ) (fun p => if p.2.1.free Ml = true then forGo ft gb p.2.2 p.1 else none) .mk) := rfl
@[scoped simp] theorem ap_fLc {Γ : Ge} : fLc Mf Ml vs fs fg ft fe Γ = (bd (fs Γ) (fun p => if (p.2.1.free Ml && persVs p.1 vs && decide (p.2.2.length ≤ 10000)) = true then (lcGo Mf vs fg ft fe p.2.2 p.1 []).map fun q => (rstG p.1 q.1 vs, .val (.ow false .lst q.2)) else none) .mk) := rfl
@[scoped simp] theorem ap_gSt {Γ : Ge} : gSt Mr Mf Mo Mi gm fv fo fi Γ = (bd (fv Γ) (fun p => bd (fo p.1) (fun q => bd (fi q.1) (fun z => match q.2 with
  | .at i π => if (Mr.contains i && p.2.free (Mo ++ Mi) && q.2.free Mi) = true then bd (embAll Mf z.1 [p.2, z.2]) (fun w => bd (getT w.1 q.2) (fun u => bd (gm u w.2) (fun r => (setPl w.1 i π r.1).map Out.nx) .mk) .mk) .mk else none
  | .val _ => none) .mk) .mk) .mk) := rfl
@[scoped simp] theorem ap_gAugS {Γ : Ge} : gAugS Mr Mi Me g gi gm fo fi fe Γ = (bd (fo Γ) (fun p => bd (fi p.1) (fun q => match p.2, q.2 with
  | .at i π, .val k => if (Mr.contains i && p.2.free (Mi ++ Me) && k.pers) = true then bd (getT q.1 p.2) (fun u => bd (g u k) (fun c => if c.2.pers = true then bd (fe q.1) (fun z => bd (getT z.1 z.2) (fun y =>       bd (gi c.2 y) (fun x => if x.pers = true then bd (gm u [x, k]) (fun r => (setPl z.1 i π r.1).map Out.nx) .mk else none) .mk) .mk) .mk else none) .mk) .mk else none
  | _, _ => none) .mk) .mk) := rfl
@[scoped simp] theorem ap_fVar {Γ : Ge} {i : Nat} : fVar i Γ = (match Γ[i]? with
  | some (some t) => some (Γ, if t.pers = true then .val t else .at i [])
  | _ => none) := rfl
@[scoped simp] theorem ap_gSeq {Γ : Ge} {g g' : Ge → Option Out} : gSeq g g' Γ = (match g Γ with
  | some (.nx Γ') => g' Γ'
  | o => o) := rfl
@[scoped simp] theorem ap_fO1 {Γ : Ge} {f : Ge → Option (Ge × Rs)} : fO1 f Γ = bd (f Γ) (fun p => (match p.2 with
  | .val (.v (.int i)) => some (p.1, some i)
  | _ => none)) .mk := rfl
@[scoped simp] theorem ap_fAnd {Γ : Ge} {f g : Ge → Option (Ge × Bool)} : fAnd f g Γ = bd (f Γ) (fun p => if p.2 = true then g p.1 else some (p.1, false)) .mk := rfl
@[scoped simp] theorem ap_fOr {Γ : Ge} {f g : Ge → Option (Ge × Bool)} : fOr f g Γ = bd (f Γ) (fun p => if p.2 = true then some (p.1, true) else g p.1) .mk := rfl
@[scoped simp] theorem ap_fNot {Γ : Ge} {f : Ge → Option (Ge × Bool)} : fNot f Γ = (f Γ).map fun p => (p.1, !p.2) := rfl
@[scoped simp] theorem ap_fR1 {Γ : Ge} {fa : Ge → Option (Ge × List Rs)} : fR1 fa Γ = bd (fa Γ) (fun p => (match p.2 with
  | [.val (.v (.int n))] => if n ≤ 1000000 ∧ -1000000 ≤ n then some (p.1, .val (.v .non), rgT 0 n.toNat) else none
  | _ => none)) .mk := rfl
@[scoped simp] theorem ap_gI {h : Int → Int → Option V} {i j : Int} : gI h (.v (.int i)) (.v (.int j)) = (h i j).map T.v := rfl
@[scoped simp] theorem ap_gAdd {i j : Int} : gAdd (.v (.int i)) (.v (.int j)) = some (.v (.int (i + j))) := rfl
@[scoped simp] theorem ap_gSub {i j : Int} : Vx.gSub (.v (.int i)) (.v (.int j)) = some (.v (.int (i - j))) := rfl
@[scoped simp] theorem ap_gMul {i j : Int} (h : cMul i j = true) : gMul (.v (.int i)) (.v (.int j)) = some (.v (.int (i * j))) := by
  show (if cMul i j = true then some (V.int (i * j)) else none).map T.v = _
  rw [if_pos h]
  rfl
@[scoped simp] theorem ap_gDiv {i j : Int} (h : cDiv i j = true) : gDiv (.v (.int i)) (.v (.int j)) = some (.v (.int (i / j))) := by
  show (if cDiv i j = true then some (V.int (i / j)) else none).map T.v = _
  rw [if_pos h]
  rfl
@[scoped simp] theorem ap_gMod {i j : Int} (h : cPos i j = true) : gMod (.v (.int i)) (.v (.int j)) = some (.v (.int (i % j))) := by
  show (if cPos i j = true then some (V.int (i % j)) else none).map T.v = _
  rw [if_pos h]
  rfl
@[scoped simp] theorem ap_gPow {i j : Int} (h : cPow i j = true) : gPow (.v (.int i)) (.v (.int j)) = some (.v (.int (i ^ j.toNat))) := by
  show (if cPow i j = true then some (V.int (i ^ j.toNat)) else none).map T.v = _
  rw [if_pos h]
  rfl
@[scoped simp] theorem ap_gShr {i j : Int} (h : cNn i j = true) : gShr (.v (.int i)) (.v (.int j)) = some (.v (.int (i / 2 ^ j.toNat))) := by
  show (if cNn i j = true then some (V.int (i / 2 ^ j.toNat)) else none).map T.v = _
  rw [if_pos h]
  rfl
@[scoped simp] theorem ap_gAnd {i j : Int} : gAnd (.v (.int i)) (.v (.int j)) = some (.v (.int (Builtin.bitAnd i j))) := rfl
@[scoped simp] theorem ap_gXor {i j : Int} : gXor (.v (.int i)) (.v (.int j)) = some (.v (.int (Builtin.bitXor i j))) := rfl
@[scoped simp] theorem ap_gLt {i j : Int} : gLt (.v (.int i)) (.v (.int j)) = some (.v (.bl (decide (i < j)))) := rfl
@[scoped simp] theorem ap_gLe {i j : Int} : gLe (.v (.int i)) (.v (.int j)) = some (.v (.bl (decide (i ≤ j)))) := rfl
@[scoped simp] theorem ap_gGt {i j : Int} : gGt (.v (.int i)) (.v (.int j)) = some (.v (.bl (decide (j < i)))) := rfl
@[scoped simp] theorem ap_gGe {i j : Int} : gGe (.v (.int i)) (.v (.int j)) = some (.v (.bl (decide (j ≤ i)))) := rfl
@[scoped simp] theorem ap_gNeg {i : Int} : gNeg (.v (.int i)) = some (.v (.int (-i))) := rfl
@[scoped simp] theorem ap_gAddU {i j : Int} : gAddU (.v (.int i)) (.v (.int j)) = some (.v (.int (i + j))) := rfl
@[scoped simp] theorem ap_gMulU {i j : Int} (h : cMul i j = true) : gMulU (.v (.int i)) (.v (.int j)) = some (.v (.int (i * j))) := by
  unfold gMulU gEi
  rw [ap_gMul h]
@[scoped simp] theorem ap_gInt {i : Int} : gInt [.v (.int i)] = some (.v (.int i)) := rfl
@[scoped simp] theorem ap_gAbs {i : Int} : gAbs [.v (.int i)] = some (.v (.int (if i < 0 then -i else i))) := rfl
@[scoped simp] theorem ap_gMax2 {i j : Int} : gMax2 [.v (.int i), .v (.int j)] = some (.v (.int (if j > i then j else i))) := rfl
@[scoped simp] theorem ap_gMin2 {i j : Int} : gMin2 [.v (.int i), .v (.int j)] = some (.v (.int (if j < i then j else i))) := rfl
@[scoped simp] theorem ap_pv {x : V} : T.pers (.v x) = true := rfl
@[scoped simp] theorem ap_pf {s : Sh} {xs : List T} : T.pers (.fz s xs) = true := rfl
@[scoped simp] theorem ap_po {l : Bool} {s : Sh} {xs : List T} : T.pers (.ow l s xs) = false := rfl
@[scoped simp] theorem ap_fv {t : T} {M : List Nat} : Rs.free (.val t) M = true := rfl
@[scoped simp] theorem ap_fa {i : Nat} {π M : List Nat} : Rs.free (.at i π) M = !M.contains i := rfl
@[scoped simp] theorem ap_gtv {Γ : Ge} {t : T} : getT Γ (.val t) = some t := rfl
@[scoped simp] theorem ap_gta {Γ : Ge} {i : Nat} {π : List Nat} : getT Γ (.at i π) = (match Γ[i]? with
  | some (some t) => getAt π t
  | _ => none) := rfl
@[scoped simp] theorem ap_ga0 {t : T} : getAt [] t = some t := rfl
@[scoped simp] theorem ap_ga1 {n : Nat} {π : List Nat} {l : Bool} {s : Sh} {xs : List T} : getAt (n :: π) (.ow l s xs) = (match xs[n]? with
  | some x => getAt π x
  | none => none) := rfl
@[scoped simp] theorem ap_pa0 {u t : T} : Vx.putAt [] u t = some u := rfl
@[scoped simp] theorem ap_pa1 {n : Nat} {π : List Nat} {l : Bool} {s : Sh} {xs : List T} {u : T} : Vx.putAt (n :: π) u (.ow l s xs) = (match xs[n]? with
  | some x => (match Vx.putAt π u x with
    | some x' => some (.ow l s (xs.set n x'))
    | none => none)
  | none => none) := rfl
@[scoped simp] theorem ap_sbv {r : Rs} {n : Nat} {x : V} : sub r n (.v x) = .val (.v x) := rfl
@[scoped simp] theorem ap_sbf {r : Rs} {n : Nat} {s : Sh} {xs : List T} : sub r n (.fz s xs) = .val (.fz s xs) := rfl
@[scoped simp] theorem ap_sbo {i : Nat} {π : List Nat} {n : Nat} {l : Bool} {s : Sh} {xs : List T} : sub (.at i π) n (.ow l s xs) = .at i (π ++ [n]) := rfl
@[scoped simp] theorem ap_mvv {M : List Nat} {Γ : Ge} {t : T} : mvIn M Γ (.val t) = some (Γ, t) := rfl
@[scoped simp] theorem ap_gt0 {Γ : Ge} : getTs Γ [] = some [] := rfl
@[scoped simp] theorem ap_gt1 {Γ : Ge} {r : Rs} {rs : List Rs} : getTs Γ (r :: rs) = (match getT Γ r, getTs Γ rs with
    | some t, some ts => some (t :: ts)
    | _, _ => none) := rfl
@[scoped simp] theorem ap_va0 : vals? [] = some [] := rfl
@[scoped simp] theorem ap_va1 {t : T} {rs : List Rs} : vals? (.val t :: rs) = (vals? rs).map (t :: ·) := rfl
@[scoped simp] theorem ap_ro0 : rootsOk [] = true := rfl
@[scoped simp] theorem ap_ro1 {t : T} {rs : List Rs} : rootsOk (.val t :: rs) = rootsOk rs := rfl
@[scoped simp] theorem ap_ro2 {i : Nat} {π : List Nat} {rs : List Rs} : rootsOk (.at i π :: rs) = ((rs.all fun r => r.free [i]) && rootsOk rs) := rfl
@[scoped simp] theorem ap_ai0 {Mr Mu : List Nat} {k : Nat} : argsIn Mr Mu k [] = true := rfl
@[scoped simp] theorem ap_ai1 {Mr Mu : List Nat} {k : Nat} {t : T} {rs : List Rs} : argsIn Mr Mu k (.val t :: rs) = argsIn Mr Mu (k + 1) rs := rfl
@[scoped simp] theorem ap_ai2 {Mr Mu : List Nat} {k i : Nat} {π : List Nat} {rs : List Rs} : argsIn Mr Mu k (.at i π :: rs) = ((!Mu.contains k || Mr.contains i) && argsIn Mr Mu (k + 1) rs) := rfl
@[scoped simp] theorem ap_pb0 {M : List Nat} {k : Nat} {Γ : Ge} {us : List T} : putBack M k Γ [] us = some Γ := by unfold putBack; rfl
@[scoped simp] theorem ap_pb1 {M : List Nat} {k : Nat} {Γ : Ge} {t : T} {rs : List Rs} {us : List T} : putBack M k Γ (.val t :: rs) us = putBack M (k + 1) Γ rs us.tail := by rw [putBack]
@[scoped simp] theorem ap_pb2 {M : List Nat} {k i : Nat} {π : List Nat} {Γ : Ge} {rs : List Rs} {us : List T} {u : T} : putBack M k Γ (.at i π :: rs) (u :: us) = (if M.contains k = true then bd (setPl Γ i π u) (fun Γ' => putBack M (k + 1) Γ' rs us) .mk else putBack M (k + 1) Γ rs us) := by rw [putBack]; rfl
@[scoped simp] theorem ap_sp {Γ : Ge} {i : Nat} {π : List Nat} {u : T} : setPl Γ i π u = (match Γ[i]? with
  | some (some t) => (Vx.putAt π u t).map fun t' => Γ.set i (some t')
  | _ => none) := rfl
@[scoped simp] theorem ap_em0 {M : List Nat} {Γ : Ge} : embAll M Γ [] = some (Γ, []) := rfl
@[scoped simp] theorem ap_em1 {M : List Nat} {Γ : Ge} {r : Rs} {rs : List Rs} : embAll M Γ (r :: rs) = bd (emb M Γ r) (fun p => (embAll M p.1 rs).map fun q => (q.1, p.2 :: q.2)) .mk := rfl
@[scoped simp] theorem ap_ev {M : List Nat} {Γ : Ge} {t : T} : emb M Γ (.val t) = some (Γ, t) := rfl
@[scoped simp] theorem ap_fg0 {ft : Ge → T → Option Ge} {gb : Ge → Option Out} {Γ : Ge} : forGo ft gb [] Γ = some (.nx Γ) := rfl
@[scoped simp] theorem ap_fz0 {M : List Nat} {Γ : Ge} : fzAll M Γ [] = some (Γ, []) := rfl
@[scoped simp] theorem ap_fz1 {M : List Nat} {Γ : Ge} {r : Rs} {rs : List Rs} : fzAll M Γ (r :: rs) = bd (fzIn M Γ r) (fun p => (fzAll M p.1 rs).map fun q => (q.1, p.2 :: q.2)) .mk := rfl
@[scoped simp] theorem ap_fzv {M : List Nat} {Γ : Ge} {t : T} : fzIn M Γ (.val t) = (frz t).map fun u => (Γ, u) := rfl
@[scoped simp] theorem ap_fr0 {x : V} : frz (.v x) = some (.v x) := rfl
@[scoped simp] theorem ap_fr1 {s : Sh} {xs : List T} : frz (.fz s xs) = some (.fz s xs) := rfl
@[scoped simp] theorem ap_rs {sem : List T → Option (Rv × List T)} {ts us : List T} {t : T} (e : sem ts = some (.ret t, us)) (h : us.length = ts.length) : runS sem ts = some (t, us) := by
  unfold runS
  rw [e]
  exact if_pos h
@[scoped simp] theorem ap_ou0 {A : List Nat} {k : Nat} {Γ : Ge} : outs A k [] Γ = some [] := rfl
@[scoped simp] theorem ap_ou1 {A : List Nat} {k : Nat} {t : T} {ts : List T} {Γ : Ge} : outs A k (t :: ts) Γ = (match outAt A k t Γ, outs A (k + 1) ts Γ with
    | some u, some us => some (u :: us)
    | _, _ => none) := rfl
theorem ap_run {np n : Nat} {A : List Nat} {g : Ge → Option Out} {ts : List T} (h : ts.length = np) : runB np n A g ts = (bd (g (startG n ts)) (fun o => match o with
  | .nx Γ => (outs A 0 ts Γ).map fun us => (.ret (.v .non), us)
  | .rt Γ t => (outs A 0 ts Γ).map fun us => (.ret t, us)
  | .ex Γ => (outs A 0 ts Γ).map fun us => (.exc, us)
  | _ => none) .mk) := by
  unfold runB
  exact if_pos h
theorem cDiv_of {i j : Int} (h : 0 < j) (k : j < 2 ^ 200) : cDiv i j = true := by unfold cDiv; rw [decide_eq_true h, decide_eq_true k]; rfl
theorem cPos_of {i j : Int} (h : 0 < j) : cPos i j = true := decide_eq_true h
theorem cNn_of {i j : Int} (h : 0 ≤ j) : cNn i j = true := decide_eq_true h
theorem cMulL {i j : Int} (h : -(2 ^ 64) < i) (k : i < 2 ^ 64) : cMul i j = true := by unfold cMul; rw [decide_eq_true h, decide_eq_true k]; rfl
theorem cMulR {i j : Int} (h : -(2 ^ 64) < j) (k : j < 2 ^ 64) : cMul i j = true := by unfold cMul; rw [decide_eq_true h, decide_eq_true k, Bool.and_self, Bool.or_true]
end
end Vp
end Vx

set_option maxRecDepth 100000
/-! Vx25: more of the text: methods of lists, turned lists, is of bools, several targets -/
namespace Vx
open PySem L2 PyProof.Rows
section
variable {K : PySem.W.Frag} {cl : Nat → Addr}
/-- xs[::-1] -/
def gRevL : T → Option T := fun t => match asL t with
  | some xs => if xs.all T.pers = true then some (.ow false .lst xs.reverse) else none
  | none => none
theorem PerAll.rev {Hf : Hp} {ts : List T} {vs : List V} (h : PerAll K Hf ts vs) : PerAll K Hf ts.reverse vs.reverse := by
  have l := h.len
  refine PerAll.intro (by rw [List.length_reverse, List.length_reverse, l]) fun n t w a b => ?_
  have hn : n < ts.length := by
    have := (List.getElem?_eq_some_iff.mp a).1
    rwa [List.length_reverse] at this
  rw [List.getElem?_reverse hn] at a
  rw [List.getElem?_reverse (by omega), ← l] at b
  obtain ⟨w', c, d⟩ := h.get a
  rw [c] at b
  cases b
  exact d
theorem pr_rev : PR1 K cl (fun x H1 Q => ∃ a xs, x = .ref a ∧ SqL K H1 a xs ∧ ∀ p, H1 p = none → Q (.ref p) (upd H1 p (.lst xs.reverse))) gRevL := fun Hf H x tx tz Fx w rx e Q q => by
  unfold gRevL at e
  split at e
  · rename_i xs e1
    split at e
    · rename_i hc
      cases e
      obtain ⟨a, vs, G, rfl, h1, h2, _⟩ := rx.asL w e1
      exact ⟨a, vs, rfl, h1, fun p hp => q Hf _ _ _ (al_ow w hp) (rep_newL (per_all h2 hc).rev)⟩
    · cases e
  · cases e
def gIsB (neg : Bool) : T → T → Option T
  | .v (.bl a), .v (.bl b) => some (.v (.bl (neg != decide (a = b))))
  | _, _ => none
theorem pr_isB : PR2 K cl rIsB (gIsB false) := fun Hf H x y tx ty tz Fx Fy w rx ry e Q q => by
  unfold gIsB at e
  split at e
  · rename_i a b
    cases e
    refine ⟨a, b, rx.1, ry.1, ?_⟩
    have := q Hf H (.bl (false != decide (a = b))) No (Al.refl w) ⟨rfl, rfl⟩
    simpa using this
  · cases e
theorem pr_notB : PR2 K cl rNotB (gIsB true) := fun Hf H x y tx ty tz Fx Fy w rx ry e Q q => by
  unfold gIsB at e
  split at e
  · rename_i a b
    cases e
    refine ⟨a, b, rx.1, ry.1, ?_⟩
    have := q Hf H (.bl (true != decide (a = b))) No (Al.refl w) ⟨rfl, rfl⟩
    simpa using this
  · cases e
end
section
variable {q : Qx} {X : Cx} {M Ma Mb A B : List Nat} {a b e o : Expr} {es : List Expr} {pos pos' apos cpos p1 p2 p3 : Pos} {fa fb f fo : Ge → Option (Ge × Rs)} {gs : Ge → Option (Ge × List Rs)}
theorem x_rev {k : Nat} (h : CE q e M f) : CE q (.Subscript e (.Slice none none (some (.UnaryOp .USub (.Constant (.int 1) k p1) p2)) p3) pos) M (f1 gRevL f) :=
  let ⟨_, a1, a2⟩ := h; ⟨_, fun X h => h.K ▸ pe_revL (a1 X h), ev1 pr_rev a2⟩
theorem x_isB (ha : CE q a Ma fa) (hb : CE q b Mb fb) : CE q (.Compare a [.Is] [b] pos) (Ma ++ Mb) (f2 Mb (gIsB false) fa fb) := x_cmp (fun _ _ => op_isBl) pr_isB ha hb (nomark _)
theorem x_notB (ha : CE q a Ma fa) (hb : CE q b Mb fb) : CE q (.Compare a [.IsNot] [b] pos) (Ma ++ Mb) (f2 Mb (gIsB true) fa fb) := x_cmp (fun _ _ => op_notBl) pr_notB ha hb (nomark _)
theorem y_isB (ha : CE q a Ma fa) (hb : CE q b Mb fb) : CT q (.Compare a [.Is] [b] pos) (Ma ++ Mb) (fT (f2 Mb (gIsB false) fa fb)) := y_cmp (fun _ _ => op_isBl) pr_isB ha hb (nomark _)
theorem y_notB (ha : CE q a Ma fa) (hb : CE q b Mb fb) : CT q (.Compare a [.IsNot] [b] pos) (Ma ++ Mb) (fT (f2 Mb (gIsB true) fa fb)) := y_cmp (fun _ _ => op_notBl) pr_notB ha hb (nomark _)
theorem g_cons {f : Ge → T → Option Ge} {fr : Ge → List T → Option Ge} (h : CG q e A f) (k : CGs q es B fr) (hs : ∀ env, (assignEach (e :: es) env).map (·.2) = assign e env :: (assignEach es env).map (·.2) := by intro _; rfl) : CGs q (e :: es) (A ++ B) (fTCons f fr) :=
  let ⟨_, a1, a2⟩ := h; let ⟨_, b1, b2⟩ := k; ⟨_, fun X h => pgs_cons (a1 X h) (b1 X h) (hs _), tgs_cons a2 b2⟩
theorem g_tup {k : Nat} (n : Nat) {fr : Ge → List T → Option Ge} (h : CGs q es A fr) (hn : ∀ env, (assignEach es env).length = n := by intro _; rfl) (hst : ∀ env, (assignEach es env).findIdx? (·.1) = none := by intro _; rfl) : CG q (.Tuple es k pos) A (fTgT n fr) :=
  let ⟨_, a1, a2⟩ := h; ⟨_, fun X h => h.K ▸ pg_tup h.calm (a1 X h) (hn _) (hst _), tg_tup a2⟩
/-- o.append(e) -/
theorem x_append (Mr Mf : List Nat) (ho : CE q o M fo) (he : CE q e Ma f) (hbase : ∀ env, attributeBase o "append" env (eval o env) = eval o env := by intro _; rfl)
    (hfew : ∀ env, ((backTo cpos (starEach [e] env)).all (fun x => !x.1) && (backToKw cpos (keywordEach [] env)).all (fun x => x.1.isSome) && decide (([e] : List Expr).length + ([] : List Keyword).length + (if ([] : List Keyword).isEmpty then 0 else 1) < 30)) = true := by intro _; rfl)
    (hline : (apos.endLine == cpos.line) = true := by rfl) (hs : ∀ env, starEach [e] env = (false, eval e env) :: starEach [] env := by intro _; rfl) : CE q (.Call (.Attribute o "append" apos) [e] [] cpos) (((M ++ (Ma ++ [])) ++ Mf) ++ Mr) (fMt Mr Mf (Ma ++ []) isLst gApp fo (fACons [] f fANil)) :=
  let ⟨_, a1, a2⟩ := ho; let ⟨_, b1, b2⟩ := x_cons he x_nil hs
  ⟨_, fun X h => h.K ▸ pe_bm PySem.F.plainAttrs_list PySem.F.slot_list_append PySem.F.type_list_append mt_append (a1 X h) (b1 X h) (hbase _) (hfew _) hline (hs _) rfl, ev_mt Mr Mf isLst_ok prm_app a2 b2⟩
theorem x_extend (Mr Mf : List Nat) (ho : CE q o M fo) (he : CE q e Ma f) (hbase : ∀ env, attributeBase o "extend" env (eval o env) = eval o env := by intro _; rfl)
    (hfew : ∀ env, ((backTo cpos (starEach [e] env)).all (fun x => !x.1) && (backToKw cpos (keywordEach [] env)).all (fun x => x.1.isSome) && decide (([e] : List Expr).length + ([] : List Keyword).length + (if ([] : List Keyword).isEmpty then 0 else 1) < 30)) = true := by intro _; rfl)
    (hline : (apos.endLine == cpos.line) = true := by rfl) (hs : ∀ env, starEach [e] env = (false, eval e env) :: starEach [] env := by intro _; rfl) : CE q (.Call (.Attribute o "extend" apos) [e] [] cpos) (((M ++ (Ma ++ [])) ++ Mf) ++ Mr) (fMt Mr Mf (Ma ++ []) isLst gExt fo (fACons [] f fANil)) :=
  let ⟨_, a1, a2⟩ := ho; let ⟨_, b1, b2⟩ := x_cons he x_nil hs
  ⟨_, fun X h => h.K ▸ pe_bm PySem.F.plainAttrs_list PySem.F.slot_list_extend PySem.F.type_list_extend mt_extend (a1 X h) (b1 X h) (hbase _) (hfew _) hline (hs _) rfl, ev_mt Mr Mf isLst_ok prm_ext a2 b2⟩
end
namespace Vp
@[scoped simp] theorem ap_gRevL {xs : List T} (h : xs.all T.pers = true) : gRevL (.ow false .lst xs) = some (.ow false .lst xs.reverse) := if_pos h
@[scoped simp] theorem ap_gIsB {n a b : Bool} : gIsB n (.v (.bl a)) (.v (.bl b)) = some (.v (.bl (n != decide (a = b)))) := rfl
@[scoped simp] theorem ap_tn {Γ : Ge} : fTNil Γ [] = some Γ := rfl
@[scoped simp] theorem ap_tc {Γ : Ge} {f : Ge → T → Option Ge} {fr : Ge → List T → Option Ge} {t : T} {ts : List T} : fTCons f fr Γ (t :: ts) = bd (f Γ t) (fun Γ1 => fr Γ1 ts) .mk := rfl
@[scoped simp] theorem ap_at {xs : List T} : asT (.fz .tup xs) = some xs := rfl
theorem mt_ap {Γ : Ge} {Mr Mf Ma : List Nat} {ok : T → Bool} {gm : T → List T → Option (T × T)} {fr : Ge → Option (Ge × Rs)} {fa : Ge → Option (Ge × List Rs)} : fMt Mr Mf Ma ok gm fr fa Γ = bd (fr Γ) (fun p => bd (fa p.1) (fun q => (match p.2 with
  | .at i π => if Mr.contains i = true ∧ p.2.free Ma = true then bd (getT p.1 p.2) (fun u0 => if ok u0 = true then bd (embAll Mf q.1 q.2) (fun z => bd (getT z.1 p.2) (fun u => bd (gm u z.2) (fun r => (setPl z.1 i π r.1).map fun Γ' => (Γ', .val r.2)) .mk) .mk) .mk else none) .mk else none
  | .val _ => none)) .mk) .mk := rfl
@[scoped simp] theorem ap_fMt {Γ : Ge} {Mr Mf Ma : List Nat} {ok : T → Bool} {gm : T → List T → Option (T × T)} {fr : Ge → Option (Ge × Rs)} {fa : Ge → Option (Ge × List Rs)} : fMt Mr Mf Ma ok gm fr fa Γ = bd (fr Γ) (fun p => bd (fa p.1) (fun q => (match p.2 with
  | .at i π => if Mr.contains i = true ∧ p.2.free Ma = true then bd (getT p.1 p.2) (fun u0 => if ok u0 = true then bd (embAll Mf q.1 q.2) (fun z => bd (getT z.1 p.2) (fun u => bd (gm u z.2) (fun r => (setPl z.1 i π r.1).map fun Γ' => (Γ', .val r.2)) .mk) .mk) .mk else none) .mk else none
  | .val _ => none)) .mk) .mk := mt_ap
@[scoped simp] theorem ap_isL {xs : List T} : isLst (.ow false .lst xs) = true := rfl
end Vp
end Vx

set_option maxRecDepth 100000
/-! Vx26: what all laws share: the tape, numbers, mixing -/
namespace Vq
section
open PySem L2 Vx PyProof.Rows
open Vx.Vp
def g__law_next : Ge → Option Out := gSeq (gSet [] 2 (fIx [] gIx (fVar 0) (fC (.int 2)))) (gSeq (gIf (fT (f2 [] gGt (fVar 2) (fC (.int 0)))) (gSeq (gSt [0] [] [] [] gSetL (f2 [] gDiv (fVar 2) (fVar 1)) (fVar 0) (fC (.int 2))) (gRet [] (f2 [] gMod (fN gInt (fACons [] (fVar 2) fANil)) (fVar 1)))) (gNx)) (gSeq (gSet [] 3 (fC (.int 0))) (gSeq (gIf (fT (f2 [] gLt (fIx [] gIx (fVar 0) (fC (.int 1))) (fN gLen (fACons [] (fIx [] gIx (fVar 0) (fC (.int 0))) fANil)))) (gSeq (gSet [] 3 (fN gAbs (fACons [] (fIx [] gIx (fIx [] gIx (fVar 0) (fC (.int 0))) (fIx [] gIx (fVar 0) (fC (.int 1)))) fANil))) (gAugS [0] [] [] gIxL gAdd gSetL (fVar 0) (fC (.int 1)) (fC (.int 1)))) (gNx)) (gSeq (gIf (fT (f2 [] gGe (fVar 3) (f2 [] gPow (fC (.int 10)) (fC (.int 18))))) (gSeq (gSt [0] [] [] [] gSetL (f2 [] gDiv (fVar 3) (fVar 1)) (fVar 0) (fC (.int 2))) (gRet [] (f2 [] gMod (fN gInt (fACons [] (fVar 3) fANil)) (fVar 1)))) (gNx)) (gSeq (gSt [0] [] [] [] gSetL (f2 [] gMod (fN gInt (fACons [] (f2 [] gAddU (f2 [] gAddU (f2 [] gMulU (fIx [] gIx (fVar 0) (fC (.int 3))) (fC (.int 48271))) (f2 [] gMulU (fVar 3) (fC (.int 69621)))) (fC (.int 11))) fANil)) (fC (.int 2147483647))) (fVar 0) (fC (.int 3))) (gRet [] (f2 [] gMod (fN gInt (fACons [] (f2 [] gDiv (f2 [] gMod (f2 [] gMulU (fIx [] gIx (fVar 0) (fC (.int 3))) (fC (.int 16807))) (fC (.int 2147483647))) (fC (.int 7))) fANil)) (fVar 1))))))))
def m__law_next : List T → Option (Rv × List T) := runB 2 4 [2, 3] g__law_next
def g_is_number : Ge → Option Out := gRet [] (fAndV (f1 (gIsi "int") (fVar 0)) (fNotV (f1 (gIsi "bool") (fVar 0))))
def m_is_number : List T → Option (Rv × List T) := runB 1 1 [] g_is_number
def g_is_between : Ge → Option Out := gRet [] (fAndV (fCall [] [] m_is_number [] (fACons [] (fVar 0) (fANil))) (fCh [] [] gLe gLe (fVar 1) (fVar 0) (fVar 2)))
def m_is_between : List T → Option (Rv × List T) := runB 3 3 [] g_is_between
def g_is_value : Ge → Option Out := gRet [] (fCall [] [] m_is_between [] (fACons [] (fVar 0) (fACons [] (fC (.int 0)) (fACons [] (fC (.int 18446744073709551615)) (fANil)))))
def m_is_value : List T → Option (Rv × List T) := runB 1 1 [] g_is_value
def g_is_name : Ge → Option Out := gRet [] (fCall [] [] m_is_between [] (fACons [] (fVar 0) (fACons [] (fC (.int 1)) (fACons [] (fC (.int 18446744073709551615)) (fANil)))))
def m_is_name : List T → Option (Rv × List T) := runB 1 1 [] g_is_name
def g_mix : Ge → Option Out := gSeq (gIf (fNot (fTr (fN gAll (fACons [] (fLc [] [1] [1] (fSrc (fVar 0)) (fNm 1) ((fun Γ => some (Γ, true))) (fCall [] [] m_is_value [] (fACons [] (fVar 1) (fANil)))) fANil)))) (gRaise) (gNx)) (gSeq (gSet [] 2 (fC (.int 1469598103934665603))) (gSeq (gFor [1, 2] (fSrc (f2 [] gAddU (fLst (fACons [] (fN gLen (fACons [] (fVar 0) fANil)) (fANil))) (fN gList (fACons [] (fVar 0) fANil)))) (fNm 1) (gSeq (gSet [] 2 (f2 [] gAnd (f2 [] gMulU (f2 [] gXor (fVar 2) (fVar 1)) (fC (.int 1099511628211))) (fC (.int 18446744073709551615)))) (gSet [] 2 (f2 [] gXor (fVar 2) (f2 [] gShr (fVar 2) (fC (.int 29))))))) (gSeq (gSet [] 2 (f2 [] gAnd (f2 [] gMulU (fVar 2) (fC (.int 11400714819323198485))) (fC (.int 18446744073709551615)))) (gSeq (gSet [] 2 (f2 [] gXor (fVar 2) (f2 [] gShr (fVar 2) (fC (.int 32))))) (gRet [] (fN gMax2 (fACons [] (fC (.int 1)) (fACons [] (fVar 2) fANil))))))))
def m_mix : List T → Option (Rv × List T) := runB 1 3 [1, 2] g_mix
def g__law_mix : Ge → Option Out := gSeq (gSet [] 1 (fC (.int 1469598103934665603))) (gSeq (gFor [2, 1] (fSrc (f2 [] gAddU (fLst (fACons [] (fN gLen (fACons [] (fVar 0) fANil)) (fANil))) (fN gList (fACons [] (fVar 0) fANil)))) (fNm 2) (gSeq (gSet [] 1 (f2 [] gMod (f2 [] gMulU (f2 [] gXor (fVar 1) (fVar 2)) (fC (.int 1099511628211))) (f2 [] gPow (fC (.int 2)) (fC (.int 64))))) (gSet [] 1 (f2 [] gXor (fVar 1) (f2 [] gDiv (fVar 1) (f2 [] gPow (fC (.int 2)) (fC (.int 29)))))))) (gSeq (gSet [] 1 (f2 [] gMod (f2 [] gMulU (fVar 1) (fC (.int 11400714819323198485))) (f2 [] gPow (fC (.int 2)) (fC (.int 64))))) (gSeq (gSet [] 1 (f2 [] gXor (fVar 1) (f2 [] gDiv (fVar 1) (f2 [] gPow (fC (.int 2)) (fC (.int 32)))))) (gRet [] (fN gMax2 (fACons [] (fVar 1) (fACons [] (fC (.int 1)) fANil)))))))
def m__law_mix : List T → Option (Rv × List T) := runB 1 3 [1, 2] g__law_mix
def tp (cs : List Int) (i r s : Int) : T := .ow false .lst [.ow false .lst (cs.map fun c => .v (.int c)), .v (.int i), .v (.int r), .v (.int s)]
@[scoped simp] theorem ix2 : ixN 4 2 = some 2 := rfl
theorem next_pos (cs : List Int) (i r s m : Int) (hr : 0 < r) (hm : 0 < m) (hm2 : m < 2 ^ 200) : m__law_next [tp cs i r s, .v (.int m)] = some (.ret (.v (.int (r % m))), [tp cs i (r / m) s, .v (.int m)]) := by
  have h1 : cDiv r m = true := cDiv_of hm hm2
  have h2 : cPos r m = true := cPos_of hm
  refine (ap_run rfl).trans ?_
  unfold g__law_next
  simp [tp, hr, startG, gIx, fzSq, itm, h1, h2, gSetL, outAt]
theorem ix4 (k : Nat) (h : k < 4) : ixN 4 (k : Int) = some k := by unfold ixN; rw [if_pos (by omega), if_pos (by omega)]; simp
@[scoped simp] theorem ix40 : ixN 4 0 = some 0 := rfl
@[scoped simp] theorem ix41 : ixN 4 1 = some 1 := rfl
@[scoped simp] theorem ix43 : ixN 4 3 = some 3 := rfl
theorem ixI {n : Nat} {i : Int} (h : 0 ≤ i) (k : i < n) : ixN n i = some i.toNat := by unfold ixN; rw [if_pos h, if_pos k]
theorem next_in1 (cs : List Int) (i r s m c : Int) (hr : ¬ 0 < r) (hi : 0 ≤ i) (hn : i < cs.length) (hc : cs[i.toNat]? = some c) (hb : (1000000000000000000 : Int) ≤ (if c < 0 then -c else c)) (hm : 0 < m) (hm2 : m < 2 ^ 200) :
    m__law_next [tp cs i r s, .v (.int m)] = some (.ret (.v (.int ((if c < 0 then -c else c) % m))), [tp cs (i + 1) ((if c < 0 then -c else c) / m) s, .v (.int m)]) := by
  have h1 : cDiv (if c < 0 then -c else c) m = true := cDiv_of hm hm2
  have h2 : cPos (if c < 0 then -c else c) m = true := cPos_of hm
  have h3 : cPow 10 18 = true := by decide
  have h4 : ixN cs.length i = some i.toNat := ixI hi hn
  refine (ap_run rfl).trans ?_
  unfold g__law_next
  simp [tp, hr, startG, gIx, gIxL, fzSq, itm, h1, h2, h3, h4, hn, hc, hb, gSetL, outAt, gLen]
theorem next_in2 (cs : List Int) (i r s m c : Int) (hr : ¬ 0 < r) (hi : 0 ≤ i) (hn : i < cs.length) (hc : cs[i.toNat]? = some c) (hb : ¬ (1000000000000000000 : Int) ≤ (if c < 0 then -c else c)) (hm : 0 < m) (hm2 : m < 2 ^ 200) :
    m__law_next [tp cs i r s, .v (.int m)] = some (.ret (.v (.int (((s * 48271 + (if c < 0 then -c else c) * 69621 + 11) % 2147483647 * 16807 % 2147483647 / 7) % m))), [tp cs (i + 1) r ((s * 48271 + (if c < 0 then -c else c) * 69621 + 11) % 2147483647), .v (.int m)]) := by
  have h2 : ∀ z, cPos z m = true := fun z => cPos_of hm
  have h3 : cPow 10 18 = true := by decide
  have h4 : ixN cs.length i = some i.toNat := ixI hi hn
  have h5 : ∀ z, cMul z 48271 = true := fun z => cMulR (by decide) (by decide)
  have h6 : ∀ z, cMul z 69621 = true := fun z => cMulR (by decide) (by decide)
  have h7 : ∀ z, cMul z 16807 = true := fun z => cMulR (by decide) (by decide)
  have h8 : ∀ z, cPos z 2147483647 = true := fun z => rfl
  have h9 : ∀ z, cDiv z 7 = true := fun z => cDiv_of (by decide) (by decide)
  refine (ap_run rfl).trans ?_
  unfold g__law_next
  simp [tp, hr, startG, gIx, gIxL, fzSq, itm, h2, h3, h4, h5, h6, h7, h8, h9, hn, hc, hb, gSetL, outAt, gLen]
theorem next_out (cs : List Int) (i r s m : Int) (hr : ¬ 0 < r) (hn : ¬ i < cs.length) (hm : 0 < m) (hm2 : m < 2 ^ 200) :
    m__law_next [tp cs i r s, .v (.int m)] = some (.ret (.v (.int (((s * 48271 + 0 * 69621 + 11) % 2147483647 * 16807 % 2147483647 / 7) % m))), [tp cs i r ((s * 48271 + 0 * 69621 + 11) % 2147483647), .v (.int m)]) := by
  have h2 : ∀ z, cPos z m = true := fun z => cPos_of hm
  have h3 : cPow 10 18 = true := by decide
  have h5 : ∀ z, cMul z 48271 = true := fun z => cMulR (by decide) (by decide)
  have h6 : ∀ z, cMul z 69621 = true := fun z => cMulR (by decide) (by decide)
  have h7 : ∀ z, cMul z 16807 = true := fun z => cMulR (by decide) (by decide)
  have h8 : ∀ z, cPos z 2147483647 = true := fun z => rfl
  have h9 : ∀ z, cDiv z 7 = true := fun z => cDiv_of (by decide) (by decide)
  refine (ap_run rfl).trans ?_
  unfold g__law_next
  simp [tp, hr, startG, gIx, gIxL, fzSq, itm, h2, h3, h5, h6, h7, h8, h9, hn, gSetL, outAt, gLen]
theorem next_ok (cs : List Int) (i r s m : Int) (hi : 0 ≤ i) (hm : 0 < m) (hm2 : m < 2 ^ 200) : ∃ i' r' s' v, 0 ≤ i' ∧ 0 ≤ v ∧ v < m ∧ m__law_next [tp cs i r s, .v (.int m)] = some (.ret (.v (.int v)), [tp cs i' r' s', .v (.int m)]) := by
  have hm0 : m ≠ 0 := by omega
  by_cases hr : 0 < r
  · exact ⟨_, _, _, _, hi, Int.emod_nonneg _ hm0, Int.emod_lt_of_pos _ hm, next_pos cs i r s m hr hm hm2⟩
  · by_cases hn : i < cs.length
    · obtain ⟨c, hc⟩ : ∃ c, cs[i.toNat]? = some c := ⟨_, List.getElem?_eq_getElem (by omega)⟩
      by_cases hb : (1000000000000000000 : Int) ≤ (if c < 0 then -c else c)
      · exact ⟨_, _, _, _, by omega, Int.emod_nonneg _ hm0, Int.emod_lt_of_pos _ hm, next_in1 cs i r s m c hr hi hn hc hb hm hm2⟩
      · exact ⟨_, _, _, _, by omega, Int.emod_nonneg _ hm0, Int.emod_lt_of_pos _ hm, next_in2 cs i r s m c hr hi hn hc hb hm hm2⟩
    · exact ⟨_, _, _, _, hi, Int.emod_nonneg _ hm0, Int.emod_lt_of_pos _ hm, next_out cs i r s m hr hn hm hm2⟩
@[scoped simp] theorem tpP {cs : List Int} {i r s : Int} : T.pers (tp cs i r s) = false := rfl
theorem next_run (cs : List Int) (i r s m : Int) (hi : 0 ≤ i) (hm : 0 < m) (hm2 : m < 2 ^ 200) : ∃ i' r' s' v, 0 ≤ i' ∧ 0 ≤ v ∧ v < m ∧ runS m__law_next [tp cs i r s, .v (.int m)] = some (.v (.int v), [tp cs i' r' s', .v (.int m)]) := by
  obtain ⟨i', r', s', v, h1, h2, h3, e⟩ := next_ok cs i r s m hi hm hm2
  exact ⟨i', r', s', v, h1, h2, h3, ap_rs e rfl⟩
/-! ### numbers, values, names -/
theorem kit_ii : kitB "int" "int" = some true := by decide
theorem kit_ib : kitB "int" "bool" = some false := by decide
theorem kit_bi : kitB "bool" "int" = some true := by decide
theorem kit_bb : kitB "bool" "bool" = some true := by decide
theorem kit_ni : kitB "NoneType" "int" = some false := by decide
theorem kit_si : kitB "str" "int" = some false := by decide
theorem kit_ti : kitB "tuple" "int" = some false := by decide
theorem num_int (v : Int) : runS m_is_number [.v (.int v)] = some (.v (.bl true), [.v (.int v)]) := by
  refine ap_rs ((ap_run rfl).trans ?_) rfl
  unfold g_is_number
  simp [startG, gIsi, tyOf?, kit_ii, kit_ib, outAt]
theorem num_not (t : T) (hp : t.pers = true) (h : t = .v (.bl true) ∨ t = .v .non ∨ (∃ s, t = .v (.str s)) ∨ ∃ xs, t = .fz .tup xs) : runS m_is_number [t] = some (.v (.bl false), [t]) := by
  refine ap_rs ((ap_run rfl).trans ?_) rfl
  unfold g_is_number
  rcases h with rfl | rfl | ⟨s, rfl⟩ | ⟨xs, rfl⟩
  · simp [startG, gIsi, tyOf?, kit_bi, kit_bb, outAt]
  · simp [startG, gIsi, tyOf?, kit_ni, outAt]
  · simp [startG, gIsi, tyOf?, kit_si, outAt]
  · simp [startG, gIsi, tyOf?, kit_ti, outAt]
theorem btw_int (v a b : Int) : runS m_is_between [.v (.int v), .v (.int a), .v (.int b)] = some (.v (.bl (decide (a ≤ v) && decide (v ≤ b))), [.v (.int v), .v (.int a), .v (.int b)]) := by
  refine ap_rs ((ap_run rfl).trans ?_) rfl
  unfold g_is_between
  by_cases h : a ≤ v
  · simp [startG, num_int, outAt, h, bl?]
  · simp [startG, num_int, outAt, h, bl?]
theorem btw_not (t : T) (a b : Int) (hp : t.pers = true) (h : t = .v (.bl true) ∨ t = .v .non ∨ (∃ s, t = .v (.str s)) ∨ ∃ xs, t = .fz .tup xs) : runS m_is_between [t, .v (.int a), .v (.int b)] = some (.v (.bl false), [t, .v (.int a), .v (.int b)]) := by
  refine ap_rs ((ap_run rfl).trans ?_) rfl
  unfold g_is_between
  simp [startG, num_not t hp h, outAt, hp]
theorem val_int (v : Int) : runS m_is_value [.v (.int v)] = some (.v (.bl (decide (0 ≤ v) && decide (v ≤ 18446744073709551615))), [.v (.int v)]) := by
  refine ap_rs ((ap_run rfl).trans ?_) rfl
  unfold g_is_value
  simp [startG, btw_int, outAt]
theorem val_not (t : T) (hp : t.pers = true) (h : t = .v (.bl true) ∨ t = .v .non ∨ (∃ s, t = .v (.str s)) ∨ ∃ xs, t = .fz .tup xs) : runS m_is_value [t] = some (.v (.bl false), [t]) := by
  refine ap_rs ((ap_run rfl).trans ?_) rfl
  unfold g_is_value
  simp [startG, btw_not t _ _ hp h, outAt, hp]
theorem name_int (v : Int) : runS m_is_name [.v (.int v)] = some (.v (.bl (decide (1 ≤ v) && decide (v ≤ 18446744073709551615))), [.v (.int v)]) := by
  refine ap_rs ((ap_run rfl).trans ?_) rfl
  unfold g_is_name
  simp [startG, btw_int, outAt]
theorem name_not (t : T) (hp : t.pers = true) (h : t = .v (.bl true) ∨ t = .v .non ∨ (∃ s, t = .v (.str s)) ∨ ∃ xs, t = .fz .tup xs) : runS m_is_name [t] = some (.v (.bl false), [t]) := by
  refine ap_rs ((ap_run rfl).trans ?_) rfl
  unfold g_is_name
  simp [startG, btw_not t _ _ hp h, outAt, hp]

def inL (vs : List Int) : List T := vs.map fun v => .v (.int v)
def stp (m v : Int) : Int := Builtin.bitXor (Builtin.bitXor m v * 1099511628211 % 18446744073709551616) (Builtin.bitXor m v * 1099511628211 % 18446744073709551616 / 536870912)
def fin (m : Int) : Int := Builtin.bitXor (m * 11400714819323198485 % 18446744073709551616) (m * 11400714819323198485 % 18446744073709551616 / 4294967296)
def mixV (vs : List Int) : Int := max 1 (fin (((vs.length : Int) :: vs).foldl stp 1469598103934665603))
theorem mask64 (i : Int) : Builtin.bitAnd i 18446744073709551615 = i % 18446744073709551616 := by
  have := PySem.W.kbt_mask i 64
  simpa using this
theorem lc_isv (b : T → Bool) : ∀ (xs : List T), (∀ t ∈ xs, t.pers = true ∧ runS m_is_value [t] = some (.v (.bl (b t)), [t])) → ∀ (acc : List T) (a o c : Option T),
    ∃ o', lcGo [] [1] (fNm 1) (fun Γ => some (Γ, true)) (fCall [] [] m_is_value [] (fACons [] (fVar 1) fANil)) xs [a, o, c] acc = some ([a, o', c], acc ++ xs.map fun t => .v (.bl (b t)))
  | [], _, acc, a, o, c => ⟨o, by simp [lcGo]⟩
  | x :: xs, h, acc, a, o, c => by
    obtain ⟨hp, hx⟩ := h x List.mem_cons_self
    obtain ⟨o', e⟩ := lc_isv b xs (fun t m => h t (List.mem_cons_of_mem _ m)) (acc ++ [.v (.bl (b x))]) a (some x) c
    refine ⟨o', ?_⟩
    simp [lcGo, wipeG, hp, hx, e]
theorem bls_map (b : T → Bool) : ∀ xs : List T, bls? (xs.map fun t => .v (.bl (b t))) = some (xs.map b)
  | [] => rfl
  | x :: xs => by simp [bls?, bls_map b xs]
theorem gAll_map (b : T → Bool) (xs : List T) : gAll [.ow false .lst (xs.map fun t => .v (.bl (b t)))] = some (.v (.bl (xs.all b))) := by
  simp [gAll, asL, bls_map]
theorem inL_pers (vs : List Int) : (inL vs).all T.pers = true := by
  unfold inL
  rw [List.all_eq_true]
  intro t m
  obtain ⟨v, _, rfl⟩ := List.mem_map.mp m
  rfl
theorem gAddU_l {xs ys : List T} (h : xs.all T.pers = true) (k : ys.all T.pers = true) (l : xs.length + ys.length ≤ 100000) : gAddU (.ow false .lst xs) (.ow false .lst ys) = some (.ow false .lst (xs ++ ys)) := by
  show (match gCat (.ow false .lst xs) (.ow false .lst ys) with | some c => some c | none => _) = _
  unfold gCat
  simp only [plL]
  rw [if_pos (by rw [h, k, decide_eq_true l]; rfl)]
theorem for_mix : ∀ (vs : List Int) (a o : Option T) (m : Int),
    ∃ o', forGo (fNm 1) (gSeq (gSet [] 2 (f2 [] gAnd (f2 [] gMulU (f2 [] gXor (fVar 2) (fVar 1)) (fC (.int 1099511628211))) (fC (.int 18446744073709551615)))) (gSet [] 2 (f2 [] gXor (fVar 2) (f2 [] gShr (fVar 2) (fC (.int 29)))))) (inL vs) [a, o, some (.v (.int m))] = some (.nx [a, o', some (.v (.int (vs.foldl stp m)))])
  | [], a, o, m => ⟨o, rfl⟩
  | v :: vs, a, o, m => by
    obtain ⟨o', e⟩ := for_mix vs a (some (.v (.int v))) (stp m v)
    refine ⟨o', ?_⟩
    have h1 : ∀ z, cMul z 1099511628211 = true := fun z => cMulR (by decide) (by decide)
    have h2 : ∀ z, cNn z 29 = true := fun z => rfl
    unfold stp at e
    simp only [inL] at e
    simp [inL, forGo, h1, h2, mask64, e]
    rfl
theorem isv_int (vs : List Int) (hv : ∀ v ∈ vs, 0 ≤ v ∧ v ≤ 18446744073709551615) : ∀ t ∈ inL vs, t.pers = true ∧ runS m_is_value [t] = some (.v (.bl true), [t]) := fun t m => by
  obtain ⟨v, mv, rfl⟩ := List.mem_map.mp m
  obtain ⟨h1, h2⟩ := hv v mv
  refine ⟨rfl, ?_⟩
  rw [val_int, decide_eq_true h1, decide_eq_true h2]
  rfl
theorem gMax1 (m : Int) : (if m > 1 then m else 1) = max 1 m := by omega
theorem gMax1' (m : Int) : (if 1 > m then 1 else m) = max 1 m := by omega
theorem inL_len (vs : List Int) : (inL vs).length = vs.length := List.length_map _
theorem gLenL (vs : List Int) : gLen [.ow false .lst (inL vs)] = some (.v (.int vs.length)) := by
  show some (T.v (.int (inL vs).length)) = _
  rw [inL_len]
theorem gLenT (vs : List Int) : gLen [.fz .tup (inL vs)] = some (.v (.int vs.length)) := by
  show some (T.v (.int (inL vs).length)) = _
  rw [inL_len]
theorem gListL {xs : List T} (h : xs.all T.pers = true) : gList [.ow false .lst xs] = some (.ow false .lst xs) := by
  show (if xs.all T.pers = true then some (T.ow false .lst xs) else none) = _
  rw [if_pos h]
theorem gListT {xs : List T} : gList [.fz .tup xs] = some (.ow false .lst xs) := rfl
theorem sqTL {xs : List T} : sqT (.ow false .lst xs) = some xs := rfl
theorem sqTT {xs : List T} : sqT (.fz .tup xs) = some xs := rfl
theorem inL_cons (v : Int) (vs : List Int) : T.v (.int v) :: inL vs = inL (v :: vs) := rfl
theorem catL (vs : List Int) (hl : vs.length ≤ 5000) : gAddU (.ow false .lst [.v (.int vs.length)]) (.ow false .lst (inL vs)) = some (.ow false .lst (inL ((vs.length : Int) :: vs))) := by
  rw [gAddU_l rfl (inL_pers vs) (by simp [inL_len]; omega)]
  rfl
theorem mix_ok (vs : List Int) (hv : ∀ v ∈ vs, 0 ≤ v ∧ v ≤ 18446744073709551615) (hl : vs.length ≤ 5000) (t : T) (ht : t = .ow false .lst (inL vs) ∨ t = .fz .tup (inL vs)) : runS m_mix [t] = some (.v (.int (mixV vs)), [t]) := by
  refine ap_rs ((ap_run rfl).trans ?_) rfl
  have h1 : ∀ z, cMul z 11400714819323198485 = true := fun z => cMulR (by decide) (by decide)
  have h2 : ∀ z, cNn z 32 = true := fun z => rfl
  have hp := inL_pers vs
  have hp2 := inL_pers ((vs.length : Int) :: vs)
  have hg := gAll_map (fun _ => true) (inL vs)
  have hall : (inL vs).all (fun _ => true) = true := by simp
  have hl2 : (inL vs).length ≤ 10000 := by rw [inL_len]; omega
  unfold g_mix
  rcases ht with rfl | rfl
  · obtain ⟨o', e⟩ := lc_isv (fun _ => true) (inL vs) (isv_int vs hv) [] (some (.ow false .lst (inL vs))) none none
    obtain ⟨o2, e2⟩ := for_mix ((vs.length : Int) :: vs) (some (.ow false .lst (inL vs))) none 1469598103934665603
    rw [List.nil_append] at e
    simp [startG, e, e2, hg, hp, hp2, hall, hl2, sqTL, persVs, rstG, gLenL, gListL, catL vs hl, h1, h2, mask64, gMax1, outAt, mixV, fin, gTru, -List.all_eq_true]
  · obtain ⟨o', e⟩ := lc_isv (fun _ => true) (inL vs) (isv_int vs hv) [] (some (.fz .tup (inL vs))) none none
    obtain ⟨o2, e2⟩ := for_mix ((vs.length : Int) :: vs) (some (.fz .tup (inL vs))) none 1469598103934665603
    rw [List.nil_append] at e
    simp [startG, e, e2, hg, hp, hp2, hall, hl2, sqTT, sqTL, persVs, rstG, gLenT, gListT, catL vs hl, h1, h2, mask64, gMax1, outAt, mixV, fin, gTru, -List.all_eq_true]
theorem for_lmix : ∀ (vs : List Int) (a o : Option T) (m : Int),
    ∃ o', forGo (fNm 2) (gSeq (gSet [] 1 (f2 [] gMod (f2 [] gMulU (f2 [] gXor (fVar 1) (fVar 2)) (fC (.int 1099511628211))) (f2 [] gPow (fC (.int 2)) (fC (.int 64))))) (gSet [] 1 (f2 [] gXor (fVar 1) (f2 [] gDiv (fVar 1) (f2 [] gPow (fC (.int 2)) (fC (.int 29))))))) (inL vs) [a, some (.v (.int m)), o] = some (.nx [a, some (.v (.int (vs.foldl stp m))), o'])
  | [], a, o, m => ⟨o, rfl⟩
  | v :: vs, a, o, m => by
    obtain ⟨o', e⟩ := for_lmix vs a (some (.v (.int v))) (stp m v)
    refine ⟨o', ?_⟩
    have h1 : ∀ z, cMul z 1099511628211 = true := fun z => cMulR (by decide) (by decide)
    have h2 : cPow 2 64 = true := by decide
    have h3 : cPow 2 29 = true := by decide
    have h4 : ∀ z, cPos z 18446744073709551616 = true := fun z => rfl
    have h5 : ∀ z, cDiv z 536870912 = true := fun z => cDiv_of (by decide) (by decide)
    unfold stp at e
    simp only [inL] at e
    simp [inL, forGo, h1, h2, h3, h4, h5, e]
    rfl
theorem lmix_ok (vs : List Int) (hl : vs.length ≤ 5000) : runS m__law_mix [.ow false .lst (inL vs)] = some (.v (.int (mixV vs)), [.ow false .lst (inL vs)]) := by
  refine ap_rs ((ap_run rfl).trans ?_) rfl
  have h1 : ∀ z, cMul z 11400714819323198485 = true := fun z => cMulR (by decide) (by decide)
  have h2 : cPow 2 64 = true := by decide
  have h3 : cPow 2 32 = true := by decide
  have h4 : ∀ z, cPos z 18446744073709551616 = true := fun z => rfl
  have h5 : ∀ z, cDiv z 4294967296 = true := fun z => cDiv_of (by decide) (by decide)
  have hp := inL_pers vs
  have hp2 := inL_pers ((vs.length : Int) :: vs)
  unfold g__law_mix
  obtain ⟨o2, e2⟩ := for_lmix ((vs.length : Int) :: vs) (some (.ow false .lst (inL vs))) none 1469598103934665603
  simp [startG, e2, hp, hp2, sqTL, gLenL, gListL, catL vs hl, h1, h2, h3, h4, h5, gMax1', outAt, mixV, fin, -List.all_eq_true]
theorem runS_exc {sem : List T → Option (Rv × List T)} {ts us : List T} (e : sem ts = some (.exc, us)) (h : us.length = ts.length) : runS sem ts = none ∧ runS (exS sem) ts = some (.v .non, us) := by
  constructor
  · unfold runS
    rw [e]
  · refine ap_rs ?_ h
    unfold exS
    rw [e]
theorem mix_exc (b : T → Bool) (xs : List T) (h : ∀ t ∈ xs, t.pers = true ∧ runS m_is_value [t] = some (.v (.bl (b t)), [t])) (hb : xs.all b = false) (hl : xs.length ≤ 5000) : m_mix [.fz .tup xs] = some (.exc, [.fz .tup xs]) := by
  refine (ap_run rfl).trans ?_
  have hp : xs.all T.pers = true := List.all_eq_true.mpr fun t m => (h t m).1
  have hg := gAll_map b xs
  have hl2 : xs.length ≤ 10000 := by omega
  obtain ⟨o', e⟩ := lc_isv b xs h [] (some (.fz .tup xs)) none none
  rw [List.nil_append] at e
  unfold g_mix
  simp [startG, e, hg, hp, hb, hl2, sqTT, persVs, rstG, outAt, gTru, -List.all_eq_true, -List.all_eq_false]
theorem xor_lt {a b : Int} (ha : 0 ≤ a) (hb : 0 ≤ b) (h1 : a < 18446744073709551616) (h2 : b < 18446744073709551616) : Builtin.bitXor a b < 18446744073709551616 := by
  rw [Bits.bitXor_pp ha hb]
  have := Nat.xor_lt_two_pow (n := 64) (x := a.toNat) (y := b.toNat) (by omega) (by omega)
  omega
theorem mixV_in (vs : List Int) : 1 ≤ mixV vs ∧ mixV vs ≤ 18446744073709551615 := by
  unfold mixV fin
  have q : ∀ z : Int, 0 ≤ z % 18446744073709551616 ∧ z % 18446744073709551616 < 18446744073709551616 := fun z => ⟨Int.emod_nonneg _ (by decide), Int.emod_lt_of_pos _ (by decide)⟩
  obtain ⟨q1, q2⟩ := q (List.foldl stp 1469598103934665603 ((vs.length : Int) :: vs) * 11400714819323198485)
  have := xor_lt q1 (b := List.foldl stp 1469598103934665603 ((vs.length : Int) :: vs) * 11400714819323198485 % 18446744073709551616 / 4294967296) (by omega) q2 (by omega)
  omega

theorem lmix_okT (vs : List Int) (hl : vs.length ≤ 5000) : runS m__law_mix [.fz .tup (inL vs)] = some (.v (.int (mixV vs)), [.fz .tup (inL vs)]) := by
  refine ap_rs ((ap_run rfl).trans ?_) rfl
  have h1 : ∀ z, cMul z 11400714819323198485 = true := fun z => cMulR (by decide) (by decide)
  have h2 : cPow 2 64 = true := by decide
  have h3 : cPow 2 32 = true := by decide
  have h4 : ∀ z, cPos z 18446744073709551616 = true := fun z => rfl
  have h5 : ∀ z, cDiv z 4294967296 = true := fun z => cDiv_of (by decide) (by decide)
  have hp := inL_pers vs
  have hp2 := inL_pers ((vs.length : Int) :: vs)
  unfold g__law_mix
  obtain ⟨o2, e2⟩ := for_lmix ((vs.length : Int) :: vs) (some (.fz .tup (inL vs))) none 1469598103934665603
  simp [startG, e2, hp, hp2, sqTL, gLenT, gListT, catL vs hl, h1, h2, h3, h4, h5, gMax1', outAt, mixV, fin, -List.all_eq_true]
end
end Vq

set_option maxRecDepth 100000
/-! Vx27: data compared -/
namespace Vx
open PySem L2
def ShD (n : Nat) (t : T) : Prop := ∃ d, toPD t = some d ∧ d.canLay0 = true ∧ d.depth ≤ n
def ShDs (n : Nat) (ts : List T) : Prop := ∃ ds, toPDs ts = some ds ∧ PyData.canLayAll0 ds = true ∧ PyData.depthAll ds ≤ n
theorem ShD.int (i : Int) : ShD 1 (.v (.int i)) := ⟨.int i, rfl, rfl, by simp [PyData.depth]⟩
theorem ShD.bl (i : Bool) : ShD 1 (.v (.bl i)) := ⟨.bool i, rfl, rfl, by simp [PyData.depth]⟩
theorem ShD.non : ShD 1 (.v .non) := ⟨.none, rfl, rfl, by simp [PyData.depth]⟩
theorem ShD.str {s : Str} (h : (PyData.str s).canLay0 = true) : ShD 1 (.v (.str s)) := ⟨.str s, rfl, h, by simp [PyData.depth]⟩
theorem ShD.up {n m : Nat} {t : T} (h : ShD n t) (k : n ≤ m) : ShD m t := let ⟨d, a, b, c⟩ := h; ⟨d, a, b, Nat.le_trans c k⟩
theorem ShDs.up {n m : Nat} {t : List T} (h : ShDs n t) (k : n ≤ m) : ShDs m t := let ⟨d, a, b, c⟩ := h; ⟨d, a, b, Nat.le_trans c k⟩
theorem ShDs.nil {n : Nat} : ShDs n [] := ⟨[], rfl, rfl, by simp [PyData.depthAll]⟩
theorem ShDs.cons {n : Nat} {t : T} {ts : List T} (h : ShD n t) (k : ShDs n ts) : ShDs n (t :: ts) := by
  obtain ⟨d, a, b, c⟩ := h
  obtain ⟨ds, a2, b2, c2⟩ := k
  refine ⟨d :: ds, ?_, by simp [PyData.canLayAll0, b, b2], by simp only [PyData.depthAll]; omega⟩
  unfold toPDs
  rw [a, a2]
theorem ShDs.all {n : Nat} : ∀ {ts : List T}, (∀ t ∈ ts, ShD n t) → ShDs n ts
  | [], _ => .nil
  | t :: ts, h => .cons (h t List.mem_cons_self) (.all fun u m => h u (List.mem_cons_of_mem _ m))
theorem ShD.tup {n : Nat} {ts : List T} (h : ShDs n ts) : ShD (n + 1) (.fz .tup ts) := by
  obtain ⟨ds, a, b, c⟩ := h
  refine ⟨.tuple ds, ?_, by simpa [PyData.canLay0] using b, by simp only [PyData.depth]; omega⟩
  unfold toPD
  rw [a]
  rfl
theorem ShD.lst {n : Nat} {ts : List T} (h : ShDs n ts) : ShD (n + 1) (.ow false .lst ts) := by
  obtain ⟨ds, a, b, c⟩ := h
  refine ⟨.list ds, ?_, by simpa [PyData.canLay0] using b, by simp only [PyData.depth]; omega⟩
  unfold toPD
  rw [a]
  rfl
theorem ShD.shaped {t : T} (h : ShD 64 t) : ∃ d, toPD t = some d ∧ SeqAt.shaped d = true ∧ d.canLay0 = true := by
  obtain ⟨d, a, b, c⟩ := h
  exact ⟨d, a, by unfold SeqAt.shaped; rw [b, decide_eq_true c]; rfl, b⟩
theorem gEq_self {t : T} (h : ShD 64 t) : gEq t t = some (.v (.bl true)) := by
  obtain ⟨d, a, b, c⟩ := h.shaped
  unfold gEq
  rw [a]
  show (if SeqAt.shaped d = true ∧ SeqAt.shaped d = true then some (T.v (.bl (PyData.eqv d d))) else none) = _
  rw [if_pos ⟨b, b⟩, SeqAt.eqv_refl d c]
theorem gNe_self {t : T} (h : ShD 64 t) : gNe t t = some (.v (.bl false)) := by
  obtain ⟨d, a, b, c⟩ := h.shaped
  unfold gNe
  rw [a]
  show (if SeqAt.shaped d = true ∧ SeqAt.shaped d = true then some (T.v (.bl (!PyData.eqv d d))) else none) = _
  rw [if_pos ⟨b, b⟩, SeqAt.eqv_refl d c]
  rfl
theorem gEq_int (a b : Int) : gEq (.v (.int a)) (.v (.int b)) = some (.v (.bl (decide (a = b)))) := by
  have e : PyData.eqv (.int a) (.int b) = decide (a = b) := by simp only [PyData.eqv]; exact Bool.beq_eq_decide_eq a b
  show (if SeqAt.shaped (.int a) = true ∧ SeqAt.shaped (.int b) = true then some (T.v (.bl (PyData.eqv (.int a) (.int b)))) else none) = _
  rw [if_pos ⟨rfl, rfl⟩, e]
theorem gNe_int (a b : Int) : gNe (.v (.int a)) (.v (.int b)) = some (.v (.bl (!decide (a = b)))) := by
  have e : PyData.eqv (.int a) (.int b) = decide (a = b) := by simp only [PyData.eqv]; exact Bool.beq_eq_decide_eq a b
  show (if SeqAt.shaped (.int a) = true ∧ SeqAt.shaped (.int b) = true then some (T.v (.bl (!PyData.eqv (.int a) (.int b)))) else none) = _
  rw [if_pos ⟨rfl, rfl⟩, e]
/-- a list and the empty one -/
theorem gEq_nil {ts : List T} (h : ShDs 62 ts) : gEq (.ow false .lst ts) (.ow false .lst []) = some (.v (.bl ts.isEmpty)) := by
  obtain ⟨d, a, b, c⟩ := (ShD.lst h).up (m := 64) (by decide) |>.shaped
  cases ts with
  | nil => exact gEq_self ((ShD.lst ShDs.nil).up (n := 1) (by decide))
  | cons t ts =>
    obtain ⟨ds, a2, b2, c2⟩ := h
    have e : d = .list ds := by
      unfold toPD at a
      rw [a2] at a
      cases a
      rfl
    subst e
    have ne : ds ≠ [] := by
      intro z
      subst z
      unfold toPDs at a2
      split at a2 <;> cases a2
    unfold gEq
    rw [a]
    show (if SeqAt.shaped (.list ds) = true ∧ SeqAt.shaped (.list []) = true then some (T.v (.bl (PyData.eqv (.list ds) (.list [])))) else none) = _
    rw [if_pos ⟨b, rfl⟩]
    cases ds with
    | nil => exact absurd rfl ne
    | cons d ds => rfl
theorem gNe_nil {ts : List T} (h : ShDs 62 ts) : gNe (.ow false .lst ts) (.ow false .lst []) = some (.v (.bl (!ts.isEmpty))) := by
  have := gEq_nil h
  unfold gEq at this
  unfold gNe
  split at this
  · rename_i d e h1 h2
    split at this
    · rename_i hc
      rw [if_pos hc]
      have z : PyData.eqv d e = ts.isEmpty := by simpa using this
      rw [z]
    · cases this
  · cases this
namespace Vp
@[scoped simp] theorem ap_gTb {b : Bool} : gTru (.v (.bl b)) = some b := rfl
@[scoped simp] theorem ap_gTn : gTru (.v .non) = some false := rfl
@[scoped simp] theorem ap_gTi {i : Int} : gTru (.v (.int i)) = some (i != 0) := rfl
@[scoped simp] theorem ap_gTl {xs : List T} : gTru (.ow false .lst xs) = some (!xs.isEmpty) := rfl
@[scoped simp] theorem ap_gTt {xs : List T} : gTru (.fz .tup xs) = some (!xs.isEmpty) := rfl
@[scoped simp] theorem ap_gTf {xs : List T} : gTru (.fz .lst xs) = some (!xs.isEmpty) := rfl
end Vp
theorem gAddU_t {xs ys : List T} (l : xs.length + ys.length ≤ 100000) : gAddU (.fz .tup xs) (.fz .tup ys) = some (.fz .tup (xs ++ ys)) := by
  have h : gAddU (.fz .tup xs) (.fz .tup ys) = gCatA (.fz .tup xs) (.fz .tup ys) := by
    have h1 : gAdd (.fz .tup xs) (.fz .tup ys) = none := rfl
    have h2 : gCat (.fz .tup xs) (.fz .tup ys) = none := rfl
    unfold gAddU gEi
    rw [h1]
    dsimp only
    rw [h2]
  rw [h]
  unfold gCatA
  simp only [asT]
  rw [if_pos (decide_eq_true l)]
  by_cases h : xs = []
  · subst h; rfl
  · rw [if_neg h]
    by_cases k : ys = []
    · subst k; rw [if_pos rfl, List.append_nil]
    · rw [if_neg k]
end Vx

set_option maxRecDepth 100000
/-! Vx28: dicts more: comprehensions of either kind of keys, copies, keys in a row -/
namespace Vx
open PySem PySem.Spec L2 PyProof.Rows
section
variable {X : Cx}
/-- a comprehension puts -/
theorem d_putC {pins : List (Addr × Obj)} {σ : L2.St} {H H' : Hp} {s : Shared} {E : Value → Shared → Prop} {D : Addr} {y z : V} {u r : Value} {Q : Unit → Shared → Prop} (hu : X.A.units + 1 < cLine) (I : Inv X pins σ H s) (g : DPut H D y z H')
    (ry : RelV y u) (rz : RelV z r) (h : ∀ s', Inv X pins σ H' s' → Q () s') : wpAny (model X.prog X.w) X.A (dictSet D u r) Q E s := by
  rcases g with ⟨kvs, k, e, ey, l, eH⟩ | ⟨kvs, k, b, e, ey, eb, l, eH⟩
  · subst ey eH
    exact d_dictSet I e l ry rz h
  · subst ey eH
    cases (show u = Value.ref b from ry)
    obtain ⟨z1, lo, xs, rel, dd⟩ := dt_of I.hok e
    have zx : xs.length ≤ sizeLine := (Paired.length rel).symm ▸ z1
    have zp : (putK kvs k z).length ≤ sizeLine := Nat.le_trans (length_putK kvs k z) l
    refine wpAny_dictSet_heap (hsz := zx) (show X.A.units < cLine by omega) (key_of I.hok eb) dd fun h' dd' sb => h _ ?_
    obtain ⟨ob, es, ep, g1, g2, g3, g4, _, g5⟩ := dd'
    have kt := rel.put k eb rz
    refine d_write I (e ▸ True.intro) sb ⟨ob, g1⟩ ⟨zp, lo, _, kt.keeps fun c ys ec => ?_, ob, es, ep, g1, g2, g3, g4, g5⟩
    have hcd : c ≠ D := ne_of ec e (fun z => nomatch z)
    rw [upd_ne hcd]
    exact ec
/-- {k: v for target in it if ..}: D the new dict, kd what it is at the beginning -/
def tDcP (kd : HO) (wi : TI) (g : TG) (tt : TT) (tk tv : TE) (vs : List Nat) : TE := fun σ H Q => wi σ H fun J H1 =>
  ∀ D, H1 D = none → ∃ W : Nat → Nat → Hp → Prop, (∃ m, W 0 m (upd H1 D kd)) ∧ ∀ i m H, W i m H → (J.stop i H ∧ Q (.ref D) H) ∨
    (J.go i H ∧ ∃ Nx : Hp → Prop, (∀ H', Nx H' → ∃ m', m' < m ∧ W (i + 1) m' H') ∧
      ∀ x H', J.yld i H x H' → g x (wipe σ vs) H' fun σ2 H2 => wipe σ2 vs = wipe σ vs ∧ tt σ2 H2 fun b H3 => if b = true then (tk σ2 H3 fun y H4 => tv σ2 H4 fun z H5 => ∃ H6, DPut H5 D y z H6 ∧ Nx H6) else Nx H3)
theorem pe_dcP {kd : HO} {kx vx tg it : Expr} {ifs : List Expr} {scope : Scope} {own : List (Str × Nat)} {pos : Pos} {wi : TI} {g : TG} {tt : TT} {tk tv : TE} (hkd : kd = .dK [] ∨ kd = .dT []) (hu : X.A.units + 1 < cLine) (hc : X.calm = true) (hN : X.N.Nodup)
    (hi : PI X tg it wi) (ok : BlkOk X.N X.env.scope scope own)
    (hb : ∀ (s : Shared) (H : Hp) (C : Addr) (cl : List (Str × Addr)) (fp : List Addr), (PG (X.blk s H scope (compEnvC scope cl C X.env) fp) tg g ∧ PTs (X.blk s H scope (compEnvC scope cl C X.env) fp) ifs tt) ∧
      PE (X.blk s H scope (compEnvC scope cl C X.env) fp) kx tk ∧ PE (X.blk s H scope (compEnvC scope cl C X.env) fp) vx tv)
    (hs : ∀ x, foldedSetIterable it X.env x = pure x) : PE X (.DictComp kx vx [⟨tg, it, ifs, 0⟩] scope pos) (tDcP kd wi g tt tk tv (own.map (·.2))) := by
  refine ⟨fun pins s σ H Q I h => ?_⟩
  rw [arm_eval_DictComp]
  have frees : ∀ y ∈ scope.names, y.2 = .free → ∃ c, X.env.cells.lookup y.1 = some c :=
    fun y hy e => (ok.free y hy e).elim (fun k => I.ok.has _ (.inl k)) fun k => I.ok.has _ (.inr k)
  refine wpAny_comprehension_free (use := none) rfl hs (closure_ok frees) ok.kind (fun y hy e => by rw [ok.uniq y hy, e]) ?_
  refine thn (hi.run pins s σ H _ I h) fun _ sA hA => thn hA fun _ sB ⟨ia, fp, tn, J, HB, e, IB, T, stB, fB, q⟩ => ?_
  subst e
  refine wpAny_newObj_type (newEnv_comp ?_)
  generalize hD : sB.heap.objs.size = D
  have nD : HB D = none := IB.hok.fresh (Nat.le_of_eq hD)
  obtain ⟨W, ⟨m0, w0⟩, turn⟩ := q D nD
  -- the new dict lies there
  generalize hsC : ({ sB with heap := sB.heap.push { cls := .type "dict", data := .dict #[] } } : Shared) = sC
  have IC : Inv X pins σ (upd HB D kd) sC := by
    subst hsC
    refine IB.laid (t' := sB.toks) (fun b o e => Heap.get?_push_of_some _ e) (Nat.le_of_eq hD) ?_
    subst hD
    rcases hkd with rfl | rfl
    · exact dk_empty sB.heap IB.big
    · exact dt_empty sB.heap IB.big
  have hpC : sC.heap = sB.heap.push { cls := .type "dict", data := .dict #[] } := by subst hsC; rfl
  have inB : ∀ b ∈ fp, b < sB.heap.objs.size := fun b hb => let ⟨o, e, _⟩ := T.obj _ _ stB b hb; Heap.lt_size e
  have fC : ∀ b ∈ fp, FpOk X pins (upd HB D kd) b ∧ b < sC.heap.objs.size := fun b hb => by
    have lt := inB b hb
    have bD : b ≠ D := hD ▸ Nat.ne_of_lt lt
    refine ⟨⟨by rw [upd_ne bD]; exact (fB b hb).1, (fB b hb).2⟩, ?_⟩
    rw [hpC, Heap.size_push]
    exact Nat.lt_succ_of_lt lt
  have stC : tn 0 sC.heap := T.keep _ _ _ stB fun b _ o e => hpC ▸ Heap.get?_push_of_some _ e
  have IS := block_start IC ok hN fC
  have bl := hb sC (upd HB D kd) sC.heap.objs.size (cellsFrom (sC.heap.objs.size + 1) scope.names (cloFrom X.env.cells scope.names [])) fp
  show codeAny _ _ (.compStart (.DictComp kx vx [⟨tg, it, ifs, 0⟩] scope pos) 0 (.ref ia) (.ref D) (compEnvC scope (cellsFrom (sC.heap.objs.size + 1) scope.names (cloFrom X.env.cells scope.names [])) sC.heap.objs.size X.env)) _
    { sC with heap := pushCells (sC.heap.push { cls := .type "dict", data := .dict #[] }) scope.names }
  have nC : ∀ b ∈ fp, (upd HB D kd) b = none := fun b hb => (fC b hb).1.1
  generalize hce : compEnvC scope (cellsFrom (sC.heap.objs.size + 1) scope.names (cloFrom X.env.cells scope.names [])) sC.heap.objs.size X.env = ce at IS bl ⊢
  have cL : ce.locals = sC.heap.objs.size := by subst hce; rfl
  generalize hHC : upd HB D kd = HC at IC IS bl w0 nC fC
  generalize hsS : ({ sC with heap := pushCells (sC.heap.push { cls := .type "dict", data := .dict #[] }) scope.names } : Shared) = sS at IS ⊢
  have stS : tn 0 sS.heap := T.keep _ _ _ stC fun b _ o e => by
    subst hsS
    exact pushCells_keeps _ _ _ _ (Heap.get?_push_of_some _ e)
  have stat : ∀ {σ' : L2.St} {H' : Hp} {s' : Shared}, Inv (X.blk sC HC scope ce fp) [] σ' H' s' → (∀ b ∈ fp, H' b = none) → ∀ b ∈ fp, FpOk (X.blk sC HC scope ce fp) [] H' b :=
    fun {_ _ _} I' hn b hb => ⟨hn b hb, (I'.ok.exf b hb).1, I'.ok.exfs b hb, .inl hb, fun x c e => (I'.ok.exf b hb).2 x c e, fun p hp => nomatch (show p ∈ ([] : List (Addr × Obj)) ++ [] from hp)⟩
  refine codeAny_compStart_dict ?loop (T.self X.A 0 _ _ _ stS ?loop)
  refine compLoop_anyD (fun n s' => ∃ i H', Inv (X.blk sC HC scope ce fp) [] (wipe σ (own.map (·.2))) H' s' ∧ tn i s'.heap ∧ (∀ b ∈ fp, H' b = none) ∧ W i n H') ?_ m0 ⟨0, HC, IS, stS, nC, w0⟩
  rintro n s5 ⟨i, H5, I5, st5, n5, w5⟩
  rcases turn i n H5 w5 with ⟨stop, fin⟩ | ⟨go, Nx, hNx, step⟩
  · refine thnF (T.done (X.blk sC HC scope ce fp) rfl rfl rfl hc i [] s5 _ H5 (fun _ _ => False) I5 (stat I5 n5) st5 stop) fun r s6 ⟨hr, I6⟩ => ?_
    subst hr
    -- the def's own context again
    have I7 : Inv X pins σ H5 s6 := IC.call' (ch := fp) I6.os I6.base I6.hok I6.bare fun b hb => let z := (fC b hb).1.2; ⟨z.2.2.1, z.1, z.2.2.2.1, z.2.2.2.2⟩
    have nL : H5 sC.heap.objs.size = none := cL ▸ (show H5 ce.locals = none from I6.free)
    obtain ⟨m, hn, _⟩ := I6.loc
    obtain ⟨f0, f1, f2, f3, f4, f5⟩ := IC.fpOk (Nat.le_refl _) nL
    have hn' : s6.heap.Ns sC.heap.objs.size m := cL ▸ (show s6.heap.Ns ce.locals m from hn)
    refine ⟨m, hn', fun h'' sb => ⟨.ref D, H5, I7.turned (t' := s6.toks) (fun b o ne e => (sb.2 b ne).trans e) ?_ f1 f3 f4 f5, rfl, fin⟩⟩
    exact nL
  · refine thnF (T.item (X.blk sC HC scope ce fp) rfl rfl rfl hc i [] s5 _ H5 (fun _ _ => False) I5 (stat I5 n5) st5 go) fun r s6 ⟨u, hr, h6⟩ => ?_
    subst hr
    refine thnF h6 fun _ s7 ⟨x, H7, I7, r7, y7, st7, n7⟩ => ?_
    refine thnF (bl.1.1.run _ s7 _ H7 x u _ (I7.pinned (stat I7 n7) (T.obj _ _ st7)) r7 (step x H7 y7)) fun _ s8 ⟨σ8, H8, I8, hw8, q8⟩ => ?_
    refine thnF (bl.1.2.run _ s8 σ8 H8 _ I8 q8) fun b s9 ⟨H9, I9, q9⟩ => ?_
    have wrap : ∀ {s' : Shared} {H' : Hp}, Inv (X.blk sC HC scope ce fp) ([] ++ pinsAt fp s7.heap) σ8 H' s' → Nx H' →
        ∃ m, m < n ∧ ∃ i H', Inv (X.blk sC HC scope ce fp) [] (wipe σ (own.map (·.2))) H' s' ∧ tn i s'.heap ∧ (∀ b ∈ fp, H' b = none) ∧ W i m H' := fun {s' H'} I' nx => by
      obtain ⟨m', lt, w'⟩ := hNx H' nx
      have held : ∀ b ∈ fp, ∀ o, s7.heap.get? b = some o → s'.heap.get? b = some o ∧ H' b = none := fun b hb o e => by
        have z := I'.pin (b, o) (List.mem_append_right _ (List.mem_append_right _ (mem_pinsAt hb e)))
        exact ⟨z.1, z.2.1⟩
      have sl : (wipe σ (own.map (·.2))).length = σ8.length := (congrArg List.length hw8).symm.trans (wipe_length ..)
      refine ⟨m', lt, i + 1, H', (I'.unpinned (pins := [])).weak sl fun j v e => ?_, T.keep _ _ _ st7 fun b hb o e => (held b hb o e).1, fun b hb => ?_, w'⟩
      · exact (wipe_some (hw8 ▸ e)).1
      · obtain ⟨o, e, _⟩ := T.obj _ _ st7 b hb
        exact (held b hb o e).2
    cases b with
    | false => exact wrap I9 q9
    | true =>
      refine thnF (bl.2.1.run _ s9 σ8 H9 _ I9 q9) fun z1 sE ⟨yk, HE, IE, rE, qE⟩ => ?_
      refine thnF (bl.2.2.run _ sE σ8 HE _ IE qE) fun z2 sF ⟨yv, HF, IF, rF, HG, put, nx⟩ => ?_
      exact d_putC (X := X.blk sC HC scope ce fp) hu IF put rE rF fun sG IG => wrap IG nx

theorem kt_hashes {P : Program} {w : World} {H : Hp} : ∀ {kvs : List (List Key × V)} {xs : List (List Key × Addr × Value)}, KT H kvs xs → (xs.map fun x => (tupleKind (mixKind P w)).hash x.1) = kvs.map fun p => tupleKeyHash (mixKind P w) p.1
  | [], [], _ => rfl
  | p :: ps, x :: xs, .cons h t => by
    rw [List.map_cons, List.map_cons, kt_hashes t, h.1]
    rfl
theorem paired_get {α β : Type} {F : α → β → Prop} : ∀ {l : List α} {m : List β} {j : Nat} {b : β}, Paired F l m → m[j]? = some b → ∃ a, l[j]? = some a ∧ F a b
  | [], [], _, _, _, e => by simp at e
  | a :: l, c :: m, 0, b, .cons h t, e => by
    cases e
    exact ⟨a, rfl, h⟩
  | a :: l, c :: m, j + 1, b, .cons h t, e => by
    obtain ⟨a', e1, f⟩ := paired_get t (show m[j]? = some b by simpa using e)
    exact ⟨a', by simpa using e1, f⟩
/-- dict(d), the keys tuples whose hashes differ -/
theorem call_dict_dT (hu : X.A.units + 64 < cLine) : CallR X (.type "dict") (fun xs H Q => ∃ (a : Addr) (kvs : List (List Key × V)), xs = [V.ref a] ∧ Rd H a (.dT kvs) ∧ (kvs.map fun p => tupleKeyHash (mixKind X.prog X.w) p.1).Nodup ∧
    ∀ p, H p = none → Q (.ref p) (upd H p (.dT kvs))) := by
  intro pins s σ H xs us Q I r h
  obtain ⟨a, kvs, rfl, hd, hh, q⟩ := h
  obtain ⟨u, rfl, rx⟩ := r.one
  cases rx
  obtain ⟨z, lo, xs, rel, dd⟩ := dt_rd I.hok hd
  have hl := Paired.length rel
  refine callType_codes (Q₁ := fun ob t => ob = .ref s.heap.objs.size ∧ t = { s with heap := s.heap.push { cls := .type "dict", data := .dict #[] } }) PySem.F.kt_called_dict (PySem.F.kt_typeCall_dict_1 _)
    PySem.F.entry_dict_init (kt_code_dict_new _ ⟨rfl, rfl⟩) ?_
  rintro ob t ⟨rfl, rfl⟩
  have n0 : (s.heap.push { cls := .type "dict", data := .dict #[] }).DictOfH (tupleKind (mixKind X.prog X.w)) s.heap.objs.size [] := Heap.DictOfH.new s.heap
  have dd1 : (s.heap.push { cls := .type "dict", data := .dict #[] }).DictOfH (tupleKind (mixKind X.prog X.w)) a xs := by
    refine dd.at' (fun o e => Heap.get?_push_of_some _ e) fun y hy => ?_
    obtain ⟨_, _, _, _, _, _, _, his, _⟩ := id dd
    obtain ⟨o, its, n, g1, g2, g3, g4⟩ := his y hy
    exact ⟨o, its, n, Heap.get?_push_of_some _ g1, g2, g3, g4⟩
  have ne : s.heap.objs.size ≠ a := fun e => absurd dd.lt_size (by rw [e]; exact Nat.lt_irrefl _)
  have ty : ∀ x ∈ xs, Shared.TypeIs { s with heap := s.heap.push { cls := .type "dict", data := .dict #[] } } (.ref x.2.1) "tuple" := fun x hx => by
    obtain ⟨_, _, _, _, _, _, _, his, _⟩ := dd1
    exact IsTupleKey.typeIs (s := { s with heap := s.heap.push { cls := .type "dict", data := .dict #[] } }) (his x hx)
  have hx : (xs.map fun x => (tupleKind (mixKind X.prog X.w)).hash x.1).Nodup := by
    rw [kt_hashes rel]
    exact hh
  refine ⟨n0.typeIs, PySem.F.args_dict_init_2 _ _, ?_⟩
  unfold Builtin.«dict.__init__» Builtin.Dict.selfAndRest
  refine wpAny_bind (wpAny_bind (wpAny_notOrdered_dict n0.typeIs ?_))
  show wpAny _ _ (pure (s.heap.objs.size, [Value.ref a])) _ _ _
  refine wpAny_pure ?_
  show wpAny _ _ (Builtin.Dict.updateFrom "dict.__init__" s.heap.objs.size (.ref a) [] .none) _ _ _
  unfold Builtin.Dict.updateFrom
  refine wpAny_bind (wpAny_typeOf dd1.typeIs ?_)
  rw [if_neg (by decide)]
  refine wpAny_bind ?_
  unfold Builtin.Dict.merge Builtin.Dict.readDirectly
  refine wpAny_bind (wpAny_bind (wpAny_isInstance dd1.typeIs isSubtype_dict_dict ?_))
  simp only [Bool.not_true, Bool.false_eq_true, if_false]
  refine wpAny_bind (wpAny_specialOf dd1.typeIs PySem.F.slot_dict_iter.lookup (wpAny_pure ?_))
  simp only [beq_self_eq_true, if_true]
  refine wpAny_bind (wpAny_pure (wpAny_mergeDict_heap (hsz := by rw [List.length_nil, Nat.zero_add, ← hl]; exact z) (tupleKind_room_in1 (by show X.A.units + 1 + 1 < cLine; omega)) ne lo n0 dd1 (.inr ⟨ty, hx⟩) fun h' d2 _ sb => ?_))
  show wpAny _ _ (Builtin.Dict.addKeywords s.heap.objs.size [] >>= _) _ _ _
  rw [storedAllH_nil_of_nodup xs dd.nodup] at d2
  refine wpAny_bind (wpAny_pure (wpAny_pure ⟨rfl, ?_⟩))
  have big : (s.heap.objs.size == sysModules) = false := beq_eq_false_iff_ne.mpr (Nat.ne_of_gt I.big)
  have nf : H s.heap.objs.size = none := I.hok.fresh (Nat.le_refl _)
  obtain ⟨ob, es, ep, g1, g2, g3, g4, _, g5⟩ := d2
  refine ⟨.ref s.heap.objs.size, upd H s.heap.objs.size (.dT kvs), I.laid (t' := s.toks) (fun b u e => (sb.2 b (Nat.ne_of_lt (Heap.lt_size e))).trans (Heap.get?_push_of_some _ e)) (Nat.le_refl _) ?_, rfl, q _ nf⟩
  refine (show ObjOk X.prog X.w _ _ _ (.dT kvs) from ⟨z, big, xs, rel.keeps fun b ys e => ?_, ob, es, ep, g1, g2, g3, g4, g5⟩)
  rw [upd_ne (fun z => by rw [z, nf] at e; cases e)]
  exact e

theorem paired_map {α β γ : Type} {F : β → γ → Prop} (f : α → β) (g : α → γ) : ∀ l : List α, (∀ x ∈ l, F (f x) (g x)) → Paired F (l.map f) (l.map g)
  | [], _ => .nil
  | x :: l, h => .cons (h x List.mem_cons_self) (paired_map f g l fun y m => h y (List.mem_cons_of_mem _ m))
def adOf : Value → Addr
  | .ref a => a
  | _ => 0
/-- sorted(d), the keys fewer than 64 tuples of as many ints -/
theorem call_sorted_dT {d : Nat} {B : Int} (hd1 : 1 ≤ d) (hc : X.calm = true) : CallR X (.builtin "sorted") (fun xs H Q => ∃ (a : Addr) (kvs : List (List Key × V)) (nss : List (List Int)), xs = [V.ref a] ∧ Rd H a (.dT kvs) ∧
    kvs.map (·.1) = nss.map (fun ns => ns.map Sum.inl) ∧ nss.length < 64 ∧ (∀ ns ∈ nss, ns.length = d ∧ TS.Bd B ns) ∧
    ∀ (nss' : List (List Int)) (bs : List Addr) (p : Addr), nss'.Perm nss → nss'.Pairwise (fun m n => TS.code B m ≤ TS.code B n) → Paired (fun ns b => H b = some (.tup (ns.map V.int))) nss' bs → H p = none → Q (.ref p) (upd H p (.lst (bs.map V.ref)))) := by
  intro pins s σ H xs us Q I r h
  obtain ⟨a, kvs, nss, rfl, hd, hks, h64, hB, q⟩ := h
  obtain ⟨u, rfl, rx⟩ := r.one
  cases rx
  obtain ⟨z, lo, ks, pr, ob, es, ep, ho, hx, hdt, he, hn⟩ := (show ObjOk X.prog X.w H s.heap a (.dT kvs) from hd.ok I.hok)
  have l1 : es.size = ks.length := size_of_entries he
  have l2 : kvs.length = ks.length := Paired.length pr
  have l3 : kvs.length = nss.length := by
    have e := congrArg List.length hks
    rwa [List.length_map, List.length_map] at e
  refine Calls.call_function_entry kind_sorted plain_sorted entry_sorted (args_sorted1 _) ?_
  unfold Builtin.«sorted»
  refine wpAny_bind (m := checkCount "sorted" 1 1 _) (wpAny_pure (wpAny_bind (PySem.W.kdu_collect (A := X.A.in1) (kdl_raw lo hx hdt) (I.ok.hd hc) ho (by omega) fun h' tk acc kp it => ?_)))
  have ea : acc.toList = ks.map fun x => Value.ref x.2.1 := by
    refine List.ext_getElem? fun j => ?_
    rw [List.getElem?_map]
    by_cases hj : j < acc.toList.length
    · obtain ⟨en, hen, hv⟩ := it.2 j acc.toList[j] (by rw [← Array.getElem?_toList]; exact List.getElem?_eq_getElem hj)
      have qe := entry_at he j
      rw [hen] at qe
      cases hb : ks[j]? with
      | none => rw [hb] at qe; exact nomatch (show some en = none from qe)
      | some b =>
        rw [hb] at qe
        have e2 : en = entryOfKey (tupleKind (mixKind X.prog X.w)) b := Option.some.inj qe
        rw [List.getElem?_eq_getElem hj, hv, e2]
        all_goals rfl
    · have h1 : acc.toList.length = ks.length := by rw [Array.length_toList, it.1]; exact l1
      rw [List.getElem?_eq_none (by omega), List.getElem?_eq_none (by omega)]
      rfl
  -- the tuples' ints
  have hT : ∀ v ∈ acc.toList, ∃ ns b, v = Value.ref b ∧ ns ∈ nss ∧ H b = some (.tup (ns.map V.int)) := fun v hv => by
    rw [ea] at hv
    obtain ⟨x, hx, rfl⟩ := List.mem_map.mp hv
    obtain ⟨j, hj, ej⟩ := List.getElem_of_mem hx
    obtain ⟨y, hy, e1, e2, _⟩ := paired_get pr ((List.getElem?_eq_getElem hj).trans (congrArg some ej))
    have e3 : (kvs.map (·.1))[j]? = some y.1 := by rw [List.getElem?_map, hy] <;> rfl
    rw [hks, List.getElem?_map] at e3
    cases e4 : nss[j]? with
    | none => rw [e4] at e3; cases e3
    | some ns =>
      rw [e4] at e3
      have e5 : ns.map Sum.inl = y.1 := Option.some.inj e3
      refine ⟨ns, _, rfl, List.mem_of_getElem? e4, ?_⟩
      rw [e2, ← e5, List.map_map]
      rfl
  have hal : acc.toList.length < 64 := by rw [Array.length_toList, it.1]; omega
  have I1 : Inv X pins σ H { s with heap := h', toks := tk } := I.kept kp
  refine wpAny_bind (wpAny_newList ?_ (by rw [sizeLine_eq]; omega))
  have hoL : (h'.push (seqObj "list" acc.toList.toArray 0)).get? h'.objs.size = some (seqObj "list" acc.toList.toArray 0) := Heap.get?_push_size _ rfl
  show wpAny _ _ _ _ _ { s with heap := h'.push (seqObj "list" acc.toList.toArray 0), toks := tk }
  have tI : ∀ b ns, H b = some (.tup (ns.map V.int)) → TS.TupInts (h'.push (seqObj "list" acc.toList.toArray 0)) (.ref b) ns := fun b ns e => by
    refine TS.TupInts.keeps (tupI_raw I1 (SqT.of e)) fun c o z _ => Heap.get?_push_of_some _ z
  have tO : TS.TupsOk (h'.push (seqObj "list" acc.toList.toArray 0)) d B acc.toList := fun v hv => by
    obtain ⟨ns, b, rfl, m, e⟩ := hT v hv
    exact ⟨ns, tI b ns e, (hB ns m).1, (hB ns m).2⟩
  refine wpAny_bind (wpAny_holding (wpAny_call_entry slot_list_sort ⟨_, hoL, rfl⟩ entry_list_sort (TS.sort_tups (s := { s with heap := h'.push (seqObj "list" acc.toList.toArray 0), toks := tk }) hoL hal hd1 tO
    (fun v => TS.code B (TS.intsOf (h'.push (seqObj "list" acc.toList.toArray 0)) v)) (fun v _ ns t => by show TS.code B (TS.intsOf _ v) = TS.code B ns; rw [t.ints]) fun out o1 o2 => ⟨_, rfl, ?_⟩) (args_list_sort _)))
  have fI : ∀ v ∈ acc.toList, ∃ ns ∈ nss, v = Value.ref (adOf v) ∧ TS.intsOf (h'.push (seqObj "list" acc.toList.toArray 0)) v = ns ∧ H (adOf v) = some (.tup (ns.map V.int)) := fun v hv => by
    obtain ⟨ns, b, rfl, m, e⟩ := hT v hv
    exact ⟨ns, m, rfl, (tI b ns e).ints, e⟩
  have mem : ∀ v ∈ out.toList, v ∈ acc.toList := fun v hv => o1.mem_iff.mp hv
  have e1 : out.toList = (out.toList.map adOf).map Value.ref := by
    rw [List.map_map]
    refine (List.map_id _).symm.trans (List.map_congr_left fun v hv => ?_)
    obtain ⟨ns, _, e, _⟩ := fI v (mem v hv)
    exact e
  have e2 : acc.toList.map (TS.intsOf (h'.push (seqObj "list" acc.toList.toArray 0))) = nss := by
    refine List.ext_getElem? fun j => ?_
    rw [List.getElem?_map, ea, List.getElem?_map]
    cases hj : ks[j]? with
    | none =>
      have := List.getElem?_eq_none_iff.mp hj
      rw [List.getElem?_eq_none (by omega)]
      rfl
    | some x =>
      obtain ⟨y, hy, g1, g2, _⟩ := paired_get pr hj
      have e3 : (kvs.map (·.1))[j]? = some y.1 := by rw [List.getElem?_map, hy] <;> rfl
      rw [hks, List.getElem?_map] at e3
      cases e4 : nss[j]? with
      | none => rw [e4] at e3; cases e3
      | some ns =>
        rw [e4] at e3
        have e5 : ns.map Sum.inl = y.1 := Option.some.inj e3
        have := (tI x.2.1 ns (by rw [g2, ← e5, List.map_map]; rfl)).ints
        rw [← ea]
        exact congrArg some this
  obtain ⟨e', he'⟩ := PyProof.Rows.sortedHeap_at (vs := acc.toList) (out := out) hoL
  have nf : H h'.objs.size = none := I1.hok.fresh (Nat.le_refl _)
  have lo2 : ((out.toList.map adOf).map V.ref).length ≤ sizeLine := by rw [List.length_map, List.length_map, o1.length_eq, sizeLine_eq]; omega
  refine wpAny_pure ⟨_, rfl, .ref h'.objs.size, upd H h'.objs.size (.lst ((out.toList.map adOf).map V.ref)), I1.laid (t' := tk) (fun b u e => ?_) (Nat.le_refl _)
    (show ObjOk X.prog X.w _ _ _ (.lst ((out.toList.map adOf).map V.ref)) from ⟨lo2, out.toList, e', (by have := vals_refs (out.toList.map adOf); rw [← e1] at this; exact this), by rw [Array.toArray_toList]; exact he'⟩), rfl,
    q (out.toList.map (TS.intsOf (h'.push (seqObj "list" acc.toList.toArray 0)))) _ _ (e2 ▸ o1.map _) (List.pairwise_map.mpr o2) (paired_map _ _ _ fun v hv => ?_) nf⟩
  · have hb : b < h'.objs.size := Heap.lt_size e
    rw [PyProof.Rows.sortedHeap_old (Nat.ne_of_lt hb) (by rw [size_push']; exact Nat.lt_succ_of_lt hb)]
    exact Heap.get?_push_of_some _ e
  · obtain ⟨ns, _, _, e, e'⟩ := fI v (mem v hv)
    rw [e]
    exact e'
end
end Vx

set_option maxRecDepth 100000
/-! Vx29: dict comprehensions, read -/
namespace Vx
open PySem L2 PyProof.Rows
section
variable {K : PySem.W.Frag} {cl : Nat → Addr} {Hf Hf' H H' : Hp} {A B M Ma Mb Mc Mt Mk Me : List Nat} {tk tv : TE} {fk fv : Ge → Option (Ge × Rs)} {tt : TT} {ft : Ge → Option (Ge × Bool)}
def dcGo (vs : List Nat) (fg : Ge → T → Option Ge) (ft : Ge → Option (Ge × Bool)) (fk fv : Ge → Option (Ge × Rs)) : List T → Ge → T → Option (Ge × T)
  | [], Γ, acc => some (Γ, acc)
  | x :: xs, Γ, acc => (fg (wipeG Γ vs) x).bind fun Γ1 => (ft Γ1).bind fun p => if p.2 = true then (fk p.1).bind fun q => (fv q.1).bind fun z => match q.2, z.2 with
      | .val kt, .val vt => if (kt.pers && vt.pers) = true then (gPut acc [vt, kt]).bind fun r => dcGo vs fg ft fk fv xs z.1 r.1 else none
      | _, _ => none
    else dcGo vs fg ft fk fv xs p.1 acc
def dNil (b : Bool) : T := if b = true then .ow false (.dT []) [] else .ow false (.dK []) []
def dNilO (b : Bool) : HO := if b = true then .dT [] else .dK []
def fDc (b : Bool) (Ml vs : List Nat) (fs : Ge → Option (Ge × Rs × List T)) (fg : Ge → T → Option Ge) (ft : Ge → Option (Ge × Bool)) (fk fv : Ge → Option (Ge × Rs)) : Ge → Option (Ge × Rs) := fun Γ =>
  (fs Γ).bind fun p => if (p.2.1.free Ml && persVs p.1 vs && decide (p.2.2.length ≤ 10000)) = true then (dcGo vs fg ft fk fv p.2.2 p.1 (dNil b)).map fun q => (rstG p.1 q.1 vs, .val q.2) else none
theorem dNilO_nt {b : Bool} : ∀ ys, dNilO b ≠ .tup ys := by
  cases b <;> intro ys z <;> cases z
theorem rep_dnil {b : Bool} {p : Addr} : Rep K cl Hf (upd H p (dNilO b)) (dNil b) (.ref p) (fun a => a = p) := by
  cases b with
  | true => exact ⟨p, p, [], fun _ => No, rfl, rfl, (fun z => nomatch z), ⟨rfl, fun _ => upd_same, fun z => nomatch z⟩, (fun _ _ z => z.elim), (fun _ _ _ z => z.elim), True.intro⟩
  | false => exact ⟨p, p, [], fun _ => No, rfl, rfl, (fun z => nomatch z), ⟨rfl, fun _ => upd_same, fun z => nomatch z⟩, (fun _ _ z => z.elim), (fun _ _ _ z => z.elim), True.intro⟩
theorem ev_dc {wi : TI} {gt : TG} {fs : Ge → Option (Ge × Rs × List T)} {fg : Ge → T → Option Ge} {vs : List Nat} (b : Bool) (hs : SvOk K cl M wi fs) (hg : TgOk K cl A gt fg) (hA : ∀ i, i ∈ A → i ∈ vs) (ht : EvTOk K cl Mt tt ft) (hk : EvOk K cl Mk tk fk) (hv : EvOk K cl Me tv fv) :
    EvOk K cl (M ++ (vs ++ (Mt ++ (Mk ++ Me)))) (tDcP (dNilO b) wi gt tt tk tv vs) (fDc b (vs ++ (Mt ++ (Mk ++ Me))) vs fs fg ft fk fv) := fun Hf H σ Γ R I Γ' r0 e Q q => by
  unfold fDc at e
  cases e1 : fs Γ with
  | none => rw [e1] at e; cases e
  | some p =>
    obtain ⟨Γ1, r, xs⟩ := p
    rw [e1, Option.bind_some] at e
    dsimp only at e
    split at e
    · rename_i hcond
      simp only [Bool.and_eq_true, decide_eq_true_eq] at hcond
      obtain ⟨⟨fr, hpv⟩, hxl⟩ := hcond
      cases e2 : dcGo vs fg ft fk fv xs Γ1 (dNil b) with
      | none => rw [e2] at e; cases e
      | some pr =>
        obtain ⟨Γz, accz⟩ := pr
        rw [e2, Option.map_some] at e
        cases e
        refine hs Hf H σ Γ R I Γ1 r xs e1 _ fun Hf1 H1 R1 S1 J P us v1 st1 I1 g1 rs sr pa p1 pst => ?_
        intro D hD
        have hlen := pa.len
        have nR1 : ∀ i, ¬ R1 i D := fun i z => (I1.trk i D z).1 hD
        generalize hML : vs ++ (Mt ++ (Mk ++ Me)) = ML at *
        have subv : ∀ i, i ∈ vs → i ∈ ML := fun i z => hML ▸ List.mem_append_left _ z
        have subt : ∀ i, i ∈ Mt → i ∈ ML := fun i z => hML ▸ List.mem_append_right _ (List.mem_append_left _ z)
        have subk : ∀ i, i ∈ Mk → i ∈ ML := fun i z => hML ▸ List.mem_append_right _ (List.mem_append_right _ (List.mem_append_left _ z))
        have sube : ∀ i, i ∈ Me → i ∈ ML := fun i z => hML ▸ List.mem_append_right _ (List.mem_append_right _ (List.mem_append_right _ z))
        -- what stands between two turns
        refine ⟨fun i m H' => m = us.length - i ∧ i ≤ us.length ∧ ∃ Hf' Γ' R' accT, Stp Hf1 H1 R1 ML Hf' H' R' No ∧ ER K cl Hf' H' (wipe σ vs) (wipeG Γ' vs) R' ∧ (∀ j, ¬ R' j D) ∧ Hf' D = none ∧ H' D ≠ none ∧ Rep K cl Hf' H' accT (.ref D) (fun a => a = D) ∧
            (∀ j, j ∉ ML → Γ'[j]? = Γ1[j]?) ∧ Γ'.length = Γ1.length ∧ dcGo vs fg ft fk fv (xs.drop i) Γ' accT = some (Γz, accz),
          ⟨us.length, by omega, Nat.zero_le _, Hf1, Γ1, R1, dNil b, Stp.refl.beside hD, (I1.wipe vs).beside nR1 (I1.w.none hD) dNilO_nt, nR1, I1.w.none hD, (by rw [upd_same]; exact fun z => nomatch z), rep_dnil, fun _ _ => rfl, rfl, by rw [List.drop_zero]; exact e2⟩, ?_⟩
        rintro i m H' ⟨rfl, hi, Hf', Γ', R', accT, st', I', nD, fD, hDl, racc, gq, gl, go'⟩
        have P' : P Hf' H' := pst Hf' H' st'.le I'.w fun a o ow ea => by
          cases r with
          | val t => exact st'.fr a o ea fun j z => rs.2.1 j a ow z
          | «at» j π => exact (st'.kp j (free_at fr)).2 a o ow ea
        by_cases hlt : i < us.length
        · refine .inr ⟨sr.go i Hf' H' P' hlt, ?_⟩
          have hx : xs[i]? = some xs[i] := List.getElem?_eq_getElem (by omega)
          have hd : xs.drop i = xs[i] :: xs.drop (i + 1) := List.drop_eq_getElem_cons (by omega)
          rw [hd] at go'
          unfold dcGo at go'
          cases e3 : fg (wipeG Γ' vs) xs[i] with
          | none => rw [e3] at go'; cases go'
          | some Γ2 =>
            rw [e3, Option.bind_some] at go'
            cases e4 : ft Γ2 with
            | none => rw [e4] at go'; cases go'
            | some p4 =>
              obtain ⟨Γ4, bb⟩ := p4
              rw [e4, Option.bind_some] at go'
              dsimp only at go'
              refine ⟨fun H3 => (us.length - (i + 1) = us.length - (i + 1)) ∧ i + 1 ≤ us.length ∧ ∃ Hf' Γ' R' accT, Stp Hf1 H1 R1 ML Hf' H3 R' No ∧ ER K cl Hf' H3 (wipe σ vs) (wipeG Γ' vs) R' ∧ (∀ j, ¬ R' j D) ∧ Hf' D = none ∧ H3 D ≠ none ∧ Rep K cl Hf' H3 accT (.ref D) (fun a => a = D) ∧
                (∀ j, j ∉ ML → Γ'[j]? = Γ1[j]?) ∧ Γ'.length = Γ1.length ∧ dcGo vs fg ft fk fv (xs.drop (i + 1)) Γ' accT = some (Γz, accz), fun H3 z => ⟨us.length - (i + 1), by omega, z⟩, fun x H2 y => ?_⟩
              obtain ⟨rfl, hv1⟩ := sr.yld i Hf' H' x H2 P' hlt y
              obtain ⟨w, hw, pw⟩ := (PerAll.le st'.le _ _ pa).get hx
              rw [hv1] at hw
              cases hw
              refine hg Hf' H2 (wipe σ vs) (wipeG Γ' vs) R' x xs[i] I' pw Γ2 e3 _ fun σ4 R4 I4 eq4 k4 s4 => ?_
              have l4 : σ4.length = σ.length := by rw [eq4.2.2, wipe_length]
              refine ⟨(wipe_eq l4 fun j hj => by rw [eq4.1 j fun z => hj (hA j z), wipe_out hj]), ?_⟩
              have stA : Stp Hf' H2 R' vs Hf' H2 R4 No := ⟨fun a o e _ => e, fun j n => ⟨k4 j fun z => n (hA j z), fun a o _ e => e⟩, fun j a z => .inl ⟨j, s4 j a z⟩, fun _ z => z.elim, Le.refl _, fun _ _ e => .inl e⟩
              have nD4 : ∀ j, ¬ R4 j D := fun j z => nD j (s4 j D z)
              have keepD : ∀ {Hf5 H5 : Hp} {R5 : Nat → Rg} {M5 : List Nat} {S5 : Rg}, Stp Hf' H2 R4 M5 Hf5 H5 R5 S5 → (∀ j, ¬ R5 j D) ∧ Hf5 D = none ∧ (∀ o, H2 D = some o → H5 D = some o) ∧ ¬ S5 D := fun {Hf5 H5 R5 M5 S5} s5 => by
                refine ⟨fun j z => ?_, ?_, fun o ho => s5.fr D o ho nD4, fun z => ?_⟩
                · rcases s5.nw j D z with ⟨k, y⟩ | y
                  · exact nD4 k y
                  · exact hDl y
                · cases q : Hf5 D with
                  | none => rfl
                  | some o =>
                    rcases s5.nf D o q with y | ⟨k, y⟩ | y
                    · rw [fD] at y; cases y
                    · exact (nD4 k y).elim
                    · exact (hDl y).elim
                · rcases s5.ns D z with ⟨k, y⟩ | y
                  · exact nD4 k y
                  · exact hDl y
              have some5 : ∀ {H5 : Hp}, (∀ o, H2 D = some o → H5 D = some o) → H5 D ≠ none := fun {H5} k => by
                cases z : H2 D with
                | none => exact (hDl z).elim
                | some o => rw [k o z]; exact fun z => nomatch z
              have racc5 : ∀ {Hf5 H5 : Hp}, Le Hf' Hf5 → (∀ o, H2 D = some o → H5 D = some o) → Rep K cl Hf5 H5 accT (.ref D) (fun a => a = D) := fun {Hf5 H5} le k => Rep.frame le _ _ _ (fun a o ha e => by subst ha; exact k o e) racc
              refine ht Hf' H2 σ4 Γ2 R4 I4 Γ4 bb e4 _ fun Hf5 H5 R5 st5 I5 g5 => ?_
              obtain ⟨nD5, fD5, kD5, _⟩ := keepD st5
              have g45 : ∀ j, j ∉ ML → Γ4[j]? = Γ'[j]? := fun j n => by
                rw [g5 j fun z => n (subt j z), eq4.2.1 j fun z => n (subv j (hA j z)), wipeG_out fun z => n (subv j z)]
              have wi : wipe σ4 vs = wipe σ vs := wipe_eq l4 fun j hj => by rw [eq4.1 j fun z => hj (hA j z), wipe_out hj]
              have len4 : Γ4.length = Γ1.length := by
                have a := I5.len
                have b := I1.len
                omega
              cases bb with
              | false =>
                rw [if_neg Bool.false_ne_true] at go' ⊢
                have I6 := I5.wipe vs
                rw [wi] at I6
                refine ⟨rfl, hlt, Hf5, Γ4, R5, accT, ((st'.trans (stA.trans st5)).more fun j z => ?_), I6, nD5, fD5, some5 kD5, racc5 st5.le kD5, fun j n => (g45 j n).trans (gq j n), len4, go'⟩
                rcases List.mem_append.mp z with z | z
                · exact z
                · exact (List.mem_append.mp z).elim (subv j) (subt j)
              | true =>
                rw [if_pos rfl] at go' ⊢
                cases e6 : fk Γ4 with
                | none => rw [e6] at go'; cases go'
                | some p6 =>
                  obtain ⟨Γ6, r6⟩ := p6
                  rw [e6, Option.bind_some] at go'
                  dsimp only at go'
                  cases e7 : fv Γ6 with
                  | none => rw [e7] at go'; cases go'
                  | some p7 =>
                    obtain ⟨Γ7, r7⟩ := p7
                    rw [e7, Option.bind_some] at go'
                    dsimp only at go'
                    split at go'
                    · rename_i kt vt
                      split at go'
                      · rename_i hp
                        rw [Bool.and_eq_true] at hp
                        cases e8 : gPut accT [vt, kt] with
                        | none => rw [e8] at go'; cases go'
                        | some pr8 =>
                          obtain ⟨acc', tr'⟩ := pr8
                          rw [e8, Option.bind_some] at go'
                          refine hk Hf5 H5 σ4 Γ4 R5 I5 Γ6 _ e6 _ fun Hf6 H6 R6 S6 v6 st6 I6 g6 r6ok => ?_
                          refine hv Hf6 H6 σ4 Γ6 R6 I6 Γ7 _ e7 _ fun Hf7 H7 R7 S7 v7 st7 I7 g7 r7ok => ?_
                          have stk := (st5.trans st6).trans st7
                          obtain ⟨nD7, fD7, kD7, _⟩ := keepD stk
                          have k6 : Per K Hf7 kt v6 := Per.le st7.le _ _ (r6ok.1.per hp.1)
                          have k7 : Per K Hf7 vt v7 := r7ok.1.per hp.2
                          have ra := racc5 stk.le kD7
                          have ar : Arg K cl Hf7 H7 [vt, kt] [v7, v6] (fun _ => No) (fun a => a = D) := ⟨⟨k7.rep, k6.rep, True.intro⟩, fun _ _ _ z => z.elim, fun _ _ z => z.elim, fun _ _ z => z.elim⟩
                          have pm := prm_put Hf7 H7 (.ref D) [v7, v6] accT [vt, kt] (fun a => a = D) (fun _ => No) acc' tr' I7.w ra (fun a ha => by subst ha; exact ⟨some5 kD7, fD7⟩) ar e8
                            (fun z H8 => (∀ a o, H7 a = some o → ¬ a = D → H8 a = some o) ∧ Rep K cl Hf7 H8 acc' (.ref D) (fun a => a = D)) fun H8 z G' S' f1 _ f2 f3 f4 f5 f6 f7 => ⟨f1, f2.weak fun a ha => (f4 a ha).elim id fun ⟨_, z⟩ => z.elim⟩
                          obtain ⟨v', y', ev, a0, H8, ea, put, f1, f2⟩ := pm
                          cases ev
                          cases ea
                          have hu8 : ∃ o, H8 = upd H7 D o ∧ ∀ ys, o ≠ .tup ys := by
                            rcases put with ⟨_, _, _, _, _, z⟩ | ⟨_, _, _, _, _, _, _, z⟩ <;> exact ⟨_, z, by intro _ z; cases z⟩
                          obtain ⟨o8, rfl, ho8⟩ := hu8
                          refine ⟨_, put, rfl, hlt, Hf7, Γ7, R7, acc', ?_⟩
                          have I8 := (I7.beside (o := o8) nD7 fD7 ho8).wipe vs
                          rw [wi] at I8
                          have len7 : Γ7.length = Γ1.length := by
                            have a := I7.len
                            have b := I1.len
                            omega
                          refine ⟨(((st'.trans (stA.trans stk.noS)).more fun j z => ?_).beside hD), I8, nD7, fD7, (by rw [upd_same]; exact fun z => nomatch z), f2, fun j n => ?_, len7, go'⟩
                          · rcases List.mem_append.mp z with z | z
                            · exact z
                            · rcases List.mem_append.mp z with z | z
                              · exact subv j z
                              · rcases List.mem_append.mp z with z | z
                                · exact (List.mem_append.mp z).elim (subt j) (subk j)
                                · exact sube j z
                          · rw [g7 j fun z => n (sube j z), g6 j fun z => n (subk j z), g45 j n, gq j n]
                      · cases go'
                    · cases go'
        · have hi' : i = us.length := by omega
          subst hi'
          refine .inl ⟨sr.stop Hf' H' P', ?_⟩
          rw [List.drop_eq_nil_of_le (by omega)] at go'
          cases go'
          have st9 := st1.noS.trans st'
          have lenz : Γ1.length = Γz.length := gl.symm
          refine q Hf' H' R' (fun a => a = D) (.ref D) ⟨st9.fr, st9.kp, st9.nw, fun a s => ?_, st9.le, st9.nf⟩ ⟨I'.w, by rw [rstG_len, gl]; exact I1.len, fun j t e => ?_, I'.dis, I'.trk⟩ (fun j n => ?_) ⟨racc, fun j a s z => nD j (s ▸ z), fun a s => ?_⟩
          · cases s
            exact st1.noneBack hD
          · by_cases hj : j ∈ vs
            · rw [rstG_in hj lenz] at e
              obtain ⟨w, a, b⟩ := I1.rep j t e
              have pt : t.pers = true := by
                have := List.all_eq_true.mp hpv j hj
                rw [e] at this
                exact this
              exact ⟨w, a, (Per.le st'.le _ _ (b.per pt)).rep⟩
            · rw [rstG_out hj] at e
              obtain ⟨w, a, b⟩ := I'.rep j t (by rw [wipeG_out hj]; exact e)
              rw [wipe_out hj] at a
              exact ⟨w, a, b⟩
          · have hj : j ∉ vs := fun z => n (List.mem_append_right _ (subv j z))
            rw [rstG_out hj, gq j fun z => n (List.mem_append_right _ z), g1 j fun z => n (List.mem_append_left _ z)]
          · cases s
            exact ⟨hDl, fD⟩
    · cases e
end
end Vx

set_option maxRecDepth 100000
/-! Vx30: dicts in the text; defs that call themselves -/
namespace Vx
open PySem L2 PyProof.Rows
/-! ### in, [], []=, by what stands there -/
theorem op_dIn {X : Cx} (hu : X.A.units + 1 < cLine) : OpR X (compareOp .In) (rDIn false) := by
  intro pins s σ H x y v u Q I rx ry h
  obtain ⟨a, o, rfl, g, q⟩ := h
  obtain rfl : u = Value.ref a := ry
  exact d_in hu I g rx fun s3 I3 => ⟨.bl o.isSome, H, I3, rfl, q⟩
theorem op_dNotIn {X : Cx} (hu : X.A.units + 1 < cLine) : OpR X (compareOp .NotIn) (rDIn true) := by
  intro pins s σ H x y v u Q I rx ry h
  obtain ⟨a, o, rfl, g, q⟩ := h
  obtain rfl : u = Value.ref a := ry
  exact d_notIn hu I g rx fun s3 I3 => ⟨.bl (!o.isSome), H, I3, rfl, q⟩
def gInU (neg : Bool) : T → T → Option T := gEi (gInT neg) (gEi (gInD neg) (gDIn neg))
def gIxU : T → T → Option (Nat × T) := gxEi gIx gDGet
def gSetU : T → List T → Option (T × T) := fun t ts => match gSetL t ts with
  | some r => some r
  | none => gPut t ts
def tEiS (t u : TS) : TS := fun D σ H => t D σ H ∨ u D σ H
theorem ps_ei {X : Cx} {st : Stmt} {t u : TS} (h : PS X st t) (k : PS X st u) : PS X st (tEiS t u) := ⟨fun pins s σ H D I q => q.elim (h.run pins s σ H D I) (k.run pins s σ H D I)⟩
theorem st_or {K : PySem.W.Frag} {cl : Nat → Addr} {E : L2.St → Hp → Prop} {A M : List Nat} {t u : TS} {g g1 g2 : Ge → Option Out} (h : StOk K cl E A M t g1) (k : StOk K cl E A M u g2) (e : ∀ Γ o, g Γ = some o → g1 Γ = some o ∨ g2 Γ = some o) : StOk K cl E A M (tEiS t u) g :=
  fun Hf H σ Γ R I o eo D fin => (e Γ o eo).elim (fun z => .inl (h Hf H σ Γ R I o z D fin)) fun z => .inr (k Hf H σ Γ R I o z D fin)
theorem gSt_or {Mr Mf Mo Mi : List Nat} {fv fo fi : Ge → Option (Ge × Rs)} {Γ : Ge} {o : Out} (e : gSt Mr Mf Mo Mi gSetU fv fo fi Γ = some o) : gSt Mr Mf Mo Mi gSetL fv fo fi Γ = some o ∨ gSt Mr Mf Mo Mi gPut fv fo fi Γ = some o := by
  unfold gSt at e ⊢
  cases e1 : fv Γ with
  | none => rw [e1] at e; cases e
  | some p =>
    rw [e1] at e
    simp only [Option.bind_some] at e ⊢
    cases e2 : fo p.1 with
    | none => rw [e2] at e; cases e
    | some q =>
      rw [e2] at e
      simp only [Option.bind_some] at e ⊢
      cases e3 : fi q.1 with
      | none => rw [e3] at e; cases e
      | some z =>
        rw [e3] at e
        simp only [Option.bind_some] at e ⊢
        split at e
        · rename_i i π he
          rw [he]
          try dsimp only at e
          try dsimp only
          split at e
          · rename_i hc
            rw [he] at hc e
            rw [if_pos hc, if_pos hc]
            cases e4 : embAll Mf z.1 [p.2, z.2] with
            | none => rw [e4] at e; cases e
            | some w =>
              rw [e4] at e
              simp only [Option.bind_some] at e ⊢
              cases e5 : getT w.1 (.at i π) with
              | none => rw [e5] at e; cases e
              | some u =>
                rw [e5] at e
                simp only [Option.bind_some] at e ⊢
                unfold gSetU at e
                cases e6 : gSetL u w.2 with
                | some r => rw [e6] at e; exact .inl e
                | none => rw [e6] at e; exact .inr e
          · cases e
        · cases e
/-! ### rows in order -/
theorem sorted_uniq {α : Type} (f : α → Int) : ∀ l1 l2 : List α, l1.Perm l2 → (∀ a ∈ l1, ∀ b ∈ l1, f a = f b → a = b) → l1.Pairwise (fun a b => f a ≤ f b) → l2.Pairwise (fun a b => f a ≤ f b) → l1 = l2
  | [], l2, p, _, _, _ => p.nil_eq
  | a :: l1, [], p, _, _, _ => absurd p.length_eq (by simp)
  | a :: l1, b :: l2, p, hi, h1, h2 => by
    have ma : a ∈ b :: l2 := p.mem_iff.mp List.mem_cons_self
    have mb : b ∈ a :: l1 := p.mem_iff.mpr List.mem_cons_self
    have e1 : f b ≤ f a := by
      rcases List.mem_cons.mp ma with z | z
      · rw [z]; exact Int.le_refl _
      · exact (List.pairwise_cons.mp h2).1 a z
    have e2 : f a ≤ f b := by
      rcases List.mem_cons.mp mb with z | z
      · rw [z]; exact Int.le_refl _
      · exact (List.pairwise_cons.mp h1).1 b z
    have e : a = b := hi a List.mem_cons_self b mb (Int.le_antisymm e2 e1)
    subst e
    rw [sorted_uniq f l1 l2 (List.perm_cons a |>.mp p) (fun x hx y hy => hi x (List.mem_cons_of_mem _ hx) y (List.mem_cons_of_mem _ hy)) (List.pairwise_cons.mp h1).2 (List.pairwise_cons.mp h2).2]
theorem code_inj {B : Int} : ∀ m n : List Int, m.length = n.length → TS.Bd B m → TS.Bd B n → TS.code B m = TS.code B n → m = n
  | [], [], _, _, _, _ => rfl
  | [], _ :: _, l, _, _, _ => by simp at l
  | _ :: _, [], l, _, _, _ => by simp at l
  | a :: m, b :: n, l, hm, hn, e => by
    have l' : m.length = n.length := by simpa using l
    rcases Int.lt_trichotomy a b with z | z | z
    · have := TS.code_lt (B := B) l' hm.tail hn.tail z
      omega
    · subst z
      have k1 := TS.code_same (B := B) (d := a) l'
      have k2 := TS.code_same (B := B) (d := a) l'.symm
      have e' : TS.code B m = TS.code B n := by
        rcases Int.lt_trichotomy (TS.code B m) (TS.code B n) with y | y | y
        · have := k1.mpr y; omega
        · exact y
        · have := k2.mpr y; omega
      rw [code_inj m n l' hm.tail hn.tail e']
    · have := TS.code_lt (B := B) l'.symm hn.tail hm.tail z
      omega
def srt {α : Type} (f : α → Int) (l : List α) : List α := l.mergeSort fun a b => decide (f a ≤ f b)
theorem srt_perm {α : Type} (f : α → Int) (l : List α) : (srt f l).Perm l := List.mergeSort_perm _ _
theorem srt_pair {α : Type} (f : α → Int) (l : List α) : (srt f l).Pairwise (fun a b => f a ≤ f b) := by
  have := List.pairwise_mergeSort (le := fun a b => decide (f a ≤ f b)) (fun a b c h1 h2 => decide_eq_true (Int.le_trans (of_decide_eq_true h1) (of_decide_eq_true h2))) (fun a b => by
    rcases Int.le_total (f a) (f b) with h | h
    · rw [decide_eq_true h]; rfl
    · rw [decide_eq_true h, Bool.or_true]) l
  exact this.imp fun h => of_decide_eq_true h
theorem srt_eq {α : Type} (f : α → Int) {l m : List α} (p : m.Perm l) (hi : ∀ a ∈ l, ∀ b ∈ l, f a = f b → a = b) (h : m.Pairwise (fun a b => f a ≤ f b)) : m = srt f l :=
  sorted_uniq f m _ (p.trans (srt_perm f l).symm) (fun a ha b hb => hi a (p.mem_iff.mp ha) b (p.mem_iff.mp hb)) h (srt_pair f l)
def ikey : Key → Option Int
  | .inl i => some i
  | .inr _ => none
def ikeys : List Key → Option (List Int)
  | [] => some []
  | k :: ks => match ikey k, ikeys ks with
    | some i, some is => some (i :: is)
    | _, _ => none
def ikeyss : List (List Key) → Option (List (List Int))
  | [] => some []
  | k :: ks => match ikeys k, ikeyss ks with
    | some i, some is => some (i :: is)
    | _, _ => none
theorem ikeys_eq : ∀ {ks : List Key} {is : List Int}, ikeys ks = some is → ks = is.map Sum.inl
  | [], is, e => by unfold ikeys at e; cases e; rfl
  | k :: ks, is, e => by
    unfold ikeys at e
    split at e
    · rename_i i is' e1 e2
      cases e
      cases k with
      | inl j => cases e1; rw [ikeys_eq e2]; rfl
      | inr x => cases e1
    · cases e
theorem ikeyss_eq : ∀ {ks : List (List Key)} {is : List (List Int)}, ikeyss ks = some is → ks = is.map fun ns => ns.map Sum.inl
  | [], is, e => by unfold ikeyss at e; cases e; rfl
  | k :: ks, is, e => by
    unfold ikeyss at e
    split at e
    · rename_i i is' e1 e2
      cases e
      rw [ikeys_eq e1, ikeyss_eq e2]
      rfl
    · cases e
theorem ikeys_of : ∀ is : List Int, ikeys (is.map Sum.inl) = some is
  | [] => rfl
  | i :: is => by
    show (match ikey (Sum.inl i), ikeys (is.map Sum.inl) with | some i, some is => some (i :: is) | _, _ => none) = _
    rw [ikeys_of is]
    rfl
theorem ikeyss_of : ∀ is : List (List Int), ikeyss (is.map fun ns => ns.map Sum.inl) = some is
  | [] => rfl
  | i :: is => by
    show (match ikeys (i.map Sum.inl), ikeyss (is.map fun ns => ns.map Sum.inl) with | some i, some is => some (i :: is) | _, _ => none) = _
    rw [ikeys_of i, ikeyss_of is]
/-- the hash of a tuple of ints -/
def tkH (is : List Int) : Int := reduceHash (Builtin.Tuple.tupleHashOf (is.map hashInt))
theorem tkH_is {P : Program} {w : World} (is : List Int) : tupleKeyHash (mixKind P w) (is.map Sum.inl) = tkH is := by
  unfold tupleKeyHash tkH
  rw [List.map_map]
  rfl
def tupI (ns : List Int) : T := .fz .tup (ns.map fun i => .v (.int i))
section
variable {K : PySem.W.Frag} {cl : Nat → Addr} {Hf H : Hp}
def bdB : Int := 2 ^ 80
/-- sorted(d), d's keys tuples of as many ints -/
def srtT (ks : List (List Key)) : Option T := (ikeyss ks).bind fun iss => match iss with
  | [] => some (.ow false .lst [])
  | is :: r => if 1 ≤ is.length ∧ iss.length < 64 ∧ (iss.all fun ns => ns.length == is.length && ns.all fun i => decide (0 ≤ i) && decide (i < bdB)) = true then some (.ow false .lst ((srt (TS.code bdB) iss).map tupI)) else none
theorem per_paired {P : List Int → Addr → Prop} (hP : ∀ ns b, P ns b → Hf b = some (.tup (ns.map V.int))) : ∀ {nss : List (List Int)} {bs : List Addr}, Paired P nss bs → PerAll K Hf (nss.map tupI) (bs.map V.ref)
  | [], [], _ => True.intro
  | ns :: nss, b :: bs, .cons h t => ⟨⟨b, ns.map V.int, rfl, hP _ _ h, PerAll.intro (by simp) fun m t w x y => by
      rw [List.getElem?_map] at x y
      cases z : ns[m]? with
      | none => rw [z] at x; cases x
      | some i =>
        rw [z] at x y
        cases x
        cases y
        exact ⟨rfl, rfl⟩⟩, per_paired hP t⟩
end
section
variable {q : Qx} {X : Cx} {W : WX} {C : Value} {M Ma Mb Mc Mi Me Mt Mv Mo Mk A B : List Nat} {a b c e o i2 kx vx : Expr} {es : List Expr} {pos pos' p apos tpos : Pos} {fa fb fc f fe fo fi fv fk : Ge → Option (Ge × Rs)} {gs : Ge → Option (Ge × List Rs)} {x : Str} {i : Nat} {ft fu : Ge → Option (Ge × Bool)}
theorem Cok.inSeq (h : Cok q X) : OpR X (compareOp .In) (rIn q.K false) := h.K ▸ op_in_seq
theorem Cok.ninSeq (h : Cok q X) : OpR X (compareOp .NotIn) (rIn q.K true) := h.K ▸ op_notIn_seq
theorem Cok.inDat (h : Cok q X) : OpR X (compareOp .In) (rInD q.K) := h.K ▸ op_inD h.u65
theorem Cok.ninDat (h : Cok q X) : OpR X (compareOp .NotIn) (rNotInD q.K) := h.K ▸ op_notInD h.u65
theorem x_inU (ha : CE q a Ma fa) (hb : CE q b Mb fb) (hm : behindInMarks .In b = false := by with_unfolding_all rfl) : CE q (.Compare a [.In] [b] pos) (Ma ++ Mb) (f2 Mb (gInU false) fa fb) :=
  x_cmp (fun X h => OpR.ei h.inSeq (OpR.ei h.inDat (op_dIn h.u1))) (PR2.ei pr_inT (PR2.ei pr_inD pr_din)) ha hb hm
theorem x_ninU (ha : CE q a Ma fa) (hb : CE q b Mb fb) (hm : behindInMarks .NotIn b = false := by with_unfolding_all rfl) : CE q (.Compare a [.NotIn] [b] pos) (Ma ++ Mb) (f2 Mb (gInU true) fa fb) :=
  x_cmp (fun X h => OpR.ei h.ninSeq (OpR.ei h.ninDat (op_dNotIn h.u1))) (PR2.ei pr_inT (PR2.ei pr_notInD pr_din)) ha hb hm
theorem y_inU (ha : CE q a Ma fa) (hb : CE q b Mb fb) (hm : behindInMarks .In b = false := by with_unfolding_all rfl) : CT q (.Compare a [.In] [b] pos) (Ma ++ Mb) (fT (f2 Mb (gInU false) fa fb)) :=
  y_cmp (fun X h => OpR.ei h.inSeq (OpR.ei h.inDat (op_dIn h.u1))) (PR2.ei pr_inT (PR2.ei pr_inD pr_din)) ha hb hm
theorem y_ninU (ha : CE q a Ma fa) (hb : CE q b Mb fb) (hm : behindInMarks .NotIn b = false := by with_unfolding_all rfl) : CT q (.Compare a [.NotIn] [b] pos) (Ma ++ Mb) (fT (f2 Mb (gInU true) fa fb)) :=
  y_cmp (fun X h => OpR.ei h.ninSeq (OpR.ei h.ninDat (op_dNotIn h.u1))) (PR2.ei pr_inT (PR2.ei pr_notInD pr_din)) ha hb hm
theorem x_ixU (ha : CE q a Ma fa) (hb : CE q b Mb fb) (hs : PlainIx b := by intro _ _; rfl) (hn : NoSl b := by intro _ _; rfl) : CE q (.Subscript a b pos) (Ma ++ Mb) (fIx Mb gIxU fa fb) :=
  let ⟨_, a1, a2⟩ := ha; let ⟨_, b1, b2⟩ := hb; ⟨_, fun X h => pe_ei (h.K ▸ pe_ix ix_seq (a1 X h) (b1 X h) hs) (pe_dget h.u1 (a1 X h) (b1 X h) hn), ev_ixd a2 b2⟩
theorem s_stU (Mr Mf : List Nat) (hv : CE q e Mv fv) (ho : CE q o Mo fo) (hi : CE q i2 Mi fi) (ha : ∀ env v, assign (.Subscript o i2 pos') env v = (do
      let ov ← holding [v] (eval o env)
      let iv ← holding [v, ov] (eval i2 env)
      standAt pos'
      holding [v, ov, iv] (setItem ov iv v)
      release [v, ov, iv] []) := by intro _ _; rfl) (hs : ∀ env, swapsWithSole [.Subscript o i2 pos'] e pos.line env = pure false := by intro _; rfl) (hw : ∀ env, swappedStores [.Subscript o i2 pos'] e env = pure none := by intro _; rfl)
    (h1 : ∀ env, (assignEach [.Subscript o i2 pos'] env).map (·.2) = [assign (.Subscript o i2 pos') env] := by intro _; rfl) (hs2 : ∀ env, swapsWith e (some (.Subscript o i2 pos')) pos.line env = pure false := by intro _; rfl) :
    CS q W C [] (((Mv ++ (Mo ++ Mi)) ++ Mf) ++ Mr) (.Assign [.Subscript o i2 pos'] e pos) (gSt Mr Mf Mo Mi gSetU fv fo fi) :=
  let ⟨_, a1, a2⟩ := s_stL (W := W) (C := C) Mr Mf hv ho hi ha hs hw h1; let ⟨_, b1, b2⟩ := s_stD (W := W) (C := C) Mr Mf hv ho hi hs2
  ⟨_, fun X h => ps_ei (a1 X h) (b1 X h), st_or a2 b2 fun Γ o e => gSt_or e⟩
end
end Vx

set_option maxRecDepth 100000
/-! Vx31: built-in functions over dicts; defs that call themselves -/
namespace Vx
open PySem L2 PyProof.Rows
section
variable {K : PySem.W.Frag} {cl : Nat → Addr} {Hf H : Hp}
/-- a dict that is read -/
theorem rd_dT {t : T} {x : V} {F : Rg} {ks : List (List Key)} {xs : List T} (w : W Hf H) (r : Rep K cl Hf H t x F) (e : t = .fz (.dT ks) xs ∨ ∃ l, t = .ow l (.dT ks) xs) (p : xs.all T.pers = true) :
    ∃ a vs, x = .ref a ∧ ks.length = vs.length ∧ Rd H a (.dT (ks.zip vs)) ∧ PerAll K Hf xs vs := by
  rcases e with rfl | ⟨l, rfl⟩
  · obtain ⟨a, vs, rfl, h2, h3⟩ := r
    exact ⟨a, vs, rfl, h2.1, rd_fz w h2.2, h3⟩
  · obtain ⟨a, dx, vs, G, rfl, h2, h3, h4, h5, h6, h7⟩ := r
    exact ⟨a, vs, rfl, h4.1, rd_owT h4, per_all h7 p⟩
theorem rd_dK {t : T} {x : V} {F : Rg} {ks : List Key} {xs : List T} (w : W Hf H) (r : Rep K cl Hf H t x F) (e : t = .fz (.dK ks) xs ∨ ∃ l, t = .ow l (.dK ks) xs) (p : xs.all T.pers = true) :
    ∃ a vs, x = .ref a ∧ ks.length = vs.length ∧ Rd H a (.dK (ks.zip vs)) ∧ PerAll K Hf xs vs := by
  rcases e with rfl | ⟨l, rfl⟩
  · obtain ⟨a, vs, rfl, h2, h3⟩ := r
    exact ⟨a, vs, rfl, h2.1, rd_fz w h2.2, h3⟩
  · obtain ⟨a, dx, vs, G, rfl, h2, h3, h4, h5, h6, h7⟩ := r
    exact ⟨a, vs, rfl, h4.1, rd_owK h4, per_all h7 p⟩
def dTof : T → Option (List (List Key) × List T)
  | .fz (.dT ks) xs => some (ks, xs)
  | .ow _ (.dT ks) xs => some (ks, xs)
  | _ => none
def dKof : T → Option (List Key × List T)
  | .fz (.dK ks) xs => some (ks, xs)
  | .ow _ (.dK ks) xs => some (ks, xs)
  | _ => none
theorem dTof_is {t : T} {ks : List (List Key)} {xs : List T} (e : dTof t = some (ks, xs)) : t = .fz (.dT ks) xs ∨ ∃ l, t = .ow l (.dT ks) xs := by
  unfold dTof at e
  split at e
  · cases e; exact .inl rfl
  · cases e; exact .inr ⟨_, rfl⟩
  · cases e
theorem dKof_is {t : T} {ks : List Key} {xs : List T} (e : dKof t = some (ks, xs)) : t = .fz (.dK ks) xs ∨ ∃ l, t = .ow l (.dK ks) xs := by
  unfold dKof at e
  split at e
  · cases e; exact .inl rfl
  · cases e; exact .inr ⟨_, rfl⟩
  · cases e
/-- dict(d) -/
def gCpT : List T → Option T
  | [t] => (dTof t).bind fun p => (ikeyss p.1).bind fun iss => if (p.2.all T.pers && decide ((iss.map tkH).Nodup)) = true then some (.ow false (.dT p.1) p.2) else none
  | _ => none
def gCpK : List T → Option T
  | [t] => (dKof t).bind fun p => if p.2.all T.pers = true then some (.ow false (.dK p.1) p.2) else none
  | _ => none
theorem rep_newD {p : Addr} {s : Sh} {o : HO} {xs : List T} {vs : List V} (hs : s.isI = false) (h : OwAt cl (upd H p o) p p false s vs) (pa : PerAll K Hf xs vs) : Rep K cl Hf (upd H p o) (.ow false s xs) (.ref p) (fun a => a = p) :=
  ⟨p, p, vs, fun _ => No, rfl, rfl, (fun z => Bool.noConfusion (hs.symm.trans z)), h, (fun _ _ z => z.elim), (fun _ _ _ z => z.elim), pa.reps⟩
def rCpT (P : Program) (w : World) : List V → Hp → VK → Prop := fun xs H Q => ∃ (a : Addr) (kvs : List (List Key × V)), xs = [V.ref a] ∧ Rd H a (.dT kvs) ∧ (kvs.map fun p => tupleKeyHash (mixKind P w) p.1).Nodup ∧ ∀ p, H p = none → Q (.ref p) (upd H p (.dT kvs))
theorem pr_cpT {P : Program} {wd : World} : PRn K cl (rCpT P wd) gCpT := fun Hf H vs ts tz w rs e Q q => by
  unfold gCpT at e
  split at e
  · rename_i t
    cases e1 : dTof t with
    | none => rw [e1] at e; cases e
    | some p =>
      obtain ⟨ks, xs⟩ := p
      rw [e1, Option.bind_some] at e
      cases e2 : ikeyss ks with
      | none => rw [e2] at e; cases e
      | some iss =>
        rw [e2, Option.bind_some] at e
        split at e
        · rename_i hc
          rw [Bool.and_eq_true] at hc
          cases e
          obtain ⟨v, G, rfl, r⟩ := rs.one
          obtain ⟨a, us, rfl, h1, h2, h3⟩ := rd_dT w r (dTof_is e1) hc.1
          have ez : (ks.zip us).map (fun p => tupleKeyHash (mixKind P wd) p.1) = iss.map tkH := by
            have e3 := zip_fst h1
            have : (ks.zip us).map (fun p => tupleKeyHash (mixKind P wd) p.1) = ks.map (tupleKeyHash (mixKind P wd)) := by
              rw [← congrArg (List.map (tupleKeyHash (mixKind P wd))) e3, List.map_map]
              rfl
            rw [this, ikeyss_eq e2, List.map_map]
            exact List.map_congr_left fun ns _ => tkH_is ns
          refine ⟨a, _, rfl, h2, by rw [ez]; exact of_decide_eq_true hc.2, fun p hp => q Hf _ _ _ (al_ow w hp) (rep_newD rfl ⟨h1, fun _ => upd_same, fun z => nomatch z⟩ h3)⟩
        · cases e
  · cases e
def rCpK : List V → Hp → VK → Prop := fun xs H Q => ∃ (a : Addr) (kvs : List (Key × V)), xs = [.ref a] ∧ Rd H a (.dK kvs) ∧ ∀ p, H p = none → Q (.ref p) (upd H p (.dK kvs))
theorem pr_cpK : PRn K cl rCpK gCpK := fun Hf H vs ts tz w rs e Q q => by
  unfold gCpK at e
  split at e
  · rename_i t
    cases e1 : dKof t with
    | none => rw [e1] at e; cases e
    | some p =>
      obtain ⟨ks, xs⟩ := p
      rw [e1, Option.bind_some] at e
      split at e
      · rename_i hc
        cases e
        obtain ⟨v, G, rfl, r⟩ := rs.one
        obtain ⟨a, us, rfl, h1, h2, h3⟩ := rd_dK w r (dKof_is e1) hc
        exact ⟨a, _, rfl, h2, fun p hp => q Hf _ _ _ (al_ow w hp) (rep_newD rfl ⟨h1, fun _ => upd_same, fun z => nomatch z⟩ h3)⟩
      · cases e
  · cases e
/-- sorted(d), d's keys tuples -/
def gSoT (d : Nat) : List T → Option T
  | [t] => (dTof t).bind fun p => (ikeyss p.1).bind fun iss => if (p.2.all T.pers && decide (iss.length < 64) && (iss.all fun ns => ns.length == d && ns.all fun i => decide (0 ≤ i) && decide (i < bdB))) = true then some (.ow false .lst ((srt (TS.code bdB) iss).map tupI)) else none
  | _ => none
def rSoT (d : Nat) : List V → Hp → VK → Prop := fun xs H Q => ∃ (a : Addr) (kvs : List (List Key × V)) (nss : List (List Int)), xs = [V.ref a] ∧ Rd H a (.dT kvs) ∧
    kvs.map (·.1) = nss.map (fun ns => ns.map Sum.inl) ∧ nss.length < 64 ∧ (∀ ns ∈ nss, ns.length = d ∧ TS.Bd bdB ns) ∧
    ∀ (nss' : List (List Int)) (bs : List Addr) (p : Addr), nss'.Perm nss → nss'.Pairwise (fun m n => TS.code bdB m ≤ TS.code bdB n) → Paired (fun ns b => H b = some (.tup (ns.map V.int))) nss' bs → H p = none → Q (.ref p) (upd H p (.lst (bs.map V.ref)))
theorem pr_soT {d : Nat} : PRn K cl (rSoT d) (gSoT d) := fun Hf H vs ts tz w rs e Q q => by
  unfold gSoT at e
  split at e
  · rename_i t
    cases e1 : dTof t with
    | none => rw [e1] at e; cases e
    | some p =>
      obtain ⟨ks, xs⟩ := p
      rw [e1, Option.bind_some] at e
      cases e2 : ikeyss ks with
      | none => rw [e2] at e; cases e
      | some iss =>
        rw [e2, Option.bind_some] at e
        split at e
        · rename_i hc
          simp only [Bool.and_eq_true, decide_eq_true_eq, List.all_eq_true, beq_iff_eq] at hc
          obtain ⟨⟨h1, h2⟩, h3⟩ := hc
          cases e
          obtain ⟨v, G, rfl, r⟩ := rs.one
          obtain ⟨a, us, rfl, k1, k2, k3⟩ := rd_dT w r (dTof_is e1) (List.all_eq_true.mpr h1)
          have bd : ∀ ns ∈ iss, ns.length = d ∧ TS.Bd bdB ns := fun ns m => ⟨(h3 ns m).1, fun i mi => (h3 ns m).2 i mi⟩
          refine ⟨a, _, iss, rfl, k2, by rw [zip_fst k1]; exact ikeyss_eq e2, h2, bd, fun nss' bs p pm pw pr hp => ?_⟩
          have es : nss' = srt (TS.code bdB) iss := srt_eq _ pm (fun x hx y hy e => code_inj x y ((bd x hx).1.trans (bd y hy).1.symm) (bd x hx).2 (bd y hy).2 e) pw
          subst es
          exact q Hf _ _ _ (al_ow w hp) (rep_newL (per_paired (fun ns b h => w.tp b _ h) pr))
        · cases e
  · cases e
/-- sorted of ints: a list, a dict's keys -/
def gSoI : List T → Option T
  | [t] => (asL t).bind fun xs => (ints? xs).bind fun is => if is.length < 64 then some (.ow false .lst ((srt (fun i => i) is).map fun i => .v (.int i))) else none
  | _ => none
theorem per_ints : ∀ is : List Int, PerAll K Hf (is.map fun i => T.v (.int i)) (is.map V.int)
  | [] => True.intro
  | _ :: is => ⟨⟨rfl, rfl⟩, per_ints is⟩
theorem pr_soI : PRn K cl (rSorted K) gSoI := fun Hf H vs ts tz w rs e Q q => by
  unfold gSoI at e
  split at e
  · rename_i t
    cases e1 : asL t with
    | none => rw [e1] at e; cases e
    | some xs =>
      rw [e1, Option.bind_some] at e
      cases e2 : ints? xs with
      | none => rw [e2] at e; cases e
      | some is =>
        rw [e2, Option.bind_some] at e
        split at e
        · rename_i hl
          cases e
          obtain ⟨v, G, rfl, r⟩ := rs.one
          obtain ⟨a, us, G0, rfl, h1, h2, _⟩ := r.asL w e1
          cases h2.ints e2
          refine ⟨a, is, rfl, h1, hl, fun ns' p pm pw hp => ?_⟩
          cases srt_eq (fun i => i) pm (fun x _ y _ e => e) pw
          exact q Hf _ _ _ (al_ow w hp) (rep_newL (per_ints _))
        · cases e
  · cases e
def rSoD : List V → Hp → VK → Prop := fun xs H Q => ∃ (a : Addr) (kvs : List (Key × V)) (ks : List Int), xs = [.ref a] ∧ Rd H a (.dK kvs) ∧ kvs.map (·.1) = ks.map Sum.inl ∧ ks.length < 64 ∧
    ∀ (ys : List Int) (p : Addr), ys.Perm ks → ys.Pairwise (· ≤ ·) → H p = none → Q (.ref p) (upd H p (.lst (ys.map V.int)))
def gSoD : List T → Option T
  | [t] => (dKof t).bind fun p => (ikeys p.1).bind fun is => if (p.2.all T.pers && decide (is.length < 64)) = true then some (.ow false .lst ((srt (fun i => i) is).map fun i => .v (.int i))) else none
  | _ => none
theorem pr_soD : PRn K cl rSoD gSoD := fun Hf H vs ts tz w rs e Q q => by
  unfold gSoD at e
  split at e
  · rename_i t
    cases e1 : dKof t with
    | none => rw [e1] at e; cases e
    | some p =>
      obtain ⟨ks, xs⟩ := p
      rw [e1, Option.bind_some] at e
      cases e2 : ikeys ks with
      | none => rw [e2] at e; cases e
      | some is =>
        rw [e2, Option.bind_some] at e
        split at e
        · rename_i hc
          rw [Bool.and_eq_true, decide_eq_true_eq] at hc
          cases e
          obtain ⟨v, G, rfl, r⟩ := rs.one
          obtain ⟨a, us, rfl, k1, k2, k3⟩ := rd_dK w r (dKof_is e1) hc.1
          refine ⟨a, _, is, rfl, k2, by rw [zip_fst k1]; exact ikeys_eq e2, hc.2, fun ns' p pm pw hp => ?_⟩
          cases srt_eq (fun i => i) pm (fun x _ y _ e => e) pw
          exact q Hf _ _ _ (al_ow w hp) (rep_newL (per_ints _))
        · cases e
  · cases e
/-- len(d), d one's own -/
def gLenO : List T → Option T
  | [.ow false (.dT ks) _] => some (.v (.int ks.length))
  | [.ow false (.dK ks) _] => some (.v (.int ks.length))
  | _ => none
def rLenO : List V → Hp → VK → Prop := fun xs H Q => rLenT xs H Q ∨ ∃ a kvs, xs = [V.ref a] ∧ H a = some (.dK kvs) ∧ Q (.int kvs.length) H
theorem call_lenO {X : Cx} : CallR X (.builtin "len") rLenO := fun pins s σ H xs us Q I rx q => q.elim (call_len_dT pins s σ H xs us Q I rx) (call_lenD pins s σ H xs us Q I rx)
theorem pr_lenO : PRn K cl rLenO gLenO := fun Hf H vs ts tz w rs e Q q => by
  unfold gLenO at e
  split at e
  · cases e
    obtain ⟨v, G, rfl, r⟩ := rs.one
    obtain ⟨a, dx, us, G0, rfl, h2, h3, h4, _⟩ := r
    refine .inl ⟨a, _, rfl, h4.2.1 rfl, ?_⟩
    have := h4.1
    rw [List.length_zip, ← this, Nat.min_self]
    exact q Hf H _ No (Al.refl w) ⟨rfl, rfl⟩
  · cases e
    obtain ⟨v, G, rfl, r⟩ := rs.one
    obtain ⟨a, dx, us, G0, rfl, h2, h3, h4, _⟩ := r
    refine .inr ⟨a, _, rfl, h4.2.1 rfl, ?_⟩
    have := h4.1
    rw [List.length_zip, ← this, Nat.min_self]
    exact q Hf H _ No (Al.refl w) ⟨rfl, rfl⟩
  · cases e
/-- a tuple so often -/
def gRepT : T → T → Option T := fun a b => match asT a, b with
  | some xs, .v (.int k) => if (!xs.isEmpty && decide (2 ≤ k) && decide (k ≤ 1000) && decide (xs.length ≤ 1000)) = true then some (.fz .tup (List.replicate k.toNat xs).flatten) else none
  | _, _ => none
theorem pr_repT : PR2 K cl (rRepT K) gRepT := fun Hf H x y tx ty tz Fx Fy w rx ry e Q q => by
  unfold gRepT at e
  split at e
  · rename_i xs k e1
    split at e
    · rename_i hc
      simp only [Bool.and_eq_true, decide_eq_true_eq, Bool.not_eq_true'] at hc
      obtain ⟨⟨⟨h1, h2⟩, h3⟩, h4⟩ := hc
      cases e
      obtain ⟨a, us, rfl, g1, g2⟩ := rx.asT w e1
      have gl := g2.len
      refine ⟨a, k, us, rfl, ry.1, g1, fun z => ?_, h2, h3, by omega, fun p hp => q _ _ _ No (al_fz w hp) (per_newT (w.none hp) (g2.rep _)).rep⟩
      subst z
      cases xs with
      | nil => simp at h1
      | cons _ _ => simp at gl
    · cases e
  · cases e
end
section
variable {K : PySem.W.Frag} {cl : Nat → Addr} {M Mb : List Nat} {ta : TA} {fa : Ge → Option (Ge × List Rs)}
/-- an argument that is a name, which the later ones change -/
def fAConsV (i : Nat) (fr : Ge → Option (Ge × List Rs)) : Ge → Option (Ge × List Rs) := fun Γ => match Γ[i]? with
  | some (some t) => if t.pers = true then none else (fr Γ).bind fun q => match q.1[i]? with
    | some (some _) => some (q.1, .at i [] :: q.2)
    | _ => none
  | _ => none
theorem ea_consV {i : Nat} (ha : EvAOk K cl Mb ta fa) : EvAOk K cl Mb (tCons (tVar i) ta) (fAConsV i fa) := fun Hf H σ Γ R I Γ' rs e Q q => by
  unfold fAConsV at e
  split at e
  · rename_i t et
    split at e
    · cases e
    · cases e1 : fa Γ with
      | none => rw [e1] at e; cases e
      | some p =>
        obtain ⟨Γ1, rs1⟩ := p
        rw [e1, Option.bind_some] at e
        dsimp only at e
        split at e
        · rename_i t1 et1
          cases e
          obtain ⟨v, hv, _⟩ := I.rep i t et
          refine ⟨v, hv, ha Hf H σ Γ R I _ _ e1 _ fun Hf2 H2 R2 Ss vs st2 I2 g2 r2 => ?_⟩
          refine q Hf2 H2 R2 (No :: Ss) (v :: vs) ⟨st2.fr, st2.kp, st2.nw, fun a s => ?_, st2.le, st2.nf⟩ I2 g2 ⟨⟨rfl, t1, t1, v, et1, hv, rfl, rfl⟩, fun a z => z.elim, r2⟩
          obtain ⟨S, h, s⟩ := s
          rcases List.mem_cons.mp h with z | z
          · subst z; exact s.elim
          · exact st2.ns a ⟨S, z, s⟩
        · cases e
  · cases e
theorem ev_newK : EvOk K cl [] tDNewK (fun Γ => some (Γ, .val (.ow false (.dK []) []))) := fun Hf H σ Γ R I Γ' r e Q q => by
  cases e
  intro p hp
  exact q Hf _ R (fun a => a = p) (.ref p) (al_ow I.w hp).stp ((al_ow I.w hp).er I) (fun _ _ => rfl) ((al_ow I.w hp).rs I (rep_newD (xs := []) (vs := []) rfl ⟨rfl, fun _ => upd_same, fun z => nomatch z⟩ True.intro))
theorem ev_newT : EvOk K cl [] tDNewT (fun Γ => some (Γ, .val (.ow false (.dT []) []))) := fun Hf H σ Γ R I Γ' r e Q q => by
  cases e
  intro p hp
  exact q Hf _ R (fun a => a = p) (.ref p) (al_ow I.w hp).stp ((al_ow I.w hp).er I) (fun _ _ => rfl) ((al_ow I.w hp).rs I (rep_newD (xs := []) (vs := []) rfl ⟨rfl, fun _ => upd_same, fun z => nomatch z⟩ True.intro))
/-- a display of constants -/
def cPairs (kvs : List (Key × V)) : List (TE × TE) := kvs.map fun kv => (tC (kV kv.1), tC kv.2)
theorem tPairs_c {σ : L2.St} {H : Hp} : ∀ {kvs : List (Key × V)} {Q : List (V × V) → Hp → Prop}, Q (kvs.map fun kv => (kV kv.1, kv.2)) H → tPairs (cPairs kvs) σ H Q
  | [], _, h => h
  | _ :: kvs, _, h => tPairs_c (kvs := kvs) h
theorem per_scs {Hf : Hp} : ∀ {vs : List V}, vs.all isSc = true → PerAll K Hf (vs.map T.v) vs
  | [], _ => True.intro
  | v :: vs, h => by
    rw [List.all_cons, Bool.and_eq_true] at h
    exact ⟨⟨rfl, h.1⟩, per_scs h.2⟩
theorem ev_dispC {ks : List Key} {vs : List V} {kvs : List (Key × V)} (hk : ks.zip vs = kvs) (hl : ks.length = vs.length) (h15 : kvs.length ≤ 15) (hm : mergeK [] kvs = kvs) (hs : vs.all isSc = true) :
    EvOk K cl [] (tDisp (cPairs kvs)) (fun Γ => some (Γ, .val (.ow false (.dK ks) (vs.map T.v)))) := fun Hf H σ Γ R I Γ' r e Q q => by
  cases e
  intro p hp
  refine tPairs_c ⟨upd_same, kvs, rfl, h15, ?_⟩
  rw [hm]
  have eq : upd (upd H p (.dK [])) p (.dK kvs) = upd H p (.dK kvs) := by
    funext b
    by_cases h : b = p
    · subst h; rw [upd_same, upd_same]
    · rw [upd_ne h, upd_ne h, upd_ne h]
  rw [eq]
  exact q Hf _ R (fun a => a = p) (.ref p) (al_ow I.w hp).stp ((al_ow I.w hp).er I) (fun _ _ => rfl) ((al_ow I.w hp).rs I (rep_newD rfl ⟨hl, fun _ => by rw [hk]; exact upd_same, fun z => nomatch z⟩ (per_scs hs)))
end
section
variable {q : Qx} {X : Cx} {W : WX} {C : Value} {M Ma Mb Mc Mi Me Mt Mv Mo Mk A B : List Nat} {a b c e o i2 kx vx : Expr} {es : List Expr} {pos pos' p apos tpos : Pos} {fa fb fc f fe fo fi fv fk : Ge → Option (Ge × Rs)} {gs : Ge → Option (Ge × List Rs)} {x : Str} {i : Nat} {ft fu : Ge → Option (Ge × Bool)}
def gLenU : List T → Option T := gnEi gLen gLenO
theorem x_lenU (hm : q.mg "len" = none) (hs : CE q e M f) (hg : GlN q.sc "len" := by rfl) (he : ∀ env, starEach [e] env = (false, eval e env) :: starEach [] env := by intro _; rfl) :
    CE q (.Call (.Name "len" p) [e] [] pos) (M ++ []) (fN gLenU (fACons [] f fANil)) := x_cb (fun X h => CallR.ei (h.K ▸ call_len) call_lenO) (PRn.ei pr_len pr_lenO) hm (x_cons hs x_nil he) (by decide +kernel) hg (by decide) (by decide) he fun _ => rfl
def gCp : List T → Option T := gnEi gCpK gCpT
theorem x_dict (hm : q.mg "dict" = none) (hs : CE q e M f) (hg : GlN q.sc "dict" := by rfl) (he : ∀ env, starEach [e] env = (false, eval e env) :: starEach [] env := by intro _; rfl) :
    CE q (.Call (.Name "dict" p) [e] [] pos) (M ++ []) (fN gCp (fACons [] f fANil)) := x_ct (fun X h => CallR.ei call_dictD (h.prog ▸ h.w ▸ call_dict_dT h.u64 : CallR X (.type "dict") (rCpT q.P q.w))) (PRn.ei pr_cpK pr_cpT) hm (x_cons hs x_nil he) (by decide +kernel) hg (by decide) (by decide) he fun _ => rfl
def gSo (d : Nat) : List T → Option T := gnEi gSoI (gnEi gSoD (gSoT d))
theorem x_sorted (d : Nat) (hd : 1 ≤ d) (hm : q.mg "sorted" = none) (hs : CE q e M f) (hg : GlN q.sc "sorted" := by rfl) (he : ∀ env, starEach [e] env = (false, eval e env) :: starEach [] env := by intro _; rfl) :
    CE q (.Call (.Name "sorted" p) [e] [] pos) (M ++ []) (fN (gSo d) (fACons [] f fANil)) := x_cb (fun X h => CallR.ei (h.K ▸ cr_sorted : CallR X (.builtin "sorted") (rSorted q.K)) (CallR.ei (call_sortedDI h.calm) (call_sorted_dT hd h.calm))) (PRn.ei pr_soI (PRn.ei pr_soD pr_soT)) hm (x_cons hs x_nil he) (by decide +kernel) hg (by decide) (by decide) he fun _ => rfl
def gMulV : T → T → Option T := gEi gMulU gRepT
theorem x_mulV (ha : CE q a Ma fa) (hb : CE q b Mb fb) : CE q (.BinOp a .Mult b pos) (Ma ++ Mb) (f2 Mb gMulV fa fb) := x_bin (fun X h => OpR.ei (OpR.ei op_mul op_rep) (h.K ▸ op_repT : OpR X (binaryOp .Mult) (rRepT q.K))) (PR2.ei (PR2.ei pr_mul pr_rep) pr_repT) ha hb
theorem x_consV (i : Nat) (hs : CA q es Mb gs) (hN : q.N[i]? = some x := by rfl) (hv : Vis q.sc x := by first | exact Or.inl rfl | exact Or.inr (Or.inl rfl) | exact Or.inr (Or.inr rfl)) (hd : (x == ("__debug__" : Str)) = false := by decide) (hcd : (x == ("__classdict__" : Str)) = false := by decide)
    (hst : ∀ env, starEach (.Name x pos :: es) env = (false, eval (.Name x pos) env) :: starEach es env := by intro _; rfl) : CA q (.Name x pos :: es) Mb (fAConsV i gs) :=
  let ⟨_, b1, b2⟩ := hs; ⟨_, fun X h => pa_cons (pe_var (h.ix hN) (h.vis hv) hd hcd) (b1 X h) (hst _), ea_consV b2⟩
theorem x_newK : CE q (.Dict [] [] pos) [] (fun Γ => some (Γ, .val (.ow false (.dK []) []))) := ⟨_, fun _ _ => pe_dnewK, ev_newK⟩
theorem x_newT : CE q (.Dict [] [] pos) [] (fun Γ => some (Γ, .val (.ow false (.dT []) []))) := ⟨_, fun _ _ => pe_dnewT, ev_newT⟩
/-- a display of constants -/
theorem x_disp {keys : List (Option Expr)} {vals : List Expr} (ks : List Key) (vs : List V) (hp : ∀ X, PPs X pos keys vals (cPairs (ks.zip vs))) (ha : keys.all (·.isSome) = true := by rfl) (hl : keys.length = vals.length := by rfl) (h0 : keys ≠ [] := by exact fun z => nomatch z) (h15 : keys.length ≤ 15 := by decide)
    (hkl : ks.length = vs.length := by rfl) (h15' : (ks.zip vs).length ≤ 15 := by decide) (hm : mergeK [] (ks.zip vs) = ks.zip vs := by rfl) (hs : vs.all isSc = true := by rfl) : CE q (.Dict keys vals pos) [] (fun Γ => some (Γ, .val (.ow false (.dK ks) (vs.map T.v)))) :=
  ⟨_, fun X _ => pe_disp (hp X) ha hl h0 h15, ev_dispC rfl hkl h15' hm hs⟩
theorem x_dc {tg : Expr} {ifs : List Expr} {scope : Scope} {fs : Ge → Option (Ge × Rs × List T)} {fg : Ge → T → Option Ge} {Ml vs : List Nat} (bk : Bool) (own : List (Str × Nat)) (hi : CI q tg e M fs) (hg : CG (q.blk scope) tg A fg) (ht : CTs (q.blk scope) ifs Mt ft) (hk : CE (q.blk scope) kx Mk fk) (he : CE (q.blk scope) vx Me fe)
    (hv : own.map (·.2) = vs := by rfl) (hl : vs ++ (Mt ++ (Mk ++ Me)) = Ml := by rfl) (hb : blkC q.N q.sc scope own = true := by (dsimp only [Qx.blk]; decide +kernel)) (hA : (A.all fun i => vs.contains i) = true := by rfl) (hs : ∀ env x, foldedSetIterable e env x = pure x := by intro _ _; rfl) :
    CE q (.DictComp kx vx [⟨tg, e, ifs, 0⟩] scope pos) (M ++ Ml) (fDc bk Ml vs fs fg ft fk fe) := by
  subst hv hl
  obtain ⟨_, a1, a2⟩ := hi
  obtain ⟨_, b1, b2⟩ := hg
  obtain ⟨_, c1, c2⟩ := ht
  obtain ⟨_, k1, k2⟩ := hk
  obtain ⟨_, d1, d2⟩ := he
  exact ⟨_, fun X h => pe_dcP (kd := dNilO bk) (by cases bk; exact .inl rfl; exact .inr rfl) h.u1 h.calm h.nd (a1 X h) (by rw [h.N, h.sc]; exact blkOk_by hb) (fun _ _ _ _ _ => ⟨⟨b1 _ h.blk, c1 _ h.blk⟩, k1 _ h.blk, d1 _ h.blk⟩) (hs _),
    ev_dc bk a2 b2 (fun i m => List.contains_iff_mem.mp (List.all_eq_true.mp hA i m)) c2 k2 d2⟩
end
/-! ### defs that call themselves -/
theorem blT {a b c : Nat} (h : Nat.ble a b = true) (k : Nat.ble b c = true) : Nat.ble a c = true := Nat.ble_eq_true_of_le (Nat.le_trans (Nat.le_of_ble_eq_true h) (Nat.le_of_ble_eq_true k))
theorem blR (a : Nat) : Nat.ble a a = true := Nat.ble_eq_true_of_le (Nat.le_refl a)
theorem cal_rec {P : Program} {w : World} {K : PySem.W.Frag} {cl : Nat → Addr} {mg : Str → Option Value} {base : Heap} {y qual : Str} {std : Stmt} {f : Addr} {fd : FuncData} {N ps : List Str} {k0 : Nat} {C : Value} {dts : List T} {dvs : List V} {ds : List Value} {A M : List Nat}
    {sem : Nat → List T → Option (Rv × List T)} {g : (List T → Option (Rv × List T)) → Ge → Option Out}
    (F : L2.Fun K y qual std f fd) (S : FnScope N ps (defScope std)) (hm : mg y = some (.ref f)) (hb : Binds K fd ps ds) (hd : Vals dvs ds) (hv : ∀ Hf, PerAll K Hf dts dvs) (h0 : ∀ ts, sem 0 ts = none) (hs : ∀ n, sem (n + 1) = runB ps.length N.length A (g (sem n)))
    (h : ∀ n, Cal P w K cl mg base (k0 + n) y C (M.filter fun i => decide (i < ps.length)) (sem n) dts → ∀ W, CB ⟨P, w, K, cl, mg, base, N, defScope std, k0 + n⟩ W C A M (defBody std) (g (sem n))) :
    ∀ n, Cal P w K cl mg base (k0 + n) y C (M.filter fun i => decide (i < ps.length)) (sem n) dts
  | 0 => by
    have nn : ∀ vs H Q E, ¬ spF K cl C (M.filter fun i => decide (i < ps.length)) (sem 0) vs H Q E := fun vs H Q E ⟨_, ts, _, _, _, _, _, e, _⟩ => by rw [h0 ts] at e; cases e
    exact ⟨f, fd, ps, dvs, ds, ⟨fun vs H Q E z => (nn vs H Q E z).elim, fun A outer s H args us vs Q E _ _ _ _ z => (nn vs H Q E z).elim⟩, hm, F.kp, hb, hd, hv⟩
  | n + 1 => by
    have ih := cal_rec (k0 := k0) F S hm hb hd hv h0 hs h n
    have := cal_of F S hm hb hd hv (h n ih)
    rw [← hs n] at this
    exact this
/-! ### targets that are cells of the def -/
section
variable {q : Qx} {X : Cx} {W : WX} {C : Value} {M Mb A B : List Nat} {e : Expr} {es : List Expr} {pos pos' : Pos} {f : Ge → Option (Ge × Rs)} {x : Str} {sts : List Stmt} {g : Ge → Option Out}
def CGS (q : Qx) (W : WX) (e : Expr) (A : List Nat) (f : Ge → T → Option Ge) : Prop := ∃ t, (∀ X, Sok q W X → PG X e t) ∧ TgOk q.K q.cl A t f
def CGSs (q : Qx) (W : WX) (es : List Expr) (A : List Nat) (f : Ge → List T → Option Ge) : Prop := ∃ t, (∀ X, Sok q W X → PGs X es t) ∧ TgsOk q.K q.cl A t f
theorem gs_name (i : Nat) (hN : q.N[i]? = some x := by rfl) (hl : Loc q.sc x := by first | exact .inl rfl | exact .inr rfl) : CGS q W (.Name x pos) [i] (fNm i) :=
  ⟨_, fun X h => pg_name h.nd (h.ix hN) (by rw [h.sc]; exact hl) (.inl (h.fn _)), tg_name⟩
theorem gs_nil : CGSs q W [] [] fTNil := ⟨_, fun _ _ => pgs_nil, tgs_nil⟩
theorem gs_cons {f : Ge → T → Option Ge} {fr : Ge → List T → Option Ge} (h : CGS q W e A f) (k : CGSs q W es B fr) (hs : ∀ env, (assignEach (e :: es) env).map (·.2) = assign e env :: (assignEach es env).map (·.2) := by intro _; rfl) : CGSs q W (e :: es) (A ++ B) (fTCons f fr) :=
  let ⟨_, a1, a2⟩ := h; let ⟨_, b1, b2⟩ := k; ⟨_, fun X h => pgs_cons (a1 X h) (b1 X h) (hs _), tgs_cons a2 b2⟩
theorem gs_tup {k : Nat} (n : Nat) {fr : Ge → List T → Option Ge} (h : CGSs q W es A fr) (hn : ∀ env, (assignEach es env).length = n := by intro _; rfl) (hst : ∀ env, (assignEach es env).findIdx? (·.1) = none := by intro _; rfl) : CGS q W (.Tuple es k pos) A (fTgT n fr) :=
  let ⟨_, a1, a2⟩ := h; ⟨_, fun X h => h.K ▸ pg_tup h.calm (a1 X h) (hn _) (hst _), tg_tup a2⟩
theorem s_asTS {tg : Expr} {fg : Ge → T → Option Ge} (h : CE q e M f) (hg : CGS q W tg A fg) (hs : ∀ env, swapsWithSole [tg] e pos.line env = pure false := by intro _; rfl) (hw : ∀ env, swappedStores [tg] e env = pure none := by intro _; rfl)
    (h1 : ∀ env, (assignEach [tg] env).map (·.2) = [assign tg env] := by intro _; rfl) : CS q W C A (M ++ A) (.Assign [tg] e pos) (gAsT fg f) := let ⟨_, a1, a2⟩ := h; let ⟨_, b1, b2⟩ := hg; ⟨_, fun X h => ps_asg (a1 X h.toCok) (b1 X h) (hs _) (hw _) (h1 _), st_asT a2 b2⟩
theorem s_forS {tg : Expr} {Ml : List Nat} {fs : Ge → Option (Ge × Rs × List T)} {fg : Ge → T → Option Ge} (hi : CI q tg e M fs) (hg : CGS q W tg A fg) (hb : CB q W C B Mb sts g) (hl : A ++ Mb = Ml := by rfl) (hs : ∀ env x, foldedSetIterable e env x = pure x := by intro _ _; rfl) :
    CS q W C (A ++ B) (M ++ Ml) (.For tg e sts [] pos) (gFor Ml fs fg g) := by
  subst hl
  exact let ⟨_, a1, a2⟩ := hi; let ⟨_, b1, b2⟩ := hg; let ⟨_, c1, c2⟩ := hb; ⟨_, fun X h => ps_for h.own h.calm (a1 X h.toCok) (b1 X h) (c1 X h) (hs _), st_for a2 b2 c2⟩
end
end Vx

set_option maxRecDepth 100000
/-! Vx32: reckoning, more -/
namespace Vx
open PySem L2 PyProof.Rows
namespace Vp
@[scoped simp] theorem ap_ixl {xs : List T} {i : Int} : gIxU (.ow false .lst xs) (.v (.int i)) = itm xs i := by
  have h : gIx (.ow false .lst xs) (.v (.int i)) = itm xs i := rfl
  unfold gIxU gxEi
  rw [h]
  cases itm xs i <;> rfl
@[scoped simp] theorem ap_ixt {xs : List T} {i : Int} : gIxU (.fz .tup xs) (.v (.int i)) = itm xs i := by
  have h : gIx (.fz .tup xs) (.v (.int i)) = itm xs i := rfl
  unfold gIxU gxEi
  rw [h]
  cases itm xs i <;> rfl
@[scoped simp] theorem ap_ixf {xs : List T} {i : Int} : gIxU (.fz .lst xs) (.v (.int i)) = itm xs i := by
  have h : gIx (.fz .lst xs) (.v (.int i)) = itm xs i := rfl
  unfold gIxU gxEi
  rw [h]
  cases itm xs i <;> rfl
@[scoped simp] theorem ap_ixw {xs : List T} {i : Int} : gIxU (.fz .wlst xs) (.v (.int i)) = itm xs i := by
  have h : gIx (.fz .wlst xs) (.v (.int i)) = itm xs i := rfl
  unfold gIxU gxEi
  rw [h]
  cases itm xs i <;> rfl
theorem ixU_dT {l : Bool} {ks : List (List Key)} {xs : List T} {k : List Key} {kt : T} (hk : keyT kt = some k) : gIxU (.ow l (.dT ks) xs) kt = (dIx ks k).bind fun n => (xs[n]?).map fun c => (n, c) := by
  cases kt with
  | v x => cases hk
  | ow l s xs => cases hk
  | out x => cases hk
  | fz s ys =>
    cases s <;> try cases hk
    have h : gIx (.ow l (.dT ks) xs) (.fz .tup ys) = none := by cases l <;> rfl
    unfold gIxU gxEi
    rw [h]
    dsimp only
    unfold gDGet dLook
    rw [hk]
    cases l <;> simp only [Option.map_some] <;> cases dIx ks k <;> rfl
theorem ixU_dK {l : Bool} {ks : List Key} {xs : List T} {k : Key} {kt : T} (hk : keyOf kt = some k) : gIxU (.ow l (.dK ks) xs) kt = (dIx ks k).bind fun n => (xs[n]?).map fun c => (n, c) := by
  have h : gIx (.ow l (.dK ks) xs) kt = none := by
    cases kt with
    | v x => cases l <;> cases x <;> rfl
    | _ => cases l <;> rfl
  unfold gIxU gxEi
  rw [h]
  dsimp only
  unfold gDGet dLook
  rw [hk]
  cases l <;> simp only [Option.map_some] <;> cases dIx ks k <;> rfl
@[scoped simp] theorem ap_setl {xs ts : List T} : gSetU (.ow false .lst xs) ts = gSetL (.ow false .lst xs) ts := by
  unfold gSetU
  cases gSetL (.ow false .lst xs) ts <;> rfl
theorem ap_setT {ks : List (List Key)} {xs ts : List T} : gSetU (.ow false (.dT ks) xs) ts = gPut (.ow false (.dT ks) xs) ts := rfl
theorem ap_setK {ks : List Key} {xs ts : List T} : gSetU (.ow false (.dK ks) xs) ts = gPut (.ow false (.dK ks) xs) ts := rfl
@[scoped simp] theorem ap_lnl {xs : List T} : gLenU [.ow false .lst xs] = some (.v (.int xs.length)) := rfl
@[scoped simp] theorem ap_lnt {xs : List T} : gLenU [.fz .tup xs] = some (.v (.int xs.length)) := rfl
@[scoped simp] theorem ap_lnf {xs : List T} : gLenU [.fz .lst xs] = some (.v (.int xs.length)) := rfl
@[scoped simp] theorem ap_lnw {xs : List T} : gLenU [.fz .wlst xs] = some (.v (.int xs.length)) := rfl
@[scoped simp] theorem ap_lndT {ks : List (List Key)} {xs : List T} : gLenU [.ow false (.dT ks) xs] = some (.v (.int ks.length)) := rfl
@[scoped simp] theorem ap_lndK {ks : List Key} {xs : List T} : gLenU [.ow false (.dK ks) xs] = some (.v (.int ks.length)) := rfl
@[scoped simp] theorem ap_gMulV {i j : Int} (h : cMul i j = true) : gMulV (.v (.int i)) (.v (.int j)) = some (.v (.int (i * j))) := by
  unfold gMulV gEi
  rw [ap_gMulU h]
@[scoped simp] theorem ap_eqi {i j : Int} : gEq (.v (.int i)) (.v (.int j)) = some (.v (.bl (decide (i = j)))) := gEq_int i j
@[scoped simp] theorem ap_nei {i j : Int} : gNe (.v (.int i)) (.v (.int j)) = some (.v (.bl (!decide (i = j)))) := gNe_int i j
@[scoped simp] theorem ap_cV {Γ : Ge} {i : Nat} {fr : Ge → Option (Ge × List Rs)} : fAConsV i fr Γ = (match Γ[i]? with
  | some (some t) => if t.pers = true then none else bd (fr Γ) (fun q => (match q.1[i]? with
    | some (some _) => some (q.1, .at i [] :: q.2)
    | _ => none)) .mk
  | _ => none) := rfl
@[scoped simp] theorem ap_fDc {Γ : Ge} {b : Bool} {Ml vs : List Nat} {fs : Ge → Option (Ge × Rs × List T)} {fg : Ge → T → Option Ge} {ft : Ge → Option (Ge × Bool)} {fk fv : Ge → Option (Ge × Rs)} : fDc b Ml vs fs fg ft fk fv Γ = bd (fs Γ) (fun p => if (p.2.1.free Ml && persVs p.1 vs && decide (p.2.2.length ≤ 10000)) = true then (dcGo vs fg ft fk fv p.2.2 p.1 (dNil b)).map fun q => (rstG p.1 q.1 vs, .val q.2) else none) .mk := rfl
@[scoped simp] theorem ap_tupl {xs : List T} (h : xs.all T.pers = true) : gTuple [.ow false .lst xs] = some (.fz .tup xs) := by
  show (if xs.all T.pers = true then some (T.fz .tup xs) else none) = _
  rw [if_pos h]
@[scoped simp] theorem ap_tupt {xs : List T} : gTuple [.fz .tup xs] = some (.fz .tup xs) := rfl
@[scoped simp] theorem ap_istt {xs : List T} : gIsi "tuple" (.fz .tup xs) = some (.v (.bl true)) := rfl
@[scoped simp] theorem ap_isti {i : Int} : gIsi "tuple" (.v (.int i)) = some (.v (.bl false)) := rfl
@[scoped simp] theorem ap_istn : gIsi "tuple" (.v .non) = some (.v (.bl false)) := rfl
@[scoped simp] theorem ap_istb {b : Bool} : gIsi "tuple" (.v (.bl b)) = some (.v (.bl false)) := rfl
@[scoped simp] theorem ap_ists {b : Str} : gIsi "tuple" (.v (.str b)) = some (.v (.bl false)) := rfl
@[scoped simp] theorem ap_istl {xs : List T} : gIsi "tuple" (.fz .lst xs) = some (.v (.bl false)) := rfl
@[scoped simp] theorem ap_iss {b : Str} : gIsi "str" (.v (.str b)) = some (.v (.bl true)) := rfl
@[scoped simp] theorem ap_issi {i : Int} : gIsi "str" (.v (.int i)) = some (.v (.bl false)) := rfl
theorem itm_at {xs : List T} {n : Nat} {c : T} (h : xs[n]? = some c) : itm xs (n : Int) = some (n, c) := by
  have hl := (List.getElem?_eq_some_iff.mp h).1
  unfold itm ixN
  rw [if_pos (by omega), if_pos (by omega)]
  simp [h]
@[scoped simp] theorem itm0 {x : T} {xs : List T} : itm (x :: xs) 0 = some (0, x) := itm_at (n := 0) rfl
@[scoped simp] theorem itm1 {x y : T} {xs : List T} : itm (x :: y :: xs) 1 = some (1, y) := itm_at (n := 1) rfl
@[scoped simp] theorem itm2 {x y z : T} {xs : List T} : itm (x :: y :: z :: xs) 2 = some (2, z) := itm_at (n := 2) rfl
@[scoped simp] theorem itm3 {x y z u : T} {xs : List T} : itm (x :: y :: z :: u :: xs) 3 = some (3, u) := itm_at (n := 3) rfl
theorem gEqS {a b : Str} {r : Bool} (ha : (PyData.str a).canLay0 = true) (hb : (PyData.str b).canLay0 = true) (h : (a == b) = r) : gEq (.v (.str a)) (.v (.str b)) = some (.v (.bl r)) := by
  have e : PyData.eqv (.str a) (.str b) = r := by simp only [PyData.eqv]; exact h
  have k : ∀ c : Str, (PyData.str c).canLay0 = true → SeqAt.shaped (.str c) = true := fun c hc => by unfold SeqAt.shaped; rw [hc]; simp [PyData.depth]
  show (if SeqAt.shaped (.str a) = true ∧ SeqAt.shaped (.str b) = true then some (T.v (.bl (PyData.eqv (.str a) (.str b)))) else none) = _
  rw [if_pos ⟨k a ha, k b hb⟩, e]
theorem gNeS {a b : Str} {r : Bool} (ha : (PyData.str a).canLay0 = true) (hb : (PyData.str b).canLay0 = true) (h : (!(a == b)) = r) : gNe (.v (.str a)) (.v (.str b)) = some (.v (.bl r)) := by
  have e : (!PyData.eqv (.str a) (.str b)) = r := by simp only [PyData.eqv]; exact h
  have k : ∀ c : Str, (PyData.str c).canLay0 = true → SeqAt.shaped (.str c) = true := fun c hc => by unfold SeqAt.shaped; rw [hc]; simp [PyData.depth]
  show (if SeqAt.shaped (.str a) = true ∧ SeqAt.shaped (.str b) = true then some (T.v (.bl (!PyData.eqv (.str a) (.str b)))) else none) = _
  rw [if_pos ⟨k a ha, k b hb⟩, e]
theorem cl_key : (PyData.str "key").canLay0 = true := by decide +kernel
theorem cl_lock : (PyData.str "lock").canLay0 = true := by decide +kernel
theorem cl_age : (PyData.str "age").canLay0 = true := by decide +kernel
theorem cl_all : (PyData.str "all").canLay0 = true := by decide +kernel
theorem cl_any : (PyData.str "any").canLay0 = true := by decide +kernel
theorem cl_token : (PyData.str "token").canLay0 = true := by decide +kernel
theorem cl_value : (PyData.str "value").canLay0 = true := by decide +kernel
theorem cl_wait : (PyData.str "wait").canLay0 = true := by decide +kernel
@[scoped simp] theorem we_key_key : gEq (.v (.str "key")) (.v (.str "key")) = some (.v (.bl true)) := gEqS cl_key cl_key (by decide +kernel)
@[scoped simp] theorem wn_key_key : gNe (.v (.str "key")) (.v (.str "key")) = some (.v (.bl false)) := gNeS cl_key cl_key (by decide +kernel)
@[scoped simp] theorem we_key_lock : gEq (.v (.str "key")) (.v (.str "lock")) = some (.v (.bl false)) := gEqS cl_key cl_lock (by decide +kernel)
@[scoped simp] theorem wn_key_lock : gNe (.v (.str "key")) (.v (.str "lock")) = some (.v (.bl true)) := gNeS cl_key cl_lock (by decide +kernel)
@[scoped simp] theorem we_key_age : gEq (.v (.str "key")) (.v (.str "age")) = some (.v (.bl false)) := gEqS cl_key cl_age (by decide +kernel)
@[scoped simp] theorem wn_key_age : gNe (.v (.str "key")) (.v (.str "age")) = some (.v (.bl true)) := gNeS cl_key cl_age (by decide +kernel)
@[scoped simp] theorem we_key_all : gEq (.v (.str "key")) (.v (.str "all")) = some (.v (.bl false)) := gEqS cl_key cl_all (by decide +kernel)
@[scoped simp] theorem wn_key_all : gNe (.v (.str "key")) (.v (.str "all")) = some (.v (.bl true)) := gNeS cl_key cl_all (by decide +kernel)
@[scoped simp] theorem we_key_any : gEq (.v (.str "key")) (.v (.str "any")) = some (.v (.bl false)) := gEqS cl_key cl_any (by decide +kernel)
@[scoped simp] theorem wn_key_any : gNe (.v (.str "key")) (.v (.str "any")) = some (.v (.bl true)) := gNeS cl_key cl_any (by decide +kernel)
@[scoped simp] theorem we_key_token : gEq (.v (.str "key")) (.v (.str "token")) = some (.v (.bl false)) := gEqS cl_key cl_token (by decide +kernel)
@[scoped simp] theorem wn_key_token : gNe (.v (.str "key")) (.v (.str "token")) = some (.v (.bl true)) := gNeS cl_key cl_token (by decide +kernel)
@[scoped simp] theorem we_key_value : gEq (.v (.str "key")) (.v (.str "value")) = some (.v (.bl false)) := gEqS cl_key cl_value (by decide +kernel)
@[scoped simp] theorem wn_key_value : gNe (.v (.str "key")) (.v (.str "value")) = some (.v (.bl true)) := gNeS cl_key cl_value (by decide +kernel)
@[scoped simp] theorem we_key_wait : gEq (.v (.str "key")) (.v (.str "wait")) = some (.v (.bl false)) := gEqS cl_key cl_wait (by decide +kernel)
@[scoped simp] theorem wn_key_wait : gNe (.v (.str "key")) (.v (.str "wait")) = some (.v (.bl true)) := gNeS cl_key cl_wait (by decide +kernel)
@[scoped simp] theorem we_lock_key : gEq (.v (.str "lock")) (.v (.str "key")) = some (.v (.bl false)) := gEqS cl_lock cl_key (by decide +kernel)
@[scoped simp] theorem wn_lock_key : gNe (.v (.str "lock")) (.v (.str "key")) = some (.v (.bl true)) := gNeS cl_lock cl_key (by decide +kernel)
@[scoped simp] theorem we_lock_lock : gEq (.v (.str "lock")) (.v (.str "lock")) = some (.v (.bl true)) := gEqS cl_lock cl_lock (by decide +kernel)
@[scoped simp] theorem wn_lock_lock : gNe (.v (.str "lock")) (.v (.str "lock")) = some (.v (.bl false)) := gNeS cl_lock cl_lock (by decide +kernel)
@[scoped simp] theorem we_lock_age : gEq (.v (.str "lock")) (.v (.str "age")) = some (.v (.bl false)) := gEqS cl_lock cl_age (by decide +kernel)
@[scoped simp] theorem wn_lock_age : gNe (.v (.str "lock")) (.v (.str "age")) = some (.v (.bl true)) := gNeS cl_lock cl_age (by decide +kernel)
@[scoped simp] theorem we_lock_all : gEq (.v (.str "lock")) (.v (.str "all")) = some (.v (.bl false)) := gEqS cl_lock cl_all (by decide +kernel)
@[scoped simp] theorem wn_lock_all : gNe (.v (.str "lock")) (.v (.str "all")) = some (.v (.bl true)) := gNeS cl_lock cl_all (by decide +kernel)
@[scoped simp] theorem we_lock_any : gEq (.v (.str "lock")) (.v (.str "any")) = some (.v (.bl false)) := gEqS cl_lock cl_any (by decide +kernel)
@[scoped simp] theorem wn_lock_any : gNe (.v (.str "lock")) (.v (.str "any")) = some (.v (.bl true)) := gNeS cl_lock cl_any (by decide +kernel)
@[scoped simp] theorem we_lock_token : gEq (.v (.str "lock")) (.v (.str "token")) = some (.v (.bl false)) := gEqS cl_lock cl_token (by decide +kernel)
@[scoped simp] theorem wn_lock_token : gNe (.v (.str "lock")) (.v (.str "token")) = some (.v (.bl true)) := gNeS cl_lock cl_token (by decide +kernel)
@[scoped simp] theorem we_lock_value : gEq (.v (.str "lock")) (.v (.str "value")) = some (.v (.bl false)) := gEqS cl_lock cl_value (by decide +kernel)
@[scoped simp] theorem wn_lock_value : gNe (.v (.str "lock")) (.v (.str "value")) = some (.v (.bl true)) := gNeS cl_lock cl_value (by decide +kernel)
@[scoped simp] theorem we_lock_wait : gEq (.v (.str "lock")) (.v (.str "wait")) = some (.v (.bl false)) := gEqS cl_lock cl_wait (by decide +kernel)
@[scoped simp] theorem wn_lock_wait : gNe (.v (.str "lock")) (.v (.str "wait")) = some (.v (.bl true)) := gNeS cl_lock cl_wait (by decide +kernel)
@[scoped simp] theorem we_age_key : gEq (.v (.str "age")) (.v (.str "key")) = some (.v (.bl false)) := gEqS cl_age cl_key (by decide +kernel)
@[scoped simp] theorem wn_age_key : gNe (.v (.str "age")) (.v (.str "key")) = some (.v (.bl true)) := gNeS cl_age cl_key (by decide +kernel)
@[scoped simp] theorem we_age_lock : gEq (.v (.str "age")) (.v (.str "lock")) = some (.v (.bl false)) := gEqS cl_age cl_lock (by decide +kernel)
@[scoped simp] theorem wn_age_lock : gNe (.v (.str "age")) (.v (.str "lock")) = some (.v (.bl true)) := gNeS cl_age cl_lock (by decide +kernel)
@[scoped simp] theorem we_age_age : gEq (.v (.str "age")) (.v (.str "age")) = some (.v (.bl true)) := gEqS cl_age cl_age (by decide +kernel)
@[scoped simp] theorem wn_age_age : gNe (.v (.str "age")) (.v (.str "age")) = some (.v (.bl false)) := gNeS cl_age cl_age (by decide +kernel)
@[scoped simp] theorem we_age_all : gEq (.v (.str "age")) (.v (.str "all")) = some (.v (.bl false)) := gEqS cl_age cl_all (by decide +kernel)
@[scoped simp] theorem wn_age_all : gNe (.v (.str "age")) (.v (.str "all")) = some (.v (.bl true)) := gNeS cl_age cl_all (by decide +kernel)
@[scoped simp] theorem we_age_any : gEq (.v (.str "age")) (.v (.str "any")) = some (.v (.bl false)) := gEqS cl_age cl_any (by decide +kernel)
@[scoped simp] theorem wn_age_any : gNe (.v (.str "age")) (.v (.str "any")) = some (.v (.bl true)) := gNeS cl_age cl_any (by decide +kernel)
@[scoped simp] theorem we_age_token : gEq (.v (.str "age")) (.v (.str "token")) = some (.v (.bl false)) := gEqS cl_age cl_token (by decide +kernel)
@[scoped simp] theorem wn_age_token : gNe (.v (.str "age")) (.v (.str "token")) = some (.v (.bl true)) := gNeS cl_age cl_token (by decide +kernel)
@[scoped simp] theorem we_age_value : gEq (.v (.str "age")) (.v (.str "value")) = some (.v (.bl false)) := gEqS cl_age cl_value (by decide +kernel)
@[scoped simp] theorem wn_age_value : gNe (.v (.str "age")) (.v (.str "value")) = some (.v (.bl true)) := gNeS cl_age cl_value (by decide +kernel)
@[scoped simp] theorem we_age_wait : gEq (.v (.str "age")) (.v (.str "wait")) = some (.v (.bl false)) := gEqS cl_age cl_wait (by decide +kernel)
@[scoped simp] theorem wn_age_wait : gNe (.v (.str "age")) (.v (.str "wait")) = some (.v (.bl true)) := gNeS cl_age cl_wait (by decide +kernel)
@[scoped simp] theorem we_all_key : gEq (.v (.str "all")) (.v (.str "key")) = some (.v (.bl false)) := gEqS cl_all cl_key (by decide +kernel)
@[scoped simp] theorem wn_all_key : gNe (.v (.str "all")) (.v (.str "key")) = some (.v (.bl true)) := gNeS cl_all cl_key (by decide +kernel)
@[scoped simp] theorem we_all_lock : gEq (.v (.str "all")) (.v (.str "lock")) = some (.v (.bl false)) := gEqS cl_all cl_lock (by decide +kernel)
@[scoped simp] theorem wn_all_lock : gNe (.v (.str "all")) (.v (.str "lock")) = some (.v (.bl true)) := gNeS cl_all cl_lock (by decide +kernel)
@[scoped simp] theorem we_all_age : gEq (.v (.str "all")) (.v (.str "age")) = some (.v (.bl false)) := gEqS cl_all cl_age (by decide +kernel)
@[scoped simp] theorem wn_all_age : gNe (.v (.str "all")) (.v (.str "age")) = some (.v (.bl true)) := gNeS cl_all cl_age (by decide +kernel)
@[scoped simp] theorem we_all_all : gEq (.v (.str "all")) (.v (.str "all")) = some (.v (.bl true)) := gEqS cl_all cl_all (by decide +kernel)
@[scoped simp] theorem wn_all_all : gNe (.v (.str "all")) (.v (.str "all")) = some (.v (.bl false)) := gNeS cl_all cl_all (by decide +kernel)
@[scoped simp] theorem we_all_any : gEq (.v (.str "all")) (.v (.str "any")) = some (.v (.bl false)) := gEqS cl_all cl_any (by decide +kernel)
@[scoped simp] theorem wn_all_any : gNe (.v (.str "all")) (.v (.str "any")) = some (.v (.bl true)) := gNeS cl_all cl_any (by decide +kernel)
@[scoped simp] theorem we_all_token : gEq (.v (.str "all")) (.v (.str "token")) = some (.v (.bl false)) := gEqS cl_all cl_token (by decide +kernel)
@[scoped simp] theorem wn_all_token : gNe (.v (.str "all")) (.v (.str "token")) = some (.v (.bl true)) := gNeS cl_all cl_token (by decide +kernel)
@[scoped simp] theorem we_all_value : gEq (.v (.str "all")) (.v (.str "value")) = some (.v (.bl false)) := gEqS cl_all cl_value (by decide +kernel)
@[scoped simp] theorem wn_all_value : gNe (.v (.str "all")) (.v (.str "value")) = some (.v (.bl true)) := gNeS cl_all cl_value (by decide +kernel)
@[scoped simp] theorem we_all_wait : gEq (.v (.str "all")) (.v (.str "wait")) = some (.v (.bl false)) := gEqS cl_all cl_wait (by decide +kernel)
@[scoped simp] theorem wn_all_wait : gNe (.v (.str "all")) (.v (.str "wait")) = some (.v (.bl true)) := gNeS cl_all cl_wait (by decide +kernel)
@[scoped simp] theorem we_any_key : gEq (.v (.str "any")) (.v (.str "key")) = some (.v (.bl false)) := gEqS cl_any cl_key (by decide +kernel)
@[scoped simp] theorem wn_any_key : gNe (.v (.str "any")) (.v (.str "key")) = some (.v (.bl true)) := gNeS cl_any cl_key (by decide +kernel)
@[scoped simp] theorem we_any_lock : gEq (.v (.str "any")) (.v (.str "lock")) = some (.v (.bl false)) := gEqS cl_any cl_lock (by decide +kernel)
@[scoped simp] theorem wn_any_lock : gNe (.v (.str "any")) (.v (.str "lock")) = some (.v (.bl true)) := gNeS cl_any cl_lock (by decide +kernel)
@[scoped simp] theorem we_any_age : gEq (.v (.str "any")) (.v (.str "age")) = some (.v (.bl false)) := gEqS cl_any cl_age (by decide +kernel)
@[scoped simp] theorem wn_any_age : gNe (.v (.str "any")) (.v (.str "age")) = some (.v (.bl true)) := gNeS cl_any cl_age (by decide +kernel)
@[scoped simp] theorem we_any_all : gEq (.v (.str "any")) (.v (.str "all")) = some (.v (.bl false)) := gEqS cl_any cl_all (by decide +kernel)
@[scoped simp] theorem wn_any_all : gNe (.v (.str "any")) (.v (.str "all")) = some (.v (.bl true)) := gNeS cl_any cl_all (by decide +kernel)
@[scoped simp] theorem we_any_any : gEq (.v (.str "any")) (.v (.str "any")) = some (.v (.bl true)) := gEqS cl_any cl_any (by decide +kernel)
@[scoped simp] theorem wn_any_any : gNe (.v (.str "any")) (.v (.str "any")) = some (.v (.bl false)) := gNeS cl_any cl_any (by decide +kernel)
@[scoped simp] theorem we_any_token : gEq (.v (.str "any")) (.v (.str "token")) = some (.v (.bl false)) := gEqS cl_any cl_token (by decide +kernel)
@[scoped simp] theorem wn_any_token : gNe (.v (.str "any")) (.v (.str "token")) = some (.v (.bl true)) := gNeS cl_any cl_token (by decide +kernel)
@[scoped simp] theorem we_any_value : gEq (.v (.str "any")) (.v (.str "value")) = some (.v (.bl false)) := gEqS cl_any cl_value (by decide +kernel)
@[scoped simp] theorem wn_any_value : gNe (.v (.str "any")) (.v (.str "value")) = some (.v (.bl true)) := gNeS cl_any cl_value (by decide +kernel)
@[scoped simp] theorem we_any_wait : gEq (.v (.str "any")) (.v (.str "wait")) = some (.v (.bl false)) := gEqS cl_any cl_wait (by decide +kernel)
@[scoped simp] theorem wn_any_wait : gNe (.v (.str "any")) (.v (.str "wait")) = some (.v (.bl true)) := gNeS cl_any cl_wait (by decide +kernel)
@[scoped simp] theorem we_token_key : gEq (.v (.str "token")) (.v (.str "key")) = some (.v (.bl false)) := gEqS cl_token cl_key (by decide +kernel)
@[scoped simp] theorem wn_token_key : gNe (.v (.str "token")) (.v (.str "key")) = some (.v (.bl true)) := gNeS cl_token cl_key (by decide +kernel)
@[scoped simp] theorem we_token_lock : gEq (.v (.str "token")) (.v (.str "lock")) = some (.v (.bl false)) := gEqS cl_token cl_lock (by decide +kernel)
@[scoped simp] theorem wn_token_lock : gNe (.v (.str "token")) (.v (.str "lock")) = some (.v (.bl true)) := gNeS cl_token cl_lock (by decide +kernel)
@[scoped simp] theorem we_token_age : gEq (.v (.str "token")) (.v (.str "age")) = some (.v (.bl false)) := gEqS cl_token cl_age (by decide +kernel)
@[scoped simp] theorem wn_token_age : gNe (.v (.str "token")) (.v (.str "age")) = some (.v (.bl true)) := gNeS cl_token cl_age (by decide +kernel)
@[scoped simp] theorem we_token_all : gEq (.v (.str "token")) (.v (.str "all")) = some (.v (.bl false)) := gEqS cl_token cl_all (by decide +kernel)
@[scoped simp] theorem wn_token_all : gNe (.v (.str "token")) (.v (.str "all")) = some (.v (.bl true)) := gNeS cl_token cl_all (by decide +kernel)
@[scoped simp] theorem we_token_any : gEq (.v (.str "token")) (.v (.str "any")) = some (.v (.bl false)) := gEqS cl_token cl_any (by decide +kernel)
@[scoped simp] theorem wn_token_any : gNe (.v (.str "token")) (.v (.str "any")) = some (.v (.bl true)) := gNeS cl_token cl_any (by decide +kernel)
@[scoped simp] theorem we_token_token : gEq (.v (.str "token")) (.v (.str "token")) = some (.v (.bl true)) := gEqS cl_token cl_token (by decide +kernel)
@[scoped simp] theorem wn_token_token : gNe (.v (.str "token")) (.v (.str "token")) = some (.v (.bl false)) := gNeS cl_token cl_token (by decide +kernel)
@[scoped simp] theorem we_token_value : gEq (.v (.str "token")) (.v (.str "value")) = some (.v (.bl false)) := gEqS cl_token cl_value (by decide +kernel)
@[scoped simp] theorem wn_token_value : gNe (.v (.str "token")) (.v (.str "value")) = some (.v (.bl true)) := gNeS cl_token cl_value (by decide +kernel)
@[scoped simp] theorem we_token_wait : gEq (.v (.str "token")) (.v (.str "wait")) = some (.v (.bl false)) := gEqS cl_token cl_wait (by decide +kernel)
@[scoped simp] theorem wn_token_wait : gNe (.v (.str "token")) (.v (.str "wait")) = some (.v (.bl true)) := gNeS cl_token cl_wait (by decide +kernel)
@[scoped simp] theorem we_value_key : gEq (.v (.str "value")) (.v (.str "key")) = some (.v (.bl false)) := gEqS cl_value cl_key (by decide +kernel)
@[scoped simp] theorem wn_value_key : gNe (.v (.str "value")) (.v (.str "key")) = some (.v (.bl true)) := gNeS cl_value cl_key (by decide +kernel)
@[scoped simp] theorem we_value_lock : gEq (.v (.str "value")) (.v (.str "lock")) = some (.v (.bl false)) := gEqS cl_value cl_lock (by decide +kernel)
@[scoped simp] theorem wn_value_lock : gNe (.v (.str "value")) (.v (.str "lock")) = some (.v (.bl true)) := gNeS cl_value cl_lock (by decide +kernel)
@[scoped simp] theorem we_value_age : gEq (.v (.str "value")) (.v (.str "age")) = some (.v (.bl false)) := gEqS cl_value cl_age (by decide +kernel)
@[scoped simp] theorem wn_value_age : gNe (.v (.str "value")) (.v (.str "age")) = some (.v (.bl true)) := gNeS cl_value cl_age (by decide +kernel)
@[scoped simp] theorem we_value_all : gEq (.v (.str "value")) (.v (.str "all")) = some (.v (.bl false)) := gEqS cl_value cl_all (by decide +kernel)
@[scoped simp] theorem wn_value_all : gNe (.v (.str "value")) (.v (.str "all")) = some (.v (.bl true)) := gNeS cl_value cl_all (by decide +kernel)
@[scoped simp] theorem we_value_any : gEq (.v (.str "value")) (.v (.str "any")) = some (.v (.bl false)) := gEqS cl_value cl_any (by decide +kernel)
@[scoped simp] theorem wn_value_any : gNe (.v (.str "value")) (.v (.str "any")) = some (.v (.bl true)) := gNeS cl_value cl_any (by decide +kernel)
@[scoped simp] theorem we_value_token : gEq (.v (.str "value")) (.v (.str "token")) = some (.v (.bl false)) := gEqS cl_value cl_token (by decide +kernel)
@[scoped simp] theorem wn_value_token : gNe (.v (.str "value")) (.v (.str "token")) = some (.v (.bl true)) := gNeS cl_value cl_token (by decide +kernel)
@[scoped simp] theorem we_value_value : gEq (.v (.str "value")) (.v (.str "value")) = some (.v (.bl true)) := gEqS cl_value cl_value (by decide +kernel)
@[scoped simp] theorem wn_value_value : gNe (.v (.str "value")) (.v (.str "value")) = some (.v (.bl false)) := gNeS cl_value cl_value (by decide +kernel)
@[scoped simp] theorem we_value_wait : gEq (.v (.str "value")) (.v (.str "wait")) = some (.v (.bl false)) := gEqS cl_value cl_wait (by decide +kernel)
@[scoped simp] theorem wn_value_wait : gNe (.v (.str "value")) (.v (.str "wait")) = some (.v (.bl true)) := gNeS cl_value cl_wait (by decide +kernel)
@[scoped simp] theorem we_wait_key : gEq (.v (.str "wait")) (.v (.str "key")) = some (.v (.bl false)) := gEqS cl_wait cl_key (by decide +kernel)
@[scoped simp] theorem wn_wait_key : gNe (.v (.str "wait")) (.v (.str "key")) = some (.v (.bl true)) := gNeS cl_wait cl_key (by decide +kernel)
@[scoped simp] theorem we_wait_lock : gEq (.v (.str "wait")) (.v (.str "lock")) = some (.v (.bl false)) := gEqS cl_wait cl_lock (by decide +kernel)
@[scoped simp] theorem wn_wait_lock : gNe (.v (.str "wait")) (.v (.str "lock")) = some (.v (.bl true)) := gNeS cl_wait cl_lock (by decide +kernel)
@[scoped simp] theorem we_wait_age : gEq (.v (.str "wait")) (.v (.str "age")) = some (.v (.bl false)) := gEqS cl_wait cl_age (by decide +kernel)
@[scoped simp] theorem wn_wait_age : gNe (.v (.str "wait")) (.v (.str "age")) = some (.v (.bl true)) := gNeS cl_wait cl_age (by decide +kernel)
@[scoped simp] theorem we_wait_all : gEq (.v (.str "wait")) (.v (.str "all")) = some (.v (.bl false)) := gEqS cl_wait cl_all (by decide +kernel)
@[scoped simp] theorem wn_wait_all : gNe (.v (.str "wait")) (.v (.str "all")) = some (.v (.bl true)) := gNeS cl_wait cl_all (by decide +kernel)
@[scoped simp] theorem we_wait_any : gEq (.v (.str "wait")) (.v (.str "any")) = some (.v (.bl false)) := gEqS cl_wait cl_any (by decide +kernel)
@[scoped simp] theorem wn_wait_any : gNe (.v (.str "wait")) (.v (.str "any")) = some (.v (.bl true)) := gNeS cl_wait cl_any (by decide +kernel)
@[scoped simp] theorem we_wait_token : gEq (.v (.str "wait")) (.v (.str "token")) = some (.v (.bl false)) := gEqS cl_wait cl_token (by decide +kernel)
@[scoped simp] theorem wn_wait_token : gNe (.v (.str "wait")) (.v (.str "token")) = some (.v (.bl true)) := gNeS cl_wait cl_token (by decide +kernel)
@[scoped simp] theorem we_wait_value : gEq (.v (.str "wait")) (.v (.str "value")) = some (.v (.bl false)) := gEqS cl_wait cl_value (by decide +kernel)
@[scoped simp] theorem wn_wait_value : gNe (.v (.str "wait")) (.v (.str "value")) = some (.v (.bl true)) := gNeS cl_wait cl_value (by decide +kernel)
@[scoped simp] theorem we_wait_wait : gEq (.v (.str "wait")) (.v (.str "wait")) = some (.v (.bl true)) := gEqS cl_wait cl_wait (by decide +kernel)
@[scoped simp] theorem wn_wait_wait : gNe (.v (.str "wait")) (.v (.str "wait")) = some (.v (.bl false)) := gNeS cl_wait cl_wait (by decide +kernel)
@[scoped simp] theorem wi3_key : gInU false (.v (.str "key")) (.fz .tup [.v (.str "key"), .v (.str "lock"), .v (.str "age")]) = some (.v (.bl true)) := rfl
@[scoped simp] theorem wi2_key : gInU false (.v (.str "key")) (.fz .tup [.v (.str "token"), .v (.str "value")]) = some (.v (.bl false)) := rfl
@[scoped simp] theorem wi3_lock : gInU false (.v (.str "lock")) (.fz .tup [.v (.str "key"), .v (.str "lock"), .v (.str "age")]) = some (.v (.bl true)) := rfl
@[scoped simp] theorem wi2_lock : gInU false (.v (.str "lock")) (.fz .tup [.v (.str "token"), .v (.str "value")]) = some (.v (.bl false)) := rfl
@[scoped simp] theorem wi3_age : gInU false (.v (.str "age")) (.fz .tup [.v (.str "key"), .v (.str "lock"), .v (.str "age")]) = some (.v (.bl true)) := rfl
@[scoped simp] theorem wi2_age : gInU false (.v (.str "age")) (.fz .tup [.v (.str "token"), .v (.str "value")]) = some (.v (.bl false)) := rfl
@[scoped simp] theorem wi3_all : gInU false (.v (.str "all")) (.fz .tup [.v (.str "key"), .v (.str "lock"), .v (.str "age")]) = some (.v (.bl false)) := rfl
@[scoped simp] theorem wi2_all : gInU false (.v (.str "all")) (.fz .tup [.v (.str "token"), .v (.str "value")]) = some (.v (.bl false)) := rfl
@[scoped simp] theorem wi3_any : gInU false (.v (.str "any")) (.fz .tup [.v (.str "key"), .v (.str "lock"), .v (.str "age")]) = some (.v (.bl false)) := rfl
@[scoped simp] theorem wi2_any : gInU false (.v (.str "any")) (.fz .tup [.v (.str "token"), .v (.str "value")]) = some (.v (.bl false)) := rfl
@[scoped simp] theorem wi3_token : gInU false (.v (.str "token")) (.fz .tup [.v (.str "key"), .v (.str "lock"), .v (.str "age")]) = some (.v (.bl false)) := rfl
@[scoped simp] theorem wi2_token : gInU false (.v (.str "token")) (.fz .tup [.v (.str "token"), .v (.str "value")]) = some (.v (.bl true)) := rfl
@[scoped simp] theorem wi3_value : gInU false (.v (.str "value")) (.fz .tup [.v (.str "key"), .v (.str "lock"), .v (.str "age")]) = some (.v (.bl false)) := rfl
@[scoped simp] theorem wi2_value : gInU false (.v (.str "value")) (.fz .tup [.v (.str "token"), .v (.str "value")]) = some (.v (.bl true)) := rfl
@[scoped simp] theorem wi3_wait : gInU false (.v (.str "wait")) (.fz .tup [.v (.str "key"), .v (.str "lock"), .v (.str "age")]) = some (.v (.bl false)) := rfl
@[scoped simp] theorem wi2_wait : gInU false (.v (.str "wait")) (.fz .tup [.v (.str "token"), .v (.str "value")]) = some (.v (.bl false)) := rfl
@[scoped simp] theorem wd3_key : gIxU (.ow false (.dK [.inr "key", .inr "lock", .inr "age"]) [.v (.int 1), .v (.int 2), .v (.int 3)]) (.v (.str "key")) = some (0, .v (.int 1)) := rfl
@[scoped simp] theorem wd3_lock : gIxU (.ow false (.dK [.inr "key", .inr "lock", .inr "age"]) [.v (.int 1), .v (.int 2), .v (.int 3)]) (.v (.str "lock")) = some (1, .v (.int 2)) := rfl
@[scoped simp] theorem wd3_age : gIxU (.ow false (.dK [.inr "key", .inr "lock", .inr "age"]) [.v (.int 1), .v (.int 2), .v (.int 3)]) (.v (.str "age")) = some (2, .v (.int 3)) := rfl
@[scoped simp] theorem wda_all : gIxU (.ow false (.dK [.inr "all", .inr "any"]) [.v (.int 4), .v (.int 5)]) (.v (.str "all")) = some (0, .v (.int 4)) := rfl
@[scoped simp] theorem wda_any : gIxU (.ow false (.dK [.inr "all", .inr "any"]) [.v (.int 4), .v (.int 5)]) (.v (.str "any")) = some (1, .v (.int 5)) := rfl
@[scoped simp] theorem wdt_token : gIxU (.ow false (.dK [.inr "token", .inr "value"]) [.v (.int 1), .v (.int 2)]) (.v (.str "token")) = some (0, .v (.int 1)) := rfl
@[scoped simp] theorem wdt_value : gIxU (.ow false (.dK [.inr "token", .inr "value"]) [.v (.int 1), .v (.int 2)]) (.v (.str "value")) = some (1, .v (.int 2)) := rfl
end Vp
end Vx

set_option maxRecDepth 100000
/-! Vx33: what all laws share, with the later readings: the tape, numbers, mixing -/
namespace Vr
section
open PySem L2 Vx PyProof.Rows
open Vx.Vp
def g__law_next : Ge → Option Out := gSeq (gSet [] 2 (fIx [] gIxU (fVar 0) (fC (.int 2)))) (gSeq (gIf (fT (f2 [] gGt (fVar 2) (fC (.int 0)))) (gSeq (gSt [0] [] [] [] gSetU (f2 [] gDiv (fVar 2) (fVar 1)) (fVar 0) (fC (.int 2))) (gRet [] (f2 [] gMod (fN gInt (fACons [] (fVar 2) fANil)) (fVar 1)))) (gNx)) (gSeq (gSet [] 3 (fC (.int 0))) (gSeq (gIf (fT (f2 [] gLt (fIx [] gIxU (fVar 0) (fC (.int 1))) (fN gLenU (fACons [] (fIx [] gIxU (fVar 0) (fC (.int 0))) fANil)))) (gSeq (gSet [] 3 (fN gAbs (fACons [] (fIx [] gIxU (fIx [] gIxU (fVar 0) (fC (.int 0))) (fIx [] gIxU (fVar 0) (fC (.int 1)))) fANil))) (gAugS [0] [] [] gIxL gAdd gSetL (fVar 0) (fC (.int 1)) (fC (.int 1)))) (gNx)) (gSeq (gIf (fT (f2 [] gGe (fVar 3) (f2 [] gPow (fC (.int 10)) (fC (.int 18))))) (gSeq (gSt [0] [] [] [] gSetU (f2 [] gDiv (fVar 3) (fVar 1)) (fVar 0) (fC (.int 2))) (gRet [] (f2 [] gMod (fN gInt (fACons [] (fVar 3) fANil)) (fVar 1)))) (gNx)) (gSeq (gSt [0] [] [] [] gSetU (f2 [] gMod (fN gInt (fACons [] (f2 [] gAddU (f2 [] gAddU (f2 [] gMulV (fIx [] gIxU (fVar 0) (fC (.int 3))) (fC (.int 48271))) (f2 [] gMulV (fVar 3) (fC (.int 69621)))) (fC (.int 11))) fANil)) (fC (.int 2147483647))) (fVar 0) (fC (.int 3))) (gRet [] (f2 [] gMod (fN gInt (fACons [] (f2 [] gDiv (f2 [] gMod (f2 [] gMulV (fIx [] gIxU (fVar 0) (fC (.int 3))) (fC (.int 16807))) (fC (.int 2147483647))) (fC (.int 7))) fANil)) (fVar 1))))))))
def m__law_next : List T → Option (Rv × List T) := runB 2 4 [2, 3] g__law_next
def g_is_number : Ge → Option Out := gRet [] (fAndV (f1 (gIsi "int") (fVar 0)) (fNotV (f1 (gIsi "bool") (fVar 0))))
def m_is_number : List T → Option (Rv × List T) := runB 1 1 [] g_is_number
def g_is_between : Ge → Option Out := gRet [] (fAndV (fCall [] [] m_is_number [] (fACons [] (fVar 0) (fANil))) (fCh [] [] gLe gLe (fVar 1) (fVar 0) (fVar 2)))
def m_is_between : List T → Option (Rv × List T) := runB 3 3 [] g_is_between
def g_is_value : Ge → Option Out := gRet [] (fCall [] [] m_is_between [] (fACons [] (fVar 0) (fACons [] (fC (.int 0)) (fACons [] (fC (.int 18446744073709551615)) (fANil)))))
def m_is_value : List T → Option (Rv × List T) := runB 1 1 [] g_is_value
def g_is_name : Ge → Option Out := gRet [] (fCall [] [] m_is_between [] (fACons [] (fVar 0) (fACons [] (fC (.int 1)) (fACons [] (fC (.int 18446744073709551615)) (fANil)))))
def m_is_name : List T → Option (Rv × List T) := runB 1 1 [] g_is_name
def g_mix : Ge → Option Out := gSeq (gIf (fNot (fTr (fN gAll (fACons [] (fLc [] [1] [1] (fSrc (fVar 0)) (fNm 1) ((fun Γ => some (Γ, true))) (fCall [] [] m_is_value [] (fACons [] (fVar 1) (fANil)))) fANil)))) (gRaise) (gNx)) (gSeq (gSet [] 2 (fC (.int 1469598103934665603))) (gSeq (gFor [1, 2] (fSrc (f2 [] gAddU (fLst (fACons [] (fN gLenU (fACons [] (fVar 0) fANil)) (fANil))) (fN gList (fACons [] (fVar 0) fANil)))) (fNm 1) (gSeq (gSet [] 2 (f2 [] gAnd (f2 [] gMulV (f2 [] gXor (fVar 2) (fVar 1)) (fC (.int 1099511628211))) (fC (.int 18446744073709551615)))) (gSet [] 2 (f2 [] gXor (fVar 2) (f2 [] gShr (fVar 2) (fC (.int 29))))))) (gSeq (gSet [] 2 (f2 [] gAnd (f2 [] gMulV (fVar 2) (fC (.int 11400714819323198485))) (fC (.int 18446744073709551615)))) (gSeq (gSet [] 2 (f2 [] gXor (fVar 2) (f2 [] gShr (fVar 2) (fC (.int 32))))) (gRet [] (fN gMax2 (fACons [] (fC (.int 1)) (fACons [] (fVar 2) fANil))))))))
def m_mix : List T → Option (Rv × List T) := runB 1 3 [1, 2] g_mix
def g__law_mix : Ge → Option Out := gSeq (gSet [] 1 (fC (.int 1469598103934665603))) (gSeq (gFor [2, 1] (fSrc (f2 [] gAddU (fLst (fACons [] (fN gLenU (fACons [] (fVar 0) fANil)) (fANil))) (fN gList (fACons [] (fVar 0) fANil)))) (fNm 2) (gSeq (gSet [] 1 (f2 [] gMod (f2 [] gMulV (f2 [] gXor (fVar 1) (fVar 2)) (fC (.int 1099511628211))) (f2 [] gPow (fC (.int 2)) (fC (.int 64))))) (gSet [] 1 (f2 [] gXor (fVar 1) (f2 [] gDiv (fVar 1) (f2 [] gPow (fC (.int 2)) (fC (.int 29)))))))) (gSeq (gSet [] 1 (f2 [] gMod (f2 [] gMulV (fVar 1) (fC (.int 11400714819323198485))) (f2 [] gPow (fC (.int 2)) (fC (.int 64))))) (gSeq (gSet [] 1 (f2 [] gXor (fVar 1) (f2 [] gDiv (fVar 1) (f2 [] gPow (fC (.int 2)) (fC (.int 32)))))) (gRet [] (fN gMax2 (fACons [] (fVar 1) (fACons [] (fC (.int 1)) fANil)))))))
def m__law_mix : List T → Option (Rv × List T) := runB 1 3 [1, 2] g__law_mix
def tp (cs : List Int) (i r s : Int) : T := .ow false .lst [.ow false .lst (cs.map fun c => .v (.int c)), .v (.int i), .v (.int r), .v (.int s)]
@[scoped simp] theorem ix2 : ixN 4 2 = some 2 := rfl
theorem next_pos (cs : List Int) (i r s m : Int) (hr : 0 < r) (hm : 0 < m) (hm2 : m < 2 ^ 200) : m__law_next [tp cs i r s, .v (.int m)] = some (.ret (.v (.int (r % m))), [tp cs i (r / m) s, .v (.int m)]) := by
  have h1 : cDiv r m = true := cDiv_of hm hm2
  have h2 : cPos r m = true := cPos_of hm
  refine (ap_run rfl).trans ?_
  unfold g__law_next
  simp [tp, hr, startG, gIx, fzSq, itm, h1, h2, gSetL, outAt]
theorem ix4 (k : Nat) (h : k < 4) : ixN 4 (k : Int) = some k := by unfold ixN; rw [if_pos (by omega), if_pos (by omega)]; simp
@[scoped simp] theorem ix40 : ixN 4 0 = some 0 := rfl
@[scoped simp] theorem ix41 : ixN 4 1 = some 1 := rfl
@[scoped simp] theorem ix43 : ixN 4 3 = some 3 := rfl
theorem ixI {n : Nat} {i : Int} (h : 0 ≤ i) (k : i < n) : ixN n i = some i.toNat := by unfold ixN; rw [if_pos h, if_pos k]
theorem next_in1 (cs : List Int) (i r s m c : Int) (hr : ¬ 0 < r) (hi : 0 ≤ i) (hn : i < cs.length) (hc : cs[i.toNat]? = some c) (hb : (1000000000000000000 : Int) ≤ (if c < 0 then -c else c)) (hm : 0 < m) (hm2 : m < 2 ^ 200) :
    m__law_next [tp cs i r s, .v (.int m)] = some (.ret (.v (.int ((if c < 0 then -c else c) % m))), [tp cs (i + 1) ((if c < 0 then -c else c) / m) s, .v (.int m)]) := by
  have h1 : cDiv (if c < 0 then -c else c) m = true := cDiv_of hm hm2
  have h2 : cPos (if c < 0 then -c else c) m = true := cPos_of hm
  have h3 : cPow 10 18 = true := by decide
  have h4 : ixN cs.length i = some i.toNat := ixI hi hn
  refine (ap_run rfl).trans ?_
  unfold g__law_next
  simp [tp, hr, startG, gIx, gIxL, fzSq, itm, h1, h2, h3, h4, hn, hc, hb, gSetL, outAt, gLen]
theorem next_in2 (cs : List Int) (i r s m c : Int) (hr : ¬ 0 < r) (hi : 0 ≤ i) (hn : i < cs.length) (hc : cs[i.toNat]? = some c) (hb : ¬ (1000000000000000000 : Int) ≤ (if c < 0 then -c else c)) (hm : 0 < m) (hm2 : m < 2 ^ 200) :
    m__law_next [tp cs i r s, .v (.int m)] = some (.ret (.v (.int (((s * 48271 + (if c < 0 then -c else c) * 69621 + 11) % 2147483647 * 16807 % 2147483647 / 7) % m))), [tp cs (i + 1) r ((s * 48271 + (if c < 0 then -c else c) * 69621 + 11) % 2147483647), .v (.int m)]) := by
  have h2 : ∀ z, cPos z m = true := fun z => cPos_of hm
  have h3 : cPow 10 18 = true := by decide
  have h4 : ixN cs.length i = some i.toNat := ixI hi hn
  have h5 : ∀ z, cMul z 48271 = true := fun z => cMulR (by decide) (by decide)
  have h6 : ∀ z, cMul z 69621 = true := fun z => cMulR (by decide) (by decide)
  have h7 : ∀ z, cMul z 16807 = true := fun z => cMulR (by decide) (by decide)
  have h8 : ∀ z, cPos z 2147483647 = true := fun z => rfl
  have h9 : ∀ z, cDiv z 7 = true := fun z => cDiv_of (by decide) (by decide)
  refine (ap_run rfl).trans ?_
  unfold g__law_next
  simp [tp, hr, startG, gIx, gIxL, fzSq, itm, h2, h3, h4, h5, h6, h7, h8, h9, hn, hc, hb, gSetL, outAt, gLen]
theorem next_out (cs : List Int) (i r s m : Int) (hr : ¬ 0 < r) (hn : ¬ i < cs.length) (hm : 0 < m) (hm2 : m < 2 ^ 200) :
    m__law_next [tp cs i r s, .v (.int m)] = some (.ret (.v (.int (((s * 48271 + 0 * 69621 + 11) % 2147483647 * 16807 % 2147483647 / 7) % m))), [tp cs i r ((s * 48271 + 0 * 69621 + 11) % 2147483647), .v (.int m)]) := by
  have h2 : ∀ z, cPos z m = true := fun z => cPos_of hm
  have h3 : cPow 10 18 = true := by decide
  have h5 : ∀ z, cMul z 48271 = true := fun z => cMulR (by decide) (by decide)
  have h6 : ∀ z, cMul z 69621 = true := fun z => cMulR (by decide) (by decide)
  have h7 : ∀ z, cMul z 16807 = true := fun z => cMulR (by decide) (by decide)
  have h8 : ∀ z, cPos z 2147483647 = true := fun z => rfl
  have h9 : ∀ z, cDiv z 7 = true := fun z => cDiv_of (by decide) (by decide)
  refine (ap_run rfl).trans ?_
  unfold g__law_next
  simp [tp, hr, startG, gIx, gIxL, fzSq, itm, h2, h3, h5, h6, h7, h8, h9, hn, gSetL, outAt, gLen]
theorem next_ok (cs : List Int) (i r s m : Int) (hi : 0 ≤ i) (hm : 0 < m) (hm2 : m < 2 ^ 200) : ∃ i' r' s' v, 0 ≤ i' ∧ 0 ≤ v ∧ v < m ∧ m__law_next [tp cs i r s, .v (.int m)] = some (.ret (.v (.int v)), [tp cs i' r' s', .v (.int m)]) := by
  have hm0 : m ≠ 0 := by omega
  by_cases hr : 0 < r
  · exact ⟨_, _, _, _, hi, Int.emod_nonneg _ hm0, Int.emod_lt_of_pos _ hm, next_pos cs i r s m hr hm hm2⟩
  · by_cases hn : i < cs.length
    · obtain ⟨c, hc⟩ : ∃ c, cs[i.toNat]? = some c := ⟨_, List.getElem?_eq_getElem (by omega)⟩
      by_cases hb : (1000000000000000000 : Int) ≤ (if c < 0 then -c else c)
      · exact ⟨_, _, _, _, by omega, Int.emod_nonneg _ hm0, Int.emod_lt_of_pos _ hm, next_in1 cs i r s m c hr hi hn hc hb hm hm2⟩
      · exact ⟨_, _, _, _, by omega, Int.emod_nonneg _ hm0, Int.emod_lt_of_pos _ hm, next_in2 cs i r s m c hr hi hn hc hb hm hm2⟩
    · exact ⟨_, _, _, _, hi, Int.emod_nonneg _ hm0, Int.emod_lt_of_pos _ hm, next_out cs i r s m hr hn hm hm2⟩
@[scoped simp] theorem tpP {cs : List Int} {i r s : Int} : T.pers (tp cs i r s) = false := rfl
theorem next_run (cs : List Int) (i r s m : Int) (hi : 0 ≤ i) (hm : 0 < m) (hm2 : m < 2 ^ 200) : ∃ i' r' s' v, 0 ≤ i' ∧ 0 ≤ v ∧ v < m ∧ runS m__law_next [tp cs i r s, .v (.int m)] = some (.v (.int v), [tp cs i' r' s', .v (.int m)]) := by
  obtain ⟨i', r', s', v, h1, h2, h3, e⟩ := next_ok cs i r s m hi hm hm2
  exact ⟨i', r', s', v, h1, h2, h3, ap_rs e rfl⟩
/-! ### numbers, values, names -/
theorem kit_ii : kitB "int" "int" = some true := by decide
theorem kit_ib : kitB "int" "bool" = some false := by decide
theorem kit_bi : kitB "bool" "int" = some true := by decide
theorem kit_bb : kitB "bool" "bool" = some true := by decide
theorem kit_ni : kitB "NoneType" "int" = some false := by decide
theorem kit_si : kitB "str" "int" = some false := by decide
theorem kit_ti : kitB "tuple" "int" = some false := by decide
theorem num_int (v : Int) : runS m_is_number [.v (.int v)] = some (.v (.bl true), [.v (.int v)]) := by
  refine ap_rs ((ap_run rfl).trans ?_) rfl
  unfold g_is_number
  simp [startG, gIsi, tyOf?, kit_ii, kit_ib, outAt]
theorem num_not (t : T) (hp : t.pers = true) (h : t = .v (.bl true) ∨ t = .v .non ∨ (∃ s, t = .v (.str s)) ∨ ∃ xs, t = .fz .tup xs) : runS m_is_number [t] = some (.v (.bl false), [t]) := by
  refine ap_rs ((ap_run rfl).trans ?_) rfl
  unfold g_is_number
  rcases h with rfl | rfl | ⟨s, rfl⟩ | ⟨xs, rfl⟩
  · simp [startG, gIsi, tyOf?, kit_bi, kit_bb, outAt]
  · simp [startG, gIsi, tyOf?, kit_ni, outAt]
  · simp [startG, gIsi, tyOf?, kit_si, outAt]
  · simp [startG, gIsi, tyOf?, kit_ti, outAt]
theorem btw_int (v a b : Int) : runS m_is_between [.v (.int v), .v (.int a), .v (.int b)] = some (.v (.bl (decide (a ≤ v) && decide (v ≤ b))), [.v (.int v), .v (.int a), .v (.int b)]) := by
  refine ap_rs ((ap_run rfl).trans ?_) rfl
  unfold g_is_between
  by_cases h : a ≤ v
  · simp [startG, num_int, outAt, h, bl?]
  · simp [startG, num_int, outAt, h, bl?]
theorem btw_not (t : T) (a b : Int) (hp : t.pers = true) (h : t = .v (.bl true) ∨ t = .v .non ∨ (∃ s, t = .v (.str s)) ∨ ∃ xs, t = .fz .tup xs) : runS m_is_between [t, .v (.int a), .v (.int b)] = some (.v (.bl false), [t, .v (.int a), .v (.int b)]) := by
  refine ap_rs ((ap_run rfl).trans ?_) rfl
  unfold g_is_between
  simp [startG, num_not t hp h, outAt, hp]
theorem val_int (v : Int) : runS m_is_value [.v (.int v)] = some (.v (.bl (decide (0 ≤ v) && decide (v ≤ 18446744073709551615))), [.v (.int v)]) := by
  refine ap_rs ((ap_run rfl).trans ?_) rfl
  unfold g_is_value
  simp [startG, btw_int, outAt]
theorem val_not (t : T) (hp : t.pers = true) (h : t = .v (.bl true) ∨ t = .v .non ∨ (∃ s, t = .v (.str s)) ∨ ∃ xs, t = .fz .tup xs) : runS m_is_value [t] = some (.v (.bl false), [t]) := by
  refine ap_rs ((ap_run rfl).trans ?_) rfl
  unfold g_is_value
  simp [startG, btw_not t _ _ hp h, outAt, hp]
theorem name_int (v : Int) : runS m_is_name [.v (.int v)] = some (.v (.bl (decide (1 ≤ v) && decide (v ≤ 18446744073709551615))), [.v (.int v)]) := by
  refine ap_rs ((ap_run rfl).trans ?_) rfl
  unfold g_is_name
  simp [startG, btw_int, outAt]
theorem name_not (t : T) (hp : t.pers = true) (h : t = .v (.bl true) ∨ t = .v .non ∨ (∃ s, t = .v (.str s)) ∨ ∃ xs, t = .fz .tup xs) : runS m_is_name [t] = some (.v (.bl false), [t]) := by
  refine ap_rs ((ap_run rfl).trans ?_) rfl
  unfold g_is_name
  simp [startG, btw_not t _ _ hp h, outAt, hp]

def inL (vs : List Int) : List T := vs.map fun v => .v (.int v)
def stp (m v : Int) : Int := Builtin.bitXor (Builtin.bitXor m v * 1099511628211 % 18446744073709551616) (Builtin.bitXor m v * 1099511628211 % 18446744073709551616 / 536870912)
def fin (m : Int) : Int := Builtin.bitXor (m * 11400714819323198485 % 18446744073709551616) (m * 11400714819323198485 % 18446744073709551616 / 4294967296)
def mixV (vs : List Int) : Int := max 1 (fin (((vs.length : Int) :: vs).foldl stp 1469598103934665603))
theorem mask64 (i : Int) : Builtin.bitAnd i 18446744073709551615 = i % 18446744073709551616 := by
  have := PySem.W.kbt_mask i 64
  simpa using this
theorem lc_isv (b : T → Bool) : ∀ (xs : List T), (∀ t ∈ xs, t.pers = true ∧ runS m_is_value [t] = some (.v (.bl (b t)), [t])) → ∀ (acc : List T) (a o c : Option T),
    ∃ o', lcGo [] [1] (fNm 1) (fun Γ => some (Γ, true)) (fCall [] [] m_is_value [] (fACons [] (fVar 1) fANil)) xs [a, o, c] acc = some ([a, o', c], acc ++ xs.map fun t => .v (.bl (b t)))
  | [], _, acc, a, o, c => ⟨o, by simp [lcGo]⟩
  | x :: xs, h, acc, a, o, c => by
    obtain ⟨hp, hx⟩ := h x List.mem_cons_self
    obtain ⟨o', e⟩ := lc_isv b xs (fun t m => h t (List.mem_cons_of_mem _ m)) (acc ++ [.v (.bl (b x))]) a (some x) c
    refine ⟨o', ?_⟩
    simp [lcGo, wipeG, hp, hx, e]
theorem bls_map (b : T → Bool) : ∀ xs : List T, bls? (xs.map fun t => .v (.bl (b t))) = some (xs.map b)
  | [] => rfl
  | x :: xs => by simp [bls?, bls_map b xs]
theorem gAll_map (b : T → Bool) (xs : List T) : gAll [.ow false .lst (xs.map fun t => .v (.bl (b t)))] = some (.v (.bl (xs.all b))) := by
  simp [gAll, asL, bls_map]
theorem inL_pers (vs : List Int) : (inL vs).all T.pers = true := by
  unfold inL
  rw [List.all_eq_true]
  intro t m
  obtain ⟨v, _, rfl⟩ := List.mem_map.mp m
  rfl
theorem gAddU_l {xs ys : List T} (h : xs.all T.pers = true) (k : ys.all T.pers = true) (l : xs.length + ys.length ≤ 100000) : gAddU (.ow false .lst xs) (.ow false .lst ys) = some (.ow false .lst (xs ++ ys)) := by
  show (match gCat (.ow false .lst xs) (.ow false .lst ys) with | some c => some c | none => _) = _
  unfold gCat
  simp only [plL]
  rw [if_pos (by rw [h, k, decide_eq_true l]; rfl)]
theorem for_mix : ∀ (vs : List Int) (a o : Option T) (m : Int),
    ∃ o', forGo (fNm 1) (gSeq (gSet [] 2 (f2 [] gAnd (f2 [] gMulV (f2 [] gXor (fVar 2) (fVar 1)) (fC (.int 1099511628211))) (fC (.int 18446744073709551615)))) (gSet [] 2 (f2 [] gXor (fVar 2) (f2 [] gShr (fVar 2) (fC (.int 29)))))) (inL vs) [a, o, some (.v (.int m))] = some (.nx [a, o', some (.v (.int (vs.foldl stp m)))])
  | [], a, o, m => ⟨o, rfl⟩
  | v :: vs, a, o, m => by
    obtain ⟨o', e⟩ := for_mix vs a (some (.v (.int v))) (stp m v)
    refine ⟨o', ?_⟩
    have h1 : ∀ z, cMul z 1099511628211 = true := fun z => cMulR (by decide) (by decide)
    have h2 : ∀ z, cNn z 29 = true := fun z => rfl
    unfold stp at e
    simp only [inL] at e
    simp [inL, forGo, h1, h2, mask64, e]
    rfl
theorem isv_int (vs : List Int) (hv : ∀ v ∈ vs, 0 ≤ v ∧ v ≤ 18446744073709551615) : ∀ t ∈ inL vs, t.pers = true ∧ runS m_is_value [t] = some (.v (.bl true), [t]) := fun t m => by
  obtain ⟨v, mv, rfl⟩ := List.mem_map.mp m
  obtain ⟨h1, h2⟩ := hv v mv
  refine ⟨rfl, ?_⟩
  rw [val_int, decide_eq_true h1, decide_eq_true h2]
  rfl
theorem gMax1 (m : Int) : (if m > 1 then m else 1) = max 1 m := by omega
theorem gMax1' (m : Int) : (if 1 > m then 1 else m) = max 1 m := by omega
theorem inL_len (vs : List Int) : (inL vs).length = vs.length := List.length_map _
theorem gLenL (vs : List Int) : gLen [.ow false .lst (inL vs)] = some (.v (.int vs.length)) := by
  show some (T.v (.int (inL vs).length)) = _
  rw [inL_len]
theorem gLenT (vs : List Int) : gLen [.fz .tup (inL vs)] = some (.v (.int vs.length)) := by
  show some (T.v (.int (inL vs).length)) = _
  rw [inL_len]
theorem gListL {xs : List T} (h : xs.all T.pers = true) : gList [.ow false .lst xs] = some (.ow false .lst xs) := by
  show (if xs.all T.pers = true then some (T.ow false .lst xs) else none) = _
  rw [if_pos h]
theorem gListT {xs : List T} : gList [.fz .tup xs] = some (.ow false .lst xs) := rfl
theorem sqTL {xs : List T} : sqT (.ow false .lst xs) = some xs := rfl
theorem sqTT {xs : List T} : sqT (.fz .tup xs) = some xs := rfl
theorem inL_cons (v : Int) (vs : List Int) : T.v (.int v) :: inL vs = inL (v :: vs) := rfl
theorem catL (vs : List Int) (hl : vs.length ≤ 5000) : gAddU (.ow false .lst [.v (.int vs.length)]) (.ow false .lst (inL vs)) = some (.ow false .lst (inL ((vs.length : Int) :: vs))) := by
  rw [gAddU_l rfl (inL_pers vs) (by simp [inL_len]; omega)]
  rfl
theorem mix_ok (vs : List Int) (hv : ∀ v ∈ vs, 0 ≤ v ∧ v ≤ 18446744073709551615) (hl : vs.length ≤ 5000) (t : T) (ht : t = .ow false .lst (inL vs) ∨ t = .fz .tup (inL vs)) : runS m_mix [t] = some (.v (.int (mixV vs)), [t]) := by
  refine ap_rs ((ap_run rfl).trans ?_) rfl
  have h1 : ∀ z, cMul z 11400714819323198485 = true := fun z => cMulR (by decide) (by decide)
  have h2 : ∀ z, cNn z 32 = true := fun z => rfl
  have hp := inL_pers vs
  have hp2 := inL_pers ((vs.length : Int) :: vs)
  have hg := gAll_map (fun _ => true) (inL vs)
  have hall : (inL vs).all (fun _ => true) = true := by simp
  have hl2 : vs.length ≤ 10000 := by omega
  unfold g_mix
  rcases ht with rfl | rfl
  · obtain ⟨o', e⟩ := lc_isv (fun _ => true) (inL vs) (isv_int vs hv) [] (some (.ow false .lst (inL vs))) none none
    obtain ⟨o2, e2⟩ := for_mix ((vs.length : Int) :: vs) (some (.ow false .lst (inL vs))) none 1469598103934665603
    rw [List.nil_append] at e
    simp [startG, e, e2, hg, hp, hp2, hall, hl2, sqTL, persVs, rstG, inL_len, gListL, catL vs hl, h1, h2, mask64, gMax1, outAt, mixV, fin, -List.all_eq_true]
  · obtain ⟨o', e⟩ := lc_isv (fun _ => true) (inL vs) (isv_int vs hv) [] (some (.fz .tup (inL vs))) none none
    obtain ⟨o2, e2⟩ := for_mix ((vs.length : Int) :: vs) (some (.fz .tup (inL vs))) none 1469598103934665603
    rw [List.nil_append] at e
    simp [startG, e, e2, hg, hp, hp2, hall, hl2, sqTT, sqTL, persVs, rstG, inL_len, gListT, catL vs hl, h1, h2, mask64, gMax1, outAt, mixV, fin, -List.all_eq_true]
theorem for_lmix : ∀ (vs : List Int) (a o : Option T) (m : Int),
    ∃ o', forGo (fNm 2) (gSeq (gSet [] 1 (f2 [] gMod (f2 [] gMulV (f2 [] gXor (fVar 1) (fVar 2)) (fC (.int 1099511628211))) (f2 [] gPow (fC (.int 2)) (fC (.int 64))))) (gSet [] 1 (f2 [] gXor (fVar 1) (f2 [] gDiv (fVar 1) (f2 [] gPow (fC (.int 2)) (fC (.int 29))))))) (inL vs) [a, some (.v (.int m)), o] = some (.nx [a, some (.v (.int (vs.foldl stp m))), o'])
  | [], a, o, m => ⟨o, rfl⟩
  | v :: vs, a, o, m => by
    obtain ⟨o', e⟩ := for_lmix vs a (some (.v (.int v))) (stp m v)
    refine ⟨o', ?_⟩
    have h1 : ∀ z, cMul z 1099511628211 = true := fun z => cMulR (by decide) (by decide)
    have h2 : cPow 2 64 = true := by decide
    have h3 : cPow 2 29 = true := by decide
    have h4 : ∀ z, cPos z 18446744073709551616 = true := fun z => rfl
    have h5 : ∀ z, cDiv z 536870912 = true := fun z => cDiv_of (by decide) (by decide)
    unfold stp at e
    simp only [inL] at e
    simp [inL, forGo, h1, h2, h3, h4, h5, e]
    rfl
theorem lmix_ok (vs : List Int) (hl : vs.length ≤ 5000) : runS m__law_mix [.ow false .lst (inL vs)] = some (.v (.int (mixV vs)), [.ow false .lst (inL vs)]) := by
  refine ap_rs ((ap_run rfl).trans ?_) rfl
  have h1 : ∀ z, cMul z 11400714819323198485 = true := fun z => cMulR (by decide) (by decide)
  have h2 : cPow 2 64 = true := by decide
  have h3 : cPow 2 32 = true := by decide
  have h4 : ∀ z, cPos z 18446744073709551616 = true := fun z => rfl
  have h5 : ∀ z, cDiv z 4294967296 = true := fun z => cDiv_of (by decide) (by decide)
  have hp := inL_pers vs
  have hp2 := inL_pers ((vs.length : Int) :: vs)
  unfold g__law_mix
  obtain ⟨o2, e2⟩ := for_lmix ((vs.length : Int) :: vs) (some (.ow false .lst (inL vs))) none 1469598103934665603
  simp [startG, e2, hp, hp2, sqTL, inL_len, gListL, catL vs hl, h1, h2, h3, h4, h5, gMax1', outAt, mixV, fin, -List.all_eq_true]
theorem runS_exc {sem : List T → Option (Rv × List T)} {ts us : List T} (e : sem ts = some (.exc, us)) (h : us.length = ts.length) : runS sem ts = none ∧ runS (exS sem) ts = some (.v .non, us) := by
  constructor
  · unfold runS
    rw [e]
  · refine ap_rs ?_ h
    unfold exS
    rw [e]
theorem mix_exc (b : T → Bool) (xs : List T) (h : ∀ t ∈ xs, t.pers = true ∧ runS m_is_value [t] = some (.v (.bl (b t)), [t])) (hb : xs.all b = false) (hl : xs.length ≤ 5000) : m_mix [.fz .tup xs] = some (.exc, [.fz .tup xs]) := by
  refine (ap_run rfl).trans ?_
  have hp : xs.all T.pers = true := List.all_eq_true.mpr fun t m => (h t m).1
  have hg := gAll_map b xs
  have hl2 : xs.length ≤ 10000 := by omega
  obtain ⟨o', e⟩ := lc_isv b xs h [] (some (.fz .tup xs)) none none
  rw [List.nil_append] at e
  unfold g_mix
  simp [startG, e, hg, hp, hb, hl2, sqTT, persVs, rstG, outAt, gTru, -List.all_eq_true, -List.all_eq_false]
theorem xor_lt {a b : Int} (ha : 0 ≤ a) (hb : 0 ≤ b) (h1 : a < 18446744073709551616) (h2 : b < 18446744073709551616) : Builtin.bitXor a b < 18446744073709551616 := by
  rw [Bits.bitXor_pp ha hb]
  have := Nat.xor_lt_two_pow (n := 64) (x := a.toNat) (y := b.toNat) (by omega) (by omega)
  omega
theorem mixV_in (vs : List Int) : 1 ≤ mixV vs ∧ mixV vs ≤ 18446744073709551615 := by
  unfold mixV fin
  have q : ∀ z : Int, 0 ≤ z % 18446744073709551616 ∧ z % 18446744073709551616 < 18446744073709551616 := fun z => ⟨Int.emod_nonneg _ (by decide), Int.emod_lt_of_pos _ (by decide)⟩
  obtain ⟨q1, q2⟩ := q (List.foldl stp 1469598103934665603 ((vs.length : Int) :: vs) * 11400714819323198485)
  have := xor_lt q1 (b := List.foldl stp 1469598103934665603 ((vs.length : Int) :: vs) * 11400714819323198485 % 18446744073709551616 / 4294967296) (by omega) q2 (by omega)
  omega

theorem lmix_okT (vs : List Int) (hl : vs.length ≤ 5000) : runS m__law_mix [.fz .tup (inL vs)] = some (.v (.int (mixV vs)), [.fz .tup (inL vs)]) := by
  refine ap_rs ((ap_run rfl).trans ?_) rfl
  have h1 : ∀ z, cMul z 11400714819323198485 = true := fun z => cMulR (by decide) (by decide)
  have h2 : cPow 2 64 = true := by decide
  have h3 : cPow 2 32 = true := by decide
  have h4 : ∀ z, cPos z 18446744073709551616 = true := fun z => rfl
  have h5 : ∀ z, cDiv z 4294967296 = true := fun z => cDiv_of (by decide) (by decide)
  have hp := inL_pers vs
  have hp2 := inL_pers ((vs.length : Int) :: vs)
  unfold g__law_mix
  obtain ⟨o2, e2⟩ := for_lmix ((vs.length : Int) :: vs) (some (.fz .tup (inL vs))) none 1469598103934665603
  simp [startG, e2, hp, hp2, sqTL, inL_len, gListT, catL vs hl, h1, h2, h3, h4, h5, gMax1', outAt, mixV, fin, -List.all_eq_true]
end
end Vr

set_option maxRecDepth 100000
/-! Vx34: keys of dicts -/
namespace Vx
open PySem L2
section
variable {κ : Type} [DecidableEq κ]
theorem dIx_not {k : κ} : ∀ {ks : List κ}, k ∉ ks → dIx ks k = none
  | [], _ => rfl
  | a :: ks, h => by
    simp only [List.mem_cons, not_or] at h
    rw [dIx_cons, if_neg (fun z => h.1 z.symm), dIx_not h.2]
    rfl
theorem dIx_mem {k : κ} : ∀ {ks : List κ}, k ∈ ks → ∃ n, dIx ks k = some n ∧ ks[n]? = some k
  | [], h => by simp at h
  | a :: ks, h => by
    rw [dIx_cons]
    by_cases e : a = k
    · exact ⟨0, if_pos e, by simp [e]⟩
    · obtain ⟨n, h1, h2⟩ := dIx_mem (ks := ks) (by rcases List.mem_cons.mp h with z | z; exact absurd z.symm e; exact z)
      exact ⟨n + 1, by rw [if_neg e, h1]; rfl, by simpa using h2⟩
theorem uIx_not {k : κ} {ks : List κ} (h : k ∉ ks) : uIx ks k = some none := by
  unfold uIx
  rw [dIx_not h]
theorem uIx_mem {k : κ} : ∀ {ks : List κ}, ks.Nodup → k ∈ ks → ∃ n, dIx ks k = some n ∧ uIx ks k = some (some n) ∧ ks[n]? = some k
  | [], _, h => by simp at h
  | a :: ks, nd, h => by
    have nd' := List.nodup_cons.mp nd
    by_cases e : a = k
    · subst e
      refine ⟨0, by rw [dIx_cons, if_pos rfl], ?_, rfl⟩
      unfold uIx
      rw [dIx_cons, if_pos rfl]
      show (if (dIx ks a).isNone = true then _ else _) = _
      rw [dIx_not nd'.1]
      rfl
    · have m : k ∈ ks := by rcases List.mem_cons.mp h with z | z; exact absurd z.symm e; exact z
      obtain ⟨n, h1, h2, h3⟩ := uIx_mem nd'.2 m
      refine ⟨n + 1, by rw [dIx_cons, if_neg e, h1]; rfl, ?_, by simpa using h3⟩
      unfold uIx at h2 ⊢
      rw [h1] at h2
      rw [dIx_cons, if_neg e, h1]
      show (if (dIx ((a :: ks).drop (n + 1 + 1)) k).isNone = true then some (some (n + 1)) else none) = _
      rw [List.drop_succ_cons]
      dsimp only at h2
      split at h2
      · rename_i hc
        rw [if_pos hc]
      · cases h2
end
theorem gPutT_new {ks : List (List Key)} {xs : List T} {t kt : T} {k : List Key} (hk : keyT kt = some k) (h : k ∉ ks) (hl : ks.length < 100000) : gPut (.ow false (.dT ks) xs) [t, kt] = some (.ow false (.dT (ks ++ [k])) (xs ++ [t]), .v .non) := by
  unfold gPut
  dsimp only
  rw [hk, Option.bind_some, uIx_not h, Option.bind_some]
  exact if_pos hl
theorem gPutT_old {ks : List (List Key)} {xs : List T} {t kt : T} {k : List Key} (hk : keyT kt = some k) (nd : ks.Nodup) (h : k ∈ ks) (hl : ks.length < 100000) : ∃ n, ks[n]? = some k ∧ gPut (.ow false (.dT ks) xs) [t, kt] = some (.ow false (.dT ks) (xs.set n t), .v .non) := by
  obtain ⟨n, h1, h2, h3⟩ := uIx_mem nd h
  refine ⟨n, h3, ?_⟩
  unfold gPut
  dsimp only
  rw [hk, Option.bind_some, h2, Option.bind_some]
  exact if_pos hl
theorem gPutK_new {ks : List Key} {xs : List T} {t kt : T} {k : Key} (hk : keyOf kt = some k) (h : k ∉ ks) (hl : ks.length < 100000) : gPut (.ow false (.dK ks) xs) [t, kt] = some (.ow false (.dK (ks ++ [k])) (xs ++ [t]), .v .non) := by
  unfold gPut
  dsimp only
  rw [hk, Option.bind_some, uIx_not h, Option.bind_some]
  exact if_pos hl
theorem gPutK_old {ks : List Key} {xs : List T} {t kt : T} {k : Key} (hk : keyOf kt = some k) (nd : ks.Nodup) (h : k ∈ ks) (hl : ks.length < 100000) : ∃ n, ks[n]? = some k ∧ gPut (.ow false (.dK ks) xs) [t, kt] = some (.ow false (.dK ks) (xs.set n t), .v .non) := by
  obtain ⟨n, h1, h2, h3⟩ := uIx_mem nd h
  refine ⟨n, h3, ?_⟩
  unfold gPut
  dsimp only
  rw [hk, Option.bind_some, h2, Option.bind_some]
  exact if_pos hl
/-- k in d -/
theorem inU_dT {neg l : Bool} {ks : List (List Key)} {xs : List T} {k : List Key} {kt : T} (hk : keyT kt = some k) : gInU neg kt (.ow l (.dT ks) xs) = some (.v (.bl (if neg then !(dIx ks k).isSome else (dIx ks k).isSome))) := by
  have h1 : gInT neg kt (.ow l (.dT ks) xs) = none := by
    unfold gInT
    have : fzSq (.ow l (.dT ks) xs) = none := by cases l <;> rfl
    rw [this]
    cases kt <;> rfl
  have h2 : gInD neg kt (.ow l (.dT ks) xs) = none := by
    unfold gInD
    have : toPD (.ow l (.dT ks) xs) = none := by cases l <;> rfl
    rw [this]
    cases toPD kt <;> rfl
  have h3 : gDIn neg kt (.ow l (.dT ks) xs) = some (.v (.bl (if neg then !(dIx ks k).isSome else (dIx ks k).isSome))) := by
    unfold gDIn dLook
    rw [hk]
    cases l <;> rfl
  unfold gInU gEi
  rw [h1]
  dsimp only
  rw [h2]
  dsimp only
  rw [h3]
theorem inU_dK {neg l : Bool} {ks : List Key} {xs : List T} {k : Key} {kt : T} (hk : keyOf kt = some k) : gInU neg kt (.ow l (.dK ks) xs) = some (.v (.bl (if neg then !(dIx ks k).isSome else (dIx ks k).isSome))) := by
  have h1 : gInT neg kt (.ow l (.dK ks) xs) = none := by
    unfold gInT
    have : fzSq (.ow l (.dK ks) xs) = none := by cases l <;> rfl
    rw [this]
    cases kt <;> rfl
  have h2 : gInD neg kt (.ow l (.dK ks) xs) = none := by
    unfold gInD
    have : toPD (.ow l (.dK ks) xs) = none := by cases l <;> rfl
    rw [this]
    cases toPD kt <;> rfl
  have h3 : gDIn neg kt (.ow l (.dK ks) xs) = some (.v (.bl (if neg then !(dIx ks k).isSome else (dIx ks k).isSome))) := by
    unfold gDIn dLook
    rw [hk]
    cases l <;> rfl
  unfold gInU gEi
  rw [h1]
  dsimp only
  rw [h2]
  dsimp only
  rw [h3]
end Vx

set_option maxRecDepth 100000
set_option maxHeartbeats 0
namespace K33
open PySem L2 Vx PyProof.Rows
/-- what the top has written -/
structure Txt (K : PySem.W.Frag) (mg : Str → Option Value) (X_NotValid : Addr) (t_DEPTH t_LAST t_MOST_AGE t_MOST_AMOUNT t_MOST_conditions t_MOST_spendings t_START t_STEP t_TOP : Tok) : Prop where
  m_abs : mg "abs" = none
  m_all : mg "all" = none
  m_bool : mg "bool" = none
  m_dict : mg "dict" = none
  m_int : mg "int" = none
  m_isinstance : mg "isinstance" = none
  m_len : mg "len" = none
  m_list : mg "list" = none
  m_max : mg "max" = none
  m_range : mg "range" = none
  m_sorted : mg "sorted" = none
  m_str : mg "str" = none
  m_sum : mg "sum" = none
  m_tuple : mg "tuple" = none
  m_DEPTH : mg "DEPTH" = some (.int 3 t_DEPTH)
  m_LAST : mg "LAST" = some (.int 11400714819323198485 t_LAST)
  m_MOST_AGE : mg "MOST_AGE" = some (.int 1000 t_MOST_AGE)
  m_MOST_AMOUNT : mg "MOST_AMOUNT" = some (.int 1099511627776 t_MOST_AMOUNT)
  m_MOST_conditions : mg "MOST_conditions" = some (.int 4 t_MOST_conditions)
  m_MOST_spendings : mg "MOST_spendings" = some (.int 4 t_MOST_spendings)
  m_START : mg "START" = some (.int 1469598103934665603 t_START)
  m_STEP : mg "STEP" = some (.int 1099511628211 t_STEP)
  m_TOP : mg "TOP" = some (.int 18446744073709551615 t_TOP)
  x_NotValid : XcC K mg "NotValid" X_NotValid "ValueError" "ValueError.__new__" "ValueError.__init__" [.type "ValueError", .type "Exception", .type "BaseException", .type "object"]
def s__law_next : Stmt := PySem.Challenge.pw_parentweave_k33_what_a_spending_may_take.main.body.getD 42 (.Pass ⟨0, 0, 0, 0⟩)
def N__law_next : List Str := ["_law_tape", "_law_many", "_law_rest", "_law_cell"]
theorem sc__law_next : FnScope N__law_next ["_law_tape", "_law_many"] (defScope s__law_next) := ⟨rfl, rfl, rfl, by decide +kernel, rfl, by decide +kernel, by decide +kernel⟩
def g__law_next : Ge → Option Out := gSeq (gSet [] 2 (fIx [] gIxU (fVar 0) (fC (.int 2)))) (gSeq (gIf (fT (f2 [] gGt (fVar 2) (fC (.int 0)))) (gSeq (gSt [0] [] [] [] gSetU (f2 [] gDiv (fVar 2) (fVar 1)) (fVar 0) (fC (.int 2))) (gRet [] (f2 [] gMod (fN gInt (fACons [] (fVar 2) fANil)) (fVar 1)))) (gNx)) (gSeq (gSet [] 3 (fC (.int 0))) (gSeq (gIf (fT (f2 [] gLt (fIx [] gIxU (fVar 0) (fC (.int 1))) (fN gLenU (fACons [] (fIx [] gIxU (fVar 0) (fC (.int 0))) fANil)))) (gSeq (gSet [] 3 (fN gAbs (fACons [] (fIx [] gIxU (fIx [] gIxU (fVar 0) (fC (.int 0))) (fIx [] gIxU (fVar 0) (fC (.int 1)))) fANil))) (gAugS [0] [] [] gIxL gAdd gSetL (fVar 0) (fC (.int 1)) (fC (.int 1)))) (gNx)) (gSeq (gIf (fT (f2 [] gGe (fVar 3) (f2 [] gPow (fC (.int 10)) (fC (.int 18))))) (gSeq (gSt [0] [] [] [] gSetU (f2 [] gDiv (fVar 3) (fVar 1)) (fVar 0) (fC (.int 2))) (gRet [] (f2 [] gMod (fN gInt (fACons [] (fVar 3) fANil)) (fVar 1)))) (gNx)) (gSeq (gSt [0] [] [] [] gSetU (f2 [] gMod (fN gInt (fACons [] (f2 [] gAddU (f2 [] gAddU (f2 [] gMulV (fIx [] gIxU (fVar 0) (fC (.int 3))) (fC (.int 48271))) (f2 [] gMulV (fVar 3) (fC (.int 69621)))) (fC (.int 11))) fANil)) (fC (.int 2147483647))) (fVar 0) (fC (.int 3))) (gRet [] (f2 [] gMod (fN gInt (fACons [] (f2 [] gDiv (f2 [] gMod (f2 [] gMulV (fIx [] gIxU (fVar 0) (fC (.int 3))) (fC (.int 16807))) (fC (.int 2147483647))) (fC (.int 7))) fANil)) (fVar 1))))))))
def m__law_next : List T → Option (Rv × List T) := runB 2 4 [2, 3] g__law_next
theorem b__law_next {P : Program} {w : World} {K : PySem.W.Frag} {cl : Nat → Addr} {mg : Str → Option Value} {base : Heap} {X_NotValid : Addr} {t_DEPTH t_LAST t_MOST_AGE t_MOST_AMOUNT t_MOST_conditions t_MOST_spendings t_START t_STEP t_TOP : Tok} (T : Txt K mg X_NotValid t_DEPTH t_LAST t_MOST_AGE t_MOST_AMOUNT t_MOST_conditions t_MOST_spendings t_START t_STEP t_TOP)  : ∀ W, CB ⟨P, w, K, cl, mg, base, N__law_next, defScope s__law_next, 0⟩ W .none [2, 3] [0, 2, 3] (defBody s__law_next) g__law_next := fun W =>
  b_more [2, 3] [0, 2, 3] (b_cons (s_set 2 [] (x_ixU (x_var 0) (x_int))) (b_cons (s_if (y_gt (x_var 2) (x_int)) (b_cons (s_stU [0] [] (x_div (x_var 2) (x_var 1)) (x_var 0) (x_int)) (b_one (s_ret [] (x_mod (x_toint T.m_int (x_var 2)) (x_var 1))))) (b_nil)) (b_cons (s_set 3 [] (x_int)) (b_cons (s_if (y_lt (x_ixU (x_var 0) (x_int)) (x_lenU T.m_len (x_ixU (x_var 0) (x_int)))) (b_cons (s_set 3 [] (x_abs T.m_abs (x_ixU (x_ixU (x_var 0) (x_int)) (x_ixU (x_var 0) (x_int))))) (b_one (s_agLA [0] (x_var 0) (x_int) (x_int)))) (b_nil)) (b_cons (s_if (y_ge (x_var 3) (x_pow (x_int) (x_int))) (b_cons (s_stU [0] [] (x_div (x_var 3) (x_var 1)) (x_var 0) (x_int)) (b_one (s_ret [] (x_mod (x_toint T.m_int (x_var 3)) (x_var 1))))) (b_nil)) (b_cons (s_stU [0] [] (x_mod (x_toint T.m_int (x_addU (x_addU (x_mulV (x_ixU (x_var 0) (x_int)) (x_int)) (x_mulV (x_var 3) (x_int))) (x_int))) (x_int)) (x_var 0) (x_int)) (b_one (s_ret [] (x_mod (x_toint T.m_int (x_div (x_mod (x_mulV (x_ixU (x_var 0) (x_int)) (x_int)) (x_int)) (x_int))) (x_var 1))))))))))
def s__law_mix : Stmt := PySem.Challenge.pw_parentweave_k33_what_a_spending_may_take.main.body.getD 43 (.Pass ⟨0, 0, 0, 0⟩)
def N__law_mix : List Str := ["_law_values_here", "_law_mixed", "_law_value"]
theorem sc__law_mix : FnScope N__law_mix ["_law_values_here"] (defScope s__law_mix) := ⟨rfl, rfl, rfl, by decide +kernel, rfl, by decide +kernel, by decide +kernel⟩
def g__law_mix : Ge → Option Out := gSeq (gSet [] 1 (fC (.int 1469598103934665603))) (gSeq (gFor [2, 1] (fSrc (f2 [] gAddU (fLst (fACons [] (fN gLenU (fACons [] (fVar 0) fANil)) (fANil))) (fN gList (fACons [] (fVar 0) fANil)))) (fNm 2) (gSeq (gSet [] 1 (f2 [] gMod (f2 [] gMulV (f2 [] gXor (fVar 1) (fVar 2)) (fC (.int 1099511628211))) (f2 [] gPow (fC (.int 2)) (fC (.int 64))))) (gSet [] 1 (f2 [] gXor (fVar 1) (f2 [] gDiv (fVar 1) (f2 [] gPow (fC (.int 2)) (fC (.int 29)))))))) (gSeq (gSet [] 1 (f2 [] gMod (f2 [] gMulV (fVar 1) (fC (.int 11400714819323198485))) (f2 [] gPow (fC (.int 2)) (fC (.int 64))))) (gSeq (gSet [] 1 (f2 [] gXor (fVar 1) (f2 [] gDiv (fVar 1) (f2 [] gPow (fC (.int 2)) (fC (.int 32)))))) (gRet [] (fN gMax2 (fACons [] (fVar 1) (fACons [] (fC (.int 1)) fANil)))))))
def m__law_mix : List T → Option (Rv × List T) := runB 1 3 [1, 2] g__law_mix
theorem b__law_mix {P : Program} {w : World} {K : PySem.W.Frag} {cl : Nat → Addr} {mg : Str → Option Value} {base : Heap} {X_NotValid : Addr} {t_DEPTH t_LAST t_MOST_AGE t_MOST_AMOUNT t_MOST_conditions t_MOST_spendings t_START t_STEP t_TOP : Tok} (T : Txt K mg X_NotValid t_DEPTH t_LAST t_MOST_AGE t_MOST_AMOUNT t_MOST_conditions t_MOST_spendings t_START t_STEP t_TOP)  : ∀ W, CB ⟨P, w, K, cl, mg, base, N__law_mix, defScope s__law_mix, 0⟩ W .none [1, 2] [1, 2] (defBody s__law_mix) g__law_mix := fun W =>
  b_more [1, 2] [1, 2] (b_cons (s_set 1 [] (x_int)) (b_cons (s_forS (i_sq (x_addU (x_lst (x_cons (x_lenU T.m_len (x_var 0)) (x_nil))) (x_list T.m_list (x_var 0)))) (gs_name 2) (b_more [1] [1] (b_cons (s_set 1 [] (x_mod (x_mulV (x_bxor (x_var 1) (x_var 2)) (x_int)) (x_pow (x_int) (x_int)))) (b_one (s_set 1 [] (x_bxor (x_var 1) (x_div (x_var 1) (x_pow (x_int) (x_int))))))))) (b_cons (s_set 1 [] (x_mod (x_mulV (x_var 1) (x_int)) (x_pow (x_int) (x_int)))) (b_cons (s_set 1 [] (x_bxor (x_var 1) (x_div (x_var 1) (x_pow (x_int) (x_int))))) (b_one (s_ret [] (x_max2 T.m_max (x_var 1) (x_int))))))))
def s__law_condition : Stmt := PySem.Challenge.pw_parentweave_k33_what_a_spending_may_take.main.body.getD 44 (.Pass ⟨0, 0, 0, 0⟩)
def N__law_condition : List Str := ["_law_tape", "_law_depth", "_law_kind", "_law_inner", "_law_k"]
theorem sc__law_condition : FnScope N__law_condition ["_law_tape", "_law_depth"] (defScope s__law_condition) := ⟨rfl, rfl, rfl, by decide +kernel, rfl, by decide +kernel, by decide +kernel⟩
def g__law_condition (m__law_condition : List T → Option (Rv × List T)) : Ge → Option Out := gSeq (gSet [] 2 (fCall [0] [0] m__law_next [] (fACons [] (fVar 0) (fACons [] (fC (.int 6)) (fANil))))) (gSeq (gIf (fOr (fT (f2 [] gLt (fVar 2) (fC (.int 2)))) (fAnd (fT (f2 [] gEq (fVar 1) (fC (.int 0)))) (fT (f2 [] gGt (fVar 2) (fC (.int 3)))))) (gRet [] (fTup [] (fACons [0] (fC (.str "key")) (fACons [] (f2 [0] gAddU (fC (.int 1)) (fCall [0] [0] m__law_next [] (fACons [] (fVar 0) (fACons [] (fC (.int 5)) (fANil))))) (fANil))))) (gNx)) (gSeq (gIf (fT (f2 [] gEq (fVar 2) (fC (.int 2)))) (gRet [] (fTup [] (fACons [0] (fC (.str "lock")) (fACons [] (fCall [] [] m__law_mix [] (fACons [] (fTup [] (fACons [0] (fC (.int 4)) (fACons [] (fCall [0] [0] m__law_next [] (fACons [] (fVar 0) (fACons [] (fC (.int 4)) (fANil)))) (fANil)))) (fANil))) (fANil))))) (gNx)) (gSeq (gIf (fT (f2 [] gEq (fVar 2) (fC (.int 3)))) (gRet [] (fTup [] (fACons [0] (fC (.str "age")) (fACons [] (fCall [0] [0] m__law_next [] (fACons [] (fVar 0) (fACons [] (fC (.int 12)) (fANil)))) (fANil))))) (gNx)) (gSeq (gSet [] 3 (fN gTuple (fACons [] (fLc [] [4, 0] [4] (fR1 (fACons [] (f2 [0, 0] gAddU (fC (.int 1)) (fCall [0] [0] m__law_next [] (fAConsV 0 (fACons [] (fIx [0] gIxU (fLst (fACons [] (fC (.int 2)) (fACons [] (fC (.int 4)) (fANil)))) (fCall [0] [0] m__law_next [] (fACons [] (fVar 0) (fACons [] (fC (.int 2)) (fANil))))) (fANil))))) fANil)) (fNm 4) ((fun Γ => some (Γ, true))) (fCall [0] [0] m__law_condition [] (fACons [] (fVar 0) (fACons [] (f2 [] Vx.gSub (fVar 1) (fC (.int 1))) (fANil))))) fANil))) (gRet [] (fTup [3] (fACons [] (fIx [] gIxU (fLst (fACons [] (fC (.str "all")) (fACons [] (fC (.str "any")) (fANil)))) (f2 [] Vx.gSub (fVar 2) (fC (.int 4)))) (fACons [] (fVar 3) (fANil)))))))))
def r__law_condition : Nat → List T → Option (Rv × List T)
  | 0, _ => none
  | n + 1, ts => runB 2 5 [2, 3] (g__law_condition (r__law_condition n)) ts
def m__law_condition : List T → Option (Rv × List T) := r__law_condition 8
theorem b__law_condition {P : Program} {w : World} {K : PySem.W.Frag} {cl : Nat → Addr} {mg : Str → Option Value} {base : Heap} {X_NotValid : Addr} {t_DEPTH t_LAST t_MOST_AGE t_MOST_AMOUNT t_MOST_conditions t_MOST_spendings t_START t_STEP t_TOP : Tok} (T : Txt K mg X_NotValid t_DEPTH t_LAST t_MOST_AGE t_MOST_AMOUNT t_MOST_conditions t_MOST_spendings t_START t_STEP t_TOP) (c__law_next : Cal P w K cl mg base 1 "_law_next" .none [0] m__law_next []) (c__law_mix : Cal P w K cl mg base 1 "_law_mix" .none [] m__law_mix []) (k : Nat) (hk : Nat.ble 1 k = true) {m__law_condition : List Vx.T → Option (Rv × List Vx.T)} (c__law_condition : Cal P w K cl mg base k "_law_condition" .none [0] m__law_condition []) : ∀ W, CB ⟨P, w, K, cl, mg, base, N__law_condition, defScope s__law_condition, k⟩ W .none [2, 3] [0, 2, 3, 4] (defBody s__law_condition) (g__law_condition m__law_condition) := fun W =>
  b_more [2, 3] [0, 2, 3, 4] (b_cons (s_set 2 [] (x_call (hk := blT (by rfl) hk) [0] c__law_next (x_cons (x_var 0) (x_cons (x_int) (x_nil))))) (b_cons (s_if (y_w (w_or (y_lt (x_var 2) (x_int)) (w_or1 (y_w (w_and (y_eq (x_var 1) (x_int)) (w_and1 (y_gt (x_var 2) (x_int)))))))) (b_one (s_ret [] (x_tup [] (x_cons (x_str) (x_cons (x_addU (x_int) (x_call (hk := blT (by rfl) hk) [0] c__law_next (x_cons (x_var 0) (x_cons (x_int) (x_nil))))) (x_nil)))))) (b_nil)) (b_cons (s_if (y_eq (x_var 2) (x_int)) (b_one (s_ret [] (x_tup [] (x_cons (x_str) (x_cons (x_call (hk := blT (by rfl) hk) [] c__law_mix (x_cons (x_tup [] (x_cons (x_int) (x_cons (x_call (hk := blT (by rfl) hk) [0] c__law_next (x_cons (x_var 0) (x_cons (x_int) (x_nil)))) (x_nil)))) (x_nil))) (x_nil)))))) (b_nil)) (b_cons (s_if (y_eq (x_var 2) (x_int)) (b_one (s_ret [] (x_tup [] (x_cons (x_str) (x_cons (x_call (hk := blT (by rfl) hk) [0] c__law_next (x_cons (x_var 0) (x_cons (x_int) (x_nil)))) (x_nil)))))) (b_nil)) (b_cons (s_set 3 [] (x_tuple T.m_tuple (x_lc [("_law_k", 4)] [] (i_r1 T.m_range (x_addU (x_int) (x_call (hk := blT (by rfl) hk) [0] c__law_next (x_consV 0 (x_cons (x_ixU (x_lst (x_cons (x_int) (x_cons (x_int) (x_nil)))) (x_call (hk := blT (by rfl) hk) [0] c__law_next (x_cons (x_var 0) (x_cons (x_int) (x_nil))))) (x_nil)))))) (by exact g_name 4) (by exact y_nil) (by exact x_call (hk := blR k) [0] c__law_condition (x_cons (x_var 0) (x_cons (x_sub (x_var 1) (x_int)) (x_nil))))))) (b_one (s_ret [] (x_tup [3] (x_cons (x_ixU (x_lst (x_cons (x_str) (x_cons (x_str) (x_nil)))) (x_sub (x_var 2) (x_int))) (x_cons (x_var 3) (x_nil)))))))))))
def s__law_coins : Stmt := PySem.Challenge.pw_parentweave_k33_what_a_spending_may_take.main.body.getD 52 (.Pass ⟨0, 0, 0, 0⟩)
def N__law_coins : List Str := ["_law_tape", "_law_coins_here", "_law_k"]
theorem sc__law_coins : FnScope N__law_coins ["_law_tape"] (defScope s__law_coins) := ⟨rfl, rfl, rfl, by decide +kernel, rfl, by decide +kernel, by decide +kernel⟩
def g__law_coins : Ge → Option Out := gSeq (gSet [] 1 (fun Γ => some (Γ, .val (.ow false (.dT []) [])))) (gSeq (gFor [2, 0, 1] (fR1 (fACons [] (f2 [0] gAddU (fC (.int 1)) (fCall [0] [0] m__law_next [] (fACons [] (fVar 0) (fACons [] (fC (.int 6)) (fANil))))) fANil)) (fNm 2) (gSt [1] [] [] [0, 0] gSetU (fTup [] (fACons [0, 0] (f2 [0] gAddU (fC (.int 1)) (fCall [0] [0] m__law_next [] (fACons [] (fVar 0) (fACons [] (fC (.int 60)) (fANil))))) (fACons [0] (fCall [0] [0] m__law_condition [] (fACons [] (fVar 0) (fACons [] (fC (.int 1)) (fANil)))) (fACons [] (fCall [0] [0] m__law_next [] (fACons [] (fVar 0) (fACons [] (fC (.int 9)) (fANil)))) (fANil))))) (fVar 1) (fTup [] (fACons [0] (f2 [0] gAddU (fC (.int 1)) (fCall [0] [0] m__law_next [] (fACons [] (fVar 0) (fACons [] (fC (.int 6)) (fANil))))) (fACons [] (fCall [0] [0] m__law_next [] (fACons [] (fVar 0) (fACons [] (fC (.int 4)) (fANil)))) (fANil)))))) (gRet [1] (fVar 1)))
def m__law_coins : List T → Option (Rv × List T) := runB 1 3 [1, 2] g__law_coins
theorem b__law_coins {P : Program} {w : World} {K : PySem.W.Frag} {cl : Nat → Addr} {mg : Str → Option Value} {base : Heap} {X_NotValid : Addr} {t_DEPTH t_LAST t_MOST_AGE t_MOST_AMOUNT t_MOST_conditions t_MOST_spendings t_START t_STEP t_TOP : Tok} (T : Txt K mg X_NotValid t_DEPTH t_LAST t_MOST_AGE t_MOST_AMOUNT t_MOST_conditions t_MOST_spendings t_START t_STEP t_TOP) (c__law_next : Cal P w K cl mg base 1 "_law_next" .none [0] m__law_next []) (c__law_condition : Cal P w K cl mg base 9 "_law_condition" .none [0] m__law_condition []) : ∀ W, CB ⟨P, w, K, cl, mg, base, N__law_coins, defScope s__law_coins, 9⟩ W .none [1, 2] [0, 1, 2] (defBody s__law_coins) g__law_coins := fun W =>
  b_more [1, 2] [0, 1, 2] (b_cons (s_set 1 [] (x_newT)) (b_cons (s_forS (i_r1 T.m_range (x_addU (x_int) (x_call [0] c__law_next (x_cons (x_var 0) (x_cons (x_int) (x_nil)))))) (gs_name 2) (b_more [] [0, 1] (b_one (s_stU [1] [] (x_tup [] (x_cons (x_addU (x_int) (x_call [0] c__law_next (x_cons (x_var 0) (x_cons (x_int) (x_nil))))) (x_cons (x_call [0] c__law_condition (x_cons (x_var 0) (x_cons (x_int) (x_nil)))) (x_cons (x_call [0] c__law_next (x_cons (x_var 0) (x_cons (x_int) (x_nil)))) (x_nil))))) (x_var 1) (x_tup [] (x_cons (x_addU (x_int) (x_call [0] c__law_next (x_cons (x_var 0) (x_cons (x_int) (x_nil))))) (x_cons (x_call [0] c__law_next (x_cons (x_var 0) (x_cons (x_int) (x_nil)))) (x_nil)))))))) (b_one (s_ret [1] (x_var 1)))))
def s__law_flat : Stmt := PySem.Challenge.pw_parentweave_k33_what_a_spending_may_take.main.body.getD 47 (.Pass ⟨0, 0, 0, 0⟩)
def N__law_flat : List Str := ["_law_condition_here", "_law_word", "_law_part", "_law_values_here", "_law_one"]
theorem sc__law_flat : FnScope N__law_flat ["_law_condition_here"] (defScope s__law_flat) := ⟨rfl, rfl, rfl, by decide +kernel, rfl, by decide +kernel, by decide +kernel⟩
def g__law_flat (m__law_flat : List T → Option (Rv × List T)) : Ge → Option Out := gSeq (gAsT (fTgT 2 (fTCons (fNm 1) (fTCons (fNm 2) (fTNil)))) (fVar 0)) (gSeq (gIf (fT (f2 [] (gInU false) (fVar 1) (fTup [] (fACons [] (fC (.str "key")) (fACons [] (fC (.str "lock")) (fACons [] (fC (.str "age")) (fANil))))))) (gRet [] (fLst (fACons [] (fIx [] gIxU (fun Γ => some (Γ, .val (.ow false (.dK [.inr "key", .inr "lock", .inr "age"]) (([.int 1, .int 2, .int 3] : List V).map Vx.T.v)))) (fVar 1)) (fACons [] (fVar 2) (fANil))))) (gNx)) (gSeq (gSet [] 3 (fLst (fACons [] (fIx [] gIxU (fun Γ => some (Γ, .val (.ow false (.dK [.inr "all", .inr "any"]) (([.int 4, .int 5] : List V).map Vx.T.v)))) (fVar 1)) (fACons [] (fN gLenU (fACons [] (fVar 2) fANil)) (fANil))))) (gSeq (gFor [4, 3] (fSrc (fVar 2)) (fNm 4) (gSet [] 3 (f2 [] gAddU (fVar 3) (fCall [] [] m__law_flat [] (fACons [] (fVar 4) (fANil)))))) (gRet [3] (fVar 3)))))
def r__law_flat : Nat → List T → Option (Rv × List T)
  | 0, _ => none
  | n + 1, ts => runB 1 5 [1, 2, 3, 4] (g__law_flat (r__law_flat n)) ts
def m__law_flat : List T → Option (Rv × List T) := r__law_flat 8
theorem b__law_flat {P : Program} {w : World} {K : PySem.W.Frag} {cl : Nat → Addr} {mg : Str → Option Value} {base : Heap} {X_NotValid : Addr} {t_DEPTH t_LAST t_MOST_AGE t_MOST_AMOUNT t_MOST_conditions t_MOST_spendings t_START t_STEP t_TOP : Tok} (T : Txt K mg X_NotValid t_DEPTH t_LAST t_MOST_AGE t_MOST_AMOUNT t_MOST_conditions t_MOST_spendings t_START t_STEP t_TOP)  (k : Nat) (hk : Nat.ble 0 k = true) {m__law_flat : List Vx.T → Option (Rv × List Vx.T)} (c__law_flat : Cal P w K cl mg base k "_law_flat" .none [] m__law_flat []) : ∀ W, CB ⟨P, w, K, cl, mg, base, N__law_flat, defScope s__law_flat, k⟩ W .none [1, 2, 3, 4] [1, 2, 3, 4] (defBody s__law_flat) (g__law_flat m__law_flat) := fun W =>
  b_more [1, 2, 3, 4] [1, 2, 3, 4] (b_cons (s_asTS (x_var 0) (gs_tup 2 (gs_cons (gs_name 1) (gs_cons (gs_name 2) (gs_nil))))) (b_cons (s_if (y_inU (x_var 1) (x_tup [] (x_cons (x_str) (x_cons (x_str) (x_cons (x_str) (x_nil)))))) (b_one (s_ret [] (x_lst (x_cons (x_ixU (x_disp [.inr "key", .inr "lock", .inr "age"] [.int 1, .int 2, .int 3] (fun _ => pps_cons pe_str pe_int (pps_cons pe_str pe_int (pps_cons pe_str pe_int (pps_nil))))) (x_var 1)) (x_cons (x_var 2) (x_nil)))))) (b_nil)) (b_cons (s_set 3 [] (x_lst (x_cons (x_ixU (x_disp [.inr "all", .inr "any"] [.int 4, .int 5] (fun _ => pps_cons pe_str pe_int (pps_cons pe_str pe_int (pps_nil)))) (x_var 1)) (x_cons (x_lenU T.m_len (x_var 2)) (x_nil))))) (b_cons (s_forS (i_sq (x_var 2)) (gs_name 4) (b_one (s_set 3 [] (x_addU (x_var 3) (x_call (hk := blR k) [] c__law_flat (x_cons (x_var 4) (x_nil))))))) (b_one (s_ret [3] (x_var 3)))))))
def s__law_values : Stmt := PySem.Challenge.pw_parentweave_k33_what_a_spending_may_take.main.body.getD 50 (.Pass ⟨0, 0, 0, 0⟩)
def N__law_values : List Str := ["_law_inputs", "_law_outputs", "_law_values_here", "_law_name", "_law_index", "_law_amount", "_law_condition_here"]
theorem sc__law_values : FnScope N__law_values ["_law_inputs", "_law_outputs"] (defScope s__law_values) := ⟨rfl, rfl, rfl, by decide +kernel, rfl, by decide +kernel, by decide +kernel⟩
def g__law_values : Ge → Option Out := gSeq (gSet [] 2 (fLst (fACons [] (fC (.int 1)) (fACons [] (fN gLenU (fACons [] (fVar 0) fANil)) (fANil))))) (gSeq (gFor [3, 4, 2] (fSrc (fVar 0)) (fTgT 2 (fTCons (fNm 3) (fTCons (fNm 4) (fTNil)))) (gSet [] 2 (f2 [] gAddU (fVar 2) (fLst (fACons [] (fVar 3) (fACons [] (fVar 4) (fANil))))))) (gSeq (gDrop (fMt [2] [] [] isLst gApp (fVar 2) (fACons [] (fN gLenU (fACons [] (fVar 1) fANil)) fANil))) (gSeq (gFor [5, 6, 2] (fSrc (fVar 1)) (fTgT 2 (fTCons (fNm 5) (fTCons (fNm 6) (fTNil)))) (gSet [] 2 (f2 [] gAddU (f2 [] gAddU (fVar 2) (fLst (fACons [] (fVar 5) (fANil)))) (fCall [] [] m__law_flat [] (fACons [] (fVar 6) (fANil)))))) (gRet [2] (fVar 2)))))
def m__law_values : List T → Option (Rv × List T) := runB 2 7 [2, 3, 4, 5, 6] g__law_values
theorem b__law_values {P : Program} {w : World} {K : PySem.W.Frag} {cl : Nat → Addr} {mg : Str → Option Value} {base : Heap} {X_NotValid : Addr} {t_DEPTH t_LAST t_MOST_AGE t_MOST_AMOUNT t_MOST_conditions t_MOST_spendings t_START t_STEP t_TOP : Tok} (T : Txt K mg X_NotValid t_DEPTH t_LAST t_MOST_AGE t_MOST_AMOUNT t_MOST_conditions t_MOST_spendings t_START t_STEP t_TOP) (c__law_flat : Cal P w K cl mg base 8 "_law_flat" .none [] m__law_flat []) : ∀ W, CB ⟨P, w, K, cl, mg, base, N__law_values, defScope s__law_values, 8⟩ W .none [2, 3, 4, 5, 6] [2, 3, 4, 5, 6] (defBody s__law_values) g__law_values := fun W =>
  b_more [2, 3, 4, 5, 6] [2, 3, 4, 5, 6] (b_cons (s_set 2 [] (x_lst (x_cons (x_int) (x_cons (x_lenU T.m_len (x_var 0)) (x_nil))))) (b_cons (s_forS (i_sq (x_var 0)) (gs_tup 2 (gs_cons (gs_name 3) (gs_cons (gs_name 4) (gs_nil)))) (b_one (s_set 2 [] (x_addU (x_var 2) (x_lst (x_cons (x_var 3) (x_cons (x_var 4) (x_nil)))))))) (b_cons (s_drop (x_append [2] [] (x_var 2) (x_lenU T.m_len (x_var 1)))) (b_cons (s_forS (i_sq (x_var 1)) (gs_tup 2 (gs_cons (gs_name 5) (gs_cons (gs_name 6) (gs_nil)))) (b_one (s_set 2 [] (x_addU (x_addU (x_var 2) (x_lst (x_cons (x_var 5) (x_nil)))) (x_call [] c__law_flat (x_cons (x_var 6) (x_nil))))))) (b_one (s_ret [2] (x_var 2)))))))
def s__law_witness : Stmt := PySem.Challenge.pw_parentweave_k33_what_a_spending_may_take.main.body.getD 45 (.Pass ⟨0, 0, 0, 0⟩)
def N__law_witness : List Str := ["_law_tape", "_law_condition_here", "_law_name", "_law_age", "_law_good", "_law_word", "_law_part", "_law_index", "_law_v", "_law_one"]
theorem sc__law_witness : FnScope N__law_witness ["_law_tape", "_law_condition_here", "_law_name", "_law_age", "_law_good"] (defScope s__law_witness) := ⟨rfl, rfl, rfl, by decide +kernel, rfl, by decide +kernel, by decide +kernel⟩
def g__law_witness (m__law_witness : List T → Option (Rv × List T)) : Ge → Option Out := gSeq (gAsT (fTgT 2 (fTCons (fNm 5) (fTCons (fNm 6) (fTNil)))) (fVar 1)) (gSeq (gIf (fAnd (fNot (fTr (fVar 4))) (fT (f2 [] gEq (fCall [0] [0] m__law_next [] (fACons [] (fVar 0) (fACons [] (fC (.int 3)) (fANil)))) (fC (.int 0))))) (gRet [] (fIx [0] gIxU (fLst (fACons [] (fTup [] (fACons [] (fC (.str "wait")) (fANil))) (fACons [] (fTup [] (fACons [] (fC (.str "value")) (fACons [] (fC (.int 9)) (fANil)))) (fACons [] (fTup [] (fACons [] (fC (.str "token")) (fACons [] (fC (.int 7)) (fANil)))) (fACons [] (fTup [] (fACons [] (fC (.str "all")) (fACons [] (fTup [] (fACons [] (fTup [] (fACons [] (fC (.str "wait")) (fANil))) (fANil))) (fANil)))) (fACons [] (fTup [] (fACons [] (fC (.str "any")) (fACons [] (fC (.int 3)) (fACons [] (fTup [] (fACons [] (fC (.str "wait")) (fANil))) (fANil))))) (fANil))))))) (fCall [0] [0] m__law_next [] (fACons [] (fVar 0) (fACons [] (fC (.int 5)) (fANil)))))) (gNx)) (gSeq (gIf (fT (f2 [] gEq (fVar 5) (fC (.str "key")))) (gRet [] (fTup [] (fACons [2, 6] (fC (.str "token")) (fACons [] (fCall [] [] m__law_mix [] (fACons [] (fTup [2, 6] (fACons [] (fC (.int 3)) (fACons [] (fVar 6) (fACons [] (fVar 2) (fANil))))) (fANil))) (fANil))))) (gNx)) (gSeq (gIf (fT (f2 [] gEq (fVar 5) (fC (.str "lock")))) (gRet [] (fTup [] (fACons [8, 8] (fC (.str "value")) (fACons [] (fIx [] gIxU (fLc [] [8, 8] [8] (fR1 (fACons [] (fC (.int 5)) fANil)) (fNm 8) (fOr (fT (f2 [] gEq (fVar 8) (fC (.int 4)))) (fT (f2 [] gEq (fCall [] [] m__law_mix [] (fACons [] (fTup [8] (fACons [] (fC (.int 4)) (fACons [] (fVar 8) (fANil)))) (fANil))) (fVar 6)))) (fVar 8)) (fC (.int 0))) (fANil))))) (gNx)) (gSeq (gIf (fT (f2 [] gEq (fVar 5) (fC (.str "age")))) (gRet [] (fTup [] (fACons [] (fC (.str "wait")) (fANil)))) (gNx)) (gSeq (gIf (fT (f2 [] gEq (fVar 5) (fC (.str "all")))) (gRet [] (fTup [] (fACons [9, 0, 2] (fC (.str "all")) (fACons [] (fN gTuple (fACons [] (fLc [] [9, 0, 2] [9] (fSrc (fVar 6)) (fNm 9) ((fun Γ => some (Γ, true))) (fCall [0, 2] [0, 2] m__law_witness [] (fACons [] (fVar 0) (fACons [] (fVar 9) (fACons [] (fVar 2) (fACons [] (fVar 3) (fACons [] (fVar 4) (fANil)))))))) fANil)) (fANil))))) (gNx)) (gSeq (gSet [] 7 (fCall [0] [0] m__law_next [] (fACons [] (fVar 0) (fACons [] (fN gLenU (fACons [] (fVar 6) fANil)) (fANil))))) (gRet [] (fTup [7] (fACons [0, 2] (fC (.str "any")) (fACons [0, 2] (fVar 7) (fACons [] (fCall [0, 2] [0, 2] m__law_witness [] (fACons [] (fVar 0) (fACons [] (fIx [] gIxU (fVar 6) (fVar 7)) (fACons [] (fVar 2) (fACons [] (fVar 3) (fACons [] (fVar 4) (fANil))))))) (fANil))))))))))))
def r__law_witness : Nat → List T → Option (Rv × List T)
  | 0, _ => none
  | n + 1, ts => runB 5 10 [5, 6, 7] (g__law_witness (r__law_witness n)) ts
def m__law_witness : List T → Option (Rv × List T) := r__law_witness 8
theorem b__law_witness {P : Program} {w : World} {K : PySem.W.Frag} {cl : Nat → Addr} {mg : Str → Option Value} {base : Heap} {X_NotValid : Addr} {t_DEPTH t_LAST t_MOST_AGE t_MOST_AMOUNT t_MOST_conditions t_MOST_spendings t_START t_STEP t_TOP : Tok} (T : Txt K mg X_NotValid t_DEPTH t_LAST t_MOST_AGE t_MOST_AMOUNT t_MOST_conditions t_MOST_spendings t_START t_STEP t_TOP) (c__law_next : Cal P w K cl mg base 1 "_law_next" .none [0] m__law_next []) (c__law_mix : Cal P w K cl mg base 1 "_law_mix" .none [] m__law_mix []) (k : Nat) (hk : Nat.ble 1 k = true) {m__law_witness : List Vx.T → Option (Rv × List Vx.T)} (c__law_witness : Cal P w K cl mg base k "_law_witness" .none [0, 2] m__law_witness []) : ∀ W, CB ⟨P, w, K, cl, mg, base, N__law_witness, defScope s__law_witness, k⟩ W .none [5, 6, 7] [0, 2, 5, 6, 7, 8, 9] (defBody s__law_witness) (g__law_witness m__law_witness) := fun W =>
  b_more [5, 6, 7] [0, 2, 5, 6, 7, 8, 9] (b_cons (s_asTS (x_var 1) (gs_tup 2 (gs_cons (gs_name 5) (gs_cons (gs_name 6) (gs_nil))))) (b_cons (s_if (y_w (w_and (y_not (y_tru (x_var 4))) (w_and1 (y_eq (x_call (hk := blT (by rfl) hk) [0] c__law_next (x_cons (x_var 0) (x_cons (x_int) (x_nil)))) (x_int))))) (b_one (s_ret [] (x_ixU (x_lst (x_cons (x_tup [] (x_cons (x_str) (x_nil))) (x_cons (x_tup [] (x_cons (x_str) (x_cons (x_int) (x_nil)))) (x_cons (x_tup [] (x_cons (x_str) (x_cons (x_int) (x_nil)))) (x_cons (x_tup [] (x_cons (x_str) (x_cons (x_tup [] (x_cons (x_tup [] (x_cons (x_str) (x_nil))) (x_nil))) (x_nil)))) (x_cons (x_tup [] (x_cons (x_str) (x_cons (x_int) (x_cons (x_tup [] (x_cons (x_str) (x_nil))) (x_nil))))) (x_nil))))))) (x_call (hk := blT (by rfl) hk) [0] c__law_next (x_cons (x_var 0) (x_cons (x_int) (x_nil))))))) (b_nil)) (b_cons (s_if (y_eq (x_var 5) (x_str)) (b_one (s_ret [] (x_tup [] (x_cons (x_str) (x_cons (x_call (hk := blT (by rfl) hk) [] c__law_mix (x_cons (x_tup [2, 6] (x_cons (x_int) (x_cons (x_var 6) (x_cons (x_var 2) (x_nil))))) (x_nil))) (x_nil)))))) (b_nil)) (b_cons (s_if (y_eq (x_var 5) (x_str)) (b_one (s_ret [] (x_tup [] (x_cons (x_str) (x_cons (x_ixU (x_lc [("_law_v", 8)] [] (i_r1 T.m_range (x_int)) (by exact g_name 8) (by exact y_one (y_w (w_or (y_eq (x_var 8) (x_int)) (w_or1 (y_eq (x_call (hk := blT (by rfl) hk) [] c__law_mix (x_cons (x_tup [8] (x_cons (x_int) (x_cons (x_var 8) (x_nil)))) (x_nil))) (x_var 6)))))) (by exact x_var 8)) (x_int)) (x_nil)))))) (b_nil)) (b_cons (s_if (y_eq (x_var 5) (x_str)) (b_one (s_ret [] (x_tup [] (x_cons (x_str) (x_nil))))) (b_nil)) (b_cons (s_if (y_eq (x_var 5) (x_str)) (b_one (s_ret [] (x_tup [] (x_cons (x_str) (x_cons (x_tuple T.m_tuple (x_lc [("_law_one", 9)] [] (i_sq (x_var 6)) (by exact g_name 9) (by exact y_nil) (by exact x_call (hk := blR k) [0, 2] c__law_witness (x_cons (x_var 0) (x_cons (x_var 9) (x_cons (x_var 2) (x_cons (x_var 3) (x_cons (x_var 4) (x_nil))))))))) (x_nil)))))) (b_nil)) (b_cons (s_set 7 [] (x_call (hk := blT (by rfl) hk) [0] c__law_next (x_cons (x_var 0) (x_cons (x_lenU T.m_len (x_var 6)) (x_nil))))) (b_one (s_ret [] (x_tup [7] (x_cons (x_str) (x_cons (x_var 7) (x_cons (x_call (hk := blR k) [0, 2] c__law_witness (x_cons (x_var 0) (x_cons (x_ixU (x_var 6) (x_var 7)) (x_cons (x_var 2) (x_cons (x_var 3) (x_cons (x_var 4) (x_nil))))))) (x_nil))))))))))))))
def s__law_spending : Stmt := PySem.Challenge.pw_parentweave_k33_what_a_spending_may_take.main.body.getD 49 (.Pass ⟨0, 0, 0, 0⟩)
def N__law_spending : List Str := ["_law_tape", "_law_coins_here", "_law_weight", "_law_good", "_law_names", "_law_inputs", "_law_k", "_law_one", "_law_total", "_law_outputs", "_law_part", "_law_name", "_law_witnesses", "_law_amount", "_law_condition_here", "_law_made"]
theorem sc__law_spending : FnScope N__law_spending ["_law_tape", "_law_coins_here", "_law_weight", "_law_good"] (defScope s__law_spending) := ⟨rfl, rfl, rfl, by decide +kernel, rfl, by decide +kernel, by decide +kernel⟩
def g__law_spending : Ge → Option Out := gSeq (gSet [] 4 (fN (gSo 2) (fACons [] (fVar 1) fANil))) (gSeq (gSet [] 5 (fLst (fANil))) (gSeq (gFor [6, 0, 5, 7] (fR1 (fACons [] (f2 [0] gAddU (fC (.int 1)) (fCall [0] [0] m__law_next [] (fACons [] (fVar 0) (fACons [] (fC (.int 3)) (fANil))))) fANil)) (fNm 6) (gSeq (gSet [] 7 (fIx [0] gIxU (fVar 4) (fCall [0] [0] m__law_next [] (fACons [] (fVar 0) (fACons [] (fN gLenU (fACons [] (fVar 4) fANil)) (fANil)))))) (gIf (fT (f2 [] (gInU true) (fVar 7) (fVar 5))) (gDrop (fMt [5] [7] [] isLst gApp (fVar 5) (fACons [] (fVar 7) fANil))) (gNx)))) (gSeq (gSet [] 8 (fN gSum (fACons [] (fLc [] [7] [7] (fSrc (fVar 5)) (fNm 7) ((fun Γ => some (Γ, true))) (fIx [] gIxU (fIx [] gIxU (fVar 1) (fVar 7)) (fC (.int 0)))) fANil))) (gSeq (gSet [] 9 (fLst (fANil))) (gSeq (gFor [6, 0, 8, 9, 10] (fR1 (fACons [] (f2 [0] gAddU (fC (.int 1)) (fCall [0] [0] m__law_next [] (fACons [] (fVar 0) (fACons [] (fC (.int 3)) (fANil))))) fANil)) (fNm 6) (gSeq (gSet [] 10 (f2 [0] gAddU (fC (.int 1)) (fCall [0] [0] m__law_next [] (fACons [] (fVar 0) (fACons [] (fC (.int 30)) (fANil)))))) (gSeq (gIf (fAnd (fTr (fVar 3)) (fT (f2 [] gLe (fVar 8) (fVar 10)))) (gSet [] 10 (fN gMax2 (fACons [] (fC (.int 1)) (fACons [] (f2 [] Vx.gSub (fVar 8) (fC (.int 1))) fANil)))) (gNx)) (gSeq (gAug [] 8 Vx.gSub (fVar 10)) (gDrop (fMt [9] [] [0, 10] isLst gApp (fVar 9) (fACons [] (fTup [10] (fACons [0] (fVar 10) (fACons [] (fTup [] (fACons [0] (fC (.str "key")) (fACons [] (f2 [0] gAddU (fC (.int 1)) (fCall [0] [0] m__law_next [] (fACons [] (fVar 0) (fACons [] (fC (.int 5)) (fANil))))) (fANil)))) (fANil)))) fANil))))))) (gSeq (gIf (fAnd (fTr (fVar 3)) (fT (f2 [] gLt (fVar 8) (fC (.int 0))))) (gSet [] 9 (fLst (fACons [] (fTup [] (fACons [] (fC (.int 1)) (fACons [] (fTup [] (fACons [] (fC (.str "key")) (fACons [] (fC (.int 2)) (fANil)))) (fANil)))) (fANil)))) (gNx)) (gSeq (gIf (fAnd (fNot (fTr (fVar 3))) (fT (f2 [] gEq (fCall [0] [0] m__law_next [] (fACons [] (fVar 0) (fACons [] (fC (.int 3)) (fANil)))) (fC (.int 0))))) (gDrop (fMt [5] [] [0, 0] isLst gApp (fVar 5) (fACons [] (fTup [] (fACons [0] (f2 [0] gAddU (fC (.int 77)) (fCall [0] [0] m__law_next [] (fACons [] (fVar 0) (fACons [] (fC (.int 3)) (fANil))))) (fACons [] (fCall [0] [0] m__law_next [] (fACons [] (fVar 0) (fACons [] (fC (.int 4)) (fANil)))) (fANil)))) fANil))) (gNx)) (gSeq (gSet [] 11 (fCall [] [] m__law_mix [] (fACons [] (fCall [] [] m__law_values [] (fACons [] (fN gTuple (fACons [] (fVar 5) fANil)) (fACons [] (fN gTuple (fACons [] (fVar 9) fANil)) (fANil)))) (fANil)))) (gSeq (gSet [] 12 (fLst (fANil))) (gSeq (gFor [7, 0, 11, 12, 13, 14, 15] (fSrc (fVar 5)) (fNm 7) (gIf (fT (f2 [] (gInU false) (fVar 7) (fVar 1))) (gSeq (gAsT (fTgT 3 (fTCons (fNm 13) (fTCons (fNm 14) (fTCons (fNm 15) (fTNil))))) (fIx [] gIxU (fVar 1) (fVar 7))) (gDrop (fMt [12] [] [0, 11] isLst gApp (fVar 12) (fACons [] (fCall [0, 11] [0, 2] m__law_witness [] (fACons [] (fVar 0) (fACons [] (fVar 14) (fACons [] (fVar 11) (fACons [] (f2 [] Vx.gSub (fVar 2) (fVar 15)) (fACons [] (fVar 3) (fANil))))))) fANil)))) (gDrop (fMt [12] [] [] isLst gApp (fVar 12) (fACons [] (fTup [] (fACons [] (fC (.str "wait")) (fANil))) fANil))))) (gRet [] (fTup [] (fACons [] (fN gTuple (fACons [] (fVar 5) fANil)) (fACons [] (fN gTuple (fACons [] (fVar 9) fANil)) (fACons [] (fN gTuple (fACons [] (fVar 12) fANil)) (fANil))))))))))))))))
def m__law_spending : List T → Option (Rv × List T) := runB 4 16 [4, 5, 6, 7, 8, 9, 10, 11, 12, 13, 14, 15] g__law_spending
theorem b__law_spending {P : Program} {w : World} {K : PySem.W.Frag} {cl : Nat → Addr} {mg : Str → Option Value} {base : Heap} {X_NotValid : Addr} {t_DEPTH t_LAST t_MOST_AGE t_MOST_AMOUNT t_MOST_conditions t_MOST_spendings t_START t_STEP t_TOP : Tok} (T : Txt K mg X_NotValid t_DEPTH t_LAST t_MOST_AGE t_MOST_AMOUNT t_MOST_conditions t_MOST_spendings t_START t_STEP t_TOP) (c__law_next : Cal P w K cl mg base 1 "_law_next" .none [0] m__law_next []) (c__law_mix : Cal P w K cl mg base 1 "_law_mix" .none [] m__law_mix []) (c__law_values : Cal P w K cl mg base 9 "_law_values" .none [] m__law_values []) (c__law_witness : Cal P w K cl mg base 9 "_law_witness" .none [0, 2] m__law_witness []) : ∀ W, CB ⟨P, w, K, cl, mg, base, N__law_spending, defScope s__law_spending, 9⟩ W .none [4, 5, 6, 7, 8, 9, 10, 11, 12, 13, 14, 15] [0, 4, 5, 6, 7, 8, 9, 10, 11, 12, 13, 14, 15] (defBody s__law_spending) g__law_spending := fun W =>
  b_more [4, 5, 6, 7, 8, 9, 10, 11, 12, 13, 14, 15] [0, 4, 5, 6, 7, 8, 9, 10, 11, 12, 13, 14, 15] (b_cons (s_set 4 [] (x_sorted 2 (by decide) T.m_sorted (x_var 1))) (b_cons (s_set 5 [] (x_lst (x_nil))) (b_cons (s_forS (i_r1 T.m_range (x_addU (x_int) (x_call [0] c__law_next (x_cons (x_var 0) (x_cons (x_int) (x_nil)))))) (gs_name 6) (b_more [7] [0, 5, 7] (b_cons (s_set 7 [] (x_ixU (x_var 4) (x_call [0] c__law_next (x_cons (x_var 0) (x_cons (x_lenU T.m_len (x_var 4)) (x_nil)))))) (b_one (s_if (y_ninU (x_var 7) (x_var 5)) (b_one (s_drop (x_append [5] [7] (x_var 5) (x_var 7)))) (b_nil)))))) (b_cons (s_set 8 [] (x_sum T.m_sum (x_lc [("_law_one", 7)] [] (i_sq (x_var 5)) (by exact g_name 7) (by exact y_nil) (by exact x_ixU (x_ixU (x_var 1) (x_var 7)) (x_int))))) (b_cons (s_set 9 [] (x_lst (x_nil))) (b_cons (s_forS (i_r1 T.m_range (x_addU (x_int) (x_call [0] c__law_next (x_cons (x_var 0) (x_cons (x_int) (x_nil)))))) (gs_name 6) (b_more [8, 10] [0, 8, 9, 10] (b_cons (s_set 10 [] (x_addU (x_int) (x_call [0] c__law_next (x_cons (x_var 0) (x_cons (x_int) (x_nil)))))) (b_cons (s_if (y_w (w_and (y_tru (x_var 3)) (w_and1 (y_le (x_var 8) (x_var 10))))) (b_one (s_set 10 [] (x_max2 T.m_max (x_int) (x_sub (x_var 8) (x_int))))) (b_nil)) (b_cons (s_augM 8 (x_var 10)) (b_one (s_drop (x_append [9] [] (x_var 9) (x_tup [10] (x_cons (x_var 10) (x_cons (x_tup [] (x_cons (x_str) (x_cons (x_addU (x_int) (x_call [0] c__law_next (x_cons (x_var 0) (x_cons (x_int) (x_nil))))) (x_nil)))) (x_nil)))))))))))) (b_cons (s_if (y_w (w_and (y_tru (x_var 3)) (w_and1 (y_lt (x_var 8) (x_int))))) (b_one (s_set 9 [] (x_lst (x_cons (x_tup [] (x_cons (x_int) (x_cons (x_tup [] (x_cons (x_str) (x_cons (x_int) (x_nil)))) (x_nil)))) (x_nil))))) (b_nil)) (b_cons (s_if (y_w (w_and (y_not (y_tru (x_var 3))) (w_and1 (y_eq (x_call [0] c__law_next (x_cons (x_var 0) (x_cons (x_int) (x_nil)))) (x_int))))) (b_one (s_drop (x_append [5] [] (x_var 5) (x_tup [] (x_cons (x_addU (x_int) (x_call [0] c__law_next (x_cons (x_var 0) (x_cons (x_int) (x_nil))))) (x_cons (x_call [0] c__law_next (x_cons (x_var 0) (x_cons (x_int) (x_nil)))) (x_nil))))))) (b_nil)) (b_cons (s_set 11 [] (x_call [] c__law_mix (x_cons (x_call [] c__law_values (x_cons (x_tuple T.m_tuple (x_var 5)) (x_cons (x_tuple T.m_tuple (x_var 9)) (x_nil)))) (x_nil)))) (b_cons (s_set 12 [] (x_lst (x_nil))) (b_cons (s_forS (i_sq (x_var 5)) (gs_name 7) (b_more [13, 14, 15] [0, 11, 12, 13, 14, 15] (b_one (s_if (y_inU (x_var 7) (x_var 1)) (b_cons (s_asTS (x_ixU (x_var 1) (x_var 7)) (gs_tup 3 (gs_cons (gs_name 13) (gs_cons (gs_name 14) (gs_cons (gs_name 15) (gs_nil)))))) (b_one (s_drop (x_append [12] [] (x_var 12) (x_call [0, 11] c__law_witness (x_cons (x_var 0) (x_cons (x_var 14) (x_cons (x_var 11) (x_cons (x_sub (x_var 2) (x_var 15)) (x_cons (x_var 3) (x_nil))))))))))) (b_one (s_drop (x_append [12] [] (x_var 12) (x_tup [] (x_cons (x_str) (x_nil)))))))))) (b_one (s_ret [] (x_tup [] (x_cons (x_tuple T.m_tuple (x_var 5)) (x_cons (x_tuple T.m_tuple (x_var 9)) (x_cons (x_tuple T.m_tuple (x_var 12)) (x_nil))))))))))))))))))
def s_is_row_of : Stmt := PySem.Challenge.pw_parentweave_k33_what_a_spending_may_take.main.body.getD 33 (.Pass ⟨0, 0, 0, 0⟩)
def N_is_row_of : List Str := ["value", "least"]
theorem sc_is_row_of : FnScope N_is_row_of ["value", "least"] (defScope s_is_row_of) := ⟨rfl, rfl, rfl, by decide +kernel, rfl, by decide +kernel, by decide +kernel⟩
def g_is_row_of : Ge → Option Out := gRet [] (fAndV (f1 (gIsi "tuple") (fVar 0)) (fCh [] [] gLe gLe (fVar 1) (fN gLenU (fACons [] (fVar 0) fANil)) (fC (.int 4))))
def m_is_row_of : List T → Option (Rv × List T) := runB 2 2 [] g_is_row_of
theorem b_is_row_of {P : Program} {w : World} {K : PySem.W.Frag} {cl : Nat → Addr} {mg : Str → Option Value} {base : Heap} {X_NotValid : Addr} {t_DEPTH t_LAST t_MOST_AGE t_MOST_AMOUNT t_MOST_conditions t_MOST_spendings t_START t_STEP t_TOP : Tok} (T : Txt K mg X_NotValid t_DEPTH t_LAST t_MOST_AGE t_MOST_AMOUNT t_MOST_conditions t_MOST_spendings t_START t_STEP t_TOP)  : ∀ W, CB ⟨P, w, K, cl, mg, base, N_is_row_of, defScope s_is_row_of, 0⟩ W .none [] [] (defBody s_is_row_of) g_is_row_of := fun W =>
  b_one (s_ret [] (x_and (x_isi T.m_isinstance T.m_tuple (by decide +kernel) (x_var 0)) (x_one (x_chLL (x_var 1) (x_lenU T.m_len (x_var 0)) (x_globI T.m_MOST_spendings)))))
def s_is_number : Stmt := PySem.Challenge.pw_parentweave_k33_what_a_spending_may_take.main.body.getD 8 (.Pass ⟨0, 0, 0, 0⟩)
def N_is_number : List Str := ["value"]
theorem sc_is_number : FnScope N_is_number ["value"] (defScope s_is_number) := ⟨rfl, rfl, rfl, by decide +kernel, rfl, by decide +kernel, by decide +kernel⟩
def g_is_number : Ge → Option Out := gRet [] (fAndV (f1 (gIsi "int") (fVar 0)) (fNotV (f1 (gIsi "bool") (fVar 0))))
def m_is_number : List T → Option (Rv × List T) := runB 1 1 [] g_is_number
theorem b_is_number {P : Program} {w : World} {K : PySem.W.Frag} {cl : Nat → Addr} {mg : Str → Option Value} {base : Heap} {X_NotValid : Addr} {t_DEPTH t_LAST t_MOST_AGE t_MOST_AMOUNT t_MOST_conditions t_MOST_spendings t_START t_STEP t_TOP : Tok} (T : Txt K mg X_NotValid t_DEPTH t_LAST t_MOST_AGE t_MOST_AMOUNT t_MOST_conditions t_MOST_spendings t_START t_STEP t_TOP)  : ∀ W, CB ⟨P, w, K, cl, mg, base, N_is_number, defScope s_is_number, 0⟩ W .none [] [] (defBody s_is_number) g_is_number := fun W =>
  b_one (s_ret [] (x_and (x_isi T.m_isinstance T.m_int (by decide +kernel) (x_var 0)) (x_one (x_not (x_isi T.m_isinstance T.m_bool (by decide +kernel) (x_var 0))))))
def s_is_between : Stmt := PySem.Challenge.pw_parentweave_k33_what_a_spending_may_take.main.body.getD 9 (.Pass ⟨0, 0, 0, 0⟩)
def N_is_between : List Str := ["value", "least", "most"]
theorem sc_is_between : FnScope N_is_between ["value", "least", "most"] (defScope s_is_between) := ⟨rfl, rfl, rfl, by decide +kernel, rfl, by decide +kernel, by decide +kernel⟩
def g_is_between : Ge → Option Out := gRet [] (fAndV (fCall [] [] m_is_number [] (fACons [] (fVar 0) (fANil))) (fCh [] [] gLe gLe (fVar 1) (fVar 0) (fVar 2)))
def m_is_between : List T → Option (Rv × List T) := runB 3 3 [] g_is_between
theorem b_is_between {P : Program} {w : World} {K : PySem.W.Frag} {cl : Nat → Addr} {mg : Str → Option Value} {base : Heap} {X_NotValid : Addr} {t_DEPTH t_LAST t_MOST_AGE t_MOST_AMOUNT t_MOST_conditions t_MOST_spendings t_START t_STEP t_TOP : Tok} (T : Txt K mg X_NotValid t_DEPTH t_LAST t_MOST_AGE t_MOST_AMOUNT t_MOST_conditions t_MOST_spendings t_START t_STEP t_TOP) (c_is_number : Cal P w K cl mg base 1 "is_number" .none [] m_is_number []) : ∀ W, CB ⟨P, w, K, cl, mg, base, N_is_between, defScope s_is_between, 1⟩ W .none [] [] (defBody s_is_between) g_is_between := fun W =>
  b_one (s_ret [] (x_and (x_call [] c_is_number (x_cons (x_var 0) (x_nil))) (x_one (x_chLL (x_var 1) (x_var 0) (x_var 2)))))
def s_is_name : Stmt := PySem.Challenge.pw_parentweave_k33_what_a_spending_may_take.main.body.getD 11 (.Pass ⟨0, 0, 0, 0⟩)
def N_is_name : List Str := ["value"]
theorem sc_is_name : FnScope N_is_name ["value"] (defScope s_is_name) := ⟨rfl, rfl, rfl, by decide +kernel, rfl, by decide +kernel, by decide +kernel⟩
def g_is_name : Ge → Option Out := gRet [] (fCall [] [] m_is_between [] (fACons [] (fVar 0) (fACons [] (fC (.int 1)) (fACons [] (fC (.int 18446744073709551615)) (fANil)))))
def m_is_name : List T → Option (Rv × List T) := runB 1 1 [] g_is_name
theorem b_is_name {P : Program} {w : World} {K : PySem.W.Frag} {cl : Nat → Addr} {mg : Str → Option Value} {base : Heap} {X_NotValid : Addr} {t_DEPTH t_LAST t_MOST_AGE t_MOST_AMOUNT t_MOST_conditions t_MOST_spendings t_START t_STEP t_TOP : Tok} (T : Txt K mg X_NotValid t_DEPTH t_LAST t_MOST_AGE t_MOST_AMOUNT t_MOST_conditions t_MOST_spendings t_START t_STEP t_TOP) (c_is_between : Cal P w K cl mg base 2 "is_between" .none [] m_is_between []) : ∀ W, CB ⟨P, w, K, cl, mg, base, N_is_name, defScope s_is_name, 2⟩ W .none [] [] (defBody s_is_name) g_is_name := fun W =>
  b_one (s_ret [] (x_call [] c_is_between (x_cons (x_var 0) (x_cons (x_int) (x_cons (x_globI T.m_TOP) (x_nil))))))
def s_is_coin_name : Stmt := PySem.Challenge.pw_parentweave_k33_what_a_spending_may_take.main.body.getD 31 (.Pass ⟨0, 0, 0, 0⟩)
def N_is_coin_name : List Str := ["value"]
theorem sc_is_coin_name : FnScope N_is_coin_name ["value"] (defScope s_is_coin_name) := ⟨rfl, rfl, rfl, by decide +kernel, rfl, by decide +kernel, by decide +kernel⟩
def g_is_coin_name : Ge → Option Out := gRet [] (fAndV (f1 (gIsi "tuple") (fVar 0)) (fAndV (f2 [] gEq (fN gLenU (fACons [] (fVar 0) fANil)) (fC (.int 2))) (fAndV (fCall [] [] m_is_name [] (fACons [] (fIx [] gIxU (fVar 0) (fC (.int 0))) (fANil))) (fCall [] [] m_is_between [] (fACons [] (fIx [] gIxU (fVar 0) (fC (.int 1))) (fACons [] (fC (.int 0)) (fACons [] (f2 [] Vx.gSub (fC (.int 4)) (fC (.int 1))) (fANil))))))))
def m_is_coin_name : List T → Option (Rv × List T) := runB 1 1 [] g_is_coin_name
theorem b_is_coin_name {P : Program} {w : World} {K : PySem.W.Frag} {cl : Nat → Addr} {mg : Str → Option Value} {base : Heap} {X_NotValid : Addr} {t_DEPTH t_LAST t_MOST_AGE t_MOST_AMOUNT t_MOST_conditions t_MOST_spendings t_START t_STEP t_TOP : Tok} (T : Txt K mg X_NotValid t_DEPTH t_LAST t_MOST_AGE t_MOST_AMOUNT t_MOST_conditions t_MOST_spendings t_START t_STEP t_TOP) (c_is_name : Cal P w K cl mg base 3 "is_name" .none [] m_is_name []) (c_is_between : Cal P w K cl mg base 2 "is_between" .none [] m_is_between []) : ∀ W, CB ⟨P, w, K, cl, mg, base, N_is_coin_name, defScope s_is_coin_name, 3⟩ W .none [] [] (defBody s_is_coin_name) g_is_coin_name := fun W =>
  b_one (s_ret [] (x_and (x_isi T.m_isinstance T.m_tuple (by decide +kernel) (x_var 0)) (x_and (x_eq (x_lenU T.m_len (x_var 0)) (x_int)) (x_and (x_call [] c_is_name (x_cons (x_ixU (x_var 0) (x_int)) (x_nil))) (x_one (x_call [] c_is_between (x_cons (x_ixU (x_var 0) (x_int)) (x_cons (x_int) (x_cons (x_sub (x_globI T.m_MOST_spendings) (x_int)) (x_nil))))))))))
def s_is_word : Stmt := PySem.Challenge.pw_parentweave_k33_what_a_spending_may_take.main.body.getD 18 (.Pass ⟨0, 0, 0, 0⟩)
def N_is_word : List Str := ["value", "word", "many"]
theorem sc_is_word : FnScope N_is_word ["value", "word", "many"] (defScope s_is_word) := ⟨rfl, rfl, rfl, by decide +kernel, rfl, by decide +kernel, by decide +kernel⟩
def g_is_word : Ge → Option Out := gRet [] (fAndV (f1 (gIsi "tuple") (fVar 0)) (fAndV (f2 [] gEq (fN gLenU (fACons [] (fVar 0) fANil)) (fVar 2)) (fAndV (f1 (gIsi "str") (fIx [] gIxU (fVar 0) (fC (.int 0)))) (f2 [] gEq (fIx [] gIxU (fVar 0) (fC (.int 0))) (fVar 1)))))
def m_is_word : List T → Option (Rv × List T) := runB 3 3 [] g_is_word
theorem b_is_word {P : Program} {w : World} {K : PySem.W.Frag} {cl : Nat → Addr} {mg : Str → Option Value} {base : Heap} {X_NotValid : Addr} {t_DEPTH t_LAST t_MOST_AGE t_MOST_AMOUNT t_MOST_conditions t_MOST_spendings t_START t_STEP t_TOP : Tok} (T : Txt K mg X_NotValid t_DEPTH t_LAST t_MOST_AGE t_MOST_AMOUNT t_MOST_conditions t_MOST_spendings t_START t_STEP t_TOP)  : ∀ W, CB ⟨P, w, K, cl, mg, base, N_is_word, defScope s_is_word, 0⟩ W .none [] [] (defBody s_is_word) g_is_word := fun W =>
  b_one (s_ret [] (x_and (x_isi T.m_isinstance T.m_tuple (by decide +kernel) (x_var 0)) (x_and (x_eq (x_lenU T.m_len (x_var 0)) (x_var 2)) (x_and (x_isi T.m_isinstance T.m_str (by decide +kernel) (x_ixU (x_var 0) (x_int))) (x_one (x_eq (x_ixU (x_var 0) (x_int)) (x_var 1)))))))
def s_is_rows : Stmt := PySem.Challenge.pw_parentweave_k33_what_a_spending_may_take.main.body.getD 17 (.Pass ⟨0, 0, 0, 0⟩)
def N_is_rows : List Str := ["value"]
theorem sc_is_rows : FnScope N_is_rows ["value"] (defScope s_is_rows) := ⟨rfl, rfl, rfl, by decide +kernel, rfl, by decide +kernel, by decide +kernel⟩
def g_is_rows : Ge → Option Out := gRet [] (fAndV (f1 (gIsi "tuple") (fVar 0)) (fCh [] [] gLe gLe (fC (.int 1)) (fN gLenU (fACons [] (fVar 0) fANil)) (fC (.int 4))))
def m_is_rows : List T → Option (Rv × List T) := runB 1 1 [] g_is_rows
theorem b_is_rows {P : Program} {w : World} {K : PySem.W.Frag} {cl : Nat → Addr} {mg : Str → Option Value} {base : Heap} {X_NotValid : Addr} {t_DEPTH t_LAST t_MOST_AGE t_MOST_AMOUNT t_MOST_conditions t_MOST_spendings t_START t_STEP t_TOP : Tok} (T : Txt K mg X_NotValid t_DEPTH t_LAST t_MOST_AGE t_MOST_AMOUNT t_MOST_conditions t_MOST_spendings t_START t_STEP t_TOP)  : ∀ W, CB ⟨P, w, K, cl, mg, base, N_is_rows, defScope s_is_rows, 0⟩ W .none [] [] (defBody s_is_rows) g_is_rows := fun W =>
  b_one (s_ret [] (x_and (x_isi T.m_isinstance T.m_tuple (by decide +kernel) (x_var 0)) (x_one (x_chLL (x_int) (x_lenU T.m_len (x_var 0)) (x_globI T.m_MOST_conditions)))))
def s_fits_condition : Stmt := PySem.Challenge.pw_parentweave_k33_what_a_spending_may_take.main.body.getD 19 (.Pass ⟨0, 0, 0, 0⟩)
def N_fits_condition : List Str := ["value", "depth", "one"]
theorem sc_fits_condition : FnScope N_fits_condition ["value", "depth"] (defScope s_fits_condition) := ⟨rfl, rfl, rfl, by decide +kernel, rfl, by decide +kernel, by decide +kernel⟩
def g_fits_condition (m_fits_condition : List T → Option (Rv × List T)) : Ge → Option Out := gSeq (gIf (fOr (fTr (fCall [] [] m_is_word [] (fACons [] (fVar 0) (fACons [] (fC (.str "key")) (fACons [] (fC (.int 2)) (fANil)))))) (fTr (fCall [] [] m_is_word [] (fACons [] (fVar 0) (fACons [] (fC (.str "lock")) (fACons [] (fC (.int 2)) (fANil))))))) (gRet [] (fCall [] [] m_is_name [] (fACons [] (fIx [] gIxU (fVar 0) (fC (.int 1))) (fANil)))) (gNx)) (gSeq (gIf (fTr (fCall [] [] m_is_word [] (fACons [] (fVar 0) (fACons [] (fC (.str "age")) (fACons [] (fC (.int 2)) (fANil)))))) (gRet [] (fCall [] [] m_is_between [] (fACons [] (fIx [] gIxU (fVar 0) (fC (.int 1))) (fACons [] (fC (.int 0)) (fACons [] (fC (.int 1000)) (fANil)))))) (gNx)) (gSeq (gIf (fOr (fTr (fCall [] [] m_is_word [] (fACons [] (fVar 0) (fACons [] (fC (.str "all")) (fACons [] (fC (.int 2)) (fANil)))))) (fTr (fCall [] [] m_is_word [] (fACons [] (fVar 0) (fACons [] (fC (.str "any")) (fACons [] (fC (.int 2)) (fANil))))))) (gRet [] (fAndV (f2 [] gGt (fVar 1) (fC (.int 0))) (fAndV (fCall [] [] m_is_rows [] (fACons [] (fIx [] gIxU (fVar 0) (fC (.int 1))) (fANil))) (fN gAll (fACons [] (fLc [] [2] [2] (fSrc (fIx [] gIxU (fVar 0) (fC (.int 1)))) (fNm 2) ((fun Γ => some (Γ, true))) (fCall [] [] m_fits_condition [] (fACons [] (fVar 2) (fACons [] (f2 [] Vx.gSub (fVar 1) (fC (.int 1))) (fANil))))) fANil))))) (gNx)) (gRet [] (fC (.bl false)))))
def r_fits_condition : Nat → List T → Option (Rv × List T)
  | 0, _ => none
  | n + 1, ts => runB 2 3 [] (g_fits_condition (r_fits_condition n)) ts
def m_fits_condition : List T → Option (Rv × List T) := r_fits_condition 8
theorem b_fits_condition {P : Program} {w : World} {K : PySem.W.Frag} {cl : Nat → Addr} {mg : Str → Option Value} {base : Heap} {X_NotValid : Addr} {t_DEPTH t_LAST t_MOST_AGE t_MOST_AMOUNT t_MOST_conditions t_MOST_spendings t_START t_STEP t_TOP : Tok} (T : Txt K mg X_NotValid t_DEPTH t_LAST t_MOST_AGE t_MOST_AMOUNT t_MOST_conditions t_MOST_spendings t_START t_STEP t_TOP) (c_is_word : Cal P w K cl mg base 1 "is_word" .none [] m_is_word []) (c_is_name : Cal P w K cl mg base 3 "is_name" .none [] m_is_name []) (c_is_between : Cal P w K cl mg base 2 "is_between" .none [] m_is_between []) (c_is_rows : Cal P w K cl mg base 1 "is_rows" .none [] m_is_rows []) (k : Nat) (hk : Nat.ble 3 k = true) {m_fits_condition : List Vx.T → Option (Rv × List Vx.T)} (c_fits_condition : Cal P w K cl mg base k "fits_condition" .none [] m_fits_condition []) : ∀ W, CB ⟨P, w, K, cl, mg, base, N_fits_condition, defScope s_fits_condition, k⟩ W .none [] [2] (defBody s_fits_condition) (g_fits_condition m_fits_condition) := fun W =>
  b_cons (s_if (y_w (w_or (y_tru (x_call (hk := blT (by rfl) hk) [] c_is_word (x_cons (x_var 0) (x_cons (x_str) (x_cons (x_int) (x_nil)))))) (w_or1 (y_tru (x_call (hk := blT (by rfl) hk) [] c_is_word (x_cons (x_var 0) (x_cons (x_str) (x_cons (x_int) (x_nil))))))))) (b_one (s_ret [] (x_call (hk := blT (by rfl) hk) [] c_is_name (x_cons (x_ixU (x_var 0) (x_int)) (x_nil))))) (b_nil)) (b_cons (s_if (y_tru (x_call (hk := blT (by rfl) hk) [] c_is_word (x_cons (x_var 0) (x_cons (x_str) (x_cons (x_int) (x_nil)))))) (b_one (s_ret [] (x_call (hk := blT (by rfl) hk) [] c_is_between (x_cons (x_ixU (x_var 0) (x_int)) (x_cons (x_int) (x_cons (x_globI T.m_MOST_AGE) (x_nil))))))) (b_nil)) (b_cons (s_if (y_w (w_or (y_tru (x_call (hk := blT (by rfl) hk) [] c_is_word (x_cons (x_var 0) (x_cons (x_str) (x_cons (x_int) (x_nil)))))) (w_or1 (y_tru (x_call (hk := blT (by rfl) hk) [] c_is_word (x_cons (x_var 0) (x_cons (x_str) (x_cons (x_int) (x_nil))))))))) (b_one (s_ret [] (x_and (x_gt (x_var 1) (x_int)) (x_and (x_call (hk := blT (by rfl) hk) [] c_is_rows (x_cons (x_ixU (x_var 0) (x_int)) (x_nil))) (x_one (x_all T.m_all (x_lc [("one", 2)] [] (i_sq (x_ixU (x_var 0) (x_int))) (by exact g_name 2) (by exact y_nil) (by exact x_call (hk := blR k) [] c_fits_condition (x_cons (x_var 2) (x_cons (x_sub (x_var 1) (x_int)) (x_nil))))))))))) (b_nil)) (b_one (s_ret [] (x_bl)))))
def s_is_condition : Stmt := PySem.Challenge.pw_parentweave_k33_what_a_spending_may_take.main.body.getD 20 (.Pass ⟨0, 0, 0, 0⟩)
def N_is_condition : List Str := ["value"]
theorem sc_is_condition : FnScope N_is_condition ["value"] (defScope s_is_condition) := ⟨rfl, rfl, rfl, by decide +kernel, rfl, by decide +kernel, by decide +kernel⟩
def g_is_condition : Ge → Option Out := gRet [] (fCall [] [] m_fits_condition [] (fACons [] (fVar 0) (fACons [] (fC (.int 3)) (fANil))))
def m_is_condition : List T → Option (Rv × List T) := runB 1 1 [] g_is_condition
theorem b_is_condition {P : Program} {w : World} {K : PySem.W.Frag} {cl : Nat → Addr} {mg : Str → Option Value} {base : Heap} {X_NotValid : Addr} {t_DEPTH t_LAST t_MOST_AGE t_MOST_AMOUNT t_MOST_conditions t_MOST_spendings t_START t_STEP t_TOP : Tok} (T : Txt K mg X_NotValid t_DEPTH t_LAST t_MOST_AGE t_MOST_AMOUNT t_MOST_conditions t_MOST_spendings t_START t_STEP t_TOP) (c_fits_condition : Cal P w K cl mg base 11 "fits_condition" .none [] m_fits_condition []) : ∀ W, CB ⟨P, w, K, cl, mg, base, N_is_condition, defScope s_is_condition, 11⟩ W .none [] [] (defBody s_is_condition) g_is_condition := fun W =>
  b_one (s_ret [] (x_call [] c_fits_condition (x_cons (x_var 0) (x_cons (x_globI T.m_DEPTH) (x_nil)))))
def s_is_output : Stmt := PySem.Challenge.pw_parentweave_k33_what_a_spending_may_take.main.body.getD 32 (.Pass ⟨0, 0, 0, 0⟩)
def N_is_output : List Str := ["value"]
theorem sc_is_output : FnScope N_is_output ["value"] (defScope s_is_output) := ⟨rfl, rfl, rfl, by decide +kernel, rfl, by decide +kernel, by decide +kernel⟩
def g_is_output : Ge → Option Out := gSeq (gIf (fOr (fNot (fTr (f1 (gIsi "tuple") (fVar 0)))) (fT (f2 [] gNe (fN gLenU (fACons [] (fVar 0) fANil)) (fC (.int 2))))) (gRet [] (fC (.bl false))) (gNx)) (gRet [] (fAndV (fCall [] [] m_is_between [] (fACons [] (fIx [] gIxU (fVar 0) (fC (.int 0))) (fACons [] (fC (.int 1)) (fACons [] (fC (.int 1099511627776)) (fANil))))) (fCall [] [] m_is_condition [] (fACons [] (fIx [] gIxU (fVar 0) (fC (.int 1))) (fANil)))))
def m_is_output : List T → Option (Rv × List T) := runB 1 1 [] g_is_output
theorem b_is_output {P : Program} {w : World} {K : PySem.W.Frag} {cl : Nat → Addr} {mg : Str → Option Value} {base : Heap} {X_NotValid : Addr} {t_DEPTH t_LAST t_MOST_AGE t_MOST_AMOUNT t_MOST_conditions t_MOST_spendings t_START t_STEP t_TOP : Tok} (T : Txt K mg X_NotValid t_DEPTH t_LAST t_MOST_AGE t_MOST_AMOUNT t_MOST_conditions t_MOST_spendings t_START t_STEP t_TOP) (c_is_between : Cal P w K cl mg base 2 "is_between" .none [] m_is_between []) (c_is_condition : Cal P w K cl mg base 12 "is_condition" .none [] m_is_condition []) : ∀ W, CB ⟨P, w, K, cl, mg, base, N_is_output, defScope s_is_output, 12⟩ W .none [] [] (defBody s_is_output) g_is_output := fun W =>
  b_cons (s_if (y_w (w_or (y_not (y_tru (x_isi T.m_isinstance T.m_tuple (by decide +kernel) (x_var 0)))) (w_or1 (y_ne (x_lenU T.m_len (x_var 0)) (x_int))))) (b_one (s_ret [] (x_bl))) (b_nil)) (b_one (s_ret [] (x_and (x_call [] c_is_between (x_cons (x_ixU (x_var 0) (x_int)) (x_cons (x_int) (x_cons (x_globI T.m_MOST_AMOUNT) (x_nil))))) (x_one (x_call [] c_is_condition (x_cons (x_ixU (x_var 0) (x_int)) (x_nil)))))))
def s_is_value : Stmt := PySem.Challenge.pw_parentweave_k33_what_a_spending_may_take.main.body.getD 10 (.Pass ⟨0, 0, 0, 0⟩)
def N_is_value : List Str := ["value"]
theorem sc_is_value : FnScope N_is_value ["value"] (defScope s_is_value) := ⟨rfl, rfl, rfl, by decide +kernel, rfl, by decide +kernel, by decide +kernel⟩
def g_is_value : Ge → Option Out := gRet [] (fCall [] [] m_is_between [] (fACons [] (fVar 0) (fACons [] (fC (.int 0)) (fACons [] (fC (.int 18446744073709551615)) (fANil)))))
def m_is_value : List T → Option (Rv × List T) := runB 1 1 [] g_is_value
theorem b_is_value {P : Program} {w : World} {K : PySem.W.Frag} {cl : Nat → Addr} {mg : Str → Option Value} {base : Heap} {X_NotValid : Addr} {t_DEPTH t_LAST t_MOST_AGE t_MOST_AMOUNT t_MOST_conditions t_MOST_spendings t_START t_STEP t_TOP : Tok} (T : Txt K mg X_NotValid t_DEPTH t_LAST t_MOST_AGE t_MOST_AMOUNT t_MOST_conditions t_MOST_spendings t_START t_STEP t_TOP) (c_is_between : Cal P w K cl mg base 2 "is_between" .none [] m_is_between []) : ∀ W, CB ⟨P, w, K, cl, mg, base, N_is_value, defScope s_is_value, 2⟩ W .none [] [] (defBody s_is_value) g_is_value := fun W =>
  b_one (s_ret [] (x_call [] c_is_between (x_cons (x_var 0) (x_cons (x_int) (x_cons (x_globI T.m_TOP) (x_nil))))))
def s_fits_witness : Stmt := PySem.Challenge.pw_parentweave_k33_what_a_spending_may_take.main.body.getD 21 (.Pass ⟨0, 0, 0, 0⟩)
def N_fits_witness : List Str := ["value", "depth", "one"]
theorem sc_fits_witness : FnScope N_fits_witness ["value", "depth"] (defScope s_fits_witness) := ⟨rfl, rfl, rfl, by decide +kernel, rfl, by decide +kernel, by decide +kernel⟩
def g_fits_witness (m_fits_witness : List T → Option (Rv × List T)) : Ge → Option Out := gSeq (gIf (fTr (fCall [] [] m_is_word [] (fACons [] (fVar 0) (fACons [] (fC (.str "token")) (fACons [] (fC (.int 2)) (fANil)))))) (gRet [] (fCall [] [] m_is_name [] (fACons [] (fIx [] gIxU (fVar 0) (fC (.int 1))) (fANil)))) (gNx)) (gSeq (gIf (fTr (fCall [] [] m_is_word [] (fACons [] (fVar 0) (fACons [] (fC (.str "value")) (fACons [] (fC (.int 2)) (fANil)))))) (gRet [] (fCall [] [] m_is_value [] (fACons [] (fIx [] gIxU (fVar 0) (fC (.int 1))) (fANil)))) (gNx)) (gSeq (gIf (fTr (fCall [] [] m_is_word [] (fACons [] (fVar 0) (fACons [] (fC (.str "wait")) (fACons [] (fC (.int 1)) (fANil)))))) (gRet [] (fC (.bl true))) (gNx)) (gSeq (gIf (fTr (fCall [] [] m_is_word [] (fACons [] (fVar 0) (fACons [] (fC (.str "all")) (fACons [] (fC (.int 2)) (fANil)))))) (gRet [] (fAndV (f2 [] gGt (fVar 1) (fC (.int 0))) (fAndV (fCall [] [] m_is_rows [] (fACons [] (fIx [] gIxU (fVar 0) (fC (.int 1))) (fANil))) (fN gAll (fACons [] (fLc [] [2] [2] (fSrc (fIx [] gIxU (fVar 0) (fC (.int 1)))) (fNm 2) ((fun Γ => some (Γ, true))) (fCall [] [] m_fits_witness [] (fACons [] (fVar 2) (fACons [] (f2 [] Vx.gSub (fVar 1) (fC (.int 1))) (fANil))))) fANil))))) (gNx)) (gSeq (gIf (fTr (fCall [] [] m_is_word [] (fACons [] (fVar 0) (fACons [] (fC (.str "any")) (fACons [] (fC (.int 3)) (fANil)))))) (gRet [] (fAndV (f2 [] gGt (fVar 1) (fC (.int 0))) (fAndV (fCall [] [] m_is_between [] (fACons [] (fIx [] gIxU (fVar 0) (fC (.int 1))) (fACons [] (fC (.int 0)) (fACons [] (f2 [] Vx.gSub (fC (.int 4)) (fC (.int 1))) (fANil))))) (fCall [] [] m_fits_witness [] (fACons [] (fIx [] gIxU (fVar 0) (fC (.int 2))) (fACons [] (f2 [] Vx.gSub (fVar 1) (fC (.int 1))) (fANil))))))) (gNx)) (gRet [] (fC (.bl false)))))))
def r_fits_witness : Nat → List T → Option (Rv × List T)
  | 0, _ => none
  | n + 1, ts => runB 2 3 [] (g_fits_witness (r_fits_witness n)) ts
def m_fits_witness : List T → Option (Rv × List T) := r_fits_witness 8
theorem b_fits_witness {P : Program} {w : World} {K : PySem.W.Frag} {cl : Nat → Addr} {mg : Str → Option Value} {base : Heap} {X_NotValid : Addr} {t_DEPTH t_LAST t_MOST_AGE t_MOST_AMOUNT t_MOST_conditions t_MOST_spendings t_START t_STEP t_TOP : Tok} (T : Txt K mg X_NotValid t_DEPTH t_LAST t_MOST_AGE t_MOST_AMOUNT t_MOST_conditions t_MOST_spendings t_START t_STEP t_TOP) (c_is_word : Cal P w K cl mg base 1 "is_word" .none [] m_is_word []) (c_is_name : Cal P w K cl mg base 3 "is_name" .none [] m_is_name []) (c_is_value : Cal P w K cl mg base 3 "is_value" .none [] m_is_value []) (c_is_rows : Cal P w K cl mg base 1 "is_rows" .none [] m_is_rows []) (c_is_between : Cal P w K cl mg base 2 "is_between" .none [] m_is_between []) (k : Nat) (hk : Nat.ble 3 k = true) {m_fits_witness : List Vx.T → Option (Rv × List Vx.T)} (c_fits_witness : Cal P w K cl mg base k "fits_witness" .none [] m_fits_witness []) : ∀ W, CB ⟨P, w, K, cl, mg, base, N_fits_witness, defScope s_fits_witness, k⟩ W .none [] [2] (defBody s_fits_witness) (g_fits_witness m_fits_witness) := fun W =>
  b_cons (s_if (y_tru (x_call (hk := blT (by rfl) hk) [] c_is_word (x_cons (x_var 0) (x_cons (x_str) (x_cons (x_int) (x_nil)))))) (b_one (s_ret [] (x_call (hk := blT (by rfl) hk) [] c_is_name (x_cons (x_ixU (x_var 0) (x_int)) (x_nil))))) (b_nil)) (b_cons (s_if (y_tru (x_call (hk := blT (by rfl) hk) [] c_is_word (x_cons (x_var 0) (x_cons (x_str) (x_cons (x_int) (x_nil)))))) (b_one (s_ret [] (x_call (hk := blT (by rfl) hk) [] c_is_value (x_cons (x_ixU (x_var 0) (x_int)) (x_nil))))) (b_nil)) (b_cons (s_if (y_tru (x_call (hk := blT (by rfl) hk) [] c_is_word (x_cons (x_var 0) (x_cons (x_str) (x_cons (x_int) (x_nil)))))) (b_one (s_ret [] (x_bl))) (b_nil)) (b_cons (s_if (y_tru (x_call (hk := blT (by rfl) hk) [] c_is_word (x_cons (x_var 0) (x_cons (x_str) (x_cons (x_int) (x_nil)))))) (b_one (s_ret [] (x_and (x_gt (x_var 1) (x_int)) (x_and (x_call (hk := blT (by rfl) hk) [] c_is_rows (x_cons (x_ixU (x_var 0) (x_int)) (x_nil))) (x_one (x_all T.m_all (x_lc [("one", 2)] [] (i_sq (x_ixU (x_var 0) (x_int))) (by exact g_name 2) (by exact y_nil) (by exact x_call (hk := blR k) [] c_fits_witness (x_cons (x_var 2) (x_cons (x_sub (x_var 1) (x_int)) (x_nil))))))))))) (b_nil)) (b_cons (s_if (y_tru (x_call (hk := blT (by rfl) hk) [] c_is_word (x_cons (x_var 0) (x_cons (x_str) (x_cons (x_int) (x_nil)))))) (b_one (s_ret [] (x_and (x_gt (x_var 1) (x_int)) (x_and (x_call (hk := blT (by rfl) hk) [] c_is_between (x_cons (x_ixU (x_var 0) (x_int)) (x_cons (x_int) (x_cons (x_sub (x_globI T.m_MOST_conditions) (x_int)) (x_nil))))) (x_one (x_call (hk := blR k) [] c_fits_witness (x_cons (x_ixU (x_var 0) (x_int)) (x_cons (x_sub (x_var 1) (x_int)) (x_nil))))))))) (b_nil)) (b_one (s_ret [] (x_bl)))))))
def s_is_witness : Stmt := PySem.Challenge.pw_parentweave_k33_what_a_spending_may_take.main.body.getD 22 (.Pass ⟨0, 0, 0, 0⟩)
def N_is_witness : List Str := ["value"]
theorem sc_is_witness : FnScope N_is_witness ["value"] (defScope s_is_witness) := ⟨rfl, rfl, rfl, by decide +kernel, rfl, by decide +kernel, by decide +kernel⟩
def g_is_witness : Ge → Option Out := gRet [] (fCall [] [] m_fits_witness [] (fACons [] (fVar 0) (fACons [] (fC (.int 3)) (fANil))))
def m_is_witness : List T → Option (Rv × List T) := runB 1 1 [] g_is_witness
theorem b_is_witness {P : Program} {w : World} {K : PySem.W.Frag} {cl : Nat → Addr} {mg : Str → Option Value} {base : Heap} {X_NotValid : Addr} {t_DEPTH t_LAST t_MOST_AGE t_MOST_AMOUNT t_MOST_conditions t_MOST_spendings t_START t_STEP t_TOP : Tok} (T : Txt K mg X_NotValid t_DEPTH t_LAST t_MOST_AGE t_MOST_AMOUNT t_MOST_conditions t_MOST_spendings t_START t_STEP t_TOP) (c_fits_witness : Cal P w K cl mg base 11 "fits_witness" .none [] m_fits_witness []) : ∀ W, CB ⟨P, w, K, cl, mg, base, N_is_witness, defScope s_is_witness, 11⟩ W .none [] [] (defBody s_is_witness) g_is_witness := fun W =>
  b_one (s_ret [] (x_call [] c_fits_witness (x_cons (x_var 0) (x_cons (x_globI T.m_DEPTH) (x_nil)))))
def s_is_spending : Stmt := PySem.Challenge.pw_parentweave_k33_what_a_spending_may_take.main.body.getD 34 (.Pass ⟨0, 0, 0, 0⟩)
def N_is_spending : List Str := ["value", "inputs", "outputs", "witnesses", "one"]
theorem sc_is_spending : FnScope N_is_spending ["value"] (defScope s_is_spending) := ⟨rfl, rfl, rfl, by decide +kernel, rfl, by decide +kernel, by decide +kernel⟩
def g_is_spending : Ge → Option Out := gSeq (gIf (fOr (fNot (fTr (f1 (gIsi "tuple") (fVar 0)))) (fT (f2 [] gNe (fN gLenU (fACons [] (fVar 0) fANil)) (fC (.int 3))))) (gRet [] (fC (.bl false))) (gNx)) (gSeq (gAsT (fTgT 3 (fTCons (fNm 1) (fTCons (fNm 2) (fTCons (fNm 3) (fTNil))))) (fVar 0)) (gSeq (gIf (fOr (fNot (fTr (fCall [] [] m_is_row_of [] (fACons [] (fVar 1) (fACons [] (fC (.int 1)) (fANil)))))) (fOr (fNot (fTr (fCall [] [] m_is_row_of [] (fACons [] (fVar 2) (fACons [] (fC (.int 1)) (fANil)))))) (fNot (fTr (fCall [] [] m_is_row_of [] (fACons [] (fVar 3) (fACons [] (fC (.int 1)) (fANil)))))))) (gRet [] (fC (.bl false))) (gNx)) (gSeq (gIf (fOr (fNot (fTr (fN gAll (fACons [] (fLc [] [4] [4] (fSrc (fVar 1)) (fNm 4) ((fun Γ => some (Γ, true))) (fCall [] [] m_is_coin_name [] (fACons [] (fVar 4) (fANil)))) fANil)))) (fNot (fTr (fN gAll (fACons [] (fLc [] [4] [4] (fSrc (fVar 2)) (fNm 4) ((fun Γ => some (Γ, true))) (fCall [] [] m_is_output [] (fACons [] (fVar 4) (fANil)))) fANil))))) (gRet [] (fC (.bl false))) (gNx)) (gSeq (gIf (fOr (fNot (fTr (fN gAll (fACons [] (fLc [] [4] [4] (fSrc (fVar 3)) (fNm 4) ((fun Γ => some (Γ, true))) (fCall [] [] m_is_witness [] (fACons [] (fVar 4) (fANil)))) fANil)))) (fT (f2 [] gNe (fN gLenU (fACons [] (fVar 3) fANil)) (fN gLenU (fACons [] (fVar 1) fANil))))) (gRet [] (fC (.bl false))) (gNx)) (gRet [] (f2 [] gEq (fN gLenU (fACons [] (fDc true [4] [4] (fSrc (fVar 1)) (fNm 4) ((fun Γ => some (Γ, true))) (fVar 4) (fC (.bl true))) fANil)) (fN gLenU (fACons [] (fVar 1) fANil))))))))
def m_is_spending : List T → Option (Rv × List T) := runB 1 5 [1, 2, 3] g_is_spending
theorem b_is_spending {P : Program} {w : World} {K : PySem.W.Frag} {cl : Nat → Addr} {mg : Str → Option Value} {base : Heap} {X_NotValid : Addr} {t_DEPTH t_LAST t_MOST_AGE t_MOST_AMOUNT t_MOST_conditions t_MOST_spendings t_START t_STEP t_TOP : Tok} (T : Txt K mg X_NotValid t_DEPTH t_LAST t_MOST_AGE t_MOST_AMOUNT t_MOST_conditions t_MOST_spendings t_START t_STEP t_TOP) (c_is_row_of : Cal P w K cl mg base 1 "is_row_of" .none [] m_is_row_of []) (c_is_coin_name : Cal P w K cl mg base 4 "is_coin_name" .none [] m_is_coin_name []) (c_is_output : Cal P w K cl mg base 13 "is_output" .none [] m_is_output []) (c_is_witness : Cal P w K cl mg base 12 "is_witness" .none [] m_is_witness []) : ∀ W, CB ⟨P, w, K, cl, mg, base, N_is_spending, defScope s_is_spending, 13⟩ W .none [1, 2, 3] [1, 2, 3, 4] (defBody s_is_spending) g_is_spending := fun W =>
  b_more [1, 2, 3] [1, 2, 3, 4] (b_cons (s_if (y_w (w_or (y_not (y_tru (x_isi T.m_isinstance T.m_tuple (by decide +kernel) (x_var 0)))) (w_or1 (y_ne (x_lenU T.m_len (x_var 0)) (x_int))))) (b_one (s_ret [] (x_bl))) (b_nil)) (b_cons (s_asTS (x_var 0) (gs_tup 3 (gs_cons (gs_name 1) (gs_cons (gs_name 2) (gs_cons (gs_name 3) (gs_nil)))))) (b_cons (s_if (y_w (w_or (y_not (y_tru (x_call [] c_is_row_of (x_cons (x_var 1) (x_cons (x_int) (x_nil)))))) (w_or (y_not (y_tru (x_call [] c_is_row_of (x_cons (x_var 2) (x_cons (x_int) (x_nil)))))) (w_or1 (y_not (y_tru (x_call [] c_is_row_of (x_cons (x_var 3) (x_cons (x_int) (x_nil)))))))))) (b_one (s_ret [] (x_bl))) (b_nil)) (b_cons (s_if (y_w (w_or (y_not (y_tru (x_all T.m_all (x_lc [("one", 4)] [] (i_sq (x_var 1)) (by exact g_name 4) (by exact y_nil) (by exact x_call [] c_is_coin_name (x_cons (x_var 4) (x_nil))))))) (w_or1 (y_not (y_tru (x_all T.m_all (x_lc [("one", 4)] [] (i_sq (x_var 2)) (by exact g_name 4) (by exact y_nil) (by exact x_call [] c_is_output (x_cons (x_var 4) (x_nil)))))))))) (b_one (s_ret [] (x_bl))) (b_nil)) (b_cons (s_if (y_w (w_or (y_not (y_tru (x_all T.m_all (x_lc [("one", 4)] [] (i_sq (x_var 3)) (by exact g_name 4) (by exact y_nil) (by exact x_call [] c_is_witness (x_cons (x_var 4) (x_nil))))))) (w_or1 (y_ne (x_lenU T.m_len (x_var 3)) (x_lenU T.m_len (x_var 1)))))) (b_one (s_ret [] (x_bl))) (b_nil)) (b_one (s_ret [] (x_eq (x_lenU T.m_len (x_dc true [("one", 4)] (i_sq (x_var 1)) (by exact g_name 4) (by exact y_nil) (by exact x_var 4) (by exact x_bl))) (x_lenU T.m_len (x_var 1))))))))))
def s__law_spoilt : Stmt := PySem.Challenge.pw_parentweave_k33_what_a_spending_may_take.main.body.getD 53 (.Pass ⟨0, 0, 0, 0⟩)
def N__law_spoilt : List Str := ["_law_spending_here", "_law_inputs", "_law_outputs", "_law_witnesses", "_law_bad", "_law_one"]
theorem sc__law_spoilt : FnScope N__law_spoilt ["_law_spending_here"] (defScope s__law_spoilt) := ⟨rfl, rfl, rfl, by decide +kernel, rfl, by decide +kernel, by decide +kernel⟩
def g__law_spoilt : Ge → Option Out := gSeq (gAsT (fTgT 3 (fTCons (fNm 1) (fTCons (fNm 2) (fTCons (fNm 3) (fTNil))))) (fVar 0)) (gSeq (gSet [] 4 (fLst (fACons [2, 3, 2, 1, 3, 1, 2, 2, 2, 2, 1, 3, 1, 3, 1, 3, 1, 3, 1, 3] (fTup [1, 2] (fACons [] (fVar 1) (fACons [] (fVar 2) (fANil)))) (fACons [2, 1, 3, 1, 2, 2, 2, 2, 1, 3, 1, 3, 1, 3, 1, 3, 1, 3] (fTup [2, 3] (fACons [] (fN gList (fACons [] (fVar 1) fANil)) (fACons [] (fVar 2) (fACons [] (fVar 3) (fANil))))) (fACons [1, 3, 1, 2, 2, 2, 2, 1, 3, 1, 3, 1, 3, 1, 3, 1, 3] (fTup [2] (fACons [] (fTup [] (fANil)) (fACons [] (fVar 2) (fACons [] (fTup [] (fANil)) (fANil))))) (fACons [1, 2, 2, 2, 2, 1, 3, 1, 3, 1, 3, 1, 3, 1, 3] (fTup [1, 3] (fACons [] (fVar 1) (fACons [] (fTup [] (fANil)) (fACons [] (fVar 3) (fANil))))) (fACons [2, 2, 2, 1, 3, 1, 3, 1, 3, 1, 3, 1, 3] (fTup [1, 2] (fACons [] (fVar 1) (fACons [] (fVar 2) (fACons [] (f2 [] gAddU (fVar 3) (fTup [] (fACons [] (fTup [] (fACons [] (fC (.str "wait")) (fANil))) (fANil)))) (fANil))))) (fACons [2, 2, 1, 3, 1, 3, 1, 3, 1, 3, 1, 3] (fTup [2] (fACons [] (f2 [] gAddU (fVar 1) (fSl [] [] gSlU (fVar 1) (fO0) (fO1 (fC (.int 1))))) (fACons [] (fVar 2) (fACons [] (f2 [] gAddU (fVar 3) (fSl [] [] gSlU (fVar 3) (fO0) (fO1 (fC (.int 1))))) (fANil))))) (fACons [2, 1, 3, 1, 3, 1, 3, 1, 3, 1, 3] (fTup [2] (fACons [] (fTup [] (fACons [] (fTup [] (fACons [] (fC (.int 0)) (fACons [] (fC (.int 1)) (fANil)))) (fANil))) (fACons [] (fVar 2) (fACons [] (fTup [] (fACons [] (fTup [] (fACons [] (fC (.str "wait")) (fANil))) (fANil))) (fANil))))) (fACons [1, 3, 1, 3, 1, 3, 1, 3, 1, 3] (fTup [2] (fACons [] (fTup [] (fACons [] (fTup [] (fACons [] (fC (.int 5)) (fACons [] (fC (.int 4)) (fANil)))) (fANil))) (fACons [] (fVar 2) (fACons [] (fTup [] (fACons [] (fTup [] (fACons [] (fC (.str "wait")) (fANil))) (fANil))) (fANil))))) (fACons [1, 3, 1, 3, 1, 3, 1, 3] (fTup [1, 3] (fACons [] (fVar 1) (fACons [] (fTup [] (fACons [] (fTup [] (fACons [] (fC (.int 0)) (fACons [] (fTup [] (fACons [] (fC (.str "key")) (fACons [] (fC (.int 1)) (fANil)))) (fANil)))) (fANil))) (fACons [] (fVar 3) (fANil))))) (fACons [1, 3, 1, 3, 1, 3] (fTup [1, 3] (fACons [] (fVar 1) (fACons [] (fTup [] (fACons [] (fTup [] (fACons [] (f2 [] gAddU (f2 [] gPow (fC (.int 2)) (fC (.int 40))) (fC (.int 1))) (fACons [] (fTup [] (fACons [] (fC (.str "key")) (fACons [] (fC (.int 1)) (fANil)))) (fANil)))) (fANil))) (fACons [] (fVar 3) (fANil))))) (fACons [1, 3, 1, 3] (fTup [1, 3] (fACons [] (fVar 1) (fACons [] (fTup [] (fACons [] (fTup [] (fACons [] (fC (.int 1)) (fACons [] (fTup [] (fACons [] (fC (.str "key")) (fACons [] (fC (.int 0)) (fANil)))) (fANil)))) (fANil))) (fACons [] (fVar 3) (fANil))))) (fACons [1, 3] (fTup [1, 3] (fACons [] (fVar 1) (fACons [] (fTup [] (fACons [] (fTup [] (fACons [] (fC (.bl true)) (fACons [] (fTup [] (fACons [] (fC (.str "key")) (fACons [] (fC (.int 1)) (fANil)))) (fANil)))) (fANil))) (fACons [] (fVar 3) (fANil))))) (fACons [] (fTup [1, 3] (fACons [] (fVar 1) (fACons [] (f2 [] gMulV (fSl [] [] gSlU (fVar 2) (fO0) (fO1 (fC (.int 1)))) (fC (.int 5))) (fACons [] (fVar 3) (fANil))))) (fACons [] (fC .non) (fANil))))))))))))))))) (gRet [] (f2 [] gEq (fLc [] [5] [5] (fSrc (fVar 4)) (fNm 5) (fTr (fCall [] [] m_is_spending [] (fACons [] (fVar 5) (fANil)))) (fC (.int 1))) (fLst (fANil)))))
def m__law_spoilt : List T → Option (Rv × List T) := runB 1 6 [1, 2, 3, 4] g__law_spoilt
theorem b__law_spoilt {P : Program} {w : World} {K : PySem.W.Frag} {cl : Nat → Addr} {mg : Str → Option Value} {base : Heap} {X_NotValid : Addr} {t_DEPTH t_LAST t_MOST_AGE t_MOST_AMOUNT t_MOST_conditions t_MOST_spendings t_START t_STEP t_TOP : Tok} (T : Txt K mg X_NotValid t_DEPTH t_LAST t_MOST_AGE t_MOST_AMOUNT t_MOST_conditions t_MOST_spendings t_START t_STEP t_TOP) (c_is_spending : Cal P w K cl mg base 14 "is_spending" .none [] m_is_spending []) : ∀ W, CB ⟨P, w, K, cl, mg, base, N__law_spoilt, defScope s__law_spoilt, 14⟩ W .none [1, 2, 3, 4] [1, 2, 3, 4, 5] (defBody s__law_spoilt) g__law_spoilt := fun W =>
  b_more [1, 2, 3, 4] [1, 2, 3, 4, 5] (b_cons (s_asTS (x_var 0) (gs_tup 3 (gs_cons (gs_name 1) (gs_cons (gs_name 2) (gs_cons (gs_name 3) (gs_nil)))))) (b_cons (s_set 4 [] (x_lst (x_cons (x_tup [1, 2] (x_cons (x_var 1) (x_cons (x_var 2) (x_nil)))) (x_cons (x_tup [2, 3] (x_cons (x_list T.m_list (x_var 1)) (x_cons (x_var 2) (x_cons (x_var 3) (x_nil))))) (x_cons (x_tup [2] (x_cons (x_tup [] (x_nil)) (x_cons (x_var 2) (x_cons (x_tup [] (x_nil)) (x_nil))))) (x_cons (x_tup [1, 3] (x_cons (x_var 1) (x_cons (x_tup [] (x_nil)) (x_cons (x_var 3) (x_nil))))) (x_cons (x_tup [1, 2] (x_cons (x_var 1) (x_cons (x_var 2) (x_cons (x_addU (x_var 3) (x_tup [] (x_cons (x_tup [] (x_cons (x_str) (x_nil))) (x_nil)))) (x_nil))))) (x_cons (x_tup [2] (x_cons (x_addU (x_var 1) (x_slU (x_var 1) (x_o0) (x_o1 (x_int)))) (x_cons (x_var 2) (x_cons (x_addU (x_var 3) (x_slU (x_var 3) (x_o0) (x_o1 (x_int)))) (x_nil))))) (x_cons (x_tup [2] (x_cons (x_tup [] (x_cons (x_tup [] (x_cons (x_int) (x_cons (x_int) (x_nil)))) (x_nil))) (x_cons (x_var 2) (x_cons (x_tup [] (x_cons (x_tup [] (x_cons (x_str) (x_nil))) (x_nil))) (x_nil))))) (x_cons (x_tup [2] (x_cons (x_tup [] (x_cons (x_tup [] (x_cons (x_int) (x_cons (x_int) (x_nil)))) (x_nil))) (x_cons (x_var 2) (x_cons (x_tup [] (x_cons (x_tup [] (x_cons (x_str) (x_nil))) (x_nil))) (x_nil))))) (x_cons (x_tup [1, 3] (x_cons (x_var 1) (x_cons (x_tup [] (x_cons (x_tup [] (x_cons (x_int) (x_cons (x_tup [] (x_cons (x_str) (x_cons (x_int) (x_nil)))) (x_nil)))) (x_nil))) (x_cons (x_var 3) (x_nil))))) (x_cons (x_tup [1, 3] (x_cons (x_var 1) (x_cons (x_tup [] (x_cons (x_tup [] (x_cons (x_addU (x_pow (x_int) (x_int)) (x_int)) (x_cons (x_tup [] (x_cons (x_str) (x_cons (x_int) (x_nil)))) (x_nil)))) (x_nil))) (x_cons (x_var 3) (x_nil))))) (x_cons (x_tup [1, 3] (x_cons (x_var 1) (x_cons (x_tup [] (x_cons (x_tup [] (x_cons (x_int) (x_cons (x_tup [] (x_cons (x_str) (x_cons (x_int) (x_nil)))) (x_nil)))) (x_nil))) (x_cons (x_var 3) (x_nil))))) (x_cons (x_tup [1, 3] (x_cons (x_var 1) (x_cons (x_tup [] (x_cons (x_tup [] (x_cons (x_bl) (x_cons (x_tup [] (x_cons (x_str) (x_cons (x_int) (x_nil)))) (x_nil)))) (x_nil))) (x_cons (x_var 3) (x_nil))))) (x_cons (x_tup [1, 3] (x_cons (x_var 1) (x_cons (x_mulV (x_slU (x_var 2) (x_o0) (x_o1 (x_int))) (x_int)) (x_cons (x_var 3) (x_nil))))) (x_cons (x_non) (x_nil))))))))))))))))) (b_one (s_ret [] (x_eq (x_lc [("_law_one", 5)] [] (i_sq (x_var 4)) (by exact g_name 5) (by exact y_one (y_tru (x_call [] c_is_spending (x_cons (x_var 5) (x_nil))))) (by exact x_int)) (x_lst (x_nil)))))))
def s_mix : Stmt := PySem.Challenge.pw_parentweave_k33_what_a_spending_may_take.main.body.getD 12 (.Pass ⟨0, 0, 0, 0⟩)
def N_mix : List Str := ["values", "value", "mixed"]
theorem sc_mix : FnScope N_mix ["values"] (defScope s_mix) := ⟨rfl, rfl, rfl, by decide +kernel, rfl, by decide +kernel, by decide +kernel⟩
def g_mix : Ge → Option Out := gSeq (gIf (fNot (fTr (fN gAll (fACons [] (fLc [] [1] [1] (fSrc (fVar 0)) (fNm 1) ((fun Γ => some (Γ, true))) (fCall [] [] m_is_value [] (fACons [] (fVar 1) (fANil)))) fANil)))) (gRaise) (gNx)) (gSeq (gSet [] 2 (fC (.int 1469598103934665603))) (gSeq (gFor [1, 2] (fSrc (f2 [] gAddU (fLst (fACons [] (fN gLenU (fACons [] (fVar 0) fANil)) (fANil))) (fN gList (fACons [] (fVar 0) fANil)))) (fNm 1) (gSeq (gSet [] 2 (f2 [] gAnd (f2 [] gMulV (f2 [] gXor (fVar 2) (fVar 1)) (fC (.int 1099511628211))) (fC (.int 18446744073709551615)))) (gSet [] 2 (f2 [] gXor (fVar 2) (f2 [] gShr (fVar 2) (fC (.int 29))))))) (gSeq (gSet [] 2 (f2 [] gAnd (f2 [] gMulV (fVar 2) (fC (.int 11400714819323198485))) (fC (.int 18446744073709551615)))) (gSeq (gSet [] 2 (f2 [] gXor (fVar 2) (f2 [] gShr (fVar 2) (fC (.int 32))))) (gRet [] (fN gMax2 (fACons [] (fC (.int 1)) (fACons [] (fVar 2) fANil))))))))
def m_mix : List T → Option (Rv × List T) := runB 1 3 [1, 2] g_mix
theorem b_mix {P : Program} {w : World} {K : PySem.W.Frag} {cl : Nat → Addr} {mg : Str → Option Value} {base : Heap} {X_NotValid : Addr} {t_DEPTH t_LAST t_MOST_AGE t_MOST_AMOUNT t_MOST_conditions t_MOST_spendings t_START t_STEP t_TOP : Tok} (T : Txt K mg X_NotValid t_DEPTH t_LAST t_MOST_AGE t_MOST_AMOUNT t_MOST_conditions t_MOST_spendings t_START t_STEP t_TOP) (c_is_value : Cal P w K cl mg base 3 "is_value" .none [] m_is_value []) : ∀ W, CB ⟨P, w, K, cl, mg, base, N_mix, defScope s_mix, 3⟩ W (.ref X_NotValid) [1, 2] [1, 2] (defBody s_mix) g_mix := fun W =>
  b_more [1, 2] [1, 2] (b_cons (s_if (y_not (y_tru (x_all T.m_all (x_lc [("value", 1)] [] (i_sq (x_var 0)) (by exact g_name 1) (by exact y_nil) (by exact x_call [] c_is_value (x_cons (x_var 1) (x_nil))))))) (b_one (s_raise0 T.x_NotValid)) (b_nil)) (b_cons (s_set 2 [] (x_globI T.m_START)) (b_cons (s_forS (i_sq (x_addU (x_lst (x_cons (x_lenU T.m_len (x_var 0)) (x_nil))) (x_list T.m_list (x_var 0)))) (gs_name 1) (b_more [2] [2] (b_cons (s_set 2 [] (x_band (x_mulV (x_bxor (x_var 2) (x_var 1)) (x_globI T.m_STEP)) (x_globI T.m_TOP))) (b_one (s_set 2 [] (x_bxor (x_var 2) (x_shr (x_var 2) (x_int)))))))) (b_cons (s_set 2 [] (x_band (x_mulV (x_var 2) (x_globI T.m_LAST)) (x_globI T.m_TOP))) (b_cons (s_set 2 [] (x_bxor (x_var 2) (x_shr (x_var 2) (x_int)))) (b_one (s_ret [] (x_max2 T.m_max (x_int) (x_var 2)))))))))
def s_flat_condition : Stmt := PySem.Challenge.pw_parentweave_k33_what_a_spending_may_take.main.body.getD 26 (.Pass ⟨0, 0, 0, 0⟩)
def N_flat_condition : List Str := ["condition", "word", "part", "values", "one"]
theorem sc_flat_condition : FnScope N_flat_condition ["condition"] (defScope s_flat_condition) := ⟨rfl, rfl, rfl, by decide +kernel, rfl, by decide +kernel, by decide +kernel⟩
def g_flat_condition (m_flat_condition : List T → Option (Rv × List T)) : Ge → Option Out := gSeq (gAsT (fTgT 2 (fTCons (fNm 1) (fTCons (fNm 2) (fTNil)))) (fVar 0)) (gSeq (gIf (fT (f2 [] gEq (fVar 1) (fC (.str "key")))) (gRet [] (fLst (fACons [] (fC (.int 1)) (fACons [] (fVar 2) (fANil))))) (gNx)) (gSeq (gIf (fT (f2 [] gEq (fVar 1) (fC (.str "lock")))) (gRet [] (fLst (fACons [] (fC (.int 2)) (fACons [] (fVar 2) (fANil))))) (gNx)) (gSeq (gIf (fT (f2 [] gEq (fVar 1) (fC (.str "age")))) (gRet [] (fLst (fACons [] (fC (.int 3)) (fACons [] (fVar 2) (fANil))))) (gNx)) (gSeq (gSet [] 3 (fLst (fACons [] (fIf (fT (f2 [] gEq (fVar 1) (fC (.str "all")))) (fC (.int 4)) (fC (.int 5))) (fACons [] (fN gLenU (fACons [] (fVar 2) fANil)) (fANil))))) (gSeq (gFor [4, 3] (fSrc (fVar 2)) (fNm 4) (gDrop (fMt [3] [] [] isLst gExt (fVar 3) (fACons [] (fCall [] [] m_flat_condition [] (fACons [] (fVar 4) (fANil))) fANil)))) (gRet [3] (fVar 3)))))))
def r_flat_condition : Nat → List T → Option (Rv × List T)
  | 0, _ => none
  | n + 1, ts => runB 1 5 [1, 2, 3, 4] (g_flat_condition (r_flat_condition n)) ts
def m_flat_condition : List T → Option (Rv × List T) := r_flat_condition 8
theorem b_flat_condition {P : Program} {w : World} {K : PySem.W.Frag} {cl : Nat → Addr} {mg : Str → Option Value} {base : Heap} {X_NotValid : Addr} {t_DEPTH t_LAST t_MOST_AGE t_MOST_AMOUNT t_MOST_conditions t_MOST_spendings t_START t_STEP t_TOP : Tok} (T : Txt K mg X_NotValid t_DEPTH t_LAST t_MOST_AGE t_MOST_AMOUNT t_MOST_conditions t_MOST_spendings t_START t_STEP t_TOP)  (k : Nat) (hk : Nat.ble 0 k = true) {m_flat_condition : List Vx.T → Option (Rv × List Vx.T)} (c_flat_condition : Cal P w K cl mg base k "flat_condition" .none [] m_flat_condition []) : ∀ W, CB ⟨P, w, K, cl, mg, base, N_flat_condition, defScope s_flat_condition, k⟩ W .none [1, 2, 3, 4] [1, 2, 3, 4] (defBody s_flat_condition) (g_flat_condition m_flat_condition) := fun W =>
  b_more [1, 2, 3, 4] [1, 2, 3, 4] (b_cons (s_asTS (x_var 0) (gs_tup 2 (gs_cons (gs_name 1) (gs_cons (gs_name 2) (gs_nil))))) (b_cons (s_if (y_eq (x_var 1) (x_str)) (b_one (s_ret [] (x_lst (x_cons (x_int) (x_cons (x_var 2) (x_nil)))))) (b_nil)) (b_cons (s_if (y_eq (x_var 1) (x_str)) (b_one (s_ret [] (x_lst (x_cons (x_int) (x_cons (x_var 2) (x_nil)))))) (b_nil)) (b_cons (s_if (y_eq (x_var 1) (x_str)) (b_one (s_ret [] (x_lst (x_cons (x_int) (x_cons (x_var 2) (x_nil)))))) (b_nil)) (b_cons (s_set 3 [] (x_lst (x_cons (x_if (y_eq (x_var 1) (x_str)) (x_int) (x_int)) (x_cons (x_lenU T.m_len (x_var 2)) (x_nil))))) (b_cons (s_forS (i_sq (x_var 2)) (gs_name 4) (b_one (s_drop (x_extend [3] [] (x_var 3) (x_call (hk := blR k) [] c_flat_condition (x_cons (x_var 4) (x_nil))))))) (b_one (s_ret [3] (x_var 3)))))))))
def s_values_of : Stmt := PySem.Challenge.pw_parentweave_k33_what_a_spending_may_take.main.body.getD 35 (.Pass ⟨0, 0, 0, 0⟩)
def N_values_of : List Str := ["spending", "inputs", "outputs", "_", "values", "name", "index", "amount", "condition"]
theorem sc_values_of : FnScope N_values_of ["spending"] (defScope s_values_of) := ⟨rfl, rfl, rfl, by decide +kernel, rfl, by decide +kernel, by decide +kernel⟩
def g_values_of : Ge → Option Out := gSeq (gAsT (fTgT 3 (fTCons (fNm 1) (fTCons (fNm 2) (fTCons (fNm 3) (fTNil))))) (fVar 0)) (gSeq (gSet [] 4 (fLst (fACons [] (fC (.int 1)) (fACons [] (fN gLenU (fACons [] (fVar 1) fANil)) (fANil))))) (gSeq (gFor [5, 6, 4] (fSrc (fVar 1)) (fTgT 2 (fTCons (fNm 5) (fTCons (fNm 6) (fTNil)))) (gDrop (fMt [4] [] [] isLst gExt (fVar 4) (fACons [] (fLst (fACons [] (fVar 5) (fACons [] (fVar 6) (fANil)))) fANil)))) (gSeq (gDrop (fMt [4] [] [] isLst gApp (fVar 4) (fACons [] (fN gLenU (fACons [] (fVar 2) fANil)) fANil))) (gSeq (gFor [7, 8, 4, 7] (fSrc (fVar 2)) (fTgT 2 (fTCons (fNm 7) (fTCons (fNm 8) (fTNil)))) (gSeq (gDrop (fMt [4] [7] [] isLst gApp (fVar 4) (fACons [] (fVar 7) fANil))) (gDrop (fMt [4] [] [] isLst gExt (fVar 4) (fACons [] (fCall [] [] m_flat_condition [] (fACons [] (fVar 8) (fANil))) fANil))))) (gRet [4] (fVar 4))))))
def m_values_of : List T → Option (Rv × List T) := runB 1 9 [1, 2, 3, 4, 5, 6, 7, 8] g_values_of
theorem b_values_of {P : Program} {w : World} {K : PySem.W.Frag} {cl : Nat → Addr} {mg : Str → Option Value} {base : Heap} {X_NotValid : Addr} {t_DEPTH t_LAST t_MOST_AGE t_MOST_AMOUNT t_MOST_conditions t_MOST_spendings t_START t_STEP t_TOP : Tok} (T : Txt K mg X_NotValid t_DEPTH t_LAST t_MOST_AGE t_MOST_AMOUNT t_MOST_conditions t_MOST_spendings t_START t_STEP t_TOP) (c_flat_condition : Cal P w K cl mg base 8 "flat_condition" .none [] m_flat_condition []) : ∀ W, CB ⟨P, w, K, cl, mg, base, N_values_of, defScope s_values_of, 8⟩ W .none [1, 2, 3, 4, 5, 6, 7, 8] [1, 2, 3, 4, 5, 6, 7, 8] (defBody s_values_of) g_values_of := fun W =>
  b_more [1, 2, 3, 4, 5, 6, 7, 8] [1, 2, 3, 4, 5, 6, 7, 8] (b_cons (s_asTS (x_var 0) (gs_tup 3 (gs_cons (gs_name 1) (gs_cons (gs_name 2) (gs_cons (gs_name 3) (gs_nil)))))) (b_cons (s_set 4 [] (x_lst (x_cons (x_int) (x_cons (x_lenU T.m_len (x_var 1)) (x_nil))))) (b_cons (s_forS (i_sq (x_var 1)) (gs_tup 2 (gs_cons (gs_name 5) (gs_cons (gs_name 6) (gs_nil)))) (b_one (s_drop (x_extend [4] [] (x_var 4) (x_lst (x_cons (x_var 5) (x_cons (x_var 6) (x_nil)))))))) (b_cons (s_drop (x_append [4] [] (x_var 4) (x_lenU T.m_len (x_var 2)))) (b_cons (s_forS (i_sq (x_var 2)) (gs_tup 2 (gs_cons (gs_name 7) (gs_cons (gs_name 8) (gs_nil)))) (b_more [] [4, 7] (b_cons (s_drop (x_append [4] [7] (x_var 4) (x_var 7))) (b_one (s_drop (x_extend [4] [] (x_var 4) (x_call [] c_flat_condition (x_cons (x_var 8) (x_nil))))))))) (b_one (s_ret [4] (x_var 4))))))))
def s_spending_name : Stmt := PySem.Challenge.pw_parentweave_k33_what_a_spending_may_take.main.body.getD 36 (.Pass ⟨0, 0, 0, 0⟩)
def N_spending_name : List Str := ["spending"]
theorem sc_spending_name : FnScope N_spending_name ["spending"] (defScope s_spending_name) := ⟨rfl, rfl, rfl, by decide +kernel, rfl, by decide +kernel, by decide +kernel⟩
def g_spending_name : Ge → Option Out := gRet [] (fCall [] [] m_mix [] (fACons [] (fCall [] [] m_values_of [] (fACons [] (fVar 0) (fANil))) (fANil)))
def m_spending_name : List T → Option (Rv × List T) := runB 1 1 [] g_spending_name
theorem b_spending_name {P : Program} {w : World} {K : PySem.W.Frag} {cl : Nat → Addr} {mg : Str → Option Value} {base : Heap} {X_NotValid : Addr} {t_DEPTH t_LAST t_MOST_AGE t_MOST_AMOUNT t_MOST_conditions t_MOST_spendings t_START t_STEP t_TOP : Tok} (T : Txt K mg X_NotValid t_DEPTH t_LAST t_MOST_AGE t_MOST_AMOUNT t_MOST_conditions t_MOST_spendings t_START t_STEP t_TOP) (c_mix : Cal P w K cl mg base 4 "mix" (.ref X_NotValid) [] m_mix []) (c_values_of : Cal P w K cl mg base 9 "values_of" .none [] m_values_of []) : ∀ W, CB ⟨P, w, K, cl, mg, base, N_spending_name, defScope s_spending_name, 9⟩ W .none [] [] (defBody s_spending_name) g_spending_name := fun W =>
  b_one (s_ret [] (x_call [] c_mix (x_cons (x_call [] c_values_of (x_cons (x_var 0) (x_nil))) (x_nil))))
def s__law_flat_witness : Stmt := PySem.Challenge.pw_parentweave_k33_what_a_spending_may_take.main.body.getD 48 (.Pass ⟨0, 0, 0, 0⟩)
def N__law_flat_witness : List Str := ["_law_witness_here", "_law_values_here", "_law_one"]
theorem sc__law_flat_witness : FnScope N__law_flat_witness ["_law_witness_here"] (defScope s__law_flat_witness) := ⟨rfl, rfl, rfl, by decide +kernel, rfl, by decide +kernel, by decide +kernel⟩
def g__law_flat_witness (m__law_flat_witness : List T → Option (Rv × List T)) : Ge → Option Out := gSeq (gIf (fT (f2 [] (gInU false) (fIx [] gIxU (fVar 0) (fC (.int 0))) (fTup [] (fACons [] (fC (.str "token")) (fACons [] (fC (.str "value")) (fANil)))))) (gRet [] (fLst (fACons [] (fIx [] gIxU (fun Γ => some (Γ, .val (.ow false (.dK [.inr "token", .inr "value"]) (([.int 1, .int 2] : List V).map Vx.T.v)))) (fIx [] gIxU (fVar 0) (fC (.int 0)))) (fACons [] (fIx [] gIxU (fVar 0) (fC (.int 1))) (fANil))))) (gNx)) (gSeq (gIf (fT (f2 [] gEq (fIx [] gIxU (fVar 0) (fC (.int 0))) (fC (.str "wait")))) (gRet [] (fLst (fACons [] (fC (.int 3)) (fANil)))) (gNx)) (gSeq (gIf (fT (f2 [] gEq (fIx [] gIxU (fVar 0) (fC (.int 0))) (fC (.str "any")))) (gRet [] (f2 [] gAddU (fLst (fACons [] (fC (.int 5)) (fACons [] (fIx [] gIxU (fVar 0) (fC (.int 1))) (fANil)))) (fCall [] [] m__law_flat_witness [] (fACons [] (fIx [] gIxU (fVar 0) (fC (.int 2))) (fANil))))) (gNx)) (gSeq (gSet [] 1 (fLst (fACons [] (fC (.int 4)) (fACons [] (fN gLenU (fACons [] (fIx [] gIxU (fVar 0) (fC (.int 1))) fANil)) (fANil))))) (gSeq (gFor [2, 1] (fSrc (fIx [] gIxU (fVar 0) (fC (.int 1)))) (fNm 2) (gSet [] 1 (f2 [] gAddU (fVar 1) (fCall [] [] m__law_flat_witness [] (fACons [] (fVar 2) (fANil)))))) (gRet [1] (fVar 1))))))
def r__law_flat_witness : Nat → List T → Option (Rv × List T)
  | 0, _ => none
  | n + 1, ts => runB 1 3 [1, 2] (g__law_flat_witness (r__law_flat_witness n)) ts
def m__law_flat_witness : List T → Option (Rv × List T) := r__law_flat_witness 8
theorem b__law_flat_witness {P : Program} {w : World} {K : PySem.W.Frag} {cl : Nat → Addr} {mg : Str → Option Value} {base : Heap} {X_NotValid : Addr} {t_DEPTH t_LAST t_MOST_AGE t_MOST_AMOUNT t_MOST_conditions t_MOST_spendings t_START t_STEP t_TOP : Tok} (T : Txt K mg X_NotValid t_DEPTH t_LAST t_MOST_AGE t_MOST_AMOUNT t_MOST_conditions t_MOST_spendings t_START t_STEP t_TOP)  (k : Nat) (hk : Nat.ble 0 k = true) {m__law_flat_witness : List Vx.T → Option (Rv × List Vx.T)} (c__law_flat_witness : Cal P w K cl mg base k "_law_flat_witness" .none [] m__law_flat_witness []) : ∀ W, CB ⟨P, w, K, cl, mg, base, N__law_flat_witness, defScope s__law_flat_witness, k⟩ W .none [1, 2] [1, 2] (defBody s__law_flat_witness) (g__law_flat_witness m__law_flat_witness) := fun W =>
  b_more [1, 2] [1, 2] (b_cons (s_if (y_inU (x_ixU (x_var 0) (x_int)) (x_tup [] (x_cons (x_str) (x_cons (x_str) (x_nil))))) (b_one (s_ret [] (x_lst (x_cons (x_ixU (x_disp [.inr "token", .inr "value"] [.int 1, .int 2] (fun _ => pps_cons pe_str pe_int (pps_cons pe_str pe_int (pps_nil)))) (x_ixU (x_var 0) (x_int))) (x_cons (x_ixU (x_var 0) (x_int)) (x_nil)))))) (b_nil)) (b_cons (s_if (y_eq (x_ixU (x_var 0) (x_int)) (x_str)) (b_one (s_ret [] (x_lst (x_cons (x_int) (x_nil))))) (b_nil)) (b_cons (s_if (y_eq (x_ixU (x_var 0) (x_int)) (x_str)) (b_one (s_ret [] (x_addU (x_lst (x_cons (x_int) (x_cons (x_ixU (x_var 0) (x_int)) (x_nil)))) (x_call (hk := blR k) [] c__law_flat_witness (x_cons (x_ixU (x_var 0) (x_int)) (x_nil)))))) (b_nil)) (b_cons (s_set 1 [] (x_lst (x_cons (x_int) (x_cons (x_lenU T.m_len (x_ixU (x_var 0) (x_int))) (x_nil))))) (b_cons (s_forS (i_sq (x_ixU (x_var 0) (x_int))) (gs_name 2) (b_one (s_set 1 [] (x_addU (x_var 1) (x_call (hk := blR k) [] c__law_flat_witness (x_cons (x_var 2) (x_nil))))))) (b_one (s_ret [1] (x_var 1))))))))
def s_flat_witness : Stmt := PySem.Challenge.pw_parentweave_k33_what_a_spending_may_take.main.body.getD 27 (.Pass ⟨0, 0, 0, 0⟩)
def N_flat_witness : List Str := ["witness", "word", "values", "one"]
theorem sc_flat_witness : FnScope N_flat_witness ["witness"] (defScope s_flat_witness) := ⟨rfl, rfl, rfl, by decide +kernel, rfl, by decide +kernel, by decide +kernel⟩
def g_flat_witness (m_flat_witness : List T → Option (Rv × List T)) : Ge → Option Out := gSeq (gSet [] 1 (fIx [] gIxU (fVar 0) (fC (.int 0)))) (gSeq (gIf (fT (f2 [] gEq (fVar 1) (fC (.str "token")))) (gRet [] (fLst (fACons [] (fC (.int 1)) (fACons [] (fIx [] gIxU (fVar 0) (fC (.int 1))) (fANil))))) (gNx)) (gSeq (gIf (fT (f2 [] gEq (fVar 1) (fC (.str "value")))) (gRet [] (fLst (fACons [] (fC (.int 2)) (fACons [] (fIx [] gIxU (fVar 0) (fC (.int 1))) (fANil))))) (gNx)) (gSeq (gIf (fT (f2 [] gEq (fVar 1) (fC (.str "wait")))) (gRet [] (fLst (fACons [] (fC (.int 3)) (fANil)))) (gNx)) (gSeq (gIf (fT (f2 [] gEq (fVar 1) (fC (.str "any")))) (gRet [] (f2 [] gAddU (fLst (fACons [] (fC (.int 5)) (fACons [] (fIx [] gIxU (fVar 0) (fC (.int 1))) (fANil)))) (fCall [] [] m_flat_witness [] (fACons [] (fIx [] gIxU (fVar 0) (fC (.int 2))) (fANil))))) (gNx)) (gSeq (gSet [] 2 (fLst (fACons [] (fC (.int 4)) (fACons [] (fN gLenU (fACons [] (fIx [] gIxU (fVar 0) (fC (.int 1))) fANil)) (fANil))))) (gSeq (gFor [3, 2] (fSrc (fIx [] gIxU (fVar 0) (fC (.int 1)))) (fNm 3) (gDrop (fMt [2] [] [] isLst gExt (fVar 2) (fACons [] (fCall [] [] m_flat_witness [] (fACons [] (fVar 3) (fANil))) fANil)))) (gRet [2] (fVar 2))))))))
def r_flat_witness : Nat → List T → Option (Rv × List T)
  | 0, _ => none
  | n + 1, ts => runB 1 4 [1, 2, 3] (g_flat_witness (r_flat_witness n)) ts
def m_flat_witness : List T → Option (Rv × List T) := r_flat_witness 8
theorem b_flat_witness {P : Program} {w : World} {K : PySem.W.Frag} {cl : Nat → Addr} {mg : Str → Option Value} {base : Heap} {X_NotValid : Addr} {t_DEPTH t_LAST t_MOST_AGE t_MOST_AMOUNT t_MOST_conditions t_MOST_spendings t_START t_STEP t_TOP : Tok} (T : Txt K mg X_NotValid t_DEPTH t_LAST t_MOST_AGE t_MOST_AMOUNT t_MOST_conditions t_MOST_spendings t_START t_STEP t_TOP)  (k : Nat) (hk : Nat.ble 0 k = true) {m_flat_witness : List Vx.T → Option (Rv × List Vx.T)} (c_flat_witness : Cal P w K cl mg base k "flat_witness" .none [] m_flat_witness []) : ∀ W, CB ⟨P, w, K, cl, mg, base, N_flat_witness, defScope s_flat_witness, k⟩ W .none [1, 2, 3] [1, 2, 3] (defBody s_flat_witness) (g_flat_witness m_flat_witness) := fun W =>
  b_more [1, 2, 3] [1, 2, 3] (b_cons (s_set 1 [] (x_ixU (x_var 0) (x_int))) (b_cons (s_if (y_eq (x_var 1) (x_str)) (b_one (s_ret [] (x_lst (x_cons (x_int) (x_cons (x_ixU (x_var 0) (x_int)) (x_nil)))))) (b_nil)) (b_cons (s_if (y_eq (x_var 1) (x_str)) (b_one (s_ret [] (x_lst (x_cons (x_int) (x_cons (x_ixU (x_var 0) (x_int)) (x_nil)))))) (b_nil)) (b_cons (s_if (y_eq (x_var 1) (x_str)) (b_one (s_ret [] (x_lst (x_cons (x_int) (x_nil))))) (b_nil)) (b_cons (s_if (y_eq (x_var 1) (x_str)) (b_one (s_ret [] (x_addU (x_lst (x_cons (x_int) (x_cons (x_ixU (x_var 0) (x_int)) (x_nil)))) (x_call (hk := blR k) [] c_flat_witness (x_cons (x_ixU (x_var 0) (x_int)) (x_nil)))))) (b_nil)) (b_cons (s_set 2 [] (x_lst (x_cons (x_int) (x_cons (x_lenU T.m_len (x_ixU (x_var 0) (x_int))) (x_nil))))) (b_cons (s_forS (i_sq (x_ixU (x_var 0) (x_int))) (gs_name 3) (b_one (s_drop (x_extend [2] [] (x_var 2) (x_call (hk := blR k) [] c_flat_witness (x_cons (x_var 3) (x_nil))))))) (b_one (s_ret [2] (x_var 2))))))))))
def s_flat_spending : Stmt := PySem.Challenge.pw_parentweave_k33_what_a_spending_may_take.main.body.getD 37 (.Pass ⟨0, 0, 0, 0⟩)
def N_flat_spending : List Str := ["spending", "values", "witness"]
theorem sc_flat_spending : FnScope N_flat_spending ["spending"] (defScope s_flat_spending) := ⟨rfl, rfl, rfl, by decide +kernel, rfl, by decide +kernel, by decide +kernel⟩
def g_flat_spending : Ge → Option Out := gSeq (gSet [] 1 (fCall [] [] m_values_of [] (fACons [] (fVar 0) (fANil)))) (gSeq (gDrop (fMt [1] [] [] isLst gApp (fVar 1) (fACons [] (fN gLenU (fACons [] (fIx [] gIxU (fVar 0) (fC (.int 2))) fANil)) fANil))) (gSeq (gFor [2, 1] (fSrc (fIx [] gIxU (fVar 0) (fC (.int 2)))) (fNm 2) (gDrop (fMt [1] [] [] isLst gExt (fVar 1) (fACons [] (fCall [] [] m_flat_witness [] (fACons [] (fVar 2) (fANil))) fANil)))) (gRet [1] (fVar 1))))
def m_flat_spending : List T → Option (Rv × List T) := runB 1 3 [1, 2] g_flat_spending
theorem b_flat_spending {P : Program} {w : World} {K : PySem.W.Frag} {cl : Nat → Addr} {mg : Str → Option Value} {base : Heap} {X_NotValid : Addr} {t_DEPTH t_LAST t_MOST_AGE t_MOST_AMOUNT t_MOST_conditions t_MOST_spendings t_START t_STEP t_TOP : Tok} (T : Txt K mg X_NotValid t_DEPTH t_LAST t_MOST_AGE t_MOST_AMOUNT t_MOST_conditions t_MOST_spendings t_START t_STEP t_TOP) (c_values_of : Cal P w K cl mg base 9 "values_of" .none [] m_values_of []) (c_flat_witness : Cal P w K cl mg base 8 "flat_witness" .none [] m_flat_witness []) : ∀ W, CB ⟨P, w, K, cl, mg, base, N_flat_spending, defScope s_flat_spending, 9⟩ W .none [1, 2] [1, 2] (defBody s_flat_spending) g_flat_spending := fun W =>
  b_more [1, 2] [1, 2] (b_cons (s_set 1 [] (x_call [] c_values_of (x_cons (x_var 0) (x_nil)))) (b_cons (s_drop (x_append [1] [] (x_var 1) (x_lenU T.m_len (x_ixU (x_var 0) (x_int))))) (b_cons (s_forS (i_sq (x_ixU (x_var 0) (x_int))) (gs_name 2) (b_one (s_drop (x_extend [1] [] (x_var 1) (x_call [] c_flat_witness (x_cons (x_var 2) (x_nil))))))) (b_one (s_ret [1] (x_var 1))))))
def s__law_met : Stmt := PySem.Challenge.pw_parentweave_k33_what_a_spending_may_take.main.body.getD 46 (.Pass ⟨0, 0, 0, 0⟩)
def N__law_met : List Str := ["_law_condition_here", "_law_witness_here", "_law_name", "_law_age", "_law_word", "_law_part", "_law_k"]
theorem sc__law_met : FnScope N__law_met ["_law_condition_here", "_law_witness_here", "_law_name", "_law_age"] (defScope s__law_met) := ⟨rfl, rfl, rfl, by decide +kernel, rfl, by decide +kernel, by decide +kernel⟩
def g__law_met (m__law_met : List T → Option (Rv × List T)) : Ge → Option Out := gSeq (gAsT (fTgT 2 (fTCons (fNm 4) (fTCons (fNm 5) (fTNil)))) (fVar 0)) (gSeq (gIf (fT (f2 [] gEq (fVar 4) (fC (.str "key")))) (gRet [] (f2 [2, 5] gEq (fVar 1) (fTup [] (fACons [2, 5] (fC (.str "token")) (fACons [] (fCall [] [] m__law_mix [] (fACons [] (fTup [2, 5] (fACons [] (fC (.int 3)) (fACons [] (fVar 5) (fACons [] (fVar 2) (fANil))))) (fANil))) (fANil)))))) (gNx)) (gSeq (gIf (fT (f2 [] gEq (fVar 4) (fC (.str "lock")))) (gRet [] (fAndV (f2 [] gEq (fIx [] gIxU (fVar 1) (fC (.int 0))) (fC (.str "value"))) (f2 [] gEq (fCall [] [] m__law_mix [] (fACons [] (fTup [1] (fACons [] (fC (.int 4)) (fACons [] (fIx [] gIxU (fVar 1) (fC (.int 1))) (fANil)))) (fANil))) (fVar 5)))) (gNx)) (gSeq (gIf (fT (f2 [] gEq (fVar 4) (fC (.str "age")))) (gRet [] (fAndV (f2 [] gEq (fVar 1) (fTup [] (fACons [] (fC (.str "wait")) (fANil)))) (f2 [] gGe (fVar 3) (fVar 5)))) (gNx)) (gSeq (gIf (fT (f2 [] gEq (fVar 4) (fC (.str "all")))) (gSeq (gIf (fOr (fT (f2 [] gNe (fIx [] gIxU (fVar 1) (fC (.int 0))) (fC (.str "all")))) (fT (f2 [] gNe (fN gLenU (fACons [] (fIx [] gIxU (fVar 1) (fC (.int 1))) fANil)) (fN gLenU (fACons [] (fVar 5) fANil))))) (gRet [] (fC (.bl false))) (gNx)) (gRet [] (f2 [] gEq (fLc [] [6, 1, 2] [6] (fR1 (fACons [] (fN gLenU (fACons [] (fVar 5) fANil)) fANil)) (fNm 6) (fNot (fTr (fCall [1, 2] [1, 2] m__law_met [] (fACons [] (fIx [] gIxU (fVar 5) (fVar 6)) (fACons [] (fIx [] gIxU (fIx [] gIxU (fVar 1) (fC (.int 1))) (fVar 6)) (fACons [] (fVar 2) (fACons [] (fVar 3) (fANil)))))))) (fC (.int 1))) (fLst (fANil))))) (gNx)) (gRet [] (fAndV (f2 [] gEq (fIx [] gIxU (fVar 1) (fC (.int 0))) (fC (.str "any"))) (fAndV (f2 [] gLt (fIx [] gIxU (fVar 1) (fC (.int 1))) (fN gLenU (fACons [] (fVar 5) fANil))) (fCall [1, 2] [1, 2] m__law_met [] (fACons [] (fIx [] gIxU (fVar 5) (fIx [] gIxU (fVar 1) (fC (.int 1)))) (fACons [] (fIx [] gIxU (fVar 1) (fC (.int 2))) (fACons [] (fVar 2) (fACons [] (fVar 3) (fANil)))))))))))))
def r__law_met : Nat → List T → Option (Rv × List T)
  | 0, _ => none
  | n + 1, ts => runB 4 7 [4, 5] (g__law_met (r__law_met n)) ts
def m__law_met : List T → Option (Rv × List T) := r__law_met 8
theorem b__law_met {P : Program} {w : World} {K : PySem.W.Frag} {cl : Nat → Addr} {mg : Str → Option Value} {base : Heap} {X_NotValid : Addr} {t_DEPTH t_LAST t_MOST_AGE t_MOST_AMOUNT t_MOST_conditions t_MOST_spendings t_START t_STEP t_TOP : Tok} (T : Txt K mg X_NotValid t_DEPTH t_LAST t_MOST_AGE t_MOST_AMOUNT t_MOST_conditions t_MOST_spendings t_START t_STEP t_TOP) (c__law_mix : Cal P w K cl mg base 1 "_law_mix" .none [] m__law_mix []) (k : Nat) (hk : Nat.ble 1 k = true) {m__law_met : List Vx.T → Option (Rv × List Vx.T)} (c__law_met : Cal P w K cl mg base k "_law_met" .none [1, 2] m__law_met []) : ∀ W, CB ⟨P, w, K, cl, mg, base, N__law_met, defScope s__law_met, k⟩ W .none [4, 5] [1, 2, 4, 5, 6] (defBody s__law_met) (g__law_met m__law_met) := fun W =>
  b_more [4, 5] [1, 2, 4, 5, 6] (b_cons (s_asTS (x_var 0) (gs_tup 2 (gs_cons (gs_name 4) (gs_cons (gs_name 5) (gs_nil))))) (b_cons (s_if (y_eq (x_var 4) (x_str)) (b_one (s_ret [] (x_eq (x_var 1) (x_tup [] (x_cons (x_str) (x_cons (x_call (hk := blT (by rfl) hk) [] c__law_mix (x_cons (x_tup [2, 5] (x_cons (x_int) (x_cons (x_var 5) (x_cons (x_var 2) (x_nil))))) (x_nil))) (x_nil))))))) (b_nil)) (b_cons (s_if (y_eq (x_var 4) (x_str)) (b_one (s_ret [] (x_and (x_eq (x_ixU (x_var 1) (x_int)) (x_str)) (x_one (x_eq (x_call (hk := blT (by rfl) hk) [] c__law_mix (x_cons (x_tup [1] (x_cons (x_int) (x_cons (x_ixU (x_var 1) (x_int)) (x_nil)))) (x_nil))) (x_var 5)))))) (b_nil)) (b_cons (s_if (y_eq (x_var 4) (x_str)) (b_one (s_ret [] (x_and (x_eq (x_var 1) (x_tup [] (x_cons (x_str) (x_nil)))) (x_one (x_ge (x_var 3) (x_var 5)))))) (b_nil)) (b_cons (s_if (y_eq (x_var 4) (x_str)) (b_cons (s_if (y_w (w_or (y_ne (x_ixU (x_var 1) (x_int)) (x_str)) (w_or1 (y_ne (x_lenU T.m_len (x_ixU (x_var 1) (x_int))) (x_lenU T.m_len (x_var 5)))))) (b_one (s_ret [] (x_bl))) (b_nil)) (b_one (s_ret [] (x_eq (x_lc [("_law_k", 6)] [] (i_r1 T.m_range (x_lenU T.m_len (x_var 5))) (by exact g_name 6) (by exact y_one (y_not (y_tru (x_call (hk := blR k) [1, 2] c__law_met (x_cons (x_ixU (x_var 5) (x_var 6)) (x_cons (x_ixU (x_ixU (x_var 1) (x_int)) (x_var 6)) (x_cons (x_var 2) (x_cons (x_var 3) (x_nil))))))))) (by exact x_int)) (x_lst (x_nil)))))) (b_nil)) (b_one (s_ret [] (x_and (x_eq (x_ixU (x_var 1) (x_int)) (x_str)) (x_and (x_lt (x_ixU (x_var 1) (x_int)) (x_lenU T.m_len (x_var 5))) (x_one (x_call (hk := blR k) [1, 2] c__law_met (x_cons (x_ixU (x_var 5) (x_ixU (x_var 1) (x_int))) (x_cons (x_ixU (x_var 1) (x_int)) (x_cons (x_var 2) (x_cons (x_var 3) (x_nil))))))))))))))))
def s__law_fault : Stmt := PySem.Challenge.pw_parentweave_k33_what_a_spending_may_take.main.body.getD 51 (.Pass ⟨0, 0, 0, 0⟩)
def N__law_fault : List Str := ["_law_spending_here", "_law_coins_here", "_law_weight", "_law_inputs", "_law_outputs", "_law_witnesses", "_law_one", "_law_name", "_law_k", "_law_output"]
theorem sc__law_fault : FnScope N__law_fault ["_law_spending_here", "_law_coins_here", "_law_weight"] (defScope s__law_fault) := ⟨rfl, rfl, rfl, by decide +kernel, rfl, by decide +kernel, by decide +kernel⟩
def g__law_fault : Ge → Option Out := gSeq (gAsT (fTgT 3 (fTCons (fNm 3) (fTCons (fNm 4) (fTCons (fNm 5) (fTNil))))) (fVar 0)) (gSeq (gFor [6, 6] (fSrc (fVar 3)) (fNm 6) (gIf (fT (f2 [] (gInU true) (fVar 6) (fVar 1))) (gRet [] (fTup [6] (fACons [] (fC (.str "gone")) (fACons [] (fVar 6) (fANil))))) (gNx))) (gSeq (gSet [] 7 (fCall [] [] m__law_mix [] (fACons [] (fCall [] [] m__law_values [] (fACons [] (fVar 3) (fACons [] (fVar 4) (fANil)))) (fANil)))) (gSeq (gFor [8, 5, 7, 8] (fR1 (fACons [] (fN gLenU (fACons [] (fVar 3) fANil)) fANil)) (fNm 8) (gIf (fNot (fTr (fCall [5, 7] [1, 2] m__law_met [] (fACons [] (fIx [] gIxU (fIx [] gIxU (fVar 1) (fIx [] gIxU (fVar 3) (fVar 8))) (fC (.int 1))) (fACons [] (fIx [] gIxU (fVar 5) (fVar 8)) (fACons [] (fVar 7) (fACons [] (f2 [] Vx.gSub (fVar 2) (fIx [] gIxU (fIx [] gIxU (fVar 1) (fIx [] gIxU (fVar 3) (fVar 8))) (fC (.int 2)))) (fANil)))))))) (gRet [] (fTup [8] (fACons [] (fC (.str "witness")) (fACons [] (fVar 8) (fANil))))) (gNx))) (gSeq (gIf (fT (f2 [6] gGt (fN gSum (fACons [] (fLc [] [9] [9] (fSrc (fVar 4)) (fNm 9) ((fun Γ => some (Γ, true))) (fIx [] gIxU (fVar 9) (fC (.int 0)))) fANil)) (fN gSum (fACons [] (fLc [] [6] [6] (fSrc (fVar 3)) (fNm 6) ((fun Γ => some (Γ, true))) (fIx [] gIxU (fIx [] gIxU (fVar 1) (fVar 6)) (fC (.int 0)))) fANil)))) (gRet [] (fTup [] (fACons [] (fC (.str "amount")) (fANil)))) (gNx)) (gSeq (gFor [8, 7, 8] (fR1 (fACons [] (fN gLenU (fACons [] (fVar 4) fANil)) fANil)) (fNm 8) (gIf (fT (f2 [] (gInU false) (fTup [7, 8] (fACons [] (fVar 7) (fACons [] (fVar 8) (fANil)))) (fVar 1))) (gRet [] (fTup [] (fACons [7, 8] (fC (.str "there")) (fACons [] (fTup [7, 8] (fACons [] (fVar 7) (fACons [] (fVar 8) (fANil)))) (fANil))))) (gNx))) (gRet [] (fC .non)))))))
def m__law_fault : List T → Option (Rv × List T) := runB 3 10 [3, 4, 5, 6, 7, 8] g__law_fault
theorem b__law_fault {P : Program} {w : World} {K : PySem.W.Frag} {cl : Nat → Addr} {mg : Str → Option Value} {base : Heap} {X_NotValid : Addr} {t_DEPTH t_LAST t_MOST_AGE t_MOST_AMOUNT t_MOST_conditions t_MOST_spendings t_START t_STEP t_TOP : Tok} (T : Txt K mg X_NotValid t_DEPTH t_LAST t_MOST_AGE t_MOST_AMOUNT t_MOST_conditions t_MOST_spendings t_START t_STEP t_TOP) (c__law_mix : Cal P w K cl mg base 1 "_law_mix" .none [] m__law_mix []) (c__law_values : Cal P w K cl mg base 9 "_law_values" .none [] m__law_values []) (c__law_met : Cal P w K cl mg base 9 "_law_met" .none [1, 2] m__law_met []) : ∀ W, CB ⟨P, w, K, cl, mg, base, N__law_fault, defScope s__law_fault, 9⟩ W .none [3, 4, 5, 6, 7, 8] [3, 4, 5, 6, 7, 8, 9] (defBody s__law_fault) g__law_fault := fun W =>
  b_more [3, 4, 5, 6, 7, 8] [3, 4, 5, 6, 7, 8, 9] (b_cons (s_asTS (x_var 0) (gs_tup 3 (gs_cons (gs_name 3) (gs_cons (gs_name 4) (gs_cons (gs_name 5) (gs_nil)))))) (b_cons (s_forS (i_sq (x_var 3)) (gs_name 6) (b_one (s_if (y_ninU (x_var 6) (x_var 1)) (b_one (s_ret [] (x_tup [6] (x_cons (x_str) (x_cons (x_var 6) (x_nil)))))) (b_nil)))) (b_cons (s_set 7 [] (x_call [] c__law_mix (x_cons (x_call [] c__law_values (x_cons (x_var 3) (x_cons (x_var 4) (x_nil)))) (x_nil)))) (b_cons (s_forS (i_r1 T.m_range (x_lenU T.m_len (x_var 3))) (gs_name 8) (b_one (s_if (y_not (y_tru (x_call [5, 7] c__law_met (x_cons (x_ixU (x_ixU (x_var 1) (x_ixU (x_var 3) (x_var 8))) (x_int)) (x_cons (x_ixU (x_var 5) (x_var 8)) (x_cons (x_var 7) (x_cons (x_sub (x_var 2) (x_ixU (x_ixU (x_var 1) (x_ixU (x_var 3) (x_var 8))) (x_int))) (x_nil)))))))) (b_one (s_ret [] (x_tup [8] (x_cons (x_str) (x_cons (x_var 8) (x_nil)))))) (b_nil)))) (b_cons (s_if (y_gt (x_sum T.m_sum (x_lc [("_law_output", 9)] [] (i_sq (x_var 4)) (by exact g_name 9) (by exact y_nil) (by exact x_ixU (x_var 9) (x_int)))) (x_sum T.m_sum (x_lc [("_law_one", 6)] [] (i_sq (x_var 3)) (by exact g_name 6) (by exact y_nil) (by exact x_ixU (x_ixU (x_var 1) (x_var 6)) (x_int))))) (b_one (s_ret [] (x_tup [] (x_cons (x_str) (x_nil))))) (b_nil)) (b_cons (s_forS (i_r1 T.m_range (x_lenU T.m_len (x_var 4))) (gs_name 8) (b_more [] [7, 8] (b_one (s_if (y_inU (x_tup [7, 8] (x_cons (x_var 7) (x_cons (x_var 8) (x_nil)))) (x_var 1)) (b_one (s_ret [] (x_tup [] (x_cons (x_str) (x_cons (x_tup [7, 8] (x_cons (x_var 7) (x_cons (x_var 8) (x_nil)))) (x_nil)))))) (b_nil))))) (b_one (s_ret [] (x_non)))))))))
def s_token : Stmt := PySem.Challenge.pw_parentweave_k33_what_a_spending_may_take.main.body.getD 23 (.Pass ⟨0, 0, 0, 0⟩)
def N_token : List Str := ["public", "name"]
theorem sc_token : FnScope N_token ["public", "name"] (defScope s_token) := ⟨rfl, rfl, rfl, by decide +kernel, rfl, by decide +kernel, by decide +kernel⟩
def g_token : Ge → Option Out := gRet [] (fCall [] [] m_mix [] (fACons [] (fTup [0, 1] (fACons [] (fC (.int 3)) (fACons [] (fVar 0) (fACons [] (fVar 1) (fANil))))) (fANil)))
def m_token : List T → Option (Rv × List T) := runB 2 2 [] g_token
theorem b_token {P : Program} {w : World} {K : PySem.W.Frag} {cl : Nat → Addr} {mg : Str → Option Value} {base : Heap} {X_NotValid : Addr} {t_DEPTH t_LAST t_MOST_AGE t_MOST_AMOUNT t_MOST_conditions t_MOST_spendings t_START t_STEP t_TOP : Tok} (T : Txt K mg X_NotValid t_DEPTH t_LAST t_MOST_AGE t_MOST_AMOUNT t_MOST_conditions t_MOST_spendings t_START t_STEP t_TOP) (c_mix : Cal P w K cl mg base 4 "mix" (.ref X_NotValid) [] m_mix []) : ∀ W, CB ⟨P, w, K, cl, mg, base, N_token, defScope s_token, 4⟩ W .none [] [0, 1] (defBody s_token) g_token := fun W =>
  b_one (s_ret [] (x_call [] c_mix (x_cons (x_tup [0, 1] (x_cons (x_int) (x_cons (x_var 0) (x_cons (x_var 1) (x_nil))))) (x_nil))))
def s_lock : Stmt := PySem.Challenge.pw_parentweave_k33_what_a_spending_may_take.main.body.getD 24 (.Pass ⟨0, 0, 0, 0⟩)
def N_lock : List Str := ["value"]
theorem sc_lock : FnScope N_lock ["value"] (defScope s_lock) := ⟨rfl, rfl, rfl, by decide +kernel, rfl, by decide +kernel, by decide +kernel⟩
def g_lock : Ge → Option Out := gRet [] (fCall [] [] m_mix [] (fACons [] (fTup [0] (fACons [] (fC (.int 4)) (fACons [] (fVar 0) (fANil)))) (fANil)))
def m_lock : List T → Option (Rv × List T) := runB 1 1 [] g_lock
theorem b_lock {P : Program} {w : World} {K : PySem.W.Frag} {cl : Nat → Addr} {mg : Str → Option Value} {base : Heap} {X_NotValid : Addr} {t_DEPTH t_LAST t_MOST_AGE t_MOST_AMOUNT t_MOST_conditions t_MOST_spendings t_START t_STEP t_TOP : Tok} (T : Txt K mg X_NotValid t_DEPTH t_LAST t_MOST_AGE t_MOST_AMOUNT t_MOST_conditions t_MOST_spendings t_START t_STEP t_TOP) (c_mix : Cal P w K cl mg base 4 "mix" (.ref X_NotValid) [] m_mix []) : ∀ W, CB ⟨P, w, K, cl, mg, base, N_lock, defScope s_lock, 4⟩ W .none [] [0] (defBody s_lock) g_lock := fun W =>
  b_one (s_ret [] (x_call [] c_mix (x_cons (x_tup [0] (x_cons (x_int) (x_cons (x_var 0) (x_nil)))) (x_nil))))
def s_met : Stmt := PySem.Challenge.pw_parentweave_k33_what_a_spending_may_take.main.body.getD 25 (.Pass ⟨0, 0, 0, 0⟩)
def N_met : List Str := ["condition", "witness", "name", "age", "word", "inner", "k"]
theorem sc_met : FnScope N_met ["condition", "witness", "name", "age"] (defScope s_met) := ⟨rfl, rfl, rfl, by decide +kernel, rfl, by decide +kernel, by decide +kernel⟩
def g_met (m_met : List T → Option (Rv × List T)) : Ge → Option Out := gSeq (gSet [] 4 (fIx [] gIxU (fVar 0) (fC (.int 0)))) (gSeq (gIf (fT (f2 [] gEq (fVar 4) (fC (.str "key")))) (gRet [] (fAndV (f2 [] gEq (fIx [] gIxU (fVar 1) (fC (.int 0))) (fC (.str "token"))) (f2 [0, 2] gEq (fIx [] gIxU (fVar 1) (fC (.int 1))) (fCall [0, 2] [0, 1] m_token [] (fACons [] (fIx [] gIxU (fVar 0) (fC (.int 1))) (fACons [] (fVar 2) (fANil))))))) (gNx)) (gSeq (gIf (fT (f2 [] gEq (fVar 4) (fC (.str "lock")))) (gRet [] (fAndV (f2 [] gEq (fIx [] gIxU (fVar 1) (fC (.int 0))) (fC (.str "value"))) (f2 [] gEq (fCall [1] [0] m_lock [] (fACons [] (fIx [] gIxU (fVar 1) (fC (.int 1))) (fANil))) (fIx [] gIxU (fVar 0) (fC (.int 1)))))) (gNx)) (gSeq (gIf (fT (f2 [] gEq (fVar 4) (fC (.str "age")))) (gRet [] (fAndV (f2 [] gEq (fIx [] gIxU (fVar 1) (fC (.int 0))) (fC (.str "wait"))) (f2 [] gGe (fVar 3) (fIx [] gIxU (fVar 0) (fC (.int 1)))))) (gNx)) (gSeq (gSet [] 5 (fIx [] gIxU (fVar 0) (fC (.int 1)))) (gSeq (gIf (fT (f2 [] gEq (fVar 4) (fC (.str "all")))) (gSeq (gIf (fOr (fT (f2 [] gNe (fIx [] gIxU (fVar 1) (fC (.int 0))) (fC (.str "all")))) (fT (f2 [] gNe (fN gLenU (fACons [] (fIx [] gIxU (fVar 1) (fC (.int 1))) fANil)) (fN gLenU (fACons [] (fVar 5) fANil))))) (gRet [] (fC (.bl false))) (gNx)) (gRet [] (fN gAll (fACons [] (fLc [] [6, 1, 2, 5] [6] (fR1 (fACons [] (fN gLenU (fACons [] (fVar 5) fANil)) fANil)) (fNm 6) ((fun Γ => some (Γ, true))) (fCall [1, 2, 5] [0, 1, 2] m_met [] (fACons [] (fIx [] gIxU (fVar 5) (fVar 6)) (fACons [] (fIx [] gIxU (fIx [] gIxU (fVar 1) (fC (.int 1))) (fVar 6)) (fACons [] (fVar 2) (fACons [] (fVar 3) (fANil))))))) fANil)))) (gNx)) (gSeq (gIf (fOr (fT (f2 [] gNe (fIx [] gIxU (fVar 1) (fC (.int 0))) (fC (.str "any")))) (fT (f2 [] gGe (fIx [] gIxU (fVar 1) (fC (.int 1))) (fN gLenU (fACons [] (fVar 5) fANil))))) (gRet [] (fC (.bl false))) (gNx)) (gRet [] (fCall [1, 2, 5] [0, 1, 2] m_met [] (fACons [] (fIx [] gIxU (fVar 5) (fIx [] gIxU (fVar 1) (fC (.int 1)))) (fACons [] (fIx [] gIxU (fVar 1) (fC (.int 2))) (fACons [] (fVar 2) (fACons [] (fVar 3) (fANil)))))))))))))
def r_met : Nat → List T → Option (Rv × List T)
  | 0, _ => none
  | n + 1, ts => runB 4 7 [4, 5] (g_met (r_met n)) ts
def m_met : List T → Option (Rv × List T) := r_met 8
theorem b_met {P : Program} {w : World} {K : PySem.W.Frag} {cl : Nat → Addr} {mg : Str → Option Value} {base : Heap} {X_NotValid : Addr} {t_DEPTH t_LAST t_MOST_AGE t_MOST_AMOUNT t_MOST_conditions t_MOST_spendings t_START t_STEP t_TOP : Tok} (T : Txt K mg X_NotValid t_DEPTH t_LAST t_MOST_AGE t_MOST_AMOUNT t_MOST_conditions t_MOST_spendings t_START t_STEP t_TOP) (c_token : Cal P w K cl mg base 5 "token" .none [0, 1] m_token []) (c_lock : Cal P w K cl mg base 5 "lock" .none [0] m_lock []) (k : Nat) (hk : Nat.ble 5 k = true) {m_met : List Vx.T → Option (Rv × List Vx.T)} (c_met : Cal P w K cl mg base k "met" .none [0, 1, 2] m_met []) : ∀ W, CB ⟨P, w, K, cl, mg, base, N_met, defScope s_met, k⟩ W .none [4, 5] [0, 1, 2, 4, 5, 6] (defBody s_met) (g_met m_met) := fun W =>
  b_more [4, 5] [0, 1, 2, 4, 5, 6] (b_cons (s_set 4 [] (x_ixU (x_var 0) (x_int))) (b_cons (s_if (y_eq (x_var 4) (x_str)) (b_one (s_ret [] (x_and (x_eq (x_ixU (x_var 1) (x_int)) (x_str)) (x_one (x_eq (x_ixU (x_var 1) (x_int)) (x_call (hk := blT (by rfl) hk) [0, 2] c_token (x_cons (x_ixU (x_var 0) (x_int)) (x_cons (x_var 2) (x_nil))))))))) (b_nil)) (b_cons (s_if (y_eq (x_var 4) (x_str)) (b_one (s_ret [] (x_and (x_eq (x_ixU (x_var 1) (x_int)) (x_str)) (x_one (x_eq (x_call (hk := blT (by rfl) hk) [1] c_lock (x_cons (x_ixU (x_var 1) (x_int)) (x_nil))) (x_ixU (x_var 0) (x_int))))))) (b_nil)) (b_cons (s_if (y_eq (x_var 4) (x_str)) (b_one (s_ret [] (x_and (x_eq (x_ixU (x_var 1) (x_int)) (x_str)) (x_one (x_ge (x_var 3) (x_ixU (x_var 0) (x_int))))))) (b_nil)) (b_cons (s_set 5 [] (x_ixU (x_var 0) (x_int))) (b_cons (s_if (y_eq (x_var 4) (x_str)) (b_cons (s_if (y_w (w_or (y_ne (x_ixU (x_var 1) (x_int)) (x_str)) (w_or1 (y_ne (x_lenU T.m_len (x_ixU (x_var 1) (x_int))) (x_lenU T.m_len (x_var 5)))))) (b_one (s_ret [] (x_bl))) (b_nil)) (b_one (s_ret [] (x_all T.m_all (x_lc [("k", 6)] [] (i_r1 T.m_range (x_lenU T.m_len (x_var 5))) (by exact g_name 6) (by exact y_nil) (by exact x_call (hk := blR k) [1, 2, 5] c_met (x_cons (x_ixU (x_var 5) (x_var 6)) (x_cons (x_ixU (x_ixU (x_var 1) (x_int)) (x_var 6)) (x_cons (x_var 2) (x_cons (x_var 3) (x_nil))))))))))) (b_nil)) (b_cons (s_if (y_w (w_or (y_ne (x_ixU (x_var 1) (x_int)) (x_str)) (w_or1 (y_ge (x_ixU (x_var 1) (x_int)) (x_lenU T.m_len (x_var 5)))))) (b_one (s_ret [] (x_bl))) (b_nil)) (b_one (s_ret [] (x_call (hk := blR k) [1, 2, 5] c_met (x_cons (x_ixU (x_var 5) (x_ixU (x_var 1) (x_int))) (x_cons (x_ixU (x_var 1) (x_int)) (x_cons (x_var 2) (x_cons (x_var 3) (x_nil)))))))))))))))
def s_left_over : Stmt := PySem.Challenge.pw_parentweave_k33_what_a_spending_may_take.main.body.getD 39 (.Pass ⟨0, 0, 0, 0⟩)
def N_left_over : List Str := ["spending", "coins", "inputs", "outputs", "_", "one", "output"]
theorem sc_left_over : FnScope N_left_over ["spending", "coins"] (defScope s_left_over) := ⟨rfl, rfl, rfl, by decide +kernel, rfl, by decide +kernel, by decide +kernel⟩
def g_left_over : Ge → Option Out := gSeq (gAsT (fTgT 3 (fTCons (fNm 2) (fTCons (fNm 3) (fTCons (fNm 4) (fTNil))))) (fVar 0)) (gRet [] (f2 [6] Vx.gSub (fN gSum (fACons [] (fLc [] [5] [5] (fSrc (fVar 2)) (fNm 5) ((fun Γ => some (Γ, true))) (fIx [] gIxU (fIx [] gIxU (fVar 1) (fVar 5)) (fC (.int 0)))) fANil)) (fN gSum (fACons [] (fLc [] [6] [6] (fSrc (fVar 3)) (fNm 6) ((fun Γ => some (Γ, true))) (fIx [] gIxU (fVar 6) (fC (.int 0)))) fANil))))
def m_left_over : List T → Option (Rv × List T) := runB 2 7 [2, 3, 4] g_left_over
theorem b_left_over {P : Program} {w : World} {K : PySem.W.Frag} {cl : Nat → Addr} {mg : Str → Option Value} {base : Heap} {X_NotValid : Addr} {t_DEPTH t_LAST t_MOST_AGE t_MOST_AMOUNT t_MOST_conditions t_MOST_spendings t_START t_STEP t_TOP : Tok} (T : Txt K mg X_NotValid t_DEPTH t_LAST t_MOST_AGE t_MOST_AMOUNT t_MOST_conditions t_MOST_spendings t_START t_STEP t_TOP)  : ∀ W, CB ⟨P, w, K, cl, mg, base, N_left_over, defScope s_left_over, 0⟩ W .none [2, 3, 4] [2, 3, 4, 5, 6] (defBody s_left_over) g_left_over := fun W =>
  b_cons (s_asTS (x_var 0) (gs_tup 3 (gs_cons (gs_name 2) (gs_cons (gs_name 3) (gs_cons (gs_name 4) (gs_nil)))))) (b_one (s_ret [] (x_sub (x_sum T.m_sum (x_lc [("one", 5)] [] (i_sq (x_var 2)) (by exact g_name 5) (by exact y_nil) (by exact x_ixU (x_ixU (x_var 1) (x_var 5)) (x_int)))) (x_sum T.m_sum (x_lc [("output", 6)] [] (i_sq (x_var 3)) (by exact g_name 6) (by exact y_nil) (by exact x_ixU (x_var 6) (x_int)))))))
def s_fault_of : Stmt := PySem.Challenge.pw_parentweave_k33_what_a_spending_may_take.main.body.getD 38 (.Pass ⟨0, 0, 0, 0⟩)
def N_fault_of : List Str := ["spending", "coins", "weight", "inputs", "outputs", "witnesses", "one", "name", "place", "_", "condition", "made", "index"]
theorem sc_fault_of : FnScope N_fault_of ["spending", "coins", "weight"] (defScope s_fault_of) := ⟨rfl, rfl, rfl, by decide +kernel, rfl, by decide +kernel, by decide +kernel⟩
def g_fault_of : Ge → Option Out := gSeq (gAsT (fTgT 3 (fTCons (fNm 3) (fTCons (fNm 4) (fTCons (fNm 5) (fTNil))))) (fVar 0)) (gSeq (gFor [6, 6] (fSrc (fVar 3)) (fNm 6) (gIf (fT (f2 [] (gInU true) (fVar 6) (fVar 1))) (gRet [] (fTup [6] (fACons [] (fC (.str "gone")) (fACons [] (fVar 6) (fANil))))) (gNx))) (gSeq (gSet [] 7 (fCall [] [] m_spending_name [] (fACons [] (fVar 0) (fANil)))) (gSeq (gFor [8, 5, 7, 8, 9, 10, 11] (fR1 (fACons [] (fN gLenU (fACons [] (fVar 3) fANil)) fANil)) (fNm 8) (gSeq (gAsT (fTgT 3 (fTCons (fNm 9) (fTCons (fNm 10) (fTCons (fNm 11) (fTNil))))) (fIx [] gIxU (fVar 1) (fIx [] gIxU (fVar 3) (fVar 8)))) (gIf (fNot (fTr (fCall [5, 7, 10] [0, 1, 2] m_met [] (fACons [] (fVar 10) (fACons [] (fIx [] gIxU (fVar 5) (fVar 8)) (fACons [] (fVar 7) (fACons [] (f2 [] Vx.gSub (fVar 2) (fVar 11)) (fANil)))))))) (gRet [] (fTup [8] (fACons [] (fC (.str "witness")) (fACons [] (fVar 8) (fANil))))) (gNx)))) (gSeq (gIf (fT (f2 [] gLt (fCall [] [] m_left_over [] (fACons [] (fVar 0) (fACons [] (fVar 1) (fANil)))) (fC (.int 0)))) (gRet [] (fTup [] (fACons [] (fC (.str "amount")) (fANil)))) (gNx)) (gSeq (gFor [12, 7, 12] (fR1 (fACons [] (fN gLenU (fACons [] (fVar 4) fANil)) fANil)) (fNm 12) (gIf (fT (f2 [] (gInU false) (fTup [7, 12] (fACons [] (fVar 7) (fACons [] (fVar 12) (fANil)))) (fVar 1))) (gRet [] (fTup [] (fACons [7, 12] (fC (.str "there")) (fACons [] (fTup [7, 12] (fACons [] (fVar 7) (fACons [] (fVar 12) (fANil)))) (fANil))))) (gNx))) (gRet [] (fC .non)))))))
def m_fault_of : List T → Option (Rv × List T) := runB 3 13 [3, 4, 5, 6, 7, 8, 9, 10, 11, 12] g_fault_of
theorem b_fault_of {P : Program} {w : World} {K : PySem.W.Frag} {cl : Nat → Addr} {mg : Str → Option Value} {base : Heap} {X_NotValid : Addr} {t_DEPTH t_LAST t_MOST_AGE t_MOST_AMOUNT t_MOST_conditions t_MOST_spendings t_START t_STEP t_TOP : Tok} (T : Txt K mg X_NotValid t_DEPTH t_LAST t_MOST_AGE t_MOST_AMOUNT t_MOST_conditions t_MOST_spendings t_START t_STEP t_TOP) (c_spending_name : Cal P w K cl mg base 10 "spending_name" .none [] m_spending_name []) (c_met : Cal P w K cl mg base 13 "met" .none [0, 1, 2] m_met []) (c_left_over : Cal P w K cl mg base 1 "left_over" .none [] m_left_over []) : ∀ W, CB ⟨P, w, K, cl, mg, base, N_fault_of, defScope s_fault_of, 13⟩ W .none [3, 4, 5, 6, 7, 8, 9, 10, 11, 12] [3, 4, 5, 6, 7, 8, 9, 10, 11, 12] (defBody s_fault_of) g_fault_of := fun W =>
  b_more [3, 4, 5, 6, 7, 8, 9, 10, 11, 12] [3, 4, 5, 6, 7, 8, 9, 10, 11, 12] (b_cons (s_asTS (x_var 0) (gs_tup 3 (gs_cons (gs_name 3) (gs_cons (gs_name 4) (gs_cons (gs_name 5) (gs_nil)))))) (b_cons (s_forS (i_sq (x_var 3)) (gs_name 6) (b_one (s_if (y_ninU (x_var 6) (x_var 1)) (b_one (s_ret [] (x_tup [6] (x_cons (x_str) (x_cons (x_var 6) (x_nil)))))) (b_nil)))) (b_cons (s_set 7 [] (x_call [] c_spending_name (x_cons (x_var 0) (x_nil)))) (b_cons (s_forS (i_r1 T.m_range (x_lenU T.m_len (x_var 3))) (gs_name 8) (b_more [9, 10, 11] [5, 7, 8, 9, 10, 11] (b_cons (s_asTS (x_ixU (x_var 1) (x_ixU (x_var 3) (x_var 8))) (gs_tup 3 (gs_cons (gs_name 9) (gs_cons (gs_name 10) (gs_cons (gs_name 11) (gs_nil)))))) (b_one (s_if (y_not (y_tru (x_call [5, 7, 10] c_met (x_cons (x_var 10) (x_cons (x_ixU (x_var 5) (x_var 8)) (x_cons (x_var 7) (x_cons (x_sub (x_var 2) (x_var 11)) (x_nil)))))))) (b_one (s_ret [] (x_tup [8] (x_cons (x_str) (x_cons (x_var 8) (x_nil)))))) (b_nil)))))) (b_cons (s_if (y_lt (x_call [] c_left_over (x_cons (x_var 0) (x_cons (x_var 1) (x_nil)))) (x_int)) (b_one (s_ret [] (x_tup [] (x_cons (x_str) (x_nil))))) (b_nil)) (b_cons (s_forS (i_r1 T.m_range (x_lenU T.m_len (x_var 4))) (gs_name 12) (b_more [] [7, 12] (b_one (s_if (y_inU (x_tup [7, 12] (x_cons (x_var 7) (x_cons (x_var 12) (x_nil)))) (x_var 1)) (b_one (s_ret [] (x_tup [] (x_cons (x_str) (x_cons (x_tup [7, 12] (x_cons (x_var 7) (x_cons (x_var 12) (x_nil)))) (x_nil)))))) (b_nil))))) (b_one (s_ret [] (x_non)))))))))
def s_made_by : Stmt := PySem.Challenge.pw_parentweave_k33_what_a_spending_may_take.main.body.getD 40 (.Pass ⟨0, 0, 0, 0⟩)
def N_made_by : List Str := ["spending", "name", "outputs", "index"]
theorem sc_made_by : FnScope N_made_by ["spending"] (defScope s_made_by) := ⟨rfl, rfl, rfl, by decide +kernel, rfl, by decide +kernel, by decide +kernel⟩
def g_made_by : Ge → Option Out := gSeq (gSet [] 1 (fCall [] [] m_spending_name [] (fACons [] (fVar 0) (fANil)))) (gSeq (gSet [] 2 (fIx [] gIxU (fVar 0) (fC (.int 1)))) (gRet [] (fLc [] [3, 1, 3, 2] [3] (fR1 (fACons [] (fN gLenU (fACons [] (fVar 2) fANil)) fANil)) (fNm 3) ((fun Γ => some (Γ, true))) (fTup [2] (fACons [] (fTup [1, 3] (fACons [] (fVar 1) (fACons [] (fVar 3) (fANil)))) (fACons [] (fIx [] gIxU (fIx [] gIxU (fVar 2) (fVar 3)) (fC (.int 0))) (fACons [] (fIx [] gIxU (fIx [] gIxU (fVar 2) (fVar 3)) (fC (.int 1))) (fANil))))))))
def m_made_by : List T → Option (Rv × List T) := runB 1 4 [1, 2] g_made_by
theorem b_made_by {P : Program} {w : World} {K : PySem.W.Frag} {cl : Nat → Addr} {mg : Str → Option Value} {base : Heap} {X_NotValid : Addr} {t_DEPTH t_LAST t_MOST_AGE t_MOST_AMOUNT t_MOST_conditions t_MOST_spendings t_START t_STEP t_TOP : Tok} (T : Txt K mg X_NotValid t_DEPTH t_LAST t_MOST_AGE t_MOST_AMOUNT t_MOST_conditions t_MOST_spendings t_START t_STEP t_TOP) (c_spending_name : Cal P w K cl mg base 10 "spending_name" .none [] m_spending_name []) : ∀ W, CB ⟨P, w, K, cl, mg, base, N_made_by, defScope s_made_by, 10⟩ W .none [1, 2] [1, 2, 3] (defBody s_made_by) g_made_by := fun W =>
  b_more [1, 2] [1, 2, 3] (b_cons (s_set 1 [] (x_call [] c_spending_name (x_cons (x_var 0) (x_nil)))) (b_cons (s_set 2 [] (x_ixU (x_var 0) (x_int))) (b_one (s_ret [] (x_lc [("index", 3)] [] (i_r1 T.m_range (x_lenU T.m_len (x_var 2))) (by exact g_name 3) (by exact y_nil) (by exact x_tup [2] (x_cons (x_tup [1, 3] (x_cons (x_var 1) (x_cons (x_var 3) (x_nil)))) (x_cons (x_ixU (x_ixU (x_var 2) (x_var 3)) (x_int)) (x_cons (x_ixU (x_ixU (x_var 2) (x_var 3)) (x_int)) (x_nil))))))))))
def s_law : Stmt := PySem.Challenge.pw_parentweave_k33_what_a_spending_may_take.main.body.getD 54 (.Pass ⟨0, 0, 0, 0⟩)
def N_law : List Str := ["_law_script", "_law_tape", "_law_turn", "_law_coins_here", "_law_weight", "_law_spending_here", "_law_name", "_law_flat_here", "_law_witness_here", "_law_due", "_law_wide", "_law_rest", "_law_outs", "_law_one", "_law_k"]
theorem sc_law : FnScope N_law ["_law_script"] (defScope s_law) := ⟨rfl, rfl, rfl, by decide +kernel, rfl, by decide +kernel, by decide +kernel⟩
def g_law : Ge → Option Out := gSeq (gSet [] 1 (fLst (fACons [] (fN gList (fACons [] (fVar 0) fANil)) (fACons [] (fC (.int 0)) (fACons [] (fC (.int 0)) (fACons [] (fC (.int 11)) (fANil))))))) (gSeq (gFor [2, 1, 3, 4, 5, 6, 7, 8, 9, 10, 11, 12, 13, 14] (fR1 (fACons [] (fC (.int 3)) fANil)) (fNm 2) (gSeq (gSet [] 3 (fCall [1] [0] m__law_coins [] (fACons [] (fVar 1) (fANil)))) (gSeq (gSet [] 4 (f2 [1] gAddU (fC (.int 4)) (fCall [1] [0] m__law_next [] (fACons [] (fVar 1) (fACons [] (fC (.int 16)) (fANil)))))) (gSeq (gSet [] 5 (fCall [1] [0] m__law_spending [] (fAConsV 1 (fACons [1] (fVar 3) (fACons [1] (fVar 4) (fACons [] (f2 [] gEq (fCall [1] [0] m__law_next [] (fACons [] (fVar 1) (fACons [] (fC (.int 2)) (fANil)))) (fC (.int 0))) (fANil))))))) (gSeq (gSet [] 6 (fCall [] [] m__law_mix [] (fACons [] (fCall [] [] m__law_values [] (fACons [] (fIx [] gIxU (fVar 5) (fC (.int 0))) (fACons [] (fIx [] gIxU (fVar 5) (fC (.int 1))) (fANil)))) (fANil)))) (gSeq (gIf (fOr (fNot (fTr (fCall [] [] m_is_spending [] (fACons [] (fVar 5) (fANil))))) (fOr (fNot (fTr (fCall [] [] m__law_spoilt [] (fACons [] (fVar 5) (fANil))))) (fT (f2 [] gNe (fCall [] [] m_spending_name [] (fACons [] (fVar 5) (fANil))) (fVar 6))))) (gRet [] (fC (.bl false))) (gNx)) (gSeq (gSet [] 7 (f2 [] gAddU (fCall [] [] m__law_values [] (fACons [] (fIx [] gIxU (fVar 5) (fC (.int 0))) (fACons [] (fIx [] gIxU (fVar 5) (fC (.int 1))) (fANil)))) (fLst (fACons [] (fN gLenU (fACons [] (fIx [] gIxU (fVar 5) (fC (.int 2))) fANil)) (fANil))))) (gSeq (gFor [8, 7] (fSrc (fIx [] gIxU (fVar 5) (fC (.int 2)))) (fNm 8) (gSet [] 7 (f2 [] gAddU (fVar 7) (fCall [] [] m__law_flat_witness [] (fACons [] (fVar 8) (fANil)))))) (gSeq (gIf (fT (f2 [] gNe (fN gList (fACons [] (fCall [] [] m_flat_spending [] (fACons [] (fVar 5) (fANil))) fANil)) (fVar 7))) (gRet [] (fC (.bl false))) (gNx)) (gSeq (gSet [] 9 (fCall [] [] m__law_fault [] (fACons [] (fVar 5) (fACons [] (fVar 3) (fACons [] (fVar 4) (fANil)))))) (gSeq (gIf (fT (f2 [] gNe (fCall [] [] m_fault_of [] (fACons [] (fVar 5) (fACons [] (fN gCp (fACons [] (fVar 3) fANil)) (fACons [] (fVar 4) (fANil))))) (fVar 9))) (gRet [] (fC (.bl false))) (gNx)) (gSeq (gSet [] 10 (fN gCp (fACons [] (fVar 3) fANil))) (gSeq (gSt [10] [] [] [1, 6] gSetU (fTup [] (fACons [] (fC (.int 3)) (fACons [] (fTup [] (fACons [] (fC (.str "key")) (fACons [] (fC (.int 1)) (fANil)))) (fACons [] (fC (.int 0)) (fANil))))) (fVar 10) (fTup [6] (fACons [1] (fVar 6) (fACons [] (fCall [1] [0] m__law_next [] (fACons [] (fVar 1) (fACons [] (fN gLenU (fACons [] (fIx [] gIxU (fVar 5) (fC (.int 1))) fANil)) (fANil)))) (fANil))))) (gSeq (gIf (fT (f2 [] gNe (fCall [] [] m_fault_of [] (fACons [] (fVar 5) (fACons [] (fVar 10) (fACons [] (fVar 4) (fANil))))) (fCall [] [] m__law_fault [] (fACons [] (fVar 5) (fACons [] (fVar 10) (fACons [] (fVar 4) (fANil))))))) (gRet [] (fC (.bl false))) (gNx)) (gSeq (gSet [] 11 (f2 [13] Vx.gSub (fN gSum (fACons [] (fLc [] [13] [13] (fSrc (fIx [] gIxU (fVar 5) (fC (.int 0)))) (fNm 13) (fT (f2 [] (gInU false) (fVar 13) (fVar 3))) (fIx [] gIxU (fIx [] gIxU (fVar 3) (fVar 13)) (fC (.int 0)))) fANil)) (fN gSum (fACons [] (fLc [] [13] [13] (fSrc (fIx [] gIxU (fVar 5) (fC (.int 1)))) (fNm 13) ((fun Γ => some (Γ, true))) (fIx [] gIxU (fVar 13) (fC (.int 0)))) fANil)))) (gSeq (gIf (fAnd (fT (f2 [] (gIsN false) (fVar 9) (fC .non))) (fT (f2 [] gNe (fCall [] [] m_left_over [] (fACons [] (fVar 5) (fACons [] (fN gCp (fACons [] (fVar 3) fANil)) (fANil)))) (fVar 11)))) (gRet [] (fC (.bl false))) (gNx)) (gSeq (gSet [] 12 (fIx [] gIxU (fVar 5) (fC (.int 1)))) (gIf (fT (f2 [14, 6, 14, 12] gNe (fN gList (fACons [] (fCall [] [] m_made_by [] (fACons [] (fVar 5) (fANil))) fANil)) (fLc [] [14, 6, 14, 12] [14] (fR1 (fACons [] (fN gLenU (fACons [] (fVar 12) fANil)) fANil)) (fNm 14) ((fun Γ => some (Γ, true))) (fTup [12] (fACons [] (fTup [6, 14] (fACons [] (fVar 6) (fACons [] (fVar 14) (fANil)))) (fACons [] (fIx [] gIxU (fIx [] gIxU (fVar 12) (fVar 14)) (fC (.int 0))) (fACons [] (fIx [] gIxU (fIx [] gIxU (fVar 12) (fVar 14)) (fC (.int 1))) (fANil)))))))) (gRet [] (fC (.bl false))) (gNx))))))))))))))))))) (gRet [] (fC (.bl true))))
def m_law : List T → Option (Rv × List T) := runB 1 15 [1, 2, 3, 4, 5, 6, 7, 8, 9, 10, 11, 12] g_law
theorem b_law {P : Program} {w : World} {K : PySem.W.Frag} {cl : Nat → Addr} {mg : Str → Option Value} {base : Heap} {X_NotValid : Addr} {t_DEPTH t_LAST t_MOST_AGE t_MOST_AMOUNT t_MOST_conditions t_MOST_spendings t_START t_STEP t_TOP : Tok} (T : Txt K mg X_NotValid t_DEPTH t_LAST t_MOST_AGE t_MOST_AMOUNT t_MOST_conditions t_MOST_spendings t_START t_STEP t_TOP) (c__law_coins : Cal P w K cl mg base 10 "_law_coins" .none [0] m__law_coins []) (c__law_next : Cal P w K cl mg base 1 "_law_next" .none [0] m__law_next []) (c__law_spending : Cal P w K cl mg base 10 "_law_spending" .none [0] m__law_spending []) (c__law_mix : Cal P w K cl mg base 1 "_law_mix" .none [] m__law_mix []) (c__law_values : Cal P w K cl mg base 9 "_law_values" .none [] m__law_values []) (c_is_spending : Cal P w K cl mg base 14 "is_spending" .none [] m_is_spending []) (c__law_spoilt : Cal P w K cl mg base 15 "_law_spoilt" .none [] m__law_spoilt []) (c_spending_name : Cal P w K cl mg base 10 "spending_name" .none [] m_spending_name []) (c__law_flat_witness : Cal P w K cl mg base 8 "_law_flat_witness" .none [] m__law_flat_witness []) (c_flat_spending : Cal P w K cl mg base 10 "flat_spending" .none [] m_flat_spending []) (c__law_fault : Cal P w K cl mg base 10 "_law_fault" .none [] m__law_fault []) (c_fault_of : Cal P w K cl mg base 14 "fault_of" .none [] m_fault_of []) (c_left_over : Cal P w K cl mg base 1 "left_over" .none [] m_left_over []) (c_made_by : Cal P w K cl mg base 11 "made_by" .none [] m_made_by []) : ∀ W, CB ⟨P, w, K, cl, mg, base, N_law, defScope s_law, 15⟩ W .none [1, 2, 3, 4, 5, 6, 7, 8, 9, 10, 11, 12] [1, 2, 3, 4, 5, 6, 7, 8, 9, 10, 11, 12, 13, 14] (defBody s_law) g_law := fun W =>
  b_more [1, 2, 3, 4, 5, 6, 7, 8, 9, 10, 11, 12] [1, 2, 3, 4, 5, 6, 7, 8, 9, 10, 11, 12, 13, 14] (b_cons (s_set 1 [] (x_lst (x_cons (x_list T.m_list (x_var 0)) (x_cons (x_int) (x_cons (x_int) (x_cons (x_int) (x_nil))))))) (b_cons (s_forS (i_r1 T.m_range (x_int)) (gs_name 2) (b_more [3, 4, 5, 6, 7, 8, 9, 10, 11, 12] [1, 3, 4, 5, 6, 7, 8, 9, 10, 11, 12, 13, 14] (b_cons (s_set 3 [] (x_call [1] c__law_coins (x_cons (x_var 1) (x_nil)))) (b_cons (s_set 4 [] (x_addU (x_int) (x_call [1] c__law_next (x_cons (x_var 1) (x_cons (x_int) (x_nil)))))) (b_cons (s_set 5 [] (x_call [1] c__law_spending (x_consV 1 (x_cons (x_var 3) (x_cons (x_var 4) (x_cons (x_eq (x_call [1] c__law_next (x_cons (x_var 1) (x_cons (x_int) (x_nil)))) (x_int)) (x_nil))))))) (b_cons (s_set 6 [] (x_call [] c__law_mix (x_cons (x_call [] c__law_values (x_cons (x_ixU (x_var 5) (x_int)) (x_cons (x_ixU (x_var 5) (x_int)) (x_nil)))) (x_nil)))) (b_cons (s_if (y_w (w_or (y_not (y_tru (x_call [] c_is_spending (x_cons (x_var 5) (x_nil))))) (w_or (y_not (y_tru (x_call [] c__law_spoilt (x_cons (x_var 5) (x_nil))))) (w_or1 (y_ne (x_call [] c_spending_name (x_cons (x_var 5) (x_nil))) (x_var 6)))))) (b_one (s_ret [] (x_bl))) (b_nil)) (b_cons (s_set 7 [] (x_addU (x_call [] c__law_values (x_cons (x_ixU (x_var 5) (x_int)) (x_cons (x_ixU (x_var 5) (x_int)) (x_nil)))) (x_lst (x_cons (x_lenU T.m_len (x_ixU (x_var 5) (x_int))) (x_nil))))) (b_cons (s_forS (i_sq (x_ixU (x_var 5) (x_int))) (gs_name 8) (b_one (s_set 7 [] (x_addU (x_var 7) (x_call [] c__law_flat_witness (x_cons (x_var 8) (x_nil))))))) (b_cons (s_if (y_ne (x_list T.m_list (x_call [] c_flat_spending (x_cons (x_var 5) (x_nil)))) (x_var 7)) (b_one (s_ret [] (x_bl))) (b_nil)) (b_cons (s_set 9 [] (x_call [] c__law_fault (x_cons (x_var 5) (x_cons (x_var 3) (x_cons (x_var 4) (x_nil)))))) (b_cons (s_if (y_ne (x_call [] c_fault_of (x_cons (x_var 5) (x_cons (x_dict T.m_dict (x_var 3)) (x_cons (x_var 4) (x_nil))))) (x_var 9)) (b_one (s_ret [] (x_bl))) (b_nil)) (b_cons (s_set 10 [] (x_dict T.m_dict (x_var 3))) (b_cons (s_stU [10] [] (x_tup [] (x_cons (x_int) (x_cons (x_tup [] (x_cons (x_str) (x_cons (x_int) (x_nil)))) (x_cons (x_int) (x_nil))))) (x_var 10) (x_tup [6] (x_cons (x_var 6) (x_cons (x_call [1] c__law_next (x_cons (x_var 1) (x_cons (x_lenU T.m_len (x_ixU (x_var 5) (x_int))) (x_nil)))) (x_nil))))) (b_cons (s_if (y_ne (x_call [] c_fault_of (x_cons (x_var 5) (x_cons (x_var 10) (x_cons (x_var 4) (x_nil))))) (x_call [] c__law_fault (x_cons (x_var 5) (x_cons (x_var 10) (x_cons (x_var 4) (x_nil)))))) (b_one (s_ret [] (x_bl))) (b_nil)) (b_cons (s_set 11 [] (x_sub (x_sum T.m_sum (x_lc [("_law_one", 13)] [] (i_sq (x_ixU (x_var 5) (x_int))) (by exact g_name 13) (by exact y_one (y_inU (x_var 13) (x_var 3))) (by exact x_ixU (x_ixU (x_var 3) (x_var 13)) (x_int)))) (x_sum T.m_sum (x_lc [("_law_one", 13)] [] (i_sq (x_ixU (x_var 5) (x_int))) (by exact g_name 13) (by exact y_nil) (by exact x_ixU (x_var 13) (x_int)))))) (b_cons (s_if (y_w (w_and (y_isN (x_var 9) (x_non)) (w_and1 (y_ne (x_call [] c_left_over (x_cons (x_var 5) (x_cons (x_dict T.m_dict (x_var 3)) (x_nil)))) (x_var 11))))) (b_one (s_ret [] (x_bl))) (b_nil)) (b_cons (s_set 12 [] (x_ixU (x_var 5) (x_int))) (b_one (s_if (y_ne (x_list T.m_list (x_call [] c_made_by (x_cons (x_var 5) (x_nil)))) (x_lc [("_law_k", 14)] [] (i_r1 T.m_range (x_lenU T.m_len (x_var 12))) (by exact g_name 14) (by exact y_nil) (by exact x_tup [12] (x_cons (x_tup [6, 14] (x_cons (x_var 6) (x_cons (x_var 14) (x_nil)))) (x_cons (x_ixU (x_ixU (x_var 12) (x_var 14)) (x_int)) (x_cons (x_ixU (x_ixU (x_var 12) (x_var 14)) (x_int)) (x_nil))))))) (b_one (s_ret [] (x_bl))) (b_nil))))))))))))))))))))) (b_one (s_ret [] (x_bl)))))
end K33

set_option maxRecDepth 100000
namespace K33
section
open PySem L2 Vx PyProof.Rows
open Vx.Vp Vr
theorem e_next : m__law_next = Vr.m__law_next := rfl
theorem e_val : m_is_value = Vr.m_is_value := rfl
theorem e_name : m_is_name = Vr.m_is_name := rfl
theorem e_btw : m_is_between = Vr.m_is_between := rfl
theorem e_mix : m_mix = Vr.m_mix := rfl
theorem e_lmix : m__law_mix = Vr.m__law_mix := rfl
abbrev MX : Int := 18446744073709551615
def kw (s : Str) (i : Int) : T := .fz .tup [.v (.str s), .v (.int i)]
def tW : T := .fz .tup [.v (.str "wait")]
def tA (s : Str) (ws : List T) : T := .fz .tup [.v (.str s), .fz .tup ws]
def tY (k : Int) (w : T) : T := .fz .tup [.v (.str "any"), .v (.int k), w]
/-- a condition, nested at most so deep -/
inductive Cd : Nat → T → Prop
  | key {n : Nat} (i : Int) : 1 ≤ i → i ≤ MX → Cd n (kw "key" i)
  | lock {n : Nat} (i : Int) : 1 ≤ i → i ≤ MX → Cd n (kw "lock" i)
  | age {n : Nat} (i : Int) : 0 ≤ i → i ≤ 1000 → Cd n (kw "age" i)
  | all {n : Nat} (cs : List T) : 1 ≤ cs.length → cs.length ≤ 4 → (∀ c ∈ cs, Cd n c) → Cd (n + 1) (tA "all" cs)
  | any {n : Nat} (cs : List T) : 1 ≤ cs.length → cs.length ≤ 4 → (∀ c ∈ cs, Cd n c) → Cd (n + 1) (tA "any" cs)
inductive Wt : Nat → T → Prop
  | tok {n : Nat} (i : Int) : 1 ≤ i → i ≤ MX → Wt n (kw "token" i)
  | val {n : Nat} (i : Int) : 0 ≤ i → i ≤ MX → Wt n (kw "value" i)
  | wait {n : Nat} : Wt n tW
  | all {n : Nat} (ws : List T) : 1 ≤ ws.length → ws.length ≤ 4 → (∀ c ∈ ws, Wt n c) → Wt (n + 1) (tA "all" ws)
  | any {n : Nat} (k : Int) (w : T) : 0 ≤ k → k ≤ 3 → Wt n w → Wt (n + 1) (tY k w)
theorem Cd.pers {n : Nat} {t : T} (h : Cd n t) : t.pers = true := by cases h <;> rfl
theorem Wt.pers {n : Nat} {t : T} (h : Wt n t) : t.pers = true := by cases h <;> rfl
theorem Wt.up {n m : Nat} {t : T} (h : Wt n t) : n ≤ m → Wt m t := by
  induction h generalizing m with
  | tok i a b => intro _; exact .tok i a b
  | val i a b => intro _; exact .val i a b
  | wait => intro _; exact .wait
  | all ws a b _ ih => intro k; cases m with
    | zero => omega
    | succ m => exact .all ws a b fun c hc => ih c hc (by omega)
  | any k w a b _ ih => intro k; cases m with
    | zero => omega
    | succ m => exact .any _ w a b (ih (by omega))
theorem all_pers {xs : List T} (h : ∀ x ∈ xs, x.pers = true) : xs.all T.pers = true := List.all_eq_true.mpr h
/-! ### words -/
theorem isw {a w : Str} {xs : List T} {n : Int} {r : Bool} (h : gEq (.v (.str a)) (.v (.str w)) = some (.v (.bl r))) :
    runS m_is_word [.fz .tup (.v (.str a) :: xs), .v (.str w), .v (.int n)] = some (.v (.bl (decide ((xs.length : Int) + 1 = n) && r)), [.fz .tup (.v (.str a) :: xs), .v (.str w), .v (.int n)]) := by
  refine ap_rs ((ap_run rfl).trans ?_) rfl
  unfold g_is_word
  by_cases hn : (xs.length : Int) + 1 = n
  · simp [startG, h, hn, outAt]
  · simp [startG, h, hn, outAt]
namespace Wd
@[scoped simp] theorem iw_key_key {xs : List T} {n : Int} : runS m_is_word [.fz .tup (.v (.str "key") :: xs), .v (.str "key"), .v (.int n)] = some (.v (.bl (decide ((xs.length : Int) + 1 = n) && true)), [.fz .tup (.v (.str "key") :: xs), .v (.str "key"), .v (.int n)]) := isw we_key_key
@[scoped simp] theorem iw_key_lock {xs : List T} {n : Int} : runS m_is_word [.fz .tup (.v (.str "key") :: xs), .v (.str "lock"), .v (.int n)] = some (.v (.bl (decide ((xs.length : Int) + 1 = n) && false)), [.fz .tup (.v (.str "key") :: xs), .v (.str "lock"), .v (.int n)]) := isw we_key_lock
@[scoped simp] theorem iw_key_age {xs : List T} {n : Int} : runS m_is_word [.fz .tup (.v (.str "key") :: xs), .v (.str "age"), .v (.int n)] = some (.v (.bl (decide ((xs.length : Int) + 1 = n) && false)), [.fz .tup (.v (.str "key") :: xs), .v (.str "age"), .v (.int n)]) := isw we_key_age
@[scoped simp] theorem iw_key_all {xs : List T} {n : Int} : runS m_is_word [.fz .tup (.v (.str "key") :: xs), .v (.str "all"), .v (.int n)] = some (.v (.bl (decide ((xs.length : Int) + 1 = n) && false)), [.fz .tup (.v (.str "key") :: xs), .v (.str "all"), .v (.int n)]) := isw we_key_all
@[scoped simp] theorem iw_key_any {xs : List T} {n : Int} : runS m_is_word [.fz .tup (.v (.str "key") :: xs), .v (.str "any"), .v (.int n)] = some (.v (.bl (decide ((xs.length : Int) + 1 = n) && false)), [.fz .tup (.v (.str "key") :: xs), .v (.str "any"), .v (.int n)]) := isw we_key_any
@[scoped simp] theorem iw_key_token {xs : List T} {n : Int} : runS m_is_word [.fz .tup (.v (.str "key") :: xs), .v (.str "token"), .v (.int n)] = some (.v (.bl (decide ((xs.length : Int) + 1 = n) && false)), [.fz .tup (.v (.str "key") :: xs), .v (.str "token"), .v (.int n)]) := isw we_key_token
@[scoped simp] theorem iw_key_value {xs : List T} {n : Int} : runS m_is_word [.fz .tup (.v (.str "key") :: xs), .v (.str "value"), .v (.int n)] = some (.v (.bl (decide ((xs.length : Int) + 1 = n) && false)), [.fz .tup (.v (.str "key") :: xs), .v (.str "value"), .v (.int n)]) := isw we_key_value
@[scoped simp] theorem iw_key_wait {xs : List T} {n : Int} : runS m_is_word [.fz .tup (.v (.str "key") :: xs), .v (.str "wait"), .v (.int n)] = some (.v (.bl (decide ((xs.length : Int) + 1 = n) && false)), [.fz .tup (.v (.str "key") :: xs), .v (.str "wait"), .v (.int n)]) := isw we_key_wait
@[scoped simp] theorem iw_lock_key {xs : List T} {n : Int} : runS m_is_word [.fz .tup (.v (.str "lock") :: xs), .v (.str "key"), .v (.int n)] = some (.v (.bl (decide ((xs.length : Int) + 1 = n) && false)), [.fz .tup (.v (.str "lock") :: xs), .v (.str "key"), .v (.int n)]) := isw we_lock_key
@[scoped simp] theorem iw_lock_lock {xs : List T} {n : Int} : runS m_is_word [.fz .tup (.v (.str "lock") :: xs), .v (.str "lock"), .v (.int n)] = some (.v (.bl (decide ((xs.length : Int) + 1 = n) && true)), [.fz .tup (.v (.str "lock") :: xs), .v (.str "lock"), .v (.int n)]) := isw we_lock_lock
@[scoped simp] theorem iw_lock_age {xs : List T} {n : Int} : runS m_is_word [.fz .tup (.v (.str "lock") :: xs), .v (.str "age"), .v (.int n)] = some (.v (.bl (decide ((xs.length : Int) + 1 = n) && false)), [.fz .tup (.v (.str "lock") :: xs), .v (.str "age"), .v (.int n)]) := isw we_lock_age
@[scoped simp] theorem iw_lock_all {xs : List T} {n : Int} : runS m_is_word [.fz .tup (.v (.str "lock") :: xs), .v (.str "all"), .v (.int n)] = some (.v (.bl (decide ((xs.length : Int) + 1 = n) && false)), [.fz .tup (.v (.str "lock") :: xs), .v (.str "all"), .v (.int n)]) := isw we_lock_all
@[scoped simp] theorem iw_lock_any {xs : List T} {n : Int} : runS m_is_word [.fz .tup (.v (.str "lock") :: xs), .v (.str "any"), .v (.int n)] = some (.v (.bl (decide ((xs.length : Int) + 1 = n) && false)), [.fz .tup (.v (.str "lock") :: xs), .v (.str "any"), .v (.int n)]) := isw we_lock_any
@[scoped simp] theorem iw_lock_token {xs : List T} {n : Int} : runS m_is_word [.fz .tup (.v (.str "lock") :: xs), .v (.str "token"), .v (.int n)] = some (.v (.bl (decide ((xs.length : Int) + 1 = n) && false)), [.fz .tup (.v (.str "lock") :: xs), .v (.str "token"), .v (.int n)]) := isw we_lock_token
@[scoped simp] theorem iw_lock_value {xs : List T} {n : Int} : runS m_is_word [.fz .tup (.v (.str "lock") :: xs), .v (.str "value"), .v (.int n)] = some (.v (.bl (decide ((xs.length : Int) + 1 = n) && false)), [.fz .tup (.v (.str "lock") :: xs), .v (.str "value"), .v (.int n)]) := isw we_lock_value
@[scoped simp] theorem iw_lock_wait {xs : List T} {n : Int} : runS m_is_word [.fz .tup (.v (.str "lock") :: xs), .v (.str "wait"), .v (.int n)] = some (.v (.bl (decide ((xs.length : Int) + 1 = n) && false)), [.fz .tup (.v (.str "lock") :: xs), .v (.str "wait"), .v (.int n)]) := isw we_lock_wait
@[scoped simp] theorem iw_age_key {xs : List T} {n : Int} : runS m_is_word [.fz .tup (.v (.str "age") :: xs), .v (.str "key"), .v (.int n)] = some (.v (.bl (decide ((xs.length : Int) + 1 = n) && false)), [.fz .tup (.v (.str "age") :: xs), .v (.str "key"), .v (.int n)]) := isw we_age_key
@[scoped simp] theorem iw_age_lock {xs : List T} {n : Int} : runS m_is_word [.fz .tup (.v (.str "age") :: xs), .v (.str "lock"), .v (.int n)] = some (.v (.bl (decide ((xs.length : Int) + 1 = n) && false)), [.fz .tup (.v (.str "age") :: xs), .v (.str "lock"), .v (.int n)]) := isw we_age_lock
@[scoped simp] theorem iw_age_age {xs : List T} {n : Int} : runS m_is_word [.fz .tup (.v (.str "age") :: xs), .v (.str "age"), .v (.int n)] = some (.v (.bl (decide ((xs.length : Int) + 1 = n) && true)), [.fz .tup (.v (.str "age") :: xs), .v (.str "age"), .v (.int n)]) := isw we_age_age
@[scoped simp] theorem iw_age_all {xs : List T} {n : Int} : runS m_is_word [.fz .tup (.v (.str "age") :: xs), .v (.str "all"), .v (.int n)] = some (.v (.bl (decide ((xs.length : Int) + 1 = n) && false)), [.fz .tup (.v (.str "age") :: xs), .v (.str "all"), .v (.int n)]) := isw we_age_all
@[scoped simp] theorem iw_age_any {xs : List T} {n : Int} : runS m_is_word [.fz .tup (.v (.str "age") :: xs), .v (.str "any"), .v (.int n)] = some (.v (.bl (decide ((xs.length : Int) + 1 = n) && false)), [.fz .tup (.v (.str "age") :: xs), .v (.str "any"), .v (.int n)]) := isw we_age_any
@[scoped simp] theorem iw_age_token {xs : List T} {n : Int} : runS m_is_word [.fz .tup (.v (.str "age") :: xs), .v (.str "token"), .v (.int n)] = some (.v (.bl (decide ((xs.length : Int) + 1 = n) && false)), [.fz .tup (.v (.str "age") :: xs), .v (.str "token"), .v (.int n)]) := isw we_age_token
@[scoped simp] theorem iw_age_value {xs : List T} {n : Int} : runS m_is_word [.fz .tup (.v (.str "age") :: xs), .v (.str "value"), .v (.int n)] = some (.v (.bl (decide ((xs.length : Int) + 1 = n) && false)), [.fz .tup (.v (.str "age") :: xs), .v (.str "value"), .v (.int n)]) := isw we_age_value
@[scoped simp] theorem iw_age_wait {xs : List T} {n : Int} : runS m_is_word [.fz .tup (.v (.str "age") :: xs), .v (.str "wait"), .v (.int n)] = some (.v (.bl (decide ((xs.length : Int) + 1 = n) && false)), [.fz .tup (.v (.str "age") :: xs), .v (.str "wait"), .v (.int n)]) := isw we_age_wait
@[scoped simp] theorem iw_all_key {xs : List T} {n : Int} : runS m_is_word [.fz .tup (.v (.str "all") :: xs), .v (.str "key"), .v (.int n)] = some (.v (.bl (decide ((xs.length : Int) + 1 = n) && false)), [.fz .tup (.v (.str "all") :: xs), .v (.str "key"), .v (.int n)]) := isw we_all_key
@[scoped simp] theorem iw_all_lock {xs : List T} {n : Int} : runS m_is_word [.fz .tup (.v (.str "all") :: xs), .v (.str "lock"), .v (.int n)] = some (.v (.bl (decide ((xs.length : Int) + 1 = n) && false)), [.fz .tup (.v (.str "all") :: xs), .v (.str "lock"), .v (.int n)]) := isw we_all_lock
@[scoped simp] theorem iw_all_age {xs : List T} {n : Int} : runS m_is_word [.fz .tup (.v (.str "all") :: xs), .v (.str "age"), .v (.int n)] = some (.v (.bl (decide ((xs.length : Int) + 1 = n) && false)), [.fz .tup (.v (.str "all") :: xs), .v (.str "age"), .v (.int n)]) := isw we_all_age
@[scoped simp] theorem iw_all_all {xs : List T} {n : Int} : runS m_is_word [.fz .tup (.v (.str "all") :: xs), .v (.str "all"), .v (.int n)] = some (.v (.bl (decide ((xs.length : Int) + 1 = n) && true)), [.fz .tup (.v (.str "all") :: xs), .v (.str "all"), .v (.int n)]) := isw we_all_all
@[scoped simp] theorem iw_all_any {xs : List T} {n : Int} : runS m_is_word [.fz .tup (.v (.str "all") :: xs), .v (.str "any"), .v (.int n)] = some (.v (.bl (decide ((xs.length : Int) + 1 = n) && false)), [.fz .tup (.v (.str "all") :: xs), .v (.str "any"), .v (.int n)]) := isw we_all_any
@[scoped simp] theorem iw_all_token {xs : List T} {n : Int} : runS m_is_word [.fz .tup (.v (.str "all") :: xs), .v (.str "token"), .v (.int n)] = some (.v (.bl (decide ((xs.length : Int) + 1 = n) && false)), [.fz .tup (.v (.str "all") :: xs), .v (.str "token"), .v (.int n)]) := isw we_all_token
@[scoped simp] theorem iw_all_value {xs : List T} {n : Int} : runS m_is_word [.fz .tup (.v (.str "all") :: xs), .v (.str "value"), .v (.int n)] = some (.v (.bl (decide ((xs.length : Int) + 1 = n) && false)), [.fz .tup (.v (.str "all") :: xs), .v (.str "value"), .v (.int n)]) := isw we_all_value
@[scoped simp] theorem iw_all_wait {xs : List T} {n : Int} : runS m_is_word [.fz .tup (.v (.str "all") :: xs), .v (.str "wait"), .v (.int n)] = some (.v (.bl (decide ((xs.length : Int) + 1 = n) && false)), [.fz .tup (.v (.str "all") :: xs), .v (.str "wait"), .v (.int n)]) := isw we_all_wait
@[scoped simp] theorem iw_any_key {xs : List T} {n : Int} : runS m_is_word [.fz .tup (.v (.str "any") :: xs), .v (.str "key"), .v (.int n)] = some (.v (.bl (decide ((xs.length : Int) + 1 = n) && false)), [.fz .tup (.v (.str "any") :: xs), .v (.str "key"), .v (.int n)]) := isw we_any_key
@[scoped simp] theorem iw_any_lock {xs : List T} {n : Int} : runS m_is_word [.fz .tup (.v (.str "any") :: xs), .v (.str "lock"), .v (.int n)] = some (.v (.bl (decide ((xs.length : Int) + 1 = n) && false)), [.fz .tup (.v (.str "any") :: xs), .v (.str "lock"), .v (.int n)]) := isw we_any_lock
@[scoped simp] theorem iw_any_age {xs : List T} {n : Int} : runS m_is_word [.fz .tup (.v (.str "any") :: xs), .v (.str "age"), .v (.int n)] = some (.v (.bl (decide ((xs.length : Int) + 1 = n) && false)), [.fz .tup (.v (.str "any") :: xs), .v (.str "age"), .v (.int n)]) := isw we_any_age
@[scoped simp] theorem iw_any_all {xs : List T} {n : Int} : runS m_is_word [.fz .tup (.v (.str "any") :: xs), .v (.str "all"), .v (.int n)] = some (.v (.bl (decide ((xs.length : Int) + 1 = n) && false)), [.fz .tup (.v (.str "any") :: xs), .v (.str "all"), .v (.int n)]) := isw we_any_all
@[scoped simp] theorem iw_any_any {xs : List T} {n : Int} : runS m_is_word [.fz .tup (.v (.str "any") :: xs), .v (.str "any"), .v (.int n)] = some (.v (.bl (decide ((xs.length : Int) + 1 = n) && true)), [.fz .tup (.v (.str "any") :: xs), .v (.str "any"), .v (.int n)]) := isw we_any_any
@[scoped simp] theorem iw_any_token {xs : List T} {n : Int} : runS m_is_word [.fz .tup (.v (.str "any") :: xs), .v (.str "token"), .v (.int n)] = some (.v (.bl (decide ((xs.length : Int) + 1 = n) && false)), [.fz .tup (.v (.str "any") :: xs), .v (.str "token"), .v (.int n)]) := isw we_any_token
@[scoped simp] theorem iw_any_value {xs : List T} {n : Int} : runS m_is_word [.fz .tup (.v (.str "any") :: xs), .v (.str "value"), .v (.int n)] = some (.v (.bl (decide ((xs.length : Int) + 1 = n) && false)), [.fz .tup (.v (.str "any") :: xs), .v (.str "value"), .v (.int n)]) := isw we_any_value
@[scoped simp] theorem iw_any_wait {xs : List T} {n : Int} : runS m_is_word [.fz .tup (.v (.str "any") :: xs), .v (.str "wait"), .v (.int n)] = some (.v (.bl (decide ((xs.length : Int) + 1 = n) && false)), [.fz .tup (.v (.str "any") :: xs), .v (.str "wait"), .v (.int n)]) := isw we_any_wait
@[scoped simp] theorem iw_token_key {xs : List T} {n : Int} : runS m_is_word [.fz .tup (.v (.str "token") :: xs), .v (.str "key"), .v (.int n)] = some (.v (.bl (decide ((xs.length : Int) + 1 = n) && false)), [.fz .tup (.v (.str "token") :: xs), .v (.str "key"), .v (.int n)]) := isw we_token_key
@[scoped simp] theorem iw_token_lock {xs : List T} {n : Int} : runS m_is_word [.fz .tup (.v (.str "token") :: xs), .v (.str "lock"), .v (.int n)] = some (.v (.bl (decide ((xs.length : Int) + 1 = n) && false)), [.fz .tup (.v (.str "token") :: xs), .v (.str "lock"), .v (.int n)]) := isw we_token_lock
@[scoped simp] theorem iw_token_age {xs : List T} {n : Int} : runS m_is_word [.fz .tup (.v (.str "token") :: xs), .v (.str "age"), .v (.int n)] = some (.v (.bl (decide ((xs.length : Int) + 1 = n) && false)), [.fz .tup (.v (.str "token") :: xs), .v (.str "age"), .v (.int n)]) := isw we_token_age
@[scoped simp] theorem iw_token_all {xs : List T} {n : Int} : runS m_is_word [.fz .tup (.v (.str "token") :: xs), .v (.str "all"), .v (.int n)] = some (.v (.bl (decide ((xs.length : Int) + 1 = n) && false)), [.fz .tup (.v (.str "token") :: xs), .v (.str "all"), .v (.int n)]) := isw we_token_all
@[scoped simp] theorem iw_token_any {xs : List T} {n : Int} : runS m_is_word [.fz .tup (.v (.str "token") :: xs), .v (.str "any"), .v (.int n)] = some (.v (.bl (decide ((xs.length : Int) + 1 = n) && false)), [.fz .tup (.v (.str "token") :: xs), .v (.str "any"), .v (.int n)]) := isw we_token_any
@[scoped simp] theorem iw_token_token {xs : List T} {n : Int} : runS m_is_word [.fz .tup (.v (.str "token") :: xs), .v (.str "token"), .v (.int n)] = some (.v (.bl (decide ((xs.length : Int) + 1 = n) && true)), [.fz .tup (.v (.str "token") :: xs), .v (.str "token"), .v (.int n)]) := isw we_token_token
@[scoped simp] theorem iw_token_value {xs : List T} {n : Int} : runS m_is_word [.fz .tup (.v (.str "token") :: xs), .v (.str "value"), .v (.int n)] = some (.v (.bl (decide ((xs.length : Int) + 1 = n) && false)), [.fz .tup (.v (.str "token") :: xs), .v (.str "value"), .v (.int n)]) := isw we_token_value
@[scoped simp] theorem iw_token_wait {xs : List T} {n : Int} : runS m_is_word [.fz .tup (.v (.str "token") :: xs), .v (.str "wait"), .v (.int n)] = some (.v (.bl (decide ((xs.length : Int) + 1 = n) && false)), [.fz .tup (.v (.str "token") :: xs), .v (.str "wait"), .v (.int n)]) := isw we_token_wait
@[scoped simp] theorem iw_value_key {xs : List T} {n : Int} : runS m_is_word [.fz .tup (.v (.str "value") :: xs), .v (.str "key"), .v (.int n)] = some (.v (.bl (decide ((xs.length : Int) + 1 = n) && false)), [.fz .tup (.v (.str "value") :: xs), .v (.str "key"), .v (.int n)]) := isw we_value_key
@[scoped simp] theorem iw_value_lock {xs : List T} {n : Int} : runS m_is_word [.fz .tup (.v (.str "value") :: xs), .v (.str "lock"), .v (.int n)] = some (.v (.bl (decide ((xs.length : Int) + 1 = n) && false)), [.fz .tup (.v (.str "value") :: xs), .v (.str "lock"), .v (.int n)]) := isw we_value_lock
@[scoped simp] theorem iw_value_age {xs : List T} {n : Int} : runS m_is_word [.fz .tup (.v (.str "value") :: xs), .v (.str "age"), .v (.int n)] = some (.v (.bl (decide ((xs.length : Int) + 1 = n) && false)), [.fz .tup (.v (.str "value") :: xs), .v (.str "age"), .v (.int n)]) := isw we_value_age
@[scoped simp] theorem iw_value_all {xs : List T} {n : Int} : runS m_is_word [.fz .tup (.v (.str "value") :: xs), .v (.str "all"), .v (.int n)] = some (.v (.bl (decide ((xs.length : Int) + 1 = n) && false)), [.fz .tup (.v (.str "value") :: xs), .v (.str "all"), .v (.int n)]) := isw we_value_all
@[scoped simp] theorem iw_value_any {xs : List T} {n : Int} : runS m_is_word [.fz .tup (.v (.str "value") :: xs), .v (.str "any"), .v (.int n)] = some (.v (.bl (decide ((xs.length : Int) + 1 = n) && false)), [.fz .tup (.v (.str "value") :: xs), .v (.str "any"), .v (.int n)]) := isw we_value_any
@[scoped simp] theorem iw_value_token {xs : List T} {n : Int} : runS m_is_word [.fz .tup (.v (.str "value") :: xs), .v (.str "token"), .v (.int n)] = some (.v (.bl (decide ((xs.length : Int) + 1 = n) && false)), [.fz .tup (.v (.str "value") :: xs), .v (.str "token"), .v (.int n)]) := isw we_value_token
@[scoped simp] theorem iw_value_value {xs : List T} {n : Int} : runS m_is_word [.fz .tup (.v (.str "value") :: xs), .v (.str "value"), .v (.int n)] = some (.v (.bl (decide ((xs.length : Int) + 1 = n) && true)), [.fz .tup (.v (.str "value") :: xs), .v (.str "value"), .v (.int n)]) := isw we_value_value
@[scoped simp] theorem iw_value_wait {xs : List T} {n : Int} : runS m_is_word [.fz .tup (.v (.str "value") :: xs), .v (.str "wait"), .v (.int n)] = some (.v (.bl (decide ((xs.length : Int) + 1 = n) && false)), [.fz .tup (.v (.str "value") :: xs), .v (.str "wait"), .v (.int n)]) := isw we_value_wait
@[scoped simp] theorem iw_wait_key {xs : List T} {n : Int} : runS m_is_word [.fz .tup (.v (.str "wait") :: xs), .v (.str "key"), .v (.int n)] = some (.v (.bl (decide ((xs.length : Int) + 1 = n) && false)), [.fz .tup (.v (.str "wait") :: xs), .v (.str "key"), .v (.int n)]) := isw we_wait_key
@[scoped simp] theorem iw_wait_lock {xs : List T} {n : Int} : runS m_is_word [.fz .tup (.v (.str "wait") :: xs), .v (.str "lock"), .v (.int n)] = some (.v (.bl (decide ((xs.length : Int) + 1 = n) && false)), [.fz .tup (.v (.str "wait") :: xs), .v (.str "lock"), .v (.int n)]) := isw we_wait_lock
@[scoped simp] theorem iw_wait_age {xs : List T} {n : Int} : runS m_is_word [.fz .tup (.v (.str "wait") :: xs), .v (.str "age"), .v (.int n)] = some (.v (.bl (decide ((xs.length : Int) + 1 = n) && false)), [.fz .tup (.v (.str "wait") :: xs), .v (.str "age"), .v (.int n)]) := isw we_wait_age
@[scoped simp] theorem iw_wait_all {xs : List T} {n : Int} : runS m_is_word [.fz .tup (.v (.str "wait") :: xs), .v (.str "all"), .v (.int n)] = some (.v (.bl (decide ((xs.length : Int) + 1 = n) && false)), [.fz .tup (.v (.str "wait") :: xs), .v (.str "all"), .v (.int n)]) := isw we_wait_all
@[scoped simp] theorem iw_wait_any {xs : List T} {n : Int} : runS m_is_word [.fz .tup (.v (.str "wait") :: xs), .v (.str "any"), .v (.int n)] = some (.v (.bl (decide ((xs.length : Int) + 1 = n) && false)), [.fz .tup (.v (.str "wait") :: xs), .v (.str "any"), .v (.int n)]) := isw we_wait_any
@[scoped simp] theorem iw_wait_token {xs : List T} {n : Int} : runS m_is_word [.fz .tup (.v (.str "wait") :: xs), .v (.str "token"), .v (.int n)] = some (.v (.bl (decide ((xs.length : Int) + 1 = n) && false)), [.fz .tup (.v (.str "wait") :: xs), .v (.str "token"), .v (.int n)]) := isw we_wait_token
@[scoped simp] theorem iw_wait_value {xs : List T} {n : Int} : runS m_is_word [.fz .tup (.v (.str "wait") :: xs), .v (.str "value"), .v (.int n)] = some (.v (.bl (decide ((xs.length : Int) + 1 = n) && false)), [.fz .tup (.v (.str "wait") :: xs), .v (.str "value"), .v (.int n)]) := isw we_wait_value
@[scoped simp] theorem iw_wait_wait {xs : List T} {n : Int} : runS m_is_word [.fz .tup (.v (.str "wait") :: xs), .v (.str "wait"), .v (.int n)] = some (.v (.bl (decide ((xs.length : Int) + 1 = n) && true)), [.fz .tup (.v (.str "wait") :: xs), .v (.str "wait"), .v (.int n)]) := isw we_wait_wait
end Wd
open Wd
theorem isrows {xs : List T} (h1 : 1 ≤ xs.length) (h4 : xs.length ≤ 4) : runS m_is_rows [.fz .tup xs] = some (.v (.bl true), [.fz .tup xs]) := by
  refine ap_rs ((ap_run rfl).trans ?_) rfl
  unfold g_is_rows
  have a : (1 : Int) ≤ xs.length := by omega
  have b : (xs.length : Int) ≤ 4 := by omega
  simp [startG, a, b, outAt, bl?]
theorem all_tt {cs : List T} : cs.all (fun _ => true) = true := List.all_eq_true.mpr fun _ _ => rfl
theorem lc_f2 (sem : List T → Option (Rv × List T)) (b : T → Bool) (d : Int) : ∀ (xs : List T), (∀ t ∈ xs, t.pers = true ∧ runS sem [t, .v (.int (d - 1))] = some (.v (.bl (b t)), [t, .v (.int (d - 1))])) → ∀ (acc : List T) (a o : Option T),
    ∃ o', lcGo [] [2] (fNm 2) (fun Γ => some (Γ, true)) (fCall [] [] sem [] (fACons [] (fVar 2) (fACons [] (f2 [] Vx.gSub (fVar 1) (fC (.int 1))) fANil))) xs [a, some (.v (.int d)), o] acc = some ([a, some (.v (.int d)), o'], acc ++ xs.map fun t => .v (.bl (b t)))
  | [], _, acc, a, o => ⟨o, by simp [lcGo]⟩
  | x :: xs, h, acc, a, o => by
    obtain ⟨hp, hx⟩ := h x List.mem_cons_self
    obtain ⟨o', e⟩ := lc_f2 sem b d xs (fun t m => h t (List.mem_cons_of_mem _ m)) (acc ++ [.v (.bl (b x))]) a (some x)
    refine ⟨o', ?_⟩
    simp [lcGo, wipeG, hp, hx, e]
theorem fc_S (m : Nat) (ts : List T) : r_fits_condition (m + 1) ts = runB 2 3 [] (g_fits_condition (r_fits_condition m)) ts := rfl
theorem fw_S (m : Nat) (ts : List T) : r_fits_witness (m + 1) ts = runB 2 3 [] (g_fits_witness (r_fits_witness m)) ts := rfl
theorem sqf {xs : List T} : sqT (.fz .tup xs) = some xs := rfl
theorem fitc {n : Nat} {t : T} (h : Cd n t) : ∀ (m : Nat) (d : Int), n < m → (n : Int) ≤ d → runS (r_fits_condition m) [t, .v (.int d)] = some (.v (.bl true), [t, .v (.int d)]) := by
  induction h with
  | key i a b =>
    intro m d hm hd
    cases m with
    | zero => omega
    | succ m =>
    refine ap_rs ((fc_S m _).trans ((ap_run rfl).trans ?_)) rfl
    unfold g_fits_condition
    simp [startG, kw, e_name, name_int, a, b, outAt]
  | lock i a b =>
    intro m d hm hd
    cases m with
    | zero => omega
    | succ m =>
    refine ap_rs ((fc_S m _).trans ((ap_run rfl).trans ?_)) rfl
    unfold g_fits_condition
    simp [startG, kw, e_name, name_int, a, b, outAt]
  | age i a b =>
    intro m d hm hd
    cases m with
    | zero => omega
    | succ m =>
    refine ap_rs ((fc_S m _).trans ((ap_run rfl).trans ?_)) rfl
    unfold g_fits_condition
    simp [startG, kw, e_btw, btw_int, a, b, outAt]
  | all cs a b hc ih =>
    rename_i n
    intro m d hm hd
    cases m with
    | zero => omega
    | succ m =>
    refine ap_rs ((fc_S m _).trans ((ap_run rfl).trans ?_)) rfl
    have hp := all_pers fun c hcc => (hc c hcc).pers
    obtain ⟨o', e⟩ := lc_f2 (r_fits_condition m) (fun _ => true) d cs (fun c hcc => ⟨(hc c hcc).pers, ih c hcc m (d - 1) (by omega) (by omega)⟩) [] (some (tA "all" cs)) none
    rw [List.nil_append] at e
    have h0 : 0 < d := by omega
    have hl : cs.length ≤ 10000 := by omega
    have hg := gAll_map (fun _ => true) cs
    unfold g_fits_condition
    simp only [tA] at e ⊢
    simp [startG, isrows a b, h0, e, hp, hl, hg, sqf, persVs, rstG, outAt, all_tt, -List.all_eq_true]
  | any cs a b hc ih =>
    rename_i n
    intro m d hm hd
    cases m with
    | zero => omega
    | succ m =>
    refine ap_rs ((fc_S m _).trans ((ap_run rfl).trans ?_)) rfl
    have hp := all_pers fun c hcc => (hc c hcc).pers
    obtain ⟨o', e⟩ := lc_f2 (r_fits_condition m) (fun _ => true) d cs (fun c hcc => ⟨(hc c hcc).pers, ih c hcc m (d - 1) (by omega) (by omega)⟩) [] (some (tA "any" cs)) none
    rw [List.nil_append] at e
    have h0 : 0 < d := by omega
    have hl : cs.length ≤ 10000 := by omega
    have hg := gAll_map (fun _ => true) cs
    unfold g_fits_condition
    simp only [tA] at e ⊢
    simp [startG, isrows a b, h0, e, hp, hl, hg, sqf, persVs, rstG, outAt, all_tt, -List.all_eq_true]
theorem fitw {n : Nat} {t : T} (h : Wt n t) : ∀ (m : Nat) (d : Int), n < m → (n : Int) ≤ d → runS (r_fits_witness m) [t, .v (.int d)] = some (.v (.bl true), [t, .v (.int d)]) := by
  induction h with
  | tok i a b =>
    intro m d hm hd
    cases m with
    | zero => omega
    | succ m =>
    refine ap_rs ((fw_S m _).trans ((ap_run rfl).trans ?_)) rfl
    unfold g_fits_witness
    simp [startG, kw, tW, e_name, name_int, e_val, val_int, a, b, outAt]
  | val i a b =>
    intro m d hm hd
    cases m with
    | zero => omega
    | succ m =>
    refine ap_rs ((fw_S m _).trans ((ap_run rfl).trans ?_)) rfl
    unfold g_fits_witness
    simp [startG, kw, tW, e_name, name_int, e_val, val_int, a, b, outAt]
  | wait =>
    intro m d hm hd
    cases m with
    | zero => omega
    | succ m =>
    refine ap_rs ((fw_S m _).trans ((ap_run rfl).trans ?_)) rfl
    unfold g_fits_witness
    simp [startG, kw, tW, e_name, name_int, e_val, val_int, outAt]
  | all cs a b hc ih =>
    rename_i n
    intro m d hm hd
    cases m with
    | zero => omega
    | succ m =>
    refine ap_rs ((fw_S m _).trans ((ap_run rfl).trans ?_)) rfl
    have hp := all_pers fun c hcc => (hc c hcc).pers
    obtain ⟨o', e⟩ := lc_f2 (r_fits_witness m) (fun _ => true) d cs (fun c hcc => ⟨(hc c hcc).pers, ih c hcc m (d - 1) (by omega) (by omega)⟩) [] (some (tA "all" cs)) none
    rw [List.nil_append] at e
    have h0 : 0 < d := by omega
    have hl : cs.length ≤ 10000 := by omega
    have hg := gAll_map (fun _ => true) cs
    unfold g_fits_witness
    simp only [tA] at e ⊢
    simp [startG, isrows a b, h0, e, hp, hl, hg, sqf, persVs, rstG, outAt, all_tt, -List.all_eq_true]
  | any k w a b hw ih =>
    rename_i n
    intro m d hm hd
    cases m with
    | zero => omega
    | succ m =>
    refine ap_rs ((fw_S m _).trans ((ap_run rfl).trans ?_)) rfl
    have h0 : 0 < d := by omega
    have hw' := ih m (d - 1) (by omega) (by omega)
    have hp := hw.pers
    have hsub : sub (.val (tY k w)) 2 w = .val w := by
      unfold sub
      rw [if_pos hp]
    unfold g_fits_witness
    simp only [tY] at hsub ⊢
    simp [startG, h0, e_btw, btw_int, a, b, hw', hsub, outAt]
theorem isc_ok {n : Nat} {t : T} (h : Cd n t) (hn : n ≤ 3) : runS m_is_condition [t] = some (.v (.bl true), [t]) := by
  refine ap_rs ((ap_run rfl).trans ?_) rfl
  have e := fitc h 8 3 (by omega) (by omega)
  have hp := h.pers
  unfold g_is_condition m_fits_condition
  simp [startG, e, hp, outAt]
theorem isw_ok {n : Nat} {t : T} (h : Wt n t) (hn : n ≤ 3) : runS m_is_witness [t] = some (.v (.bl true), [t]) := by
  refine ap_rs ((ap_run rfl).trans ?_) rfl
  have e := fitw h 8 3 (by omega) (by omega)
  have hp := h.pers
  unfold g_is_witness m_fits_witness
  simp [startG, e, hp, outAt]
end
end K33

set_option maxRecDepth 100000
namespace K33
section
open PySem L2 Vx PyProof.Rows
open Vx.Vp Vr Wd
theorem inL_app (a b : List Int) : inL a ++ inL b = inL (a ++ b) := (List.map_append).symm
theorem addL (a b : List Int) (h : a.length + b.length ≤ 10000) : gAddU (.ow false .lst (inL a)) (.ow false .lst (inL b)) = some (.ow false .lst (inL (a ++ b))) := by
  rw [gAddU_l (inL_pers a) (inL_pers b) (by rw [inL_len, inL_len]; omega), inL_app]
theorem extL (a b : List Int) (h : a.length + b.length ≤ 10000) : gExt (.ow false .lst (inL a)) [.ow false .lst (inL b)] = some (.ow false .lst (inL (a ++ b)), .v .non) := by
  have := inL_pers b
  have h1 : (inL a).length + (inL b).length ≤ 100000 := by rw [inL_len, inL_len]; omega
  rw [← inL_app]
  simp [gExt, lstX, this, h1, nT, -List.all_eq_true]
def InR (l : List Int) : Prop := ∀ v ∈ l, 0 ≤ v ∧ v ≤ MX
theorem InR.app {a b : List Int} (h : InR a) (k : InR b) : InR (a ++ b) := fun v m => (List.mem_append.mp m).elim (h v) (k v)
theorem lf_S (m : Nat) (ts : List T) : r__law_flat (m + 1) ts = runB 1 5 [1, 2, 3, 4] (g__law_flat (r__law_flat m)) ts := rfl
theorem pf_S (m : Nat) (ts : List T) : r_flat_condition (m + 1) ts = runB 1 5 [1, 2, 3, 4] (g_flat_condition (r_flat_condition m)) ts := rfl
def FlatP (n : Nat) (t : T) (b : Nat) : Prop := ∃ l : List Int, InR l ∧ l.length ≤ b ∧ ∀ m, n < m → runS (r__law_flat m) [t] = some (.ow false .lst (inL l), [t]) ∧ runS (r_flat_condition m) [t] = some (.ow false .lst (inL l), [t])
theorem flat_for {n b : Nat} : ∀ (cs : List T), (∀ c ∈ cs, c.pers = true ∧ FlatP n c b) → ∀ (acc : List Int) (a w p o : Option T), InR acc → acc.length + cs.length * b ≤ 9000 → ∃ (L : List Int) (o' : Option T), InR L ∧ L.length ≤ acc.length + cs.length * b ∧ ∀ m, n < m →
    forGo (fNm 4) (gSet [] 3 (f2 [] gAddU (fVar 3) (fCall [] [] (r__law_flat m) [] (fACons [] (fVar 4) fANil)))) cs [a, w, p, some (.ow false .lst (inL acc)), o] = some (.nx [a, w, p, some (.ow false .lst (inL L)), o']) ∧
    forGo (fNm 4) (gDrop (fMt [3] [] [] isLst gExt (fVar 3) (fACons [] (fCall [] [] (r_flat_condition m) [] (fACons [] (fVar 4) fANil)) fANil))) cs [a, w, p, some (.ow false .lst (inL acc)), o] = some (.nx [a, w, p, some (.ow false .lst (inL L)), o'])
  | [], _, acc, a, w, p, o, hr, _ => ⟨acc, o, hr, by simp, fun m _ => ⟨rfl, rfl⟩⟩
  | c :: cs, h, acc, a, w, p, o, hr, hb => by
    obtain ⟨hp, l, hl, hlb, hm⟩ := h c List.mem_cons_self
    have e0 : (c :: cs).length * b = cs.length * b + b := by rw [List.length_cons, Nat.add_mul, Nat.one_mul]
    obtain ⟨L, o', hL, hLb, e⟩ := flat_for cs (fun c' m => h c' (List.mem_cons_of_mem _ m)) (acc ++ l) a w p (some c) (hr.app hl) (by rw [List.length_append]; omega)
    refine ⟨L, o', hL, by rw [List.length_append] at hLb; omega, fun m hnm => ?_⟩
    obtain ⟨k1, k2⟩ := hm m hnm
    obtain ⟨e1, e2⟩ := e m hnm
    have h1 := addL acc l (by omega)
    have h2 := extL acc l (by omega)
    constructor
    · simp [forGo, hp, k1, h1, e1]
    · simp [forGo, hp, k2, h2, e2]
def bd4 : Nat → Nat
  | 0 => 2
  | n + 1 => 2 + 4 * bd4 n
theorem bd4_le : ∀ {n : Nat}, 2 ≤ bd4 n
  | 0 => Nat.le_refl _
  | n + 1 => Nat.le_add_right _ _
theorem flatc {n : Nat} {t : T} (h : Cd n t) (hn : bd4 n ≤ 2000) : FlatP n t (bd4 n) := by
  induction h with
  | key i a b =>
    refine ⟨[1, i], ?_, ?_, fun m hm => ?_⟩
    · intro v hv
      simp only [List.mem_cons, List.not_mem_nil, or_false] at hv
      rcases hv with rfl | rfl
      · decide
      · exact ⟨by omega, Int.le_trans b (by decide)⟩
    · exact bd4_le
    · cases m with
      | zero => omega
      | succ m =>
      constructor
      · refine ap_rs ((lf_S m _).trans ((ap_run rfl).trans ?_)) rfl
        unfold g__law_flat
        simp [startG, kw, inL, outAt]
      · refine ap_rs ((pf_S m _).trans ((ap_run rfl).trans ?_)) rfl
        unfold g_flat_condition
        simp [startG, kw, inL, outAt]
  | lock i a b =>
    refine ⟨[2, i], ?_, ?_, fun m hm => ?_⟩
    · intro v hv
      simp only [List.mem_cons, List.not_mem_nil, or_false] at hv
      rcases hv with rfl | rfl
      · decide
      · exact ⟨by omega, Int.le_trans b (by decide)⟩
    · exact bd4_le
    · cases m with
      | zero => omega
      | succ m =>
      constructor
      · refine ap_rs ((lf_S m _).trans ((ap_run rfl).trans ?_)) rfl
        unfold g__law_flat
        simp [startG, kw, inL, outAt]
      · refine ap_rs ((pf_S m _).trans ((ap_run rfl).trans ?_)) rfl
        unfold g_flat_condition
        simp [startG, kw, inL, outAt]
  | age i a b =>
    refine ⟨[3, i], ?_, ?_, fun m hm => ?_⟩
    · intro v hv
      simp only [List.mem_cons, List.not_mem_nil, or_false] at hv
      rcases hv with rfl | rfl
      · decide
      · exact ⟨by omega, Int.le_trans b (by decide)⟩
    · exact bd4_le
    · cases m with
      | zero => omega
      | succ m =>
      constructor
      · refine ap_rs ((lf_S m _).trans ((ap_run rfl).trans ?_)) rfl
        unfold g__law_flat
        simp [startG, kw, inL, outAt]
      · refine ap_rs ((pf_S m _).trans ((ap_run rfl).trans ?_)) rfl
        unfold g_flat_condition
        simp [startG, kw, inL, outAt]
  | all cs a b hc ih =>
    rename_i n
    have hb4 : bd4 (n + 1) = 2 + 4 * bd4 n := rfl
    have hlb : cs.length * bd4 n ≤ 4 * bd4 n := Nat.mul_le_mul_right _ b
    have hp := all_pers fun c hcc => (hc c hcc).pers
    obtain ⟨L, o', hL, hLb, e⟩ := flat_for (n := n) (b := bd4 n) cs (fun c m => ⟨(hc c m).pers, ih c m (by omega)⟩) [4, (cs.length : Int)] (some (tA "all" cs)) (some (.v (.str "all"))) (some (.fz .tup cs)) none (by
      intro v hv
      simp only [List.mem_cons, List.not_mem_nil, or_false] at hv
      rcases hv with rfl | rfl
      · decide
      · constructor
        · omega
        · have : (cs.length : Int) ≤ 4 := by omega
          exact Int.le_trans this (by decide)) (by simp only [List.length_cons, List.length_nil]; omega)
    refine ⟨L, hL, by simp only [List.length_cons, List.length_nil] at hLb; omega, fun m hm => ?_⟩
    cases m with
    | zero => omega
    | succ m =>
    obtain ⟨e1, e2⟩ := e m (by omega)
    simp only [tA, inL, List.map_cons, List.map_nil] at e1 e2 ⊢
    constructor
    · refine ap_rs ((lf_S m _).trans ((ap_run rfl).trans ?_)) rfl
      unfold g__law_flat
      simp [startG, e1, hp, sqf, mvIn, outAt, -List.all_eq_true]
    · refine ap_rs ((pf_S m _).trans ((ap_run rfl).trans ?_)) rfl
      unfold g_flat_condition
      simp [startG, e2, hp, sqf, mvIn, outAt, -List.all_eq_true]
  | any cs a b hc ih =>
    rename_i n
    have hb4 : bd4 (n + 1) = 2 + 4 * bd4 n := rfl
    have hlb : cs.length * bd4 n ≤ 4 * bd4 n := Nat.mul_le_mul_right _ b
    have hp := all_pers fun c hcc => (hc c hcc).pers
    obtain ⟨L, o', hL, hLb, e⟩ := flat_for (n := n) (b := bd4 n) cs (fun c m => ⟨(hc c m).pers, ih c m (by omega)⟩) [5, (cs.length : Int)] (some (tA "any" cs)) (some (.v (.str "any"))) (some (.fz .tup cs)) none (by
      intro v hv
      simp only [List.mem_cons, List.not_mem_nil, or_false] at hv
      rcases hv with rfl | rfl
      · decide
      · constructor
        · omega
        · have : (cs.length : Int) ≤ 4 := by omega
          exact Int.le_trans this (by decide)) (by simp only [List.length_cons, List.length_nil]; omega)
    refine ⟨L, hL, by simp only [List.length_cons, List.length_nil] at hLb; omega, fun m hm => ?_⟩
    cases m with
    | zero => omega
    | succ m =>
    obtain ⟨e1, e2⟩ := e m (by omega)
    simp only [tA, inL, List.map_cons, List.map_nil] at e1 e2 ⊢
    constructor
    · refine ap_rs ((lf_S m _).trans ((ap_run rfl).trans ?_)) rfl
      unfold g__law_flat
      simp [startG, e1, hp, sqf, mvIn, outAt, -List.all_eq_true]
    · refine ap_rs ((pf_S m _).trans ((ap_run rfl).trans ?_)) rfl
      unfold g_flat_condition
      simp [startG, e2, hp, sqf, mvIn, outAt, -List.all_eq_true]
end
end K33

set_option maxRecDepth 100000
namespace K33
section
open PySem L2 Vx PyProof.Rows
open Vx.Vp Vr Wd
theorem sub_p {r : Rs} {n : Nat} {c : T} (h : c.pers = true) : sub r n c = .val c := if_pos h
theorem lw_S (m : Nat) (ts : List T) : r__law_flat_witness (m + 1) ts = runB 1 3 [1, 2] (g__law_flat_witness (r__law_flat_witness m)) ts := rfl
theorem pw_S (m : Nat) (ts : List T) : r_flat_witness (m + 1) ts = runB 1 4 [1, 2, 3] (g_flat_witness (r_flat_witness m)) ts := rfl
def FlwP (n : Nat) (t : T) (b : Nat) : Prop := ∃ l : List Int, InR l ∧ l.length ≤ b ∧ ∀ m, n < m → runS (r__law_flat_witness m) [t] = some (.ow false .lst (inL l), [t]) ∧ runS (r_flat_witness m) [t] = some (.ow false .lst (inL l), [t])
theorem flw_for {n b : Nat} : ∀ (cs : List T), (∀ c ∈ cs, c.pers = true ∧ FlwP n c b) → ∀ (acc : List Int) (a w o o2 : Option T), InR acc → acc.length + cs.length * b ≤ 9000 → ∃ (L : List Int) (o' o2' : Option T), InR L ∧ L.length ≤ acc.length + cs.length * b ∧ ∀ m, n < m →
    forGo (fNm 2) (gSet [] 1 (f2 [] gAddU (fVar 1) (fCall [] [] (r__law_flat_witness m) [] (fACons [] (fVar 2) fANil)))) cs [a, some (.ow false .lst (inL acc)), o] = some (.nx [a, some (.ow false .lst (inL L)), o']) ∧
    forGo (fNm 3) (gDrop (fMt [2] [] [] isLst gExt (fVar 2) (fACons [] (fCall [] [] (r_flat_witness m) [] (fACons [] (fVar 3) fANil)) fANil))) cs [a, w, some (.ow false .lst (inL acc)), o2] = some (.nx [a, w, some (.ow false .lst (inL L)), o2'])
  | [], _, acc, a, w, o, o2, hr, _ => ⟨acc, o, o2, hr, by simp, fun m _ => ⟨rfl, rfl⟩⟩
  | c :: cs, h, acc, a, w, o, o2, hr, hb => by
    obtain ⟨hp, l, hl, hlb, hm⟩ := h c List.mem_cons_self
    have e0 : (c :: cs).length * b = cs.length * b + b := by rw [List.length_cons, Nat.add_mul, Nat.one_mul]
    obtain ⟨L, o', o2', hL, hLb, e⟩ := flw_for cs (fun c' m => h c' (List.mem_cons_of_mem _ m)) (acc ++ l) a w (some c) (some c) (hr.app hl) (by rw [List.length_append]; omega)
    refine ⟨L, o', o2', hL, by rw [List.length_append] at hLb; omega, fun m hnm => ?_⟩
    obtain ⟨k1, k2⟩ := hm m hnm
    obtain ⟨e1, e2⟩ := e m hnm
    have h1 := addL acc l (by omega)
    have h2 := extL acc l (by omega)
    constructor
    · simp [forGo, hp, k1, h1, e1]
    · simp [forGo, hp, k2, h2, e2]
theorem flatw {n : Nat} {t : T} (h : Wt n t) (hn : bd4 n ≤ 2000) : FlwP n t (bd4 n) := by
  induction h with
  | tok i a b =>
    refine ⟨[1, i], ?_, ?_, fun m hm => ?_⟩
    · intro v hv
      simp only [List.mem_cons, List.not_mem_nil, or_false] at hv
      rcases hv with rfl | rfl
      · decide
      · exact ⟨by omega, Int.le_trans b (by decide)⟩
    · refine Nat.le_trans (show _ ≤ 2 by simp) bd4_le
    · cases m with
      | zero => omega
      | succ m =>
      constructor
      · refine ap_rs ((lw_S m _).trans ((ap_run rfl).trans ?_)) rfl
        unfold g__law_flat_witness
        simp [startG, kw, tW, inL, outAt]
      · refine ap_rs ((pw_S m _).trans ((ap_run rfl).trans ?_)) rfl
        unfold g_flat_witness
        simp [startG, kw, tW, inL, outAt]
  | val i a b =>
    refine ⟨[2, i], ?_, ?_, fun m hm => ?_⟩
    · intro v hv
      simp only [List.mem_cons, List.not_mem_nil, or_false] at hv
      rcases hv with rfl | rfl
      · decide
      · exact ⟨by omega, Int.le_trans b (by decide)⟩
    · refine Nat.le_trans (show _ ≤ 2 by simp) bd4_le
    · cases m with
      | zero => omega
      | succ m =>
      constructor
      · refine ap_rs ((lw_S m _).trans ((ap_run rfl).trans ?_)) rfl
        unfold g__law_flat_witness
        simp [startG, kw, tW, inL, outAt]
      · refine ap_rs ((pw_S m _).trans ((ap_run rfl).trans ?_)) rfl
        unfold g_flat_witness
        simp [startG, kw, tW, inL, outAt]
  | wait =>
    refine ⟨[3], ?_, ?_, fun m hm => ?_⟩
    · intro v hv
      simp only [List.mem_cons, List.not_mem_nil, or_false] at hv
      subst hv
      decide
    · refine Nat.le_trans (show _ ≤ 2 by simp) bd4_le
    · cases m with
      | zero => omega
      | succ m =>
      constructor
      · refine ap_rs ((lw_S m _).trans ((ap_run rfl).trans ?_)) rfl
        unfold g__law_flat_witness
        simp [startG, kw, tW, inL, outAt]
      · refine ap_rs ((pw_S m _).trans ((ap_run rfl).trans ?_)) rfl
        unfold g_flat_witness
        simp [startG, kw, tW, inL, outAt]
  | all cs a b hc ih =>
    rename_i n
    have hb4 : bd4 (n + 1) = 2 + 4 * bd4 n := rfl
    have hlb : cs.length * bd4 n ≤ 4 * bd4 n := Nat.mul_le_mul_right _ b
    have hp := all_pers fun c hcc => (hc c hcc).pers
    obtain ⟨L, o', o2', hL, hLb, e⟩ := flw_for (n := n) (b := bd4 n) cs (fun c m => ⟨(hc c m).pers, ih c m (by omega)⟩) [4, (cs.length : Int)] (some (tA "all" cs)) (some (.v (.str "all"))) none none (by
      intro v hv
      simp only [List.mem_cons, List.not_mem_nil, or_false] at hv
      rcases hv with rfl | rfl
      · decide
      · constructor
        · omega
        · have : (cs.length : Int) ≤ 4 := by omega
          exact Int.le_trans this (by decide)) (by simp only [List.length_cons, List.length_nil]; omega)
    refine ⟨L, hL, by simp only [List.length_cons, List.length_nil] at hLb; omega, fun m hm => ?_⟩
    cases m with
    | zero => omega
    | succ m =>
    obtain ⟨e1, e2⟩ := e m (by omega)
    simp only [tA, inL, List.map_cons, List.map_nil] at e1 e2 ⊢
    constructor
    · refine ap_rs ((lw_S m _).trans ((ap_run rfl).trans ?_)) rfl
      unfold g__law_flat_witness
      simp [startG, e1, hp, sqf, mvIn, outAt, -List.all_eq_true]
    · refine ap_rs ((pw_S m _).trans ((ap_run rfl).trans ?_)) rfl
      unfold g_flat_witness
      simp [startG, e2, hp, sqf, mvIn, outAt, -List.all_eq_true]
  | any k w a b hw ih =>
    rename_i n
    have hb4 : bd4 (n + 1) = 2 + 4 * bd4 n := rfl
    obtain ⟨l, hl, hlb, e⟩ := ih (by omega)
    have hp := hw.pers
    refine ⟨[5, k] ++ l, InR.app ?_ hl, by simp only [List.length_append, List.length_cons, List.length_nil]; omega, fun m hm => ?_⟩
    · intro v hv
      simp only [List.mem_cons, List.not_mem_nil, or_false] at hv
      rcases hv with rfl | rfl
      · decide
      · exact ⟨by omega, Int.le_trans b (by decide)⟩
    · cases m with
      | zero => omega
      | succ m =>
      obtain ⟨e1, e2⟩ := e m (by omega)
      have h1 := addL [5, k] l (by simp only [List.length_cons, List.length_nil]; omega)
      have h2 : inL [5, k] = [.v (.int 5), .v (.int k)] := rfl
      rw [h2] at h1
      constructor
      · refine ap_rs ((lw_S m _).trans ((ap_run rfl).trans ?_)) rfl
        unfold g__law_flat_witness
        simp [startG, tY, sub_p hp, hp, e1, h1, outAt]
      · refine ap_rs ((pw_S m _).trans ((ap_run rfl).trans ?_)) rfl
        unfold g_flat_witness
        simp [startG, tY, sub_p hp, hp, e2, h1, outAt]
/-! ### the values of a spending -/
def oT (a : Int) (c : T) : T := .fz .tup [.v (.int a), c]
def nmT (p : Int × Int) : T := .fz .tup [.v (.int p.1), .v (.int p.2)]
def nmR (p : Int × Int) : Prop := (1 ≤ p.1 ∧ p.1 ≤ MX) ∧ 0 ≤ p.2 ∧ p.2 ≤ 3
/-- outputs: amounts and conditions -/
def OutOk (t : T) : Prop := ∃ a c, t = oT a c ∧ 1 ≤ a ∧ a ≤ 1099511627776 ∧ Cd 1 c
theorem OutOk.pers {t : T} (h : OutOk t) : t.pers = true := by
  obtain ⟨a, c, rfl, _⟩ := h
  rfl
def flN (ps : List (Int × Int)) : List Int := ps.flatMap fun p => [p.1, p.2]
theorem flN_len (ps : List (Int × Int)) : (flN ps).length = 2 * ps.length := by
  induction ps with
  | nil => rfl
  | cons p ps ih =>
    show (p.1 :: p.2 :: flN ps).length = _
    simp only [List.length_cons, ih]
    omega
theorem flN_r (ps : List (Int × Int)) (h : ∀ p ∈ ps, nmR p) : InR (flN ps) := by
  intro v hv
  obtain ⟨p, hp, hv⟩ := List.mem_flatMap.mp hv
  obtain ⟨⟨h1, h2⟩, h3, h4⟩ := h p hp
  simp only [List.mem_cons, List.not_mem_nil, or_false] at hv
  rcases hv with rfl | rfl
  · exact ⟨by omega, h2⟩
  · exact ⟨h3, Int.le_trans h4 (by decide)⟩
theorem val_for1 : ∀ (ps : List (Int × Int)) (acc : List Int) (a b o1 o2 o3 o4 : Option T), acc.length + 2 * ps.length ≤ 9000 → ∃ o1' o2',
    forGo (fTgT 2 (fTCons (fNm 3) (fTCons (fNm 4) fTNil))) (gSet [] 2 (f2 [] gAddU (fVar 2) (fLst (fACons [] (fVar 3) (fACons [] (fVar 4) fANil))))) (ps.map nmT) [a, b, some (.ow false .lst (inL acc)), o1, o2, o3, o4] = some (.nx [a, b, some (.ow false .lst (inL (acc ++ flN ps))), o1', o2', o3, o4])
  | [], acc, a, b, o1, o2, o3, o4, _ => ⟨o1, o2, by simp [flN]⟩
  | p :: ps, acc, a, b, o1, o2, o3, o4, hb => by
    obtain ⟨o1', o2', e⟩ := val_for1 ps (acc ++ [p.1, p.2]) a b (some (.v (.int p.1))) (some (.v (.int p.2))) o3 o4 (by simp only [List.length_append, List.length_cons, List.length_nil] at hb ⊢; omega)
    refine ⟨o1', o2', ?_⟩
    have h1 := addL acc [p.1, p.2] (by simp only [List.length_cons, List.length_nil] at hb ⊢; omega)
    have h2 : inL [p.1, p.2] = [.v (.int p.1), .v (.int p.2)] := rfl
    rw [h2] at h1
    have h3 : acc ++ [p.1, p.2] ++ flN ps = acc ++ flN (p :: ps) := by rw [List.append_assoc]; rfl
    rw [h3] at e
    simp [forGo, nmT, h1, e]
theorem val_for1p : ∀ (ps : List (Int × Int)) (acc : List Int) (a b c d o1 o2 o3 o4 : Option T), acc.length + 2 * ps.length ≤ 9000 → ∃ o1' o2',
    forGo (fTgT 2 (fTCons (fNm 5) (fTCons (fNm 6) fTNil))) (gDrop (fMt [4] [] [] isLst gExt (fVar 4) (fACons [] (fLst (fACons [] (fVar 5) (fACons [] (fVar 6) fANil))) fANil))) (ps.map nmT) [a, b, c, d, some (.ow false .lst (inL acc)), o1, o2, o3, o4] = some (.nx [a, b, c, d, some (.ow false .lst (inL (acc ++ flN ps))), o1', o2', o3, o4])
  | [], acc, a, b, c, d, o1, o2, o3, o4, _ => ⟨o1, o2, by simp [flN]⟩
  | p :: ps, acc, a, b, c, d, o1, o2, o3, o4, hb => by
    obtain ⟨o1', o2', e⟩ := val_for1p ps (acc ++ [p.1, p.2]) a b c d (some (.v (.int p.1))) (some (.v (.int p.2))) o3 o4 (by simp only [List.length_append, List.length_cons, List.length_nil] at hb ⊢; omega)
    refine ⟨o1', o2', ?_⟩
    have h1 := extL acc [p.1, p.2] (by simp only [List.length_cons, List.length_nil] at hb ⊢; omega)
    have h2 : inL [p.1, p.2] = [.v (.int p.1), .v (.int p.2)] := rfl
    rw [h2] at h1
    have h3 : acc ++ [p.1, p.2] ++ flN ps = acc ++ flN (p :: ps) := by rw [List.append_assoc]; rfl
    rw [h3] at e
    simp [forGo, nmT, h1, e]
theorem appL (a : List Int) (v : Int) (h : a.length ≤ 10000) : gApp (.ow false .lst (inL a)) [.v (.int v)] = some (.ow false .lst (inL (a ++ [v])), .v .non) := by
  have h1 : (inL a).length < 100000 := by rw [inL_len]; omega
  show (if (inL a).length < 100000 then some (T.ow false .lst (inL a ++ [T.v (.int v)]), T.v V.non) else none) = _
  rw [if_pos h1, ← inL_app]
  rfl
theorem val_for2 : ∀ (os : List T), (∀ t ∈ os, OutOk t) → ∀ (acc : List Int), InR acc → acc.length + os.length * 11 ≤ 9000 → ∃ L : List Int, InR L ∧ L.length ≤ acc.length + os.length * 11 ∧
    (∀ a b o1 o2 o3 o4 : Option T, ∃ o3' o4', forGo (fTgT 2 (fTCons (fNm 5) (fTCons (fNm 6) fTNil))) (gSet [] 2 (f2 [] gAddU (f2 [] gAddU (fVar 2) (fLst (fACons [] (fVar 5) fANil))) (fCall [] [] m__law_flat [] (fACons [] (fVar 6) fANil)))) os [a, b, some (.ow false .lst (inL acc)), o1, o2, o3, o4] = some (.nx [a, b, some (.ow false .lst (inL L)), o1, o2, o3', o4'])) ∧
    (∀ w x c d e4 o1 p1 p2 : Option T, ∃ p1' p2', forGo (fTgT 2 (fTCons (fNm 7) (fTCons (fNm 8) fTNil))) (gSeq (gDrop (fMt [4] [7] [] isLst gApp (fVar 4) (fACons [] (fVar 7) fANil))) (gDrop (fMt [4] [] [] isLst gExt (fVar 4) (fACons [] (fCall [] [] m_flat_condition [] (fACons [] (fVar 8) fANil)) fANil)))) os [w, x, c, d, some (.ow false .lst (inL acc)), e4, o1, p1, p2] = some (.nx [w, x, c, d, some (.ow false .lst (inL L)), e4, o1, p1', p2']))
  | [], _, acc, hr, _ => ⟨acc, hr, by simp, fun a b o1 o2 o3 o4 => ⟨o3, o4, rfl⟩, fun w x c d e4 o1 p1 p2 => ⟨p1, p2, rfl⟩⟩
  | t :: os, h, acc, hr, hb => by
    obtain ⟨am, cd, rfl, ha1, ha2, hc⟩ := h t List.mem_cons_self
    obtain ⟨l, hl, hlb, hm⟩ := flatc hc (by decide)
    have hb1 : bd4 1 = 10 := rfl
    rw [List.length_cons] at hb
    obtain ⟨k1, k2⟩ := hm 8 (by omega)
    have hp := hc.pers
    have ra : InR [am] := by
      intro v hv
      simp only [List.mem_cons, List.not_mem_nil, or_false] at hv
      subst hv
      exact ⟨by omega, Int.le_trans ha2 (by decide)⟩
    obtain ⟨L, hL, hLb, e1, e2⟩ := val_for2 os (fun t m => h t (List.mem_cons_of_mem _ m)) (acc ++ [am] ++ l) ((hr.app ra).app hl) (by simp only [List.length_append, List.length_cons, List.length_nil]; omega)
    refine ⟨L, hL, by simp only [List.length_append, List.length_cons, List.length_nil] at hLb ⊢; omega, fun a b o1 o2 o3 o4 => ?_, fun w x c d e4 o1 p1 p2 => ?_⟩
    · have h1 := addL acc [am] (by simp only [List.length_cons, List.length_nil]; omega)
      have h2 : inL [am] = [.v (.int am)] := rfl
      rw [h2] at h1
      have h3 := addL (acc ++ [am]) l (by simp only [List.length_append, List.length_cons, List.length_nil]; omega)
      obtain ⟨o3', o4', e1⟩ := e1 a b o1 o2 (some (.v (.int am))) (some cd)
      refine ⟨o3', o4', ?_⟩
      unfold m__law_flat at e1 ⊢
      simp [forGo, oT, h1, h3, hp, k1, e1, -List.append_assoc]
    · have h1 := appL acc am (by omega)
      have h3 := extL (acc ++ [am]) l (by simp only [List.length_append, List.length_cons, List.length_nil]; omega)
      obtain ⟨p1', p2', e2⟩ := e2 w x c d e4 o1 (some (.v (.int am))) (some cd)
      refine ⟨p1', p2', ?_⟩
      unfold m_flat_condition at e2 ⊢
      simp [forGo, oT, h1, h3, hp, k2, e2, -List.append_assoc]
end
end K33

set_option maxRecDepth 100000
namespace K33
section
open PySem L2 Vx PyProof.Rows
open Vx.Vp Vr Wd
theorem nmT_pers (ps : List (Int × Int)) : (ps.map nmT).all T.pers = true := by
  rw [List.all_eq_true]
  intro t m
  obtain ⟨p, _, rfl⟩ := List.mem_map.mp m
  rfl
def sp3 (ps : List (Int × Int)) (os ws : List T) : T := .fz .tup [.fz .tup (ps.map nmT), .fz .tup os, .fz .tup ws]
theorem one_r (n : Nat) (h : n ≤ 100) : InR [(n : Int)] := by
  intro v hv
  simp only [List.mem_cons, List.not_mem_nil, or_false] at hv
  subst hv
  exact ⟨by omega, Int.le_trans (show (n : Int) ≤ 100 by omega) (by decide)⟩
theorem vals (ps : List (Int × Int)) (os : List T) (hps : ∀ p ∈ ps, nmR p) (hos : ∀ t ∈ os, OutOk t) (l1 : ps.length ≤ 100) (l2 : os.length ≤ 100) : ∃ L : List Int, InR L ∧ L.length ≤ 2000 ∧
    runS m__law_values [.fz .tup (ps.map nmT), .fz .tup os] = some (.ow false .lst (inL L), [.fz .tup (ps.map nmT), .fz .tup os]) ∧
    ∀ ws, runS m_values_of [sp3 ps os ws] = some (.ow false .lst (inL L), [sp3 ps os ws]) := by
  have q := nmT_pers ps
  have q2 := all_pers fun t m => (hos t m).pers
  have ql : (ps.map nmT).length = ps.length := List.length_map _
  have r1 : InR ([1, (ps.length : Int)] ++ flN ps ++ [(os.length : Int)]) := by
    refine InR.app (InR.app ?_ (flN_r ps hps)) (one_r _ l2)
    intro v hv
    simp only [List.mem_cons, List.not_mem_nil, or_false] at hv
    rcases hv with rfl | rfl
    · decide
    · exact one_r _ l1 _ (List.mem_singleton.mpr rfl)
  have fl := flN_len ps
  have bl : ([1, (ps.length : Int)] ++ flN ps ++ [(os.length : Int)]).length ≤ 203 := by simp only [List.length_append, List.length_cons, List.length_nil]; omega
  obtain ⟨L, hL, hLb, g1, g2⟩ := val_for2 os hos ([1, (ps.length : Int)] ++ flN ps ++ [(os.length : Int)]) r1 (by omega)
  have ap := appL ([1, (ps.length : Int)] ++ flN ps) os.length (by simp only [List.length_append, List.length_cons, List.length_nil] at bl ⊢; omega)
  have s2 : inL [1, (ps.length : Int)] = [.v (.int 1), .v (.int ps.length)] := rfl
  refine ⟨L, hL, by omega, ?_, fun ws => ?_⟩
  · obtain ⟨a1, a2, f1⟩ := val_for1 ps [1, (ps.length : Int)] (some (.fz .tup (ps.map nmT))) (some (.fz .tup os)) none none none none (by simp only [List.length_cons, List.length_nil]; omega)
    obtain ⟨a3, a4, f2⟩ := g1 (some (.fz .tup (ps.map nmT))) (some (.fz .tup os)) a1 a2 none none
    rw [s2] at f1
    clear r1 bl hLb
    generalize [1, (ps.length : Int)] ++ flN ps = A at *
    generalize A ++ [(os.length : Int)] = B at *
    refine ap_rs ((ap_run rfl).trans ?_) rfl
    unfold g__law_values
    simp [startG, f1, f2, ap, q, q2, sqf, mvIn, outAt, -List.all_eq_true, -List.all_map, -List.append_assoc, -List.cons_append]
  · obtain ⟨a1, a2, f1⟩ := val_for1p ps [1, (ps.length : Int)] (some (sp3 ps os ws)) (some (.fz .tup (ps.map nmT))) (some (.fz .tup os)) (some (.fz .tup ws)) none none none none (by simp only [List.length_cons, List.length_nil]; omega)
    obtain ⟨a3, a4, f2⟩ := g2 (some (sp3 ps os ws)) (some (.fz .tup (ps.map nmT))) (some (.fz .tup os)) (some (.fz .tup ws)) a1 a2 none none
    rw [s2] at f1
    clear r1 bl hLb
    generalize [1, (ps.length : Int)] ++ flN ps = A at *
    generalize A ++ [(os.length : Int)] = B at *
    refine ap_rs ((ap_run rfl).trans ?_) rfl
    unfold g_values_of
    simp only [sp3] at f1 f2 ⊢
    simp [startG, f1, f2, ap, q, q2, sqf, mvIn, outAt, -List.all_eq_true, -List.all_map, -List.append_assoc, -List.cons_append]
theorem spname {sp : T} {L : List Int} (hp : sp.pers = true) (hL : InR L) (hl : L.length ≤ 2000) (h : runS m_values_of [sp] = some (.ow false .lst (inL L), [sp])) : runS m_spending_name [sp] = some (.v (.int (mixV L)), [sp]) := by
  have m := mix_ok L hL (by omega) _ (.inl rfl)
  refine ap_rs ((ap_run rfl).trans ?_) rfl
  unfold g_spending_name
  simp [startG, h, hp, e_mix, m, outAt]
/-! ### with the witnesses -/
theorem fls_for : ∀ (ws : List T), (∀ t ∈ ws, Wt 2 t) → ∀ (acc : List Int), InR acc → acc.length + ws.length * 42 ≤ 9000 → ∃ L : List Int, InR L ∧ L.length ≤ acc.length + ws.length * 42 ∧
    (∀ a0 a1 a2 a3 a4 a5 a6 o b9 b10 b11 b12 b13 b14 : Option T, ∃ o', forGo (fNm 8) (gSet [] 7 (f2 [] gAddU (fVar 7) (fCall [] [] m__law_flat_witness [] (fACons [] (fVar 8) fANil)))) ws [a0, a1, a2, a3, a4, a5, a6, some (.ow false .lst (inL acc)), o, b9, b10, b11, b12, b13, b14] = some (.nx [a0, a1, a2, a3, a4, a5, a6, some (.ow false .lst (inL L)), o', b9, b10, b11, b12, b13, b14])) ∧
    (∀ a o : Option T, ∃ o', forGo (fNm 2) (gDrop (fMt [1] [] [] isLst gExt (fVar 1) (fACons [] (fCall [] [] m_flat_witness [] (fACons [] (fVar 2) fANil)) fANil))) ws [a, some (.ow false .lst (inL acc)), o] = some (.nx [a, some (.ow false .lst (inL L)), o']))
  | [], _, acc, hr, _ => ⟨acc, hr, by simp, fun _ _ _ _ _ _ _ o _ _ _ _ _ _ => ⟨o, rfl⟩, fun a o => ⟨o, rfl⟩⟩
  | t :: ws, h, acc, hr, hb => by
    have hw := h t List.mem_cons_self
    obtain ⟨l, hl, hlb, hm⟩ := flatw hw (by decide)
    have hb1 : bd4 2 = 42 := rfl
    rw [List.length_cons] at hb
    obtain ⟨k1, k2⟩ := hm 8 (by omega)
    have hp := hw.pers
    obtain ⟨L, hL, hLb, e1, e2⟩ := fls_for ws (fun t m => h t (List.mem_cons_of_mem _ m)) (acc ++ l) (hr.app hl) (by simp only [List.length_append]; omega)
    refine ⟨L, hL, by simp only [List.length_append, List.length_cons] at hLb ⊢; omega, fun a0 a1 a2 a3 a4 a5 a6 o b9 b10 b11 b12 b13 b14 => ?_, fun a o => ?_⟩
    · have h1 := addL acc l (by omega)
      obtain ⟨o', e1⟩ := e1 a0 a1 a2 a3 a4 a5 a6 (some t) b9 b10 b11 b12 b13 b14
      refine ⟨o', ?_⟩
      unfold m__law_flat_witness at e1 ⊢
      simp [forGo, h1, hp, k1, e1]
    · have h1 := extL acc l (by omega)
      obtain ⟨o', e2⟩ := e2 a (some t)
      refine ⟨o', ?_⟩
      unfold m_flat_witness at e2 ⊢
      simp [forGo, h1, hp, k2, e2]
end
end K33

set_option maxRecDepth 100000
namespace K33
section
open PySem L2 Vx PyProof.Rows
open Vx.Vp Vr Wd
/-! ### data compared -/
theorem ShD.v2 {s : Str} (h : (PyData.str s).canLay0 = true) (i : Int) : ShD 2 (kw s i) := ShD.tup (.cons (.str h) (.cons (.int i) .nil))
theorem wt_sh {n : Nat} {t : T} (h : Wt n t) : ShD (2 + 2 * n) t := by
  induction h with
  | tok i a b => exact (ShD.v2 cl_token i).up (by omega)
  | val i a b => exact (ShD.v2 cl_value i).up (by omega)
  | wait => exact (ShD.tup (.cons (.str cl_wait) .nil)).up (m := _) (by omega)
  | all ws a b hc ih =>
    rename_i n
    exact (ShD.tup (n := 2 + 2 * n + 1) (.cons ((ShD.str cl_all).up (by omega)) (.cons (ShD.tup (.all ih)) .nil))).up (by omega)
  | any k w a b hw ih =>
    rename_i n
    exact (ShD.tup (n := 2 + 2 * n) (.cons ((ShD.str cl_any).up (by omega)) (.cons ((ShD.int k).up (by omega)) (.cons ih .nil)))).up (by omega)
theorem cd_sh {n : Nat} {t : T} (h : Cd n t) : ShD (2 + 2 * n) t := by
  induction h with
  | key i a b => exact (ShD.v2 cl_key i).up (by omega)
  | lock i a b => exact (ShD.v2 cl_lock i).up (by omega)
  | age i a b => exact (ShD.v2 cl_age i).up (by omega)
  | all ws a b hc ih =>
    rename_i n
    exact (ShD.tup (n := 2 + 2 * n + 1) (.cons ((ShD.str cl_all).up (by omega)) (.cons (ShD.tup (.all ih)) .nil))).up (by omega)
  | any ws a b hc ih =>
    rename_i n
    exact (ShD.tup (n := 2 + 2 * n + 1) (.cons ((ShD.str cl_any).up (by omega)) (.cons (ShD.tup (.all ih)) .nil))).up (by omega)
theorem gEq_of {a b : T} {d e : PyData} {r : Bool} (ha : toPD a = some d) (hb : toPD b = some e) (sa : SeqAt.shaped d = true) (sb : SeqAt.shaped e = true) (h : PyData.eqv d e = r) : gEq a b = some (.v (.bl r)) := by
  unfold gEq
  rw [ha, hb]
  show (if SeqAt.shaped d = true ∧ SeqAt.shaped e = true then some (T.v (.bl (PyData.eqv d e))) else none) = _
  rw [if_pos ⟨sa, sb⟩, h]
/-- tuples that differ in their first word -/
theorem eq_head {a b : Str} {xs ys : List T} (h1 : ShD 64 (.fz .tup (.v (.str a) :: xs))) (h2 : ShD 64 (.fz .tup (.v (.str b) :: ys))) (h : (a == b) = false) : gEq (.fz .tup (.v (.str a) :: xs)) (.fz .tup (.v (.str b) :: ys)) = some (.v (.bl false)) := by
  obtain ⟨d, d1, d2, _⟩ := h1.shaped
  obtain ⟨e, e1, e2, _⟩ := h2.shaped
  refine gEq_of d1 e1 d2 e2 ?_
  have k : ∀ (c : Str) (zs : List T) (f : PyData), toPD (.fz .tup (.v (.str c) :: zs)) = some f → ∃ fs, f = .tuple (.str c :: fs) := fun c zs f hf => by
    unfold toPD toPDs at hf
    cases hz : toPDs zs with
    | none => rw [hz] at hf; simp [toPD] at hf
    | some fs =>
      rw [hz] at hf
      simp [toPD] at hf
      exact ⟨fs, hf.symm⟩
  obtain ⟨ds, rfl⟩ := k _ _ _ d1
  obtain ⟨es, rfl⟩ := k _ _ _ e1
  simp only [PyData.eqv, PyData.eqvAll, h, Bool.false_and]
theorem eq_kw {s : Str} (hs : (PyData.str s).canLay0 = true) (i j : Int) : gEq (kw s i) (kw s j) = some (.v (.bl (decide (i = j)))) := by
  obtain ⟨d, d1, d2, _⟩ := ((ShD.v2 hs i).up (m := 64) (by decide)).shaped
  obtain ⟨e, e1, e2, _⟩ := ((ShD.v2 hs j).up (m := 64) (by decide)).shaped
  refine gEq_of d1 e1 d2 e2 ?_
  cases d1
  cases e1
  simp only [PyData.eqv, PyData.eqvAll, beq_self_eq_true, Bool.true_and, Bool.and_true]
  exact Bool.beq_eq_decide_eq i j
theorem lm_S (m : Nat) (ts : List T) : r__law_met (m + 1) ts = runB 4 7 [4, 5] (g__law_met (r__law_met m)) ts := rfl
theorem pm_S (m : Nat) (ts : List T) : r_met (m + 1) ts = runB 4 7 [4, 5] (g_met (r_met m)) ts := rfl
theorem tok_ok (p n : Int) (hp : 0 ≤ p ∧ p ≤ MX) (hn : 0 ≤ n ∧ n ≤ MX) : runS m_token [.v (.int p), .v (.int n)] = some (.v (.int (mixV [3, p, n])), [.v (.int p), .v (.int n)]) := by
  have m : runS m_mix [.fz .tup [.v (.int 3), .v (.int p), .v (.int n)]] = some (.v (.int (mixV [3, p, n])), [.fz .tup [.v (.int 3), .v (.int p), .v (.int n)]]) := mix_ok [3, p, n] (by
    intro v hv
    simp only [List.mem_cons, List.not_mem_nil, or_false] at hv
    rcases hv with rfl | rfl | rfl
    · decide
    · exact hp
    · exact hn) (by simp) _ (.inr rfl)
  refine ap_rs ((ap_run rfl).trans ?_) rfl
  unfold g_token
  simp [startG, m, outAt]
theorem lock_ok (p : Int) (hp : 0 ≤ p ∧ p ≤ MX) : runS m_lock [.v (.int p)] = some (.v (.int (mixV [4, p])), [.v (.int p)]) := by
  have m : runS m_mix [.fz .tup [.v (.int 4), .v (.int p)]] = some (.v (.int (mixV [4, p])), [.fz .tup [.v (.int 4), .v (.int p)]]) := mix_ok [4, p] (by
    intro v hv
    simp only [List.mem_cons, List.not_mem_nil, or_false] at hv
    rcases hv with rfl | rfl
    · decide
    · exact hp) (by simp) _ (.inr rfl)
  refine ap_rs ((ap_run rfl).trans ?_) rfl
  unfold g_lock
  simp [startG, m, outAt]
theorem lmx3 (p n : Int) : runS m__law_mix [.fz .tup [.v (.int 3), .v (.int p), .v (.int n)]] = some (.v (.int (mixV [3, p, n])), [.fz .tup [.v (.int 3), .v (.int p), .v (.int n)]]) := lmix_okT [3, p, n] (by simp)
theorem lmx4 (p : Int) : runS m__law_mix [.fz .tup [.v (.int 4), .v (.int p)]] = some (.v (.int (mixV [4, p])), [.fz .tup [.v (.int 4), .v (.int p)]]) := lmix_okT [4, p] (by simp)
def MetP (n : Nat) (c w : T) (nm ag : Int) : Prop := ∃ b : Bool, ∀ m, n < m → runS (r__law_met m) [c, w, .v (.int nm), .v (.int ag)] = some (.v (.bl b), [c, w, .v (.int nm), .v (.int ag)]) ∧ runS (r_met m) [c, w, .v (.int nm), .v (.int ag)] = some (.v (.bl b), [c, w, .v (.int nm), .v (.int ag)])
def tks (i : Int) : ShD 64 (kw "token" i) := (ShD.v2 cl_token i).up (by decide)
theorem wsh : ShD 64 tW := (ShD.tup (.cons (.str cl_wait) .nil)).up (n := 2) (by decide)
theorem met_key {n k : Nat} {w : T} (i nm ag : Int) (hi : 0 ≤ i ∧ i ≤ MX) (hn : 0 ≤ nm ∧ nm ≤ MX) (h : Wt k w) (hk : k ≤ 20) : MetP n (kw "key" i) w nm ag := by
  have hs := (wt_sh h).up (m := 64) (by omega)
  cases h with
  | tok v v1 v2 =>
    refine ⟨decide (v = mixV [3, i, nm]), fun m hm => ?_⟩
    cases m with
    | zero => omega
    | succ m =>
      constructor
      · have e := eq_kw cl_token v (mixV [3, i, nm])
        refine ap_rs ((lm_S m _).trans ((ap_run rfl).trans ?_)) rfl
        unfold g__law_met
        simp only [kw, tW, tA, tY] at e ⊢
        simp [startG, lmx3, e, outAt]
      · refine ap_rs ((pm_S m _).trans ((ap_run rfl).trans ?_)) rfl
        unfold g_met
        simp only [kw, tW, tA, tY]
        simp [startG, tok_ok i nm hi hn, outAt]
  | val v v1 v2 =>
    refine ⟨false, fun m hm => ?_⟩
    cases m with
    | zero => omega
    | succ m =>
      constructor
      · have e := eq_head (a := "value") (b := "token") (xs := [.v (.int v)]) (ys := [.v (.int (mixV [3, i, nm]))]) hs (tks _) (by decide +kernel)
        refine ap_rs ((lm_S m _).trans ((ap_run rfl).trans ?_)) rfl
        unfold g__law_met
        simp only [kw, tW, tA, tY] at e ⊢
        simp [startG, lmx3, e, outAt]
      · refine ap_rs ((pm_S m _).trans ((ap_run rfl).trans ?_)) rfl
        unfold g_met
        simp only [kw, tW, tA, tY]
        simp [startG, tok_ok i nm hi hn, outAt]
  | wait =>
    refine ⟨false, fun m hm => ?_⟩
    cases m with
    | zero => omega
    | succ m =>
      constructor
      · have e := eq_head (a := "wait") (b := "token") (xs := []) (ys := [.v (.int (mixV [3, i, nm]))]) hs (tks _) (by decide +kernel)
        refine ap_rs ((lm_S m _).trans ((ap_run rfl).trans ?_)) rfl
        unfold g__law_met
        simp only [kw, tW, tA, tY] at e ⊢
        simp [startG, lmx3, e, outAt]
      · refine ap_rs ((pm_S m _).trans ((ap_run rfl).trans ?_)) rfl
        unfold g_met
        simp only [kw, tW, tA, tY]
        simp [startG, tok_ok i nm hi hn, outAt]
  | all ws l1 l4 hws =>
    refine ⟨false, fun m hm => ?_⟩
    cases m with
    | zero => omega
    | succ m =>
      constructor
      · have e := eq_head (a := "all") (b := "token") (xs := [.fz .tup ws]) (ys := [.v (.int (mixV [3, i, nm]))]) hs (tks _) (by decide +kernel)
        refine ap_rs ((lm_S m _).trans ((ap_run rfl).trans ?_)) rfl
        unfold g__law_met
        simp only [kw, tW, tA, tY] at e ⊢
        simp [startG, lmx3, e, outAt]
      · refine ap_rs ((pm_S m _).trans ((ap_run rfl).trans ?_)) rfl
        unfold g_met
        simp only [kw, tW, tA, tY]
        simp [startG, tok_ok i nm hi hn, outAt]
  | any k w k0 k3 hw =>
    refine ⟨false, fun m hm => ?_⟩
    cases m with
    | zero => omega
    | succ m =>
      constructor
      · have e := eq_head (a := "any") (b := "token") (xs := [.v (.int k), w]) (ys := [.v (.int (mixV [3, i, nm]))]) hs (tks _) (by decide +kernel)
        refine ap_rs ((lm_S m _).trans ((ap_run rfl).trans ?_)) rfl
        unfold g__law_met
        simp only [kw, tW, tA, tY] at e ⊢
        simp [startG, lmx3, e, outAt]
      · refine ap_rs ((pm_S m _).trans ((ap_run rfl).trans ?_)) rfl
        unfold g_met
        simp only [kw, tW, tA, tY]
        simp [startG, tok_ok i nm hi hn, outAt]
theorem met_lock {n k : Nat} {w : T} (i nm ag : Int) (h : Wt k w) (hk : k ≤ 20) : MetP n (kw "lock" i) w nm ag := by
  have hs := (wt_sh h).up (m := 64) (by omega)
  cases h with
  | tok v v1 v2 =>
    refine ⟨false, fun m hm => ?_⟩
    cases m with
    | zero => omega
    | succ m =>
      constructor
      · refine ap_rs ((lm_S m _).trans ((ap_run rfl).trans ?_)) rfl
        unfold g__law_met
        simp only [kw, tW, tA, tY]
        simp [startG, lmx4, outAt]
      · refine ap_rs ((pm_S m _).trans ((ap_run rfl).trans ?_)) rfl
        unfold g_met
        simp only [kw, tW, tA, tY]
        simp [startG, outAt]
  | val v v1 v2 =>
    refine ⟨decide (mixV [4, v] = i), fun m hm => ?_⟩
    cases m with
    | zero => omega
    | succ m =>
      constructor
      · refine ap_rs ((lm_S m _).trans ((ap_run rfl).trans ?_)) rfl
        unfold g__law_met
        simp only [kw, tW, tA, tY]
        simp [startG, lmx4, outAt]
      · refine ap_rs ((pm_S m _).trans ((ap_run rfl).trans ?_)) rfl
        unfold g_met
        simp only [kw, tW, tA, tY]
        simp [startG, lock_ok v ⟨v1, v2⟩, outAt]
  | wait =>
    refine ⟨false, fun m hm => ?_⟩
    cases m with
    | zero => omega
    | succ m =>
      constructor
      · refine ap_rs ((lm_S m _).trans ((ap_run rfl).trans ?_)) rfl
        unfold g__law_met
        simp only [kw, tW, tA, tY]
        simp [startG, lmx4, outAt]
      · refine ap_rs ((pm_S m _).trans ((ap_run rfl).trans ?_)) rfl
        unfold g_met
        simp only [kw, tW, tA, tY]
        simp [startG, outAt]
  | all ws l1 l4 hws =>
    refine ⟨false, fun m hm => ?_⟩
    cases m with
    | zero => omega
    | succ m =>
      constructor
      · refine ap_rs ((lm_S m _).trans ((ap_run rfl).trans ?_)) rfl
        unfold g__law_met
        simp only [kw, tW, tA, tY]
        simp [startG, lmx4, outAt]
      · refine ap_rs ((pm_S m _).trans ((ap_run rfl).trans ?_)) rfl
        unfold g_met
        simp only [kw, tW, tA, tY]
        simp [startG, outAt]
  | any k w k0 k3 hw =>
    refine ⟨false, fun m hm => ?_⟩
    cases m with
    | zero => omega
    | succ m =>
      constructor
      · refine ap_rs ((lm_S m _).trans ((ap_run rfl).trans ?_)) rfl
        unfold g__law_met
        simp only [kw, tW, tA, tY]
        simp [startG, lmx4, outAt]
      · refine ap_rs ((pm_S m _).trans ((ap_run rfl).trans ?_)) rfl
        unfold g_met
        simp only [kw, tW, tA, tY]
        simp [startG, outAt]
theorem met_age {n k : Nat} {w : T} (i nm ag : Int) (h : Wt k w) (hk : k ≤ 20) : MetP n (kw "age" i) w nm ag := by
  have hs := (wt_sh h).up (m := 64) (by omega)
  cases h with
  | tok v v1 v2 =>
    refine ⟨false, fun m hm => ?_⟩
    cases m with
    | zero => omega
    | succ m =>
      constructor
      · have e := eq_head (a := "token") (b := "wait") (xs := [.v (.int v)]) (ys := []) hs wsh (by decide +kernel)
        refine ap_rs ((lm_S m _).trans ((ap_run rfl).trans ?_)) rfl
        unfold g__law_met
        simp only [kw, tW, tA, tY] at e ⊢
        simp [startG, e, outAt]
      · refine ap_rs ((pm_S m _).trans ((ap_run rfl).trans ?_)) rfl
        unfold g_met
        simp only [kw, tW, tA, tY]
        simp [startG, outAt]
  | val v v1 v2 =>
    refine ⟨false, fun m hm => ?_⟩
    cases m with
    | zero => omega
    | succ m =>
      constructor
      · have e := eq_head (a := "value") (b := "wait") (xs := [.v (.int v)]) (ys := []) hs wsh (by decide +kernel)
        refine ap_rs ((lm_S m _).trans ((ap_run rfl).trans ?_)) rfl
        unfold g__law_met
        simp only [kw, tW, tA, tY] at e ⊢
        simp [startG, e, outAt]
      · refine ap_rs ((pm_S m _).trans ((ap_run rfl).trans ?_)) rfl
        unfold g_met
        simp only [kw, tW, tA, tY]
        simp [startG, outAt]
  | wait =>
    refine ⟨decide (i ≤ ag), fun m hm => ?_⟩
    cases m with
    | zero => omega
    | succ m =>
      constructor
      · have e := gEq_self wsh
        refine ap_rs ((lm_S m _).trans ((ap_run rfl).trans ?_)) rfl
        unfold g__law_met
        simp only [kw, tW, tA, tY] at e ⊢
        simp [startG, e, outAt]
      · refine ap_rs ((pm_S m _).trans ((ap_run rfl).trans ?_)) rfl
        unfold g_met
        simp only [kw, tW, tA, tY]
        simp [startG, outAt]
  | all ws l1 l4 hws =>
    refine ⟨false, fun m hm => ?_⟩
    cases m with
    | zero => omega
    | succ m =>
      constructor
      · have e := eq_head (a := "all") (b := "wait") (xs := [.fz .tup ws]) (ys := []) hs wsh (by decide +kernel)
        refine ap_rs ((lm_S m _).trans ((ap_run rfl).trans ?_)) rfl
        unfold g__law_met
        simp only [kw, tW, tA, tY] at e ⊢
        simp [startG, e, outAt]
      · refine ap_rs ((pm_S m _).trans ((ap_run rfl).trans ?_)) rfl
        unfold g_met
        simp only [kw, tW, tA, tY]
        simp [startG, outAt]
  | any k w k0 k3 hw =>
    refine ⟨false, fun m hm => ?_⟩
    cases m with
    | zero => omega
    | succ m =>
      constructor
      · have e := eq_head (a := "any") (b := "wait") (xs := [.v (.int k), w]) (ys := []) hs wsh (by decide +kernel)
        refine ap_rs ((lm_S m _).trans ((ap_run rfl).trans ?_)) rfl
        unfold g__law_met
        simp only [kw, tW, tA, tY] at e ⊢
        simp [startG, e, outAt]
      · refine ap_rs ((pm_S m _).trans ((ap_run rfl).trans ?_)) rfl
        unfold g_met
        simp only [kw, tW, tA, tY]
        simp [startG, outAt]
end
end K33

set_option maxRecDepth 100000
namespace K33
section
open PySem L2 Vx PyProof.Rows
open Vx.Vp Vr Wd
def rgL (js : List Nat) : List T := js.map fun (k : Nat) => T.v (.int (0 + (k : Int)))
theorem rgT_is (n : Nat) : rgT 0 n = rgL (List.range n) := rfl
theorem rgL_pers (js : List Nat) : (rgL js).all T.pers = true := by
  rw [List.all_eq_true]
  intro t m
  obtain ⟨p, _, rfl⟩ := List.mem_map.mp m
  rfl
def Ok1 (sem : List T → Option (Rv × List T)) (cs ws : List T) (b : Nat → Bool) (nm ag : Int) (j : Nat) : Prop := ∃ c w, cs[j]? = some c ∧ ws[j]? = some w ∧ c.pers = true ∧ w.pers = true ∧ runS sem [c, w, .v (.int nm), .v (.int ag)] = some (.v (.bl (b j)), [c, w, .v (.int nm), .v (.int ag)])
theorem lm_lc (sem : List T → Option (Rv × List T)) (cs ws : List T) (b : Nat → Bool) (nm ag : Int) (a4 : Option T) : ∀ (js : List Nat), (∀ j ∈ js, Ok1 sem cs ws b nm ag j) → ∀ (acc : List T) (a0 o : Option T), ∃ o',
    lcGo [] [6] (fNm 6) (fNot (fTr (fCall [1, 2] [1, 2] sem [] (fACons [] (fIx [] gIxU (fVar 5) (fVar 6)) (fACons [] (fIx [] gIxU (fIx [] gIxU (fVar 1) (fC (.int 1))) (fVar 6)) (fACons [] (fVar 2) (fACons [] (fVar 3) fANil))))))) (fC (.int 1)) (rgL js) [a0, some (tA "all" ws), some (.v (.int nm)), some (.v (.int ag)), a4, some (.fz .tup cs), o] acc =
      some ([a0, some (tA "all" ws), some (.v (.int nm)), some (.v (.int ag)), a4, some (.fz .tup cs), o'], acc ++ (js.filter fun j => !b j).map fun _ => .v (.int 1))
  | [], _, acc, a0, o => ⟨o, by simp [lcGo, rgL]⟩
  | j :: js, h, acc, a0, o => by
    obtain ⟨c, w, h1, h2, h3, h4, h5⟩ := h j List.mem_cons_self
    have i1 := itm_at h1
    have i2 := itm_at h2
    cases hb : b j with
    | true =>
      obtain ⟨o', e⟩ := lm_lc sem cs ws b nm ag a4 js (fun j' m => h j' (List.mem_cons_of_mem _ m)) acc a0 (some (.v (.int (0 + (j : Int)))))
      refine ⟨o', ?_⟩
      rw [hb] at h5
      simp only [tA, rgL] at e ⊢
      simp [lcGo, wipeG, i1, i2, sub_p h3, sub_p h4, h3, h4, h5, hb] at e ⊢
      exact e
    | false =>
      obtain ⟨o', e⟩ := lm_lc sem cs ws b nm ag a4 js (fun j' m => h j' (List.mem_cons_of_mem _ m)) (acc ++ [.v (.int 1)]) a0 (some (.v (.int (0 + (j : Int)))))
      refine ⟨o', ?_⟩
      rw [hb] at h5
      simp only [tA, rgL] at e ⊢
      simp [lcGo, wipeG, i1, i2, sub_p h3, sub_p h4, h3, h4, h5, hb] at e ⊢
      exact e
theorem pm_lc (sem : List T → Option (Rv × List T)) (cs ws : List T) (b : Nat → Bool) (nm ag : Int) (a4 : Option T) : ∀ (js : List Nat), (∀ j ∈ js, Ok1 sem cs ws b nm ag j) → ∀ (acc : List T) (a0 o : Option T), ∃ o',
    lcGo [] [6] (fNm 6) (fun Γ => some (Γ, true)) (fCall [1, 2, 5] [0, 1, 2] sem [] (fACons [] (fIx [] gIxU (fVar 5) (fVar 6)) (fACons [] (fIx [] gIxU (fIx [] gIxU (fVar 1) (fC (.int 1))) (fVar 6)) (fACons [] (fVar 2) (fACons [] (fVar 3) fANil))))) (rgL js) [a0, some (tA "all" ws), some (.v (.int nm)), some (.v (.int ag)), a4, some (.fz .tup cs), o] acc =
      some ([a0, some (tA "all" ws), some (.v (.int nm)), some (.v (.int ag)), a4, some (.fz .tup cs), o'], acc ++ js.map fun j => .v (.bl (b j)))
  | [], _, acc, a0, o => ⟨o, by simp [lcGo, rgL]⟩
  | j :: js, h, acc, a0, o => by
    obtain ⟨c, w, h1, h2, h3, h4, h5⟩ := h j List.mem_cons_self
    have i1 := itm_at h1
    have i2 := itm_at h2
    obtain ⟨o', e⟩ := pm_lc sem cs ws b nm ag a4 js (fun j' m => h j' (List.mem_cons_of_mem _ m)) (acc ++ [.v (.bl (b j))]) a0 (some (.v (.int (0 + (j : Int)))))
    refine ⟨o', ?_⟩
    simp only [tA, rgL] at e ⊢
    simp [lcGo, wipeG, i1, i2, sub_p h3, sub_p h4, h3, h4, h5] at e ⊢
    exact e
theorem ones_sh (k : Nat) (l : List Nat) : ShDs 62 (l.map fun _ => T.v (.int 1)) := .all fun t m => by
  obtain ⟨_, _, rfl⟩ := List.mem_map.mp m
  exact (ShD.int 1).up (by decide)
theorem empty_all (b : Nat → Bool) : ∀ l : List Nat, ((l.filter fun j => !b j).map fun _ => T.v (.int 1)).isEmpty = l.all b
  | [] => rfl
  | j :: l => by
    cases h : b j with
    | true => simp only [List.filter_cons, h, List.all_cons, Bool.not_true, Bool.false_eq_true, if_false, Bool.true_and]; exact empty_all b l
    | false => simp [List.filter_cons, h]
theorem bls_mapN (b : Nat → Bool) : ∀ xs : List Nat, bls? (xs.map fun t => .v (.bl (b t))) = some (xs.map b)
  | [] => rfl
  | x :: xs => by simp [bls?, bls_mapN b xs]
theorem gAll_mapN (b : Nat → Bool) (xs : List Nat) : gAll [.ow false .lst (xs.map fun t => .v (.bl (b t)))] = some (.v (.bl (xs.all b))) := by
  simp [gAll, asL, bls_mapN]
theorem met_all {n k : Nat} {w : T} (cs : List T) (nm ag : Int) (c1 : 1 ≤ cs.length) (c4 : cs.length ≤ 4) (hcs : ∀ c ∈ cs, Cd n c) (ih : ∀ c ∈ cs, ∀ (k : Nat) (w : T), Wt k w → k ≤ 20 → MetP n c w nm ag) (h : Wt k w) (hk : k ≤ 20) : MetP (n + 1) (tA "all" cs) w nm ag := by
  cases h with
  | tok v v1 v2 =>
    refine ⟨false, fun m hm => ?_⟩
    cases m with
    | zero => omega
    | succ m =>
      constructor
      · refine ap_rs ((lm_S m _).trans ((ap_run rfl).trans ?_)) rfl
        unfold g__law_met
        simp only [kw, tW, tA, tY]
        simp [startG, outAt]
      · refine ap_rs ((pm_S m _).trans ((ap_run rfl).trans ?_)) rfl
        unfold g_met
        simp only [kw, tW, tA, tY]
        simp [startG, outAt]
  | val v v1 v2 =>
    refine ⟨false, fun m hm => ?_⟩
    cases m with
    | zero => omega
    | succ m =>
      constructor
      · refine ap_rs ((lm_S m _).trans ((ap_run rfl).trans ?_)) rfl
        unfold g__law_met
        simp only [kw, tW, tA, tY]
        simp [startG, outAt]
      · refine ap_rs ((pm_S m _).trans ((ap_run rfl).trans ?_)) rfl
        unfold g_met
        simp only [kw, tW, tA, tY]
        simp [startG, outAt]
  | wait =>
    refine ⟨false, fun m hm => ?_⟩
    cases m with
    | zero => omega
    | succ m =>
      constructor
      · refine ap_rs ((lm_S m _).trans ((ap_run rfl).trans ?_)) rfl
        unfold g__law_met
        simp only [kw, tW, tA, tY]
        simp [startG, outAt]
      · refine ap_rs ((pm_S m _).trans ((ap_run rfl).trans ?_)) rfl
        unfold g_met
        simp only [kw, tW, tA, tY]
        simp [startG, outAt]
  | all ws l1 l4 hws =>
    rename_i k'
    by_cases hl : ws.length = cs.length
    · have hex : ∀ j : Nat, ∃ b : Bool, ∀ c w, cs[j]? = some c → ws[j]? = some w → ∀ m, n < m → runS (r__law_met m) [c, w, .v (.int nm), .v (.int ag)] = some (.v (.bl b), [c, w, .v (.int nm), .v (.int ag)]) ∧ runS (r_met m) [c, w, .v (.int nm), .v (.int ag)] = some (.v (.bl b), [c, w, .v (.int nm), .v (.int ag)]) := fun j => by
        by_cases hj : j < cs.length
        · obtain ⟨b, hb⟩ := ih cs[j] (List.getElem_mem hj) k' (ws[j]'(by omega)) (hws _ (List.getElem_mem _)) (by omega)
          refine ⟨b, fun c w h1 h2 m hm => ?_⟩
          rw [List.getElem?_eq_getElem hj] at h1
          rw [List.getElem?_eq_getElem (by omega)] at h2
          cases h1
          cases h2
          exact hb m hm
        · exact ⟨false, fun c w h1 => by rw [List.getElem?_eq_none (by omega)] at h1; cases h1⟩
      obtain ⟨b, hb⟩ := Classical.axiomOfChoice hex
      refine ⟨(List.range cs.length).all b, fun m hm => ?_⟩
      cases m with
      | zero => omega
      | succ m =>
        have ok : ∀ (f : Bool), ∀ j ∈ List.range cs.length, Ok1 (if f = true then r__law_met m else r_met m) cs ws b nm ag j := fun f j hj => by
          have hj' := List.mem_range.mp hj
          refine ⟨cs[j], ws[j]'(by omega), List.getElem?_eq_getElem hj', List.getElem?_eq_getElem (by omega), (hcs _ (List.getElem_mem _)).pers, (hws _ (List.getElem_mem _)).pers, ?_⟩
          have := hb j cs[j] (ws[j]'(by omega)) (List.getElem?_eq_getElem hj') (List.getElem?_eq_getElem (by omega)) m (by omega)
          cases f
          · exact this.2
          · exact this.1
        have hn1 : (cs.length : Int) ≤ 1000000 := by omega
        have hn2 : (-1000000 : Int) ≤ cs.length := by omega
        have hl' : (ws.length : Int) = cs.length := by omega
        have tn : (cs.length : Int).toNat = cs.length := by omega
        have hlr : (rgL (List.range cs.length)).length ≤ 10000 := by unfold rgL; rw [List.length_map, List.length_range]; omega
        constructor
        · obtain ⟨o', e⟩ := lm_lc (r__law_met m) cs ws b nm ag (some (.v (.str "all"))) (List.range cs.length) (ok true) [] (some (tA "all" cs)) none
          have ge := gEq_nil (ones_sh 0 ((List.range cs.length).filter fun j => !b j))
          rw [empty_all] at ge
          rw [List.nil_append] at e
          refine ap_rs ((lm_S m _).trans ((ap_run rfl).trans ?_)) rfl
          unfold g__law_met
          simp only [tA] at e ⊢
          simp [startG, hl', hn1, hn2, rgT_is, hlr, persVs, e, ge, rstG, outAt, -List.all_eq_true, -List.map_const', -List.map_map, -List.length_map]
        · obtain ⟨o', e⟩ := pm_lc (r_met m) cs ws b nm ag (some (.v (.str "all"))) (List.range cs.length) (ok false) [] (some (tA "all" cs)) none
          have ga := gAll_mapN b (List.range cs.length)
          rw [List.nil_append] at e
          refine ap_rs ((pm_S m _).trans ((ap_run rfl).trans ?_)) rfl
          unfold g_met
          simp only [tA] at e ⊢
          simp [startG, hl', hn1, hn2, rgT_is, hlr, persVs, e, ga, rstG, outAt, -List.all_eq_true, -List.map_const', -List.map_map, -List.length_map]
    · refine ⟨false, fun m hm => ?_⟩
      cases m with
      | zero => omega
      | succ m =>
        have hl' : ¬ (ws.length : Int) = cs.length := by omega
        constructor
        · refine ap_rs ((lm_S m _).trans ((ap_run rfl).trans ?_)) rfl
          unfold g__law_met
          simp only [tA]
          simp [startG, hl', outAt]
        · refine ap_rs ((pm_S m _).trans ((ap_run rfl).trans ?_)) rfl
          unfold g_met
          simp only [tA]
          simp [startG, hl', outAt]
  | any j w k0 k3 hw =>
    refine ⟨false, fun m hm => ?_⟩
    cases m with
    | zero => omega
    | succ m =>
      constructor
      · refine ap_rs ((lm_S m _).trans ((ap_run rfl).trans ?_)) rfl
        unfold g__law_met
        simp only [kw, tW, tA, tY]
        simp [startG, outAt]
      · refine ap_rs ((pm_S m _).trans ((ap_run rfl).trans ?_)) rfl
        unfold g_met
        simp only [kw, tW, tA, tY]
        simp [startG, outAt]
theorem met_any {n k : Nat} {w : T} (cs : List T) (nm ag : Int) (c1 : 1 ≤ cs.length) (c4 : cs.length ≤ 4) (hcs : ∀ c ∈ cs, Cd n c) (ih : ∀ c ∈ cs, ∀ (k : Nat) (w : T), Wt k w → k ≤ 20 → MetP n c w nm ag) (h : Wt k w) (hk : k ≤ 20) : MetP (n + 1) (tA "any" cs) w nm ag := by
  cases h with
  | tok v v1 v2 =>
    refine ⟨false, fun m hm => ?_⟩
    cases m with
    | zero => omega
    | succ m =>
      constructor
      · refine ap_rs ((lm_S m _).trans ((ap_run rfl).trans ?_)) rfl
        unfold g__law_met
        simp only [kw, tW, tA, tY]
        simp [startG, outAt]
      · refine ap_rs ((pm_S m _).trans ((ap_run rfl).trans ?_)) rfl
        unfold g_met
        simp only [kw, tW, tA, tY]
        simp [startG, outAt]
  | val v v1 v2 =>
    refine ⟨false, fun m hm => ?_⟩
    cases m with
    | zero => omega
    | succ m =>
      constructor
      · refine ap_rs ((lm_S m _).trans ((ap_run rfl).trans ?_)) rfl
        unfold g__law_met
        simp only [kw, tW, tA, tY]
        simp [startG, outAt]
      · refine ap_rs ((pm_S m _).trans ((ap_run rfl).trans ?_)) rfl
        unfold g_met
        simp only [kw, tW, tA, tY]
        simp [startG, outAt]
  | wait =>
    refine ⟨false, fun m hm => ?_⟩
    cases m with
    | zero => omega
    | succ m =>
      constructor
      · refine ap_rs ((lm_S m _).trans ((ap_run rfl).trans ?_)) rfl
        unfold g__law_met
        simp only [kw, tW, tA, tY]
        simp [startG, outAt]
      · refine ap_rs ((pm_S m _).trans ((ap_run rfl).trans ?_)) rfl
        unfold g_met
        simp only [kw, tW, tA, tY]
        simp [startG, outAt]
  | all ws l1 l4 hws =>
    refine ⟨false, fun m hm => ?_⟩
    cases m with
    | zero => omega
    | succ m =>
      constructor
      · refine ap_rs ((lm_S m _).trans ((ap_run rfl).trans ?_)) rfl
        unfold g__law_met
        simp only [kw, tW, tA, tY]
        simp [startG, outAt]
      · refine ap_rs ((pm_S m _).trans ((ap_run rfl).trans ?_)) rfl
        unfold g_met
        simp only [kw, tW, tA, tY]
        simp [startG, outAt]
  | any j w k0 k3 hw =>
    rename_i k'
    by_cases hj : j < cs.length
    · obtain ⟨c, hc⟩ : ∃ c, cs[j.toNat]? = some c := ⟨_, List.getElem?_eq_getElem (by omega)⟩
      have hm := List.mem_of_getElem? hc
      obtain ⟨b, hb⟩ := ih c hm k' w hw (by omega)
      have i1 : itm cs j = some (j.toNat, c) := by
        have := itm_at hc
        rwa [Int.toNat_of_nonneg k0] at this
      have p1 := (hcs c hm).pers
      have p2 := hw.pers
      refine ⟨b, fun m hm => ?_⟩
      cases m with
      | zero => omega
      | succ m =>
        obtain ⟨e1, e2⟩ := hb m (by omega)
        have hj' : ¬ (cs.length : Int) ≤ j := by omega
        constructor
        · refine ap_rs ((lm_S m _).trans ((ap_run rfl).trans ?_)) rfl
          unfold g__law_met
          simp only [tA, tY]
          simp [startG, hj, i1, sub_p p1, sub_p p2, p1, p2, e1, outAt]
        · refine ap_rs ((pm_S m _).trans ((ap_run rfl).trans ?_)) rfl
          unfold g_met
          simp only [tA, tY]
          simp [startG, hj', i1, sub_p p1, sub_p p2, p1, p2, e2, outAt]
    · refine ⟨false, fun m hm => ?_⟩
      cases m with
      | zero => omega
      | succ m =>
        have hj' : (cs.length : Int) ≤ j := by omega
        constructor
        · refine ap_rs ((lm_S m _).trans ((ap_run rfl).trans ?_)) rfl
          unfold g__law_met
          simp only [tA, tY]
          simp [startG, hj, outAt]
        · refine ap_rs ((pm_S m _).trans ((ap_run rfl).trans ?_)) rfl
          unfold g_met
          simp only [tA, tY]
          simp [startG, hj', outAt]
theorem met_ok {n : Nat} {c : T} (hc : Cd n c) (nm ag : Int) (hn : 0 ≤ nm ∧ nm ≤ MX) : ∀ (k : Nat) (w : T), Wt k w → k ≤ 20 → MetP n c w nm ag := by
  induction hc with
  | key i a b => exact fun k w h hk => met_key i nm ag ⟨by omega, b⟩ hn h hk
  | lock i a b => exact fun k w h hk => met_lock i nm ag h hk
  | age i a b => exact fun k w h hk => met_age i nm ag h hk
  | all cs a b hc ih => exact fun k w h hk => met_all cs nm ag a b hc ih h hk
  | any cs a b hc ih => exact fun k w h hk => met_any cs nm ag a b hc ih h hk
end
end K33

set_option maxRecDepth 100000
namespace K33
section
open PySem L2 Vx PyProof.Rows
open Vx.Vp Vr Wd
/-! ### is_spending -/
theorem icn (p : Int × Int) : runS m_is_coin_name [nmT p] = some (.v (.bl (decide (1 ≤ p.1) && decide (p.1 ≤ MX) && (decide (0 ≤ p.2) && decide (p.2 ≤ 3)))), [nmT p]) := by
  have h1 := name_int p.1
  have h2 := btw_int p.2 0 3
  refine ap_rs ((ap_run rfl).trans ?_) rfl
  unfold g_is_coin_name
  by_cases a : 1 ≤ p.1
  · by_cases b : p.1 ≤ MX
    · simp [startG, nmT, e_name, e_btw, h1, h2, a, b, outAt]
    · simp [startG, nmT, e_name, e_btw, h1, h2, a, b, outAt]
  · simp [startG, nmT, e_name, e_btw, h1, h2, a, outAt]
theorem iout {a : Int} {c : T} {b : Bool} (hp : c.pers = true) (hc : runS m_is_condition [c] = some (.v (.bl b), [c])) : runS m_is_output [oT a c] = some (.v (.bl ((decide (1 ≤ a) && decide (a ≤ 1099511627776)) && b)), [oT a c]) := by
  have h1 := btw_int a 1 1099511627776
  refine ap_rs ((ap_run rfl).trans ?_) rfl
  unfold g_is_output
  by_cases h : (decide (1 ≤ a) && decide (a ≤ 1099511627776)) = true
  · simp only [Bool.and_eq_true, decide_eq_true_eq] at h
    simp [startG, oT, e_btw, h1, h.1, h.2, hc, hp, sub_p hp, outAt]
  · rw [Bool.not_eq_true] at h
    rw [h] at h1 ⊢
    simp [startG, oT, e_btw, h1, outAt]
theorem iout_ok {t : T} (h : OutOk t) : runS m_is_output [t] = some (.v (.bl true), [t]) := by
  obtain ⟨a, c, rfl, h1, h2, h3⟩ := h
  rw [iout h3.pers (isc_ok h3 (by decide)), decide_eq_true h1, decide_eq_true h2]
  rfl
theorem rowof {t : T} : ∀ {xs : List T}, t = .fz .tup xs → runS m_is_row_of [t, .v (.int 1)] = some (.v (.bl (decide (1 ≤ xs.length) && decide (xs.length ≤ 4))), [t, .v (.int 1)]) := by
  intro xs h
  subst h
  refine ap_rs ((ap_run rfl).trans ?_) rfl
  unfold g_is_row_of
  by_cases a : 1 ≤ xs.length
  · have a' : (1 : Int) ≤ xs.length := by omega
    by_cases b : xs.length ≤ 4
    · have b' : (xs.length : Int) ≤ 4 := by omega
      simp [startG, a, b, a', b', bl?, outAt]
    · have b' : ¬ (xs.length : Int) ≤ 4 := by omega
      simp [startG, a, b, a', b', bl?, outAt]
  · have a' : ¬ (1 : Int) ≤ xs.length := by omega
    simp [startG, a, a', bl?, outAt]
theorem rowof_l {xs : List T} : runS m_is_row_of [.fz .lst xs, .v (.int 1)] = some (.v (.bl false), [.fz .lst xs, .v (.int 1)]) := by
  refine ap_rs ((ap_run rfl).trans ?_) rfl
  unfold g_is_row_of
  simp [startG, outAt]
theorem lc_f4 (sem : List T → Option (Rv × List T)) (b : T → Bool) : ∀ (xs : List T), (∀ t ∈ xs, t.pers = true ∧ runS sem [t] = some (.v (.bl (b t)), [t])) → ∀ (acc : List T) (a0 a1 a2 a3 o : Option T),
    ∃ o', lcGo [] [4] (fNm 4) (fun Γ => some (Γ, true)) (fCall [] [] sem [] (fACons [] (fVar 4) fANil)) xs [a0, a1, a2, a3, o] acc = some ([a0, a1, a2, a3, o'], acc ++ xs.map fun t => .v (.bl (b t)))
  | [], _, acc, a0, a1, a2, a3, o => ⟨o, by simp [lcGo]⟩
  | x :: xs, h, acc, a0, a1, a2, a3, o => by
    obtain ⟨hp, hx⟩ := h x List.mem_cons_self
    obtain ⟨o', e⟩ := lc_f4 sem b xs (fun t m => h t (List.mem_cons_of_mem _ m)) (acc ++ [.v (.bl (b x))]) a0 a1 a2 a3 (some x)
    refine ⟨o', ?_⟩
    simp [lcGo, wipeG, hp, hx, e]
def kz (p : Int × Int) : List Key := [.inl p.1, .inl p.2]
theorem kz_inj {p q : Int × Int} (h : kz p = kz q) : p = q := by
  obtain ⟨a, b⟩ := p
  obtain ⟨c, d⟩ := q
  simp only [kz, List.cons.injEq, Sum.inl.injEq, and_true] at h
  rw [h.1, h.2]
theorem keyT_nm (p : Int × Int) : keyT (nmT p) = some (kz p) := rfl
theorem nd_kz {ps : List (Int × Int)} (h : ps.Nodup) : (ps.map kz).Nodup := List.Pairwise.map kz (fun a b hab z => hab (kz_inj z)) h
theorem mem_kz {p : Int × Int} {ps : List (Int × Int)} : kz p ∈ ps.map kz ↔ p ∈ ps := by
  constructor
  · intro h
    obtain ⟨q, hq, e⟩ := List.mem_map.mp h
    rw [← kz_inj e]
    exact hq
  · exact fun h => List.mem_map_of_mem h
theorem dc_new : ∀ (ps qs : List (Int × Int)), (qs ++ ps).Nodup → qs.length + ps.length ≤ 1000 → ∀ (xs : List T) (a0 a1 a2 a3 o : Option T), ∃ xs' o',
    dcGo [4] (fNm 4) (fun Γ => some (Γ, true)) (fVar 4) (fC (.bl true)) (ps.map nmT) [a0, a1, a2, a3, o] (.ow false (.dT (qs.map kz)) xs) = some ([a0, a1, a2, a3, o'], .ow false (.dT ((qs ++ ps).map kz)) xs')
  | [], qs, _, _, xs, a0, a1, a2, a3, o => ⟨xs, o, by simp [dcGo]⟩
  | p :: ps, qs, nd, hl, xs, a0, a1, a2, a3, o => by
    rw [List.length_cons] at hl
    have np : p ∉ qs := fun m => by
      have := List.nodup_append.mp nd
      exact this.2.2 p m p List.mem_cons_self rfl
    have e1 := gPutT_new (xs := xs) (t := .v (.bl true)) (keyT_nm p) (fun z => np (mem_kz.mp z)) (by rw [List.length_map]; omega)
    obtain ⟨xs', o', e⟩ := dc_new ps (qs ++ [p]) (by rw [List.append_assoc]; exact nd) (by rw [List.length_append]; simp only [List.length_cons, List.length_nil]; omega) (xs ++ [.v (.bl true)]) a0 a1 a2 a3 (some (nmT p))
    refine ⟨xs', o', ?_⟩
    rw [List.append_assoc] at e
    rw [List.map_append] at e
    have hp : (nmT p).pers = true := rfl
    have e2 : (qs ++ p :: ps) = qs ++ ([p] ++ ps) := rfl
    rw [e2]
    rw [List.map_cons]
    generalize nmT p = tp at *
    unfold dcGo
    simp [wipeG, hp, -List.map_append, -List.map_cons]
    rw [e1]
    exact e
theorem dcGo_cons {vs : List Nat} {fg : Ge → T → Option Ge} {ft : Ge → Option (Ge × Bool)} {fk fv : Ge → Option (Ge × Rs)} {x : T} {xs : List T} {Γ : Ge} {acc : T} : dcGo vs fg ft fk fv (x :: xs) Γ acc = (fg (wipeG Γ vs) x).bind fun Γ1 => (ft Γ1).bind fun p => if p.2 = true then (fk p.1).bind fun q => (fv q.1).bind fun z => match q.2, z.2 with
      | .val kt, .val vt => if (kt.pers && vt.pers) = true then (gPut acc [vt, kt]).bind fun r => dcGo vs fg ft fk fv xs z.1 r.1 else none
      | _, _ => none
    else dcGo vs fg ft fk fv xs p.1 acc := rfl
theorem dcGo_append {vs : List Nat} {fg : Ge → T → Option Ge} {ft : Ge → Option (Ge × Bool)} {fk fv : Ge → Option (Ge × Rs)} : ∀ (l m : List T) (Γ : Ge) (acc : T), dcGo vs fg ft fk fv (l ++ m) Γ acc = (dcGo vs fg ft fk fv l Γ acc).bind fun q => dcGo vs fg ft fk fv m q.1 q.2
  | [], m, Γ, acc => rfl
  | x :: l, m, Γ, acc => by
    rw [List.cons_append, dcGo_cons, dcGo_cons]
    cases fg (wipeG Γ vs) x with
    | none => rfl
    | some Γ1 =>
      simp only [Option.bind_some]
      cases ft Γ1 with
      | none => rfl
      | some p =>
        simp only [Option.bind_some]
        split
        · cases fk p.1 with
          | none => rfl
          | some q =>
            simp only [Option.bind_some]
            cases fv q.1 with
            | none => rfl
            | some z =>
              simp only [Option.bind_some]
              split
              · split
                · rename_i kt vt _ _ _
                  cases gPut acc [vt, kt] with
                  | none => rfl
                  | some r => simp only [Option.bind_some]; exact dcGo_append l m z.1 r.1
                · rfl
              · rfl
        · exact dcGo_append l m p.1 acc
theorem dc_dup {ps : List (Int × Int)} {p : Int × Int} (nd : ps.Nodup) (hm : p ∈ ps) (hl : ps.length ≤ 1000) (a0 a1 a2 a3 o : Option T) : ∃ xs' o',
    dcGo [4] (fNm 4) (fun Γ => some (Γ, true)) (fVar 4) (fC (.bl true)) (ps.map nmT ++ [nmT p]) [a0, a1, a2, a3, o] (dNil true) = some ([a0, a1, a2, a3, o'], .ow false (.dT (ps.map kz)) xs') := by
  obtain ⟨xs1, o1, e1⟩ := dc_new ps [] (by simpa using nd) (by simpa using hl) [] a0 a1 a2 a3 o
  obtain ⟨n, _, e2⟩ := gPutT_old (xs := xs1) (t := .v (.bl true)) (keyT_nm p) (nd_kz nd) (mem_kz.mpr hm) (by rw [List.length_map]; omega)
  have hd : dNil true = .ow false (.dT (([] : List (Int × Int)).map kz)) [] := rfl
  refine ⟨xs1.set n (.v (.bl true)), some (nmT p), ?_⟩
  rw [dcGo_append, hd, e1, Option.bind_some]
  have hp : (nmT p).pers = true := rfl
  rw [List.nil_append]
  generalize nmT p = tp at *
  unfold dcGo
  simp [wipeG, hp, -List.map_append, -List.map_cons]
  rw [e2]
  simp [dcGo]
/-! the whole -/
structure SpF (is os ws : List T) (bI bO bW : T → Bool) : Prop where
  hI : ∀ t ∈ is, t.pers = true ∧ runS m_is_coin_name [t] = some (.v (.bl (bI t)), [t])
  hO : ∀ t ∈ os, t.pers = true ∧ runS m_is_output [t] = some (.v (.bl (bO t)), [t])
  hW : ∀ t ∈ ws, t.pers = true ∧ runS m_is_witness [t] = some (.v (.bl (bW t)), [t])
def tp3 (a b c : T) : T := .fz .tup [a, b, c]
theorem isp_rows {is os ws : List T} (h : ¬ ((1 ≤ is.length ∧ is.length ≤ 4) ∧ (1 ≤ os.length ∧ os.length ≤ 4) ∧ (1 ≤ ws.length ∧ ws.length ≤ 4))) : runS m_is_spending [tp3 (.fz .tup is) (.fz .tup os) (.fz .tup ws)] = some (.v (.bl false), [tp3 (.fz .tup is) (.fz .tup os) (.fz .tup ws)]) := by
  have r1 := rowof (xs := is) rfl
  have r2 := rowof (xs := os) rfl
  have r3 := rowof (xs := ws) rfl
  refine ap_rs ((ap_run rfl).trans ?_) rfl
  unfold g_is_spending
  by_cases a : 1 ≤ is.length ∧ is.length ≤ 4
  · by_cases b : 1 ≤ os.length ∧ os.length ≤ 4
    · have c : ¬ (1 ≤ ws.length ∧ ws.length ≤ 4) := fun z => h ⟨a, b, z⟩
      have c' : (decide (1 ≤ ws.length) && decide (ws.length ≤ 4)) = false := by
        cases hh : (decide (1 ≤ ws.length) && decide (ws.length ≤ 4)) with
        | false => rfl
        | true => simp only [Bool.and_eq_true, decide_eq_true_eq] at hh; exact (c hh).elim
      rw [c'] at r3
      rw [decide_eq_true b.1, decide_eq_true b.2] at r2
      rw [decide_eq_true a.1, decide_eq_true a.2] at r1
      simp [startG, tp3, r1, r2, r3, outAt]
    · have b' : (decide (1 ≤ os.length) && decide (os.length ≤ 4)) = false := by
        cases hh : (decide (1 ≤ os.length) && decide (os.length ≤ 4)) with
        | false => rfl
        | true => simp only [Bool.and_eq_true, decide_eq_true_eq] at hh; exact (b hh).elim
      rw [b'] at r2
      rw [decide_eq_true a.1, decide_eq_true a.2] at r1
      simp [startG, tp3, r1, r2, outAt]
  · have a' : (decide (1 ≤ is.length) && decide (is.length ≤ 4)) = false := by
      cases hh : (decide (1 ≤ is.length) && decide (is.length ≤ 4)) with
      | false => rfl
      | true => simp only [Bool.and_eq_true, decide_eq_true_eq] at hh; exact (a hh).elim
    rw [a'] at r1
    simp [startG, tp3, r1, outAt]
theorem row_ok {xs : List T} (h : 1 ≤ xs.length ∧ xs.length ≤ 4) : runS m_is_row_of [.fz .tup xs, .v (.int 1)] = some (.v (.bl true), [.fz .tup xs, .v (.int 1)]) := by
  rw [rowof rfl, decide_eq_true h.1, decide_eq_true h.2]
  rfl
theorem isp_names {is os ws : List T} {bI bO bW : T → Bool} (F : SpF is os ws bI bO bW) (r1 : 1 ≤ is.length ∧ is.length ≤ 4) (r2 : 1 ≤ os.length ∧ os.length ≤ 4) (r3 : 1 ≤ ws.length ∧ ws.length ≤ 4) (h : is.all bI = false ∨ os.all bO = false) : runS m_is_spending [tp3 (.fz .tup is) (.fz .tup os) (.fz .tup ws)] = some (.v (.bl false), [tp3 (.fz .tup is) (.fz .tup os) (.fz .tup ws)]) := by
  have p1 := all_pers fun t m => (F.hI t m).1
  have p2 := all_pers fun t m => (F.hO t m).1
  obtain ⟨o1, e1⟩ := lc_f4 m_is_coin_name bI is F.hI [] (some (tp3 (.fz .tup is) (.fz .tup os) (.fz .tup ws))) (some (.fz .tup is)) (some (.fz .tup os)) (some (.fz .tup ws)) none
  obtain ⟨o2, e2⟩ := lc_f4 m_is_output bO os F.hO [] (some (tp3 (.fz .tup is) (.fz .tup os) (.fz .tup ws))) (some (.fz .tup is)) (some (.fz .tup os)) (some (.fz .tup ws)) none
  rw [List.nil_append] at e1 e2
  have g1 := gAll_map bI is
  have g2 := gAll_map bO os
  have l1 : is.length ≤ 10000 := by omega
  have l2 : os.length ≤ 10000 := by omega
  refine ap_rs ((ap_run rfl).trans ?_) rfl
  unfold g_is_spending
  simp only [tp3] at e1 e2 ⊢
  rcases h with h | h
  · rw [h] at g1
    simp [startG, row_ok r1, row_ok r2, row_ok r3, sqf, p1, l1, persVs, e1, g1, rstG, outAt, -List.all_eq_true, -List.all_eq_false]
  · rw [h] at g2
    cases ha : is.all bI with
    | false =>
      rw [ha] at g1
      simp [startG, row_ok r1, row_ok r2, row_ok r3, sqf, p1, l1, persVs, e1, g1, rstG, outAt, -List.all_eq_true, -List.all_eq_false]
    | true =>
      rw [ha] at g1
      simp [startG, row_ok r1, row_ok r2, row_ok r3, sqf, p1, p2, l1, l2, persVs, e1, e2, g1, g2, rstG, outAt, -List.all_eq_true, -List.all_eq_false]
theorem isp_len {is os ws : List T} {bI bO bW : T → Bool} (F : SpF is os ws bI bO bW) (r1 : 1 ≤ is.length ∧ is.length ≤ 4) (r2 : 1 ≤ os.length ∧ os.length ≤ 4) (r3 : 1 ≤ ws.length ∧ ws.length ≤ 4) (h1 : is.all bI = true) (h2 : os.all bO = true) (h3 : ws.all bW = true) (h : ws.length ≠ is.length) : runS m_is_spending [tp3 (.fz .tup is) (.fz .tup os) (.fz .tup ws)] = some (.v (.bl false), [tp3 (.fz .tup is) (.fz .tup os) (.fz .tup ws)]) := by
  have p1 := all_pers fun t m => (F.hI t m).1
  have p2 := all_pers fun t m => (F.hO t m).1
  have p3 := all_pers fun t m => (F.hW t m).1
  obtain ⟨o1, e1⟩ := lc_f4 m_is_coin_name bI is F.hI [] (some (tp3 (.fz .tup is) (.fz .tup os) (.fz .tup ws))) (some (.fz .tup is)) (some (.fz .tup os)) (some (.fz .tup ws)) none
  obtain ⟨o2, e2⟩ := lc_f4 m_is_output bO os F.hO [] (some (tp3 (.fz .tup is) (.fz .tup os) (.fz .tup ws))) (some (.fz .tup is)) (some (.fz .tup os)) (some (.fz .tup ws)) none
  obtain ⟨o3, e3⟩ := lc_f4 m_is_witness bW ws F.hW [] (some (tp3 (.fz .tup is) (.fz .tup os) (.fz .tup ws))) (some (.fz .tup is)) (some (.fz .tup os)) (some (.fz .tup ws)) none
  rw [List.nil_append] at e1 e2 e3
  have g1 := gAll_map bI is
  have g2 := gAll_map bO os
  have g3 := gAll_map bW ws
  rw [h1] at g1
  rw [h2] at g2
  rw [h3] at g3
  have l1 : is.length ≤ 10000 := by omega
  have l2 : os.length ≤ 10000 := by omega
  have l3 : ws.length ≤ 10000 := by omega
  have hl : ¬ (ws.length : Int) = is.length := by omega
  refine ap_rs ((ap_run rfl).trans ?_) rfl
  unfold g_is_spending
  simp only [tp3] at e1 e2 e3 ⊢
  simp [startG, row_ok r1, row_ok r2, row_ok r3, sqf, p1, p2, p3, l1, l2, l3, persVs, e1, e2, e3, g1, g2, g3, hl, rstG, outAt, -List.all_eq_true, -List.all_eq_false]
theorem isp_last {is os ws : List T} {bI bO bW : T → Bool} (F : SpF is os ws bI bO bW) (r1 : 1 ≤ is.length ∧ is.length ≤ 4) (r2 : 1 ≤ os.length ∧ os.length ≤ 4) (r3 : 1 ≤ ws.length ∧ ws.length ≤ 4) (h1 : is.all bI = true) (h2 : os.all bO = true) (h3 : ws.all bW = true) (h : ws.length = is.length)
    {ks : List (List Key)} (hd : ∀ a0 a1 a2 a3 o : Option T, ∃ xs' o', dcGo [4] (fNm 4) (fun Γ => some (Γ, true)) (fVar 4) (fC (.bl true)) is [a0, a1, a2, a3, o] (dNil true) = some ([a0, a1, a2, a3, o'], .ow false (.dT ks) xs')) :
    runS m_is_spending [tp3 (.fz .tup is) (.fz .tup os) (.fz .tup ws)] = some (.v (.bl (decide ((ks.length : Int) = is.length))), [tp3 (.fz .tup is) (.fz .tup os) (.fz .tup ws)]) := by
  have p1 := all_pers fun t m => (F.hI t m).1
  have p2 := all_pers fun t m => (F.hO t m).1
  have p3 := all_pers fun t m => (F.hW t m).1
  obtain ⟨o1, e1⟩ := lc_f4 m_is_coin_name bI is F.hI [] (some (tp3 (.fz .tup is) (.fz .tup os) (.fz .tup ws))) (some (.fz .tup is)) (some (.fz .tup os)) (some (.fz .tup ws)) none
  obtain ⟨o2, e2⟩ := lc_f4 m_is_output bO os F.hO [] (some (tp3 (.fz .tup is) (.fz .tup os) (.fz .tup ws))) (some (.fz .tup is)) (some (.fz .tup os)) (some (.fz .tup ws)) none
  obtain ⟨o3, e3⟩ := lc_f4 m_is_witness bW ws F.hW [] (some (tp3 (.fz .tup is) (.fz .tup os) (.fz .tup ws))) (some (.fz .tup is)) (some (.fz .tup os)) (some (.fz .tup ws)) none
  obtain ⟨xs', o4, e4⟩ := hd (some (tp3 (.fz .tup is) (.fz .tup os) (.fz .tup ws))) (some (.fz .tup is)) (some (.fz .tup os)) (some (.fz .tup ws)) none
  rw [List.nil_append] at e1 e2 e3
  have g1 := gAll_map bI is
  have g2 := gAll_map bO os
  have g3 := gAll_map bW ws
  rw [h1] at g1
  rw [h2] at g2
  rw [h3] at g3
  have l1 : is.length ≤ 10000 := by omega
  have l2 : os.length ≤ 10000 := by omega
  have l3 : ws.length ≤ 10000 := by omega
  have hl : (ws.length : Int) = is.length := by omega
  refine ap_rs ((ap_run rfl).trans ?_) rfl
  unfold g_is_spending
  simp only [tp3] at e1 e2 e3 e4 ⊢
  simp [startG, row_ok r1, row_ok r2, row_ok r3, sqf, p1, p2, p3, l1, l2, l3, persVs, e1, e2, e3, e4, g1, g2, g3, hl, rstG, outAt, -List.all_eq_true, -List.all_eq_false]
end
end K33

set_option maxRecDepth 100000
namespace K33
section
open PySem L2 Vx PyProof.Rows
open Vx.Vp Vr Wd
def bof (sem : List T → Option (Rv × List T)) (t : T) : Bool := match runS sem [t] with
  | some (.v (.bl b), _) => b
  | _ => false
theorem bof_of {sem : List T → Option (Rv × List T)} {t : T} {b : Bool} (h : runS sem [t] = some (.v (.bl b), [t])) : runS sem [t] = some (.v (.bl (bof sem t)), [t]) ∧ bof sem t = b := by
  have e : bof sem t = b := by unfold bof; rw [h]
  exact ⟨by rw [e]; exact h, e⟩
theorem spf {is os ws : List T} (h1 : ∀ t ∈ is, t.pers = true ∧ ∃ b, runS m_is_coin_name [t] = some (.v (.bl b), [t])) (h2 : ∀ t ∈ os, t.pers = true ∧ ∃ b, runS m_is_output [t] = some (.v (.bl b), [t])) (h3 : ∀ t ∈ ws, t.pers = true ∧ ∃ b, runS m_is_witness [t] = some (.v (.bl b), [t])) :
    SpF is os ws (bof m_is_coin_name) (bof m_is_output) (bof m_is_witness) :=
  ⟨fun t m => ⟨(h1 t m).1, let ⟨_, e⟩ := (h1 t m).2; (bof_of e).1⟩, fun t m => ⟨(h2 t m).1, let ⟨_, e⟩ := (h2 t m).2; (bof_of e).1⟩, fun t m => ⟨(h3 t m).1, let ⟨_, e⟩ := (h3 t m).2; (bof_of e).1⟩⟩
theorem all_bof {sem : List T → Option (Rv × List T)} {xs : List T} (h : ∀ t ∈ xs, runS sem [t] = some (.v (.bl true), [t])) : xs.all (bof sem) = true := List.all_eq_true.mpr fun t m => (bof_of (h t m)).2
theorem icn_ok {p : Int × Int} (h : nmR p) : runS m_is_coin_name [nmT p] = some (.v (.bl true), [nmT p]) := by
  rw [icn, decide_eq_true h.1.1, decide_eq_true h.1.2, decide_eq_true h.2.1, decide_eq_true h.2.2]
  rfl
/-- a good spending's parts -/
structure Good (ps : List (Int × Int)) (os ws : List T) : Prop where
  nd : ps.Nodup
  nm : ∀ p ∈ ps, nmR p
  p1 : 1 ≤ ps.length
  p4 : ps.length ≤ 4
  ho : ∀ t ∈ os, OutOk t
  o1 : 1 ≤ os.length
  o4 : os.length ≤ 4
  hw : ∀ t ∈ ws, Wt 2 t
  wl : ws.length = ps.length
section
variable {ps : List (Int × Int)} {os ws : List T}
theorem hI' (h : ∀ p ∈ ps, nmR p) : ∀ t ∈ ps.map nmT, t.pers = true ∧ ∃ b, runS m_is_coin_name [t] = some (.v (.bl b), [t]) := fun t m => by
  obtain ⟨p, hp, rfl⟩ := List.mem_map.mp m
  exact ⟨rfl, true, icn_ok (h p hp)⟩
theorem aI' (h : ∀ p ∈ ps, nmR p) : (ps.map nmT).all (bof m_is_coin_name) = true := all_bof fun t m => by
  obtain ⟨p, hp, rfl⟩ := List.mem_map.mp m
  exact icn_ok (h p hp)
theorem hO' (h : ∀ t ∈ os, OutOk t) : ∀ t ∈ os, t.pers = true ∧ ∃ b, runS m_is_output [t] = some (.v (.bl b), [t]) := fun t m => ⟨(h t m).pers, true, iout_ok (h t m)⟩
theorem hW' (h : ∀ t ∈ ws, Wt 2 t) : ∀ t ∈ ws, t.pers = true ∧ ∃ b, runS m_is_witness [t] = some (.v (.bl b), [t]) := fun t m => ⟨(h t m).pers, true, isw_ok (h t m) (by decide)⟩
theorem aO' (h : ∀ t ∈ os, OutOk t) : os.all (bof m_is_output) = true := all_bof fun t m => iout_ok (h t m)
theorem aW' (h : ∀ t ∈ ws, Wt 2 t) : ws.all (bof m_is_witness) = true := all_bof fun t m => isw_ok (h t m) (by decide)
theorem isp_good (G : Good ps os ws) : runS m_is_spending [sp3 ps os ws] = some (.v (.bl true), [sp3 ps os ws]) := by
  have l : (ps.map nmT).length = ps.length := List.length_map _
  have hd : ∀ a0 a1 a2 a3 o : Option T, ∃ xs' o', dcGo [4] (fNm 4) (fun Γ => some (Γ, true)) (fVar 4) (fC (.bl true)) (ps.map nmT) [a0, a1, a2, a3, o] (dNil true) = some ([a0, a1, a2, a3, o'], .ow false (.dT (ps.map kz)) xs') := fun a0 a1 a2 a3 o => dc_new ps [] (by simpa using G.nd) (by have := G.p4; simp; omega) [] a0 a1 a2 a3 o
  have := isp_last (spf (hI' G.nm) (hO' G.ho) (hW' G.hw)) (by rw [l]; exact ⟨G.p1, G.p4⟩) ⟨G.o1, G.o4⟩ (by rw [G.wl]; exact ⟨G.p1, G.p4⟩) (aI' G.nm) (aO' G.ho) (aW' G.hw) (by rw [l]; exact G.wl) hd
  rw [List.length_map, List.length_map, decide_eq_true rfl] at this
  exact this
/-! ### spoilt ones -/
abbrev NotSp (t : T) : Prop := runS m_is_spending [t] = some (.v (.bl false), [t])
theorem ns_two {a b : T} : NotSp (.fz .tup [a, b]) := by
  refine ap_rs ((ap_run rfl).trans ?_) rfl
  unfold g_is_spending
  simp [startG, outAt]
theorem ns_non : NotSp (.v .non) := by
  refine ap_rs ((ap_run rfl).trans ?_) rfl
  unfold g_is_spending
  simp [startG, outAt]
theorem ns_lst {xs : List T} {b c : T} (hb : b.pers = true) (hc : c.pers = true) : NotSp (tp3 (.fz .lst xs) b c) := by
  refine ap_rs ((ap_run rfl).trans ?_) rfl
  unfold g_is_spending
  simp [startG, tp3, rowof_l, outAt]
theorem ns5 (G : Good ps os ws) : NotSp (tp3 (.fz .tup (ps.map nmT)) (.fz .tup os) (.fz .tup (ws ++ [tW]))) := by
  have l : (ps.map nmT).length = ps.length := List.length_map _
  have l2 : (ws ++ [tW]).length = ps.length + 1 := by rw [List.length_append, G.wl]; rfl
  have w' : ∀ t ∈ ws ++ [tW], Wt 2 t := fun t m => by
    rcases List.mem_append.mp m with m | m
    · exact G.hw t m
    · rw [List.mem_singleton.mp m]; exact .wait
  by_cases h : ps.length = 4
  · exact isp_rows fun z => by omega
  · have := G.p1
    have := G.p4
    exact isp_len (spf (hI' G.nm) (hO' G.ho) (hW' w')) (by omega) ⟨G.o1, G.o4⟩ (by omega) (aI' G.nm) (aO' G.ho) (aW' w') (by omega)
theorem ns6 (G : Good ps os ws) {p : Int × Int} {w : T} (hp : p ∈ ps) (hw : Wt 2 w) : NotSp (tp3 (.fz .tup (ps.map nmT ++ [nmT p])) (.fz .tup os) (.fz .tup (ws ++ [w]))) := by
  have e : ps.map nmT ++ [nmT p] = (ps ++ [p]).map nmT := by simp
  have l : ((ps ++ [p]).map nmT).length = ps.length + 1 := by simp
  have l2 : (ws ++ [w]).length = ps.length + 1 := by rw [List.length_append, G.wl]; rfl
  have w' : ∀ t ∈ ws ++ [w], Wt 2 t := fun t m => by
    rcases List.mem_append.mp m with m | m
    · exact G.hw t m
    · rw [List.mem_singleton.mp m]; exact hw
  have n' : ∀ q ∈ ps ++ [p], nmR q := fun q m => by
    rcases List.mem_append.mp m with m | m
    · exact G.nm q m
    · rw [List.mem_singleton.mp m]; exact G.nm p hp
  have h1 := G.p1
  have h4 := G.p4
  rw [e]
  by_cases h : ps.length = 4
  · exact isp_rows fun z => by omega
  · have hd : ∀ a0 a1 a2 a3 o : Option T, ∃ xs' o', dcGo [4] (fNm 4) (fun Γ => some (Γ, true)) (fVar 4) (fC (.bl true)) ((ps ++ [p]).map nmT) [a0, a1, a2, a3, o] (dNil true) = some ([a0, a1, a2, a3, o'], .ow false (.dT (ps.map kz)) xs') := fun a0 a1 a2 a3 o => by
      rw [← e]
      exact dc_dup G.nd hp (by omega) a0 a1 a2 a3 o
    have := isp_last (spf (hI' n') (hO' G.ho) (hW' w')) (by omega) ⟨G.o1, G.o4⟩ (by omega) (aI' n') (aO' G.ho) (aW' w') (by omega) hd
    rw [l, List.length_map, decide_eq_false (by omega)] at this
    exact this
theorem ns_name (G : Good ps os ws) (p : Int × Int) (h : (decide (1 ≤ p.1) && decide (p.1 ≤ MX) && (decide (0 ≤ p.2) && decide (p.2 ≤ 3))) = false) : NotSp (tp3 (.fz .tup [nmT p]) (.fz .tup os) (.fz .tup [tW])) := by
  have e := icn p
  rw [h] at e
  refine isp_names (spf (fun t m => ?_) (hO' G.ho) (hW' (ws := [tW]) fun t m => ?_)) (by simp) ⟨G.o1, G.o4⟩ (by simp) (.inl ?_)
  · rw [List.mem_singleton.mp m]
    exact ⟨rfl, false, e⟩
  · rw [List.mem_singleton.mp m]
    exact .wait
  · rw [List.all_cons, (bof_of e).2]
    rfl
theorem ns_out (G : Good ps os ws) {t : T} (hp : t.pers = true) (h : runS m_is_output [t] = some (.v (.bl false), [t])) : NotSp (tp3 (.fz .tup (ps.map nmT)) (.fz .tup [t]) (.fz .tup ws)) := by
  have l : (ps.map nmT).length = ps.length := List.length_map _
  have := G.wl
  refine isp_names (spf (hI' G.nm) (fun u m => ?_) (hW' G.hw)) (by rw [l]; exact ⟨G.p1, G.p4⟩) (by simp) (by rw [G.wl]; exact ⟨G.p1, G.p4⟩) (.inr ?_)
  · rw [List.mem_singleton.mp m]
    exact ⟨hp, false, h⟩
  · rw [List.all_cons, (bof_of h).2]
    rfl
end
theorem frzs_pers : ∀ xs : List T, xs.all T.pers = true → frzs xs = some xs
  | [], _ => rfl
  | x :: xs, h => by
    rw [List.all_cons, Bool.and_eq_true] at h
    have e : frz x = some x := by
      cases x with
      | v y => rfl
      | fz s ys => rfl
      | ow l s ys => exact absurd h.1 (by simp)
      | out y => exact absurd h.1 (by simp [T.pers])
    unfold frzs
    rw [e, frzs_pers xs h.2]
theorem frz_lst {xs : List T} (h : xs.all T.pers = true) : frz (.ow false .lst xs) = some (.fz .lst xs) := by
  unfold frz
  rw [if_pos ⟨rfl, rfl⟩, frzs_pers xs h]
  rfl
theorem sl1 (x : T) (xs : List T) : gSlU (.fz .tup (x :: xs)) none (some 1) = some (.fz .tup [x]) := by
  have h1 : gSlL (.fz .tup (x :: xs)) none (some 1) = none := rfl
  have h2 : HT.sIx (x :: xs).length (x :: xs).length (some 1) = 1 := by
    show (if (1 : Int) < 0 then ((1 : Int) + ((x :: xs).length : Int)).toNat else min (1 : Int).toNat (x :: xs).length) = 1
    rw [if_neg (by decide)]
    simp
  unfold gSlU gEiS
  rw [h1]
  dsimp only
  unfold gSlA
  show (if HT.sIx (x :: xs).length 0 none = 0 ∧ HT.sIx (x :: xs).length (x :: xs).length (some 1) = (x :: xs).length then some (T.fz .tup (x :: xs)) else some (T.fz .tup (cutT (x :: xs) none (some 1)))) = _
  rw [h2]
  by_cases hx : xs = []
  · subst hx
    rfl
  · have : ¬ (1 : Nat) = (x :: xs).length := by
      cases xs with
      | nil => exact absurd rfl hx
      | cons _ _ => simp
    rw [if_neg fun z => this z.2]
    unfold cutT
    rw [h2]
    rfl
theorem lc_ns : ∀ (xs : List T), (∀ t ∈ xs, t.pers = true ∧ runS m_is_spending [t] = some (.v (.bl false), [t])) → ∀ (acc : List T) (a0 a1 a2 a3 a4 o : Option T),
    ∃ o', lcGo [] [5] (fNm 5) (fTr (fCall [] [] m_is_spending [] (fACons [] (fVar 5) fANil))) (fC (.int 1)) xs [a0, a1, a2, a3, a4, o] acc = some ([a0, a1, a2, a3, a4, o'], acc)
  | [], _, acc, a0, a1, a2, a3, a4, o => ⟨o, by simp [lcGo]⟩
  | x :: xs, h, acc, a0, a1, a2, a3, a4, o => by
    obtain ⟨hp, hx⟩ := h x List.mem_cons_self
    obtain ⟨o', e⟩ := lc_ns xs (fun t m => h t (List.mem_cons_of_mem _ m)) acc a0 a1 a2 a3 a4 (some x)
    refine ⟨o', ?_⟩
    simp [lcGo, wipeG, hp, hx, e]
theorem isc_key0 : runS m_is_condition [kw "key" 0] = some (.v (.bl false), [kw "key" 0]) := by
  have e : runS (r_fits_condition 8) [kw "key" 0, .v (.int 3)] = some (.v (.bl false), [kw "key" 0, .v (.int 3)]) := by
    refine ap_rs ((fc_S 7 _).trans ((ap_run rfl).trans ?_)) rfl
    unfold g_fits_condition
    simp [startG, kw, e_name, name_int, outAt]
  refine ap_rs ((ap_run rfl).trans ?_) rfl
  unfold g_is_condition m_fits_condition
  simp only [kw] at e ⊢
  simp [startG, e, outAt]
theorem iout_true : runS m_is_output [.fz .tup [.v (.bl true), kw "key" 1]] = some (.v (.bl false), [.fz .tup [.v (.bl true), kw "key" 1]]) := by
  have h1 := btw_not (.v (.bl true)) 1 1099511627776 rfl (.inl rfl)
  refine ap_rs ((ap_run rfl).trans ?_) rfl
  unfold g_is_output
  simp only [kw]
  simp [startG, e_btw, h1, outAt]
theorem isc_key1 : runS m_is_condition [kw "key" 1] = some (.v (.bl true), [kw "key" 1]) := isc_ok (n := 0) (.key 1 (by decide) (by decide)) (by decide)
def bads (ps : List (Int × Int)) (os ws : List T) (p : Int × Int) (u w : T) : List T := [T.fz .tup [.fz .tup (ps.map nmT), .fz .tup os], .fz .tup [.fz .lst (ps.map nmT), .fz .tup os, .fz .tup ws], .fz .tup [.fz .tup [], .fz .tup os, .fz .tup []], .fz .tup [.fz .tup (ps.map nmT), .fz .tup [], .fz .tup ws],
      .fz .tup [.fz .tup (ps.map nmT), .fz .tup os, .fz .tup (ws ++ [tW])], .fz .tup [.fz .tup (ps.map nmT ++ [nmT p]), .fz .tup os, .fz .tup (ws ++ [w])], .fz .tup [.fz .tup [nmT (0, 1)], .fz .tup os, .fz .tup [tW]], .fz .tup [.fz .tup [nmT (5, 4)], .fz .tup os, .fz .tup [tW]],
      .fz .tup [.fz .tup (ps.map nmT), .fz .tup [oT 0 (kw "key" 1)], .fz .tup ws], .fz .tup [.fz .tup (ps.map nmT), .fz .tup [oT 1099511627777 (kw "key" 1)], .fz .tup ws], .fz .tup [.fz .tup (ps.map nmT), .fz .tup [oT 1 (kw "key" 0)], .fz .tup ws],
      .fz .tup [.fz .tup (ps.map nmT), .fz .tup [.fz .tup [.v (.bl true), kw "key" 1]], .fz .tup ws], .fz .tup [.fz .tup (ps.map nmT), .fz .tup [u, u, u, u, u], .fz .tup ws], .v .non]
theorem lspoilt {ps : List (Int × Int)} {os ws : List T} (G : Good ps os ws) : runS m__law_spoilt [sp3 ps os ws] = some (.v (.bl true), [sp3 ps os ws]) := by
  obtain ⟨p, ps', hp⟩ : ∃ p ps', ps = p :: ps' := by
    cases ps with
    | nil => exact absurd G.p1 (by simp)
    | cons p ps' => exact ⟨p, ps', rfl⟩
  obtain ⟨u, os', hu⟩ : ∃ u os', os = u :: os' := by
    cases os with
    | nil => exact absurd G.o1 (by simp)
    | cons p ps' => exact ⟨p, ps', rfl⟩
  obtain ⟨w, ws', hw⟩ : ∃ w ws', ws = w :: ws' := by
    have := G.wl
    cases ws with
    | nil => have := G.p1; simp at *; omega
    | cons p ps' => exact ⟨p, ps', rfl⟩
  have s1 : gSlU (.fz .tup (ps.map nmT)) none (some 1) = some (.fz .tup [nmT p]) := by rw [hp, List.map_cons]; exact sl1 _ _
  have s2 : gSlU (.fz .tup os) none (some 1) = some (.fz .tup [u]) := by rw [hu]; exact sl1 _ _
  have s3 : gSlU (.fz .tup ws) none (some 1) = some (.fz .tup [w]) := by rw [hw]; exact sl1 _ _
  have l : (ps.map nmT).length = ps.length := List.length_map _
  have h4 := G.p4
  have wl := G.wl
  have a1 : gAddU (.fz .tup (ps.map nmT)) (.fz .tup [nmT p]) = some (.fz .tup (ps.map nmT ++ [nmT p])) := gAddU_t (by rw [l, List.length_cons, List.length_nil]; omega)
  have a2 : gAddU (.fz .tup ws) (.fz .tup [w]) = some (.fz .tup (ws ++ [w])) := gAddU_t (by rw [List.length_cons, List.length_nil]; omega)
  have a3 : gAddU (.fz .tup ws) (.fz .tup [tW]) = some (.fz .tup (ws ++ [tW])) := gAddU_t (by rw [List.length_cons, List.length_nil]; omega)
  have m5 : gMulV (.fz .tup [u]) (.v (.int 5)) = some (.fz .tup [u, u, u, u, u]) := rfl
  have pp := nmT_pers ps
  have gl : gList [.fz .tup (ps.map nmT)] = some (.ow false .lst (ps.map nmT)) := rfl
  have fr := frz_lst pp
  have h40 : cPow 2 40 = true := by decide
  have f : ∀ t ∈ bads ps os ws p u w, t.pers = true ∧ runS m_is_spending [t] = some (.v (.bl false), [t]) := by
    intro t m
    simp only [bads, List.mem_cons, List.not_mem_nil, or_false] at m
    rcases m with rfl | rfl | rfl | rfl | rfl | rfl | rfl | rfl | rfl | rfl | rfl | rfl | rfl | rfl
    · exact ⟨rfl, ns_two⟩
    · exact ⟨rfl, ns_lst rfl rfl⟩
    · exact ⟨rfl, isp_rows fun z => absurd z.1.1 (by decide)⟩
    · exact ⟨rfl, isp_rows fun z => absurd z.2.1.1 (by decide)⟩
    · exact ⟨rfl, ns5 G⟩
    · exact ⟨rfl, ns6 G (by rw [hp]; exact List.mem_cons_self) (G.hw w (by rw [hw]; exact List.mem_cons_self))⟩
    · exact ⟨rfl, ns_name G (0, 1) (by decide)⟩
    · exact ⟨rfl, ns_name G (5, 4) (by decide)⟩
    · exact ⟨rfl, ns_out G rfl (iout rfl isc_key1)⟩
    · exact ⟨rfl, ns_out G rfl (iout rfl isc_key1)⟩
    · exact ⟨rfl, ns_out G rfl (iout rfl isc_key0)⟩
    · exact ⟨rfl, ns_out G rfl iout_true⟩
    · exact ⟨rfl, isp_rows fun z => absurd z.2.1.2 (by simp)⟩
    · exact ⟨rfl, ns_non⟩
  obtain ⟨o', e⟩ := lc_ns _ f [] (some (sp3 ps os ws)) (some (.fz .tup (ps.map nmT))) (some (.fz .tup os)) (some (.fz .tup ws)) (some (.ow false .lst (bads ps os ws p u w))) none
  have ge := gEq_nil (ts := []) .nil
  have pf : (bads ps os ws p u w).all T.pers = true := rfl
  refine ap_rs ((ap_run rfl).trans ?_) rfl
  unfold g__law_spoilt
  simp only [bads, sp3, nmT, oT, kw, tW] at e s1 s2 s3 a1 a2 a3 ⊢
  generalize ps.map nmT = I at *
  simp [startG, s1, s2, s3, a1, a2, a3, m5, gl, fr, h40, sqTL, e, ge, persVs, rstG, outAt]
end
end K33

set_option maxRecDepth 100000
namespace K33
section
open PySem L2 Vx PyProof.Rows
open Vx.Vp Vr Wd
theorem nx (cs : List Int) (i r s m : Int) (hi : 0 ≤ i) (hm : 0 < m) (hm2 : m < 2 ^ 200) : ∃ i' r' s' v, 0 ≤ i' ∧ 0 ≤ v ∧ v < m ∧ runS m__law_next [tp cs i r s, .v (.int m)] = some (.v (.int v), [tp cs i' r' s', .v (.int m)]) := Vr.next_run cs i r s m hi hm hm2
theorem lc_S (m : Nat) (ts : List T) : r__law_condition (m + 1) ts = runB 2 5 [2, 3] (g__law_condition (r__law_condition m)) ts := rfl
theorem mixIn (l : List Int) : 1 ≤ mixV l ∧ mixV l ≤ MX := mixV_in l
/-- a leaf is drawn -/
theorem cond_leaf (cs : List Int) (i r s d : Int) (hi : 0 ≤ i) (m : Nat) {i1 r1 s1 k : Int} (a1 : 0 ≤ i1) (e1 : runS m__law_next [tp cs i r s, .v (.int 6)] = some (.v (.int k), [tp cs i1 r1 s1, .v (.int 6)])) (b1 : 0 ≤ k) (c1 : k < 6) (h : k < 4 ∨ d = 0) :
    ∃ i' r' s' t, 0 ≤ i' ∧ Cd 0 t ∧ runS (r__law_condition (m + 1)) [tp cs i r s, .v (.int d)] = some (t, [tp cs i' r' s', .v (.int d)]) := by
  by_cases hk : k < 2 ∨ (d = 0 ∧ 3 < k)
  · obtain ⟨i2, r2, s2, v, a2, b2, c2, e2⟩ := nx cs i1 r1 s1 5 a1 (by decide) (by decide)
    refine ⟨i2, r2, s2, kw "key" (1 + v), a2, .key _ (by omega) (Int.le_trans (show 1 + v ≤ 6 by omega) (by decide)), ap_rs ((lc_S m _).trans ((ap_run rfl).trans ?_)) rfl⟩
    unfold g__law_condition
    by_cases h2 : k < 2
    · simp [startG, e1, e2, h2, kw, outAt]
    · have h0 := (hk.resolve_left h2)
      simp [startG, e1, e2, h2, h0.1, h0.2, kw, outAt]
  · have h2 : ¬ k < 2 := fun z => hk (.inl z)
    have h3 : k = 2 ∨ k = 3 := by
      rcases h with h | h
      · omega
      · by_cases h3 : 3 < k
        · exact (hk (.inr ⟨h, h3⟩)).elim
        · omega
    rcases h3 with rfl | rfl
    · obtain ⟨i2, r2, s2, v, a2, b2, c2, e2⟩ := nx cs i1 r1 s1 4 a1 (by decide) (by decide)
      obtain ⟨x1, x2⟩ := mixIn [4, v]
      refine ⟨i2, r2, s2, kw "lock" (mixV [4, v]), a2, .lock _ x1 x2, ap_rs ((lc_S m _).trans ((ap_run rfl).trans ?_)) rfl⟩
      unfold g__law_condition
      simp [startG, e1, e2, lmx4, kw, outAt]
    · obtain ⟨i2, r2, s2, v, a2, b2, c2, e2⟩ := nx cs i1 r1 s1 12 a1 (by decide) (by decide)
      refine ⟨i2, r2, s2, kw "age" v, a2, .age _ b2 (by omega), ap_rs ((lc_S m _).trans ((ap_run rfl).trans ?_)) rfl⟩
      unfold g__law_condition
      simp [startG, e1, e2, kw, outAt]
theorem cond0 (cs : List Int) (i r s : Int) (hi : 0 ≤ i) (m : Nat) : ∃ i' r' s' t, 0 ≤ i' ∧ Cd 0 t ∧ runS (r__law_condition (m + 1)) [tp cs i r s, .v (.int 0)] = some (t, [tp cs i' r' s', .v (.int 0)]) := by
  obtain ⟨i1, r1, s1, k, a1, b1, c1, e1⟩ := nx cs i r s 6 hi (by decide) (by decide)
  exact cond_leaf cs i r s 0 hi m a1 e1 b1 c1 (.inr rfl)
theorem lc_cond (cs : List Int) (m : Nat) : ∀ (xs : List T), xs.all T.pers = true → ∀ (acc : List T) (i r s : Int) (x2 x3 o : Option T), 0 ≤ i → (∀ c ∈ acc, Cd 0 c) → ∃ i' r' s' ts o', 0 ≤ i' ∧ (∀ c ∈ ts, Cd 0 c) ∧ ts.length = acc.length + xs.length ∧
    lcGo [] [4] (fNm 4) (fun Γ => some (Γ, true)) (fCall [0] [0] (r__law_condition (m + 1)) [] (fACons [] (fVar 0) (fACons [] (f2 [] Vx.gSub (fVar 1) (fC (.int 1))) fANil))) xs [some (tp cs i r s), some (.v (.int 1)), x2, x3, o] acc = some ([some (tp cs i' r' s'), some (.v (.int 1)), x2, x3, o'], ts)
  | [], _, acc, i, r, s, x2, x3, o, hi, ha => ⟨i, r, s, acc, o, hi, ha, by simp, by simp [lcGo]⟩
  | x :: xs, hp, acc, i, r, s, x2, x3, o, hi, ha => by
    rw [List.all_cons, Bool.and_eq_true] at hp
    obtain ⟨i1, r1, s1, t, a1, ht, e1⟩ := cond0 cs i r s hi m
    obtain ⟨i2, r2, s2, ts, o', a2, h2, l2, e2⟩ := lc_cond cs m xs hp.2 (acc ++ [t]) i1 r1 s1 x2 x3 (some x) a1 (fun c hc => by
      rcases List.mem_append.mp hc with z | z
      · exact ha c z
      · rw [List.mem_singleton.mp z]; exact ht)
    refine ⟨i2, r2, s2, ts, o', a2, h2, by rw [l2, List.length_append]; simp; omega, ?_⟩
    have hf : frz t = some t := by cases ht <;> rfl
    simp [lcGo, wipeG, hp.1, e1, ht.pers, hf, e2]
theorem rg_pers (n : Nat) : (rgT 0 n).all T.pers = true := rgL_pers (List.range n)
theorem rg_len (n : Nat) : (rgT 0 n).length = n := by unfold rgT; rw [List.length_map, List.length_range]
theorem cond1 (cs : List Int) (i r s : Int) (hi : 0 ≤ i) (m : Nat) : ∃ i' r' s' t, 0 ≤ i' ∧ Cd 1 t ∧ runS (r__law_condition (m + 2)) [tp cs i r s, .v (.int 1)] = some (t, [tp cs i' r' s', .v (.int 1)]) := by
  obtain ⟨i1, r1, s1, k, a1, b1, c1, e1⟩ := nx cs i r s 6 hi (by decide) (by decide)
  by_cases hk : k < 4
  · obtain ⟨i', r', s', t, h1, h2, h3⟩ := cond_leaf cs i r s 1 hi (m + 1) a1 e1 b1 c1 (.inl hk)
    refine ⟨i', r', s', t, h1, ?_, h3⟩
    cases h2 with
    | key j x y => exact .key j x y
    | lock j x y => exact .lock j x y
    | age j x y => exact .age j x y
  · obtain ⟨i2, r2, s2, j, a2, b2, c2, e2⟩ := nx cs i1 r1 s1 2 a1 (by decide) (by decide)
    have hw : ∃ w : Int, (w = 2 ∨ w = 4) ∧ itm [T.v (.int 2), .v (.int 4)] j = some (j.toNat, .v (.int w)) := by
      rcases (by omega : j = 0 ∨ j = 1) with rfl | rfl
      · exact ⟨2, .inl rfl, rfl⟩
      · exact ⟨4, .inr rfl, rfl⟩
    obtain ⟨w, hw1, hw2⟩ := hw
    obtain ⟨i3, r3, s3, n, a3, b3, c3, e3⟩ := nx cs i2 r2 s2 w a2 (by omega) (by rcases hw1 with rfl | rfl <;> decide)
    have hn4 : n < 4 := by omega
    obtain ⟨i4, r4, s4, ts, o', a4, h4, l4, e4⟩ := lc_cond cs m (rgT 0 (1 + n).toNat) (rg_pers _) [] i3 r3 s3 (some (.v (.int k))) none none a3 (fun c hc => by cases hc)
    rw [rg_len, List.length_nil, Nat.zero_add] at l4
    have hn1 : 1 + n ≤ 1000000 := by omega
    have hn2 : -1000000 ≤ 1 + n := by omega
    have hl : (rgT 0 (1 + n).toNat).length ≤ 10000 := by rw [rg_len]; omega
    have tp' := ap_tupl (all_pers fun c hc => (h4 c hc).pers)
    have h2' : ¬ k < 2 := by omega
    have e2' : ¬ k = 2 := by omega
    have e3' : ¬ k = 3 := by omega
    rcases (by omega : k = 4 ∨ k = 5) with rfl | rfl
    · refine ⟨i4, r4, s4, tA "all" ts, a4, .all ts (by omega) (by omega) h4, ap_rs ((lc_S (m + 1) _).trans ((ap_run rfl).trans ?_)) rfl⟩
      unfold g__law_condition
      simp [startG, e1, e2, e3, hw2, hn1, hn2, hl, rg_pers, persVs, e4, rstG, tp', tA, outAt, -List.all_eq_true]
    · refine ⟨i4, r4, s4, tA "any" ts, a4, .any ts (by omega) (by omega) h4, ap_rs ((lc_S (m + 1) _).trans ((ap_run rfl).trans ?_)) rfl⟩
      unfold g__law_condition
      simp [startG, e1, e2, e3, hw2, hn1, hn2, hl, rg_pers, persVs, e4, rstG, tp', tA, outAt, -List.all_eq_true]
end
end K33

set_option maxRecDepth 100000
namespace K33
section
open PySem L2 Vx PyProof.Rows
open Vx.Vp Vr Wd
theorem lwt_S (m : Nat) (ts : List T) : r__law_witness (m + 1) ts = runB 5 10 [5, 6, 7] (g__law_witness (r__law_witness m)) ts := rfl
def WitP (cs : List Int) (n : Nat) (c : T) : Prop := ∀ (m : Nat), n < m → ∀ (i r s nm ag : Int) (g : Bool), 0 ≤ i → ∃ i' r' s' w, 0 ≤ i' ∧ Wt (n + 1) w ∧
  runS (r__law_witness m) [tp cs i r s, c, .v (.int nm), .v (.int ag), .v (.bl g)] = some (w, [tp cs i' r' s', c, .v (.int nm), .v (.int ag), .v (.bl g)])
theorem itm_wrong {j : Int} (h0 : 0 ≤ j) (h5 : j < 5) (n : Nat) : ∃ w, Wt (n + 1) w ∧ itm [tW, kw "value" 9, kw "token" 7, tA "all" [tW], tY 3 tW] j = some (j.toNat, w) := by
  rcases (by omega : j = 0 ∨ j = 1 ∨ j = 2 ∨ j = 3 ∨ j = 4) with rfl | rfl | rfl | rfl | rfl
  · exact ⟨_, .wait, rfl⟩
  · exact ⟨_, .val 9 (by decide) (by decide), rfl⟩
  · exact ⟨_, .tok 7 (by decide) (by decide), rfl⟩
  · exact ⟨_, .all [tW] (by simp) (by simp) (fun c hc => by rw [List.mem_singleton.mp hc]; exact .wait), rfl⟩
  · exact ⟨_, .any 3 tW (by decide) (by decide) .wait, rfl⟩
theorem wt_frz {n : Nat} {t : T} (h : Wt n t) : frz t = some t := by cases h <;> rfl
/-- a witness that fits not -/
theorem wit_bad (cs : List Int) (n : Nat) (m : Nat) {a b : T} (hb : b.pers = true) (i r s nm ag : Int) (hi : 0 ≤ i) {i1 r1 s1 : Int} (a1 : 0 ≤ i1) (e1 : runS m__law_next [tp cs i r s, .v (.int 3)] = some (.v (.int 0), [tp cs i1 r1 s1, .v (.int 3)])) (ha : a.pers = true) :
    ∃ i' r' s' w, 0 ≤ i' ∧ Wt (n + 1) w ∧ runS (r__law_witness (m + 1)) [tp cs i r s, .fz .tup [a, b], .v (.int nm), .v (.int ag), .v (.bl false)] = some (w, [tp cs i' r' s', .fz .tup [a, b], .v (.int nm), .v (.int ag), .v (.bl false)]) := by
  obtain ⟨i2, r2, s2, j, a2, b2, c2, e2⟩ := nx cs i1 r1 s1 5 a1 (by decide) (by decide)
  obtain ⟨w, hw, e3⟩ := itm_wrong b2 c2 n
  refine ⟨i2, r2, s2, w, a2, hw, ap_rs ((lwt_S m _).trans ((ap_run rfl).trans ?_)) rfl⟩
  unfold g__law_witness
  simp only [tW, kw, tA, tY] at e3
  simp [startG, e1, e2, e3, sub_p hw.pers, hw.pers, outAt]
def pLk (p v : Int) : Bool := decide (v = 4) || decide (mixV [4, v] = p)
theorem lc_lock (p : Int) : ∀ (js : List Int) (acc : List T) (x0 x1 x2 x3 x4 x5 x7 o x9 : Option T), ∃ o', lcGo [] [8] (fNm 8) (fOr (fT (f2 [] gEq (fVar 8) (fC (.int 4)))) (fT (f2 [] gEq (fCall [] [] m__law_mix [] (fACons [] (fTup [8] (fACons [] (fC (.int 4)) (fACons [] (fVar 8) (fANil)))) (fANil))) (fVar 6)))) (fVar 8) (inL js) [x0, x1, x2, x3, x4, x5, some (.v (.int p)), x7, o, x9] acc =
    some ([x0, x1, x2, x3, x4, x5, some (.v (.int p)), x7, o', x9], acc ++ inL (js.filter (pLk p)))
  | [], acc, x0, x1, x2, x3, x4, x5, x7, o, x9 => ⟨o, by simp [lcGo, inL]⟩
  | j :: js, acc, x0, x1, x2, x3, x4, x5, x7, o, x9 => by
    by_cases h4 : j = 4
    · obtain ⟨o', e⟩ := lc_lock p js (acc ++ [.v (.int j)]) x0 x1 x2 x3 x4 x5 x7 (some (.v (.int j))) x9
      refine ⟨o', ?_⟩
      have hp : pLk p j = true := by unfold pLk; rw [decide_eq_true h4]; rfl
      simp only [inL] at e ⊢
      subst h4
      simp [lcGo, wipeG, hp, e]
    · by_cases hm : mixV [4, j] = p
      · obtain ⟨o', e⟩ := lc_lock p js (acc ++ [.v (.int j)]) x0 x1 x2 x3 x4 x5 x7 (some (.v (.int j))) x9
        refine ⟨o', ?_⟩
        have hp : pLk p j = true := by unfold pLk; rw [decide_eq_true hm, Bool.or_true]
        simp only [inL] at e ⊢
        simp [lcGo, wipeG, hp, lmx4, h4, hm, e]
      · obtain ⟨o', e⟩ := lc_lock p js acc x0 x1 x2 x3 x4 x5 x7 (some (.v (.int j))) x9
        refine ⟨o', ?_⟩
        have hp : pLk p j = false := by unfold pLk; rw [decide_eq_false h4, decide_eq_false hm]; rfl
        simp only [inL] at e ⊢
        simp [lcGo, wipeG, hp, lmx4, h4, hm, e]
theorem lock_first (p : Int) : ∃ v r, ([0, 1, 2, 3, 4] : List Int).filter (pLk p) = v :: r ∧ 0 ≤ v ∧ v ≤ 4 := by
  have h4 : (4 : Int) ∈ ([0, 1, 2, 3, 4] : List Int).filter (pLk p) := List.mem_filter.mpr ⟨by simp, rfl⟩
  cases h : ([0, 1, 2, 3, 4] : List Int).filter (pLk p) with
  | nil => rw [h] at h4; cases h4
  | cons v r =>
    have hv : v ∈ ([0, 1, 2, 3, 4] : List Int).filter (pLk p) := by rw [h]; exact List.mem_cons_self
    have := (List.mem_filter.mp hv).1
    refine ⟨v, r, rfl, ?_⟩
    simp only [List.mem_cons, List.not_mem_nil, or_false] at this
    omega
theorem rg5 : rgT 0 5 = inL [0, 1, 2, 3, 4] := rfl
theorem lc_wit (cs : List Int) {n m : Nat} (hnm : n < m) (g : Bool) (nm ag : Int) : ∀ (xs : List T), (∀ c ∈ xs, c.pers = true ∧ WitP cs n c) → ∀ (acc : List T) (i r s : Int) (x1 x5 x6 x7 x8 o : Option T), 0 ≤ i → (∀ c ∈ acc, Wt (n + 1) c) → ∃ i' r' s' ts o', 0 ≤ i' ∧ (∀ c ∈ ts, Wt (n + 1) c) ∧ ts.length = acc.length + xs.length ∧
    lcGo [] [9] (fNm 9) (fun Γ => some (Γ, true)) (fCall [0, 2] [0, 2] (r__law_witness m) [] (fACons [] (fVar 0) (fACons [] (fVar 9) (fACons [] (fVar 2) (fACons [] (fVar 3) (fACons [] (fVar 4) (fANil))))))) xs [some (tp cs i r s), x1, some (.v (.int nm)), some (.v (.int ag)), some (.v (.bl g)), x5, x6, x7, x8, o] acc =
      some ([some (tp cs i' r' s'), x1, some (.v (.int nm)), some (.v (.int ag)), some (.v (.bl g)), x5, x6, x7, x8, o'], ts)
  | [], _, acc, i, r, s, x1, x5, x6, x7, x8, o, hi, ha => ⟨i, r, s, acc, o, hi, ha, by simp, by simp [lcGo]⟩
  | x :: xs, h, acc, i, r, s, x1, x5, x6, x7, x8, o, hi, ha => by
    obtain ⟨hp, hw⟩ := h x List.mem_cons_self
    obtain ⟨i1, r1, s1, w, a1, h1, e1⟩ := hw m hnm i r s nm ag g hi
    obtain ⟨i2, r2, s2, ts, o', a2, h2, l2, e2⟩ := lc_wit cs hnm g nm ag xs (fun c m => h c (List.mem_cons_of_mem _ m)) (acc ++ [w]) i1 r1 s1 x1 x5 x6 x7 x8 (some x) a1 (fun c hc => by
      rcases List.mem_append.mp hc with z | z
      · exact ha c z
      · rw [List.mem_singleton.mp z]; exact h1)
    refine ⟨i2, r2, s2, ts, o', a2, h2, by rw [l2, List.length_append]; simp; omega, ?_⟩
    simp [lcGo, wipeG, hp, e1, h1.pers, wt_frz h1, e2]
theorem wit_key (cs : List Int) {n : Nat} (p : Int) : WitP cs n (kw "key" p) := by
  intro m hm i r s nm ag g hi
  cases m with
  | zero => omega
  | succ m =>
  cases g with
  | true =>
    refine ⟨i, r, s, kw "token" (mixV [3, p, nm]), hi, .tok _ (mixIn _).1 (mixIn _).2, ap_rs ((lwt_S m _).trans ((ap_run rfl).trans ?_)) rfl⟩
    unfold g__law_witness
    simp only [kw, tW]
    simp [startG, lmx3, outAt]
  | false =>
    obtain ⟨i0, r0, s0, v0, a0, b0, c0, e0⟩ := nx cs i r s 3 hi (by decide) (by decide)
    by_cases hv : v0 = 0
    · subst hv
      exact wit_bad cs _ m rfl i r s nm ag hi a0 e0 rfl
    · refine ⟨i0, r0, s0, kw "token" (mixV [3, p, nm]), a0, .tok _ (mixIn _).1 (mixIn _).2, ap_rs ((lwt_S m _).trans ((ap_run rfl).trans ?_)) rfl⟩
      unfold g__law_witness
      simp only [kw, tW]
      simp [startG, e0, hv, lmx3, outAt]
theorem wit_age (cs : List Int) {n : Nat} (p : Int) : WitP cs n (kw "age" p) := by
  intro m hm i r s nm ag g hi
  cases m with
  | zero => omega
  | succ m =>
  cases g with
  | true =>
    refine ⟨i, r, s, tW, hi, .wait, ap_rs ((lwt_S m _).trans ((ap_run rfl).trans ?_)) rfl⟩
    unfold g__law_witness
    simp only [kw, tW]
    simp [startG, outAt]
  | false =>
    obtain ⟨i0, r0, s0, v0, a0, b0, c0, e0⟩ := nx cs i r s 3 hi (by decide) (by decide)
    by_cases hv : v0 = 0
    · subst hv
      exact wit_bad cs _ m rfl i r s nm ag hi a0 e0 rfl
    · refine ⟨i0, r0, s0, tW, a0, .wait, ap_rs ((lwt_S m _).trans ((ap_run rfl).trans ?_)) rfl⟩
      unfold g__law_witness
      simp only [kw, tW]
      simp [startG, e0, hv, outAt]
theorem wit_lock (cs : List Int) {n : Nat} (p : Int) : WitP cs n (kw "lock" p) := by
  intro m hm i r s nm ag g hi
  cases m with
  | zero => omega
  | succ m =>
  cases g with
  | true =>
    obtain ⟨v, vr, hf, hv0, hv4⟩ := lock_first p
    obtain ⟨o', e⟩ := lc_lock p [0, 1, 2, 3, 4] [] (some (tp cs i r s)) (some (kw "lock" p)) (some (.v (.int nm))) (some (.v (.int ag))) (some (.v (.bl true))) (some (.v (.str "lock"))) none none none
    rw [List.nil_append, hf] at e
    have hx : itm (inL (v :: vr)) 0 = some (0, .v (.int v)) := itm0 (x := .v (.int v)) (xs := inL vr)
    refine ⟨i, r, s, kw "value" v, hi, .val _ hv0 (Int.le_trans hv4 (by decide)), ap_rs ((lwt_S m _).trans ((ap_run rfl).trans ?_)) rfl⟩
    have hpi : (inL [0, 1, 2, 3, 4]).all T.pers = true := rfl
    have hli : (inL [0, 1, 2, 3, 4]).length = 5 := rfl
    unfold g__law_witness
    simp only [kw] at e ⊢
    simp [startG, rg5, hpi, hli, persVs, e, hx, rstG, outAt, -List.all_eq_true]
  | false =>
    obtain ⟨i0, r0, s0, v0, a0, b0, c0, e0⟩ := nx cs i r s 3 hi (by decide) (by decide)
    by_cases hv : v0 = 0
    · subst hv
      exact wit_bad cs _ m rfl i r s nm ag hi a0 e0 rfl
    · obtain ⟨v, vr, hf, hv0, hv4⟩ := lock_first p
      obtain ⟨o', e⟩ := lc_lock p [0, 1, 2, 3, 4] [] (some (tp cs i0 r0 s0)) (some (kw "lock" p)) (some (.v (.int nm))) (some (.v (.int ag))) (some (.v (.bl false))) (some (.v (.str "lock"))) none none none
      rw [List.nil_append, hf] at e
      have hx : itm (inL (v :: vr)) 0 = some (0, .v (.int v)) := itm0 (x := .v (.int v)) (xs := inL vr)
      refine ⟨i0, r0, s0, kw "value" v, a0, .val _ hv0 (Int.le_trans hv4 (by decide)), ap_rs ((lwt_S m _).trans ((ap_run rfl).trans ?_)) rfl⟩
      have hpi : (inL [0, 1, 2, 3, 4]).all T.pers = true := rfl
      have hli : (inL [0, 1, 2, 3, 4]).length = 5 := rfl
      unfold g__law_witness
      simp only [kw] at e ⊢
      simp [startG, e0, hv, rg5, hpi, hli, persVs, e, hx, rstG, outAt, -List.all_eq_true]
theorem wit_all (cs : List Int) {n : Nat} (ps : List T) (c1 : 1 ≤ ps.length) (c4 : ps.length ≤ 4) (hcs : ∀ c ∈ ps, Cd n c) (ih : ∀ c ∈ ps, WitP cs n c) : WitP cs (n + 1) (tA "all" ps) := by
  intro m hm i r s nm ag g hi
  cases m with
  | zero => omega
  | succ m =>
  cases g with
  | true =>
    obtain ⟨i1, r1, s1, ts, o', a1, h1, l1, e1⟩ := lc_wit cs (n := n) (m := m) (by omega) true nm ag ps (fun c hc => ⟨(hcs c hc).pers, ih c hc⟩) [] i r s (some (tA "all" ps)) (some (.v (.str "all"))) (some (.fz .tup ps)) none none none hi (fun c hc => by cases hc)
    rw [List.length_nil, Nat.zero_add] at l1
    have hp := all_pers fun c hc => (hcs c hc).pers
    have hl : ps.length ≤ 10000 := by omega
    have tp' := ap_tupl (all_pers fun c hc => (h1 c hc).pers)
    refine ⟨i1, r1, s1, tA "all" ts, a1, .all ts (by omega) (by omega) h1, ap_rs ((lwt_S m _).trans ((ap_run rfl).trans ?_)) rfl⟩
    unfold g__law_witness
    simp only [tA] at e1 ⊢
    simp [startG, sqf, hp, hl, persVs, e1, rstG, tp', outAt, -List.all_eq_true]
  | false =>
    obtain ⟨i0, r0, s0, v0, a0, b0, c0, e0⟩ := nx cs i r s 3 hi (by decide) (by decide)
    by_cases hv : v0 = 0
    · subst hv
      exact wit_bad cs _ m rfl i r s nm ag hi a0 e0 rfl
    · obtain ⟨i1, r1, s1, ts, o', a1, h1, l1, e1⟩ := lc_wit cs (n := n) (m := m) (by omega) false nm ag ps (fun c hc => ⟨(hcs c hc).pers, ih c hc⟩) [] i0 r0 s0 (some (tA "all" ps)) (some (.v (.str "all"))) (some (.fz .tup ps)) none none none a0 (fun c hc => by cases hc)
      rw [List.length_nil, Nat.zero_add] at l1
      have hp := all_pers fun c hc => (hcs c hc).pers
      have hl : ps.length ≤ 10000 := by omega
      have tp' := ap_tupl (all_pers fun c hc => (h1 c hc).pers)
      refine ⟨i1, r1, s1, tA "all" ts, a1, .all ts (by omega) (by omega) h1, ap_rs ((lwt_S m _).trans ((ap_run rfl).trans ?_)) rfl⟩
      unfold g__law_witness
      simp only [tA] at e1 ⊢
      simp [startG, e0, hv, sqf, hp, hl, persVs, e1, rstG, tp', outAt, -List.all_eq_true]
theorem wit_any (cs : List Int) {n : Nat} (ps : List T) (c1 : 1 ≤ ps.length) (c4 : ps.length ≤ 4) (hcs : ∀ c ∈ ps, Cd n c) (ih : ∀ c ∈ ps, WitP cs n c) : WitP cs (n + 1) (tA "any" ps) := by
  intro m hm i r s nm ag g hi
  cases m with
  | zero => omega
  | succ m =>
  cases g with
  | true =>
    obtain ⟨i1, r1, s1, j, a1, b1, d1, e1⟩ := nx cs i r s ps.length hi (by omega) (by omega)
    obtain ⟨c, hc⟩ : ∃ c, ps[j.toNat]? = some c := ⟨_, List.getElem?_eq_getElem (by omega)⟩
    have hm' := List.mem_of_getElem? hc
    have ij : itm ps j = some (j.toNat, c) := by
      have := itm_at hc
      rwa [Int.toNat_of_nonneg b1] at this
    obtain ⟨i2, r2, s2, w, a2, h2, e2⟩ := ih c hm' m (by omega) i1 r1 s1 nm ag true a1
    have p1 := (hcs c hm').pers
    have p2 := h2.pers
    refine ⟨i2, r2, s2, tY j w, a2, .any j w b1 (by omega) h2, ap_rs ((lwt_S m _).trans ((ap_run rfl).trans ?_)) rfl⟩
    unfold g__law_witness
    simp only [tA, tY]
    simp [startG, e1, ij, sub_p p1, p1, p2, e2, wt_frz h2, outAt]
  | false =>
    obtain ⟨i0, r0, s0, v0, a0, b0, c0, e0⟩ := nx cs i r s 3 hi (by decide) (by decide)
    by_cases hv : v0 = 0
    · subst hv
      exact wit_bad cs _ m rfl i r s nm ag hi a0 e0 rfl
    · obtain ⟨i1, r1, s1, j, a1, b1, d1, e1⟩ := nx cs i0 r0 s0 ps.length a0 (by omega) (by omega)
      obtain ⟨c, hc⟩ : ∃ c, ps[j.toNat]? = some c := ⟨_, List.getElem?_eq_getElem (by omega)⟩
      have hm' := List.mem_of_getElem? hc
      have ij : itm ps j = some (j.toNat, c) := by
        have := itm_at hc
        rwa [Int.toNat_of_nonneg b1] at this
      obtain ⟨i2, r2, s2, w, a2, h2, e2⟩ := ih c hm' m (by omega) i1 r1 s1 nm ag false a1
      have p1 := (hcs c hm').pers
      have p2 := h2.pers
      refine ⟨i2, r2, s2, tY j w, a2, .any j w b1 (by omega) h2, ap_rs ((lwt_S m _).trans ((ap_run rfl).trans ?_)) rfl⟩
      unfold g__law_witness
      simp only [tA, tY]
      simp [startG, e0, hv, e1, ij, sub_p p1, p1, p2, e2, wt_frz h2, outAt]
theorem wit_ok (cs : List Int) {n : Nat} {c : T} (h : Cd n c) : WitP cs n c := by
  induction h with
  | key i a b => exact wit_key cs i
  | lock i a b => exact wit_lock cs i
  | age i a b => exact wit_age cs i
  | all ps a b hc ih => exact wit_all cs ps a b hc ih
  | any ps a b hc ih => exact wit_any cs ps a b hc ih
end
end K33

set_option maxRecDepth 100000
namespace K33
section
open PySem L2 Vx PyProof.Rows
open Vx.Vp Vr Wd
def coinT (a : Int) (c : T) (m : Int) : T := .fz .tup [.v (.int a), c, .v (.int m)]
def CoinV (x : T) : Prop := ∃ a c m, x = coinT a c m ∧ 1 ≤ a ∧ Cd 1 c
def coinsT (qs : List (Int × Int)) (xs : List T) : T := .ow false (.dT (qs.map kz)) xs
structure CO (B : Int) (qs : List (Int × Int)) (xs : List T) : Prop where
  nd : qs.Nodup
  nm : ∀ q ∈ qs, (1 ≤ q.1 ∧ q.1 ≤ B) ∧ 0 ≤ q.2 ∧ q.2 ≤ 3
  len : xs.length = qs.length
  few : qs.length ≤ 50
  val : ∀ x ∈ xs, CoinV x
theorem coinT_pers {a : Int} {c : T} {m : Int} : (coinT a c m).pers = true := rfl
theorem CO.pers {B : Int} {qs : List (Int × Int)} {xs : List T} (h : CO B qs xs) : xs.all T.pers = true := all_pers fun x m => by
  obtain ⟨a, c, k, rfl, _⟩ := h.val x m
  rfl
/-- a coin is put -/
theorem CO.put {B : Int} {qs : List (Int × Int)} {xs : List T} (h : CO B qs xs) {p : Int × Int} {x : T} (hp : (1 ≤ p.1 ∧ p.1 ≤ B) ∧ 0 ≤ p.2 ∧ p.2 ≤ 3) (hx : CoinV x) (hl : qs.length < 50) :
    ∃ qs' xs', CO B qs' xs' ∧ (∀ q, q ∈ qs' ↔ q = p ∨ q ∈ qs) ∧ qs'.length ≤ qs.length + 1 ∧ gSetU (coinsT qs xs) [x, nmT p] = some (coinsT qs' xs', .v .non) := by
  by_cases m : p ∈ qs
  · obtain ⟨n, h1, h2⟩ := gPutT_old (xs := xs) (t := x) (keyT_nm p) (nd_kz h.nd) (mem_kz.mpr m) (by rw [List.length_map]; omega)
    refine ⟨qs, xs.set n x, ⟨h.nd, h.nm, by rw [List.length_set]; exact h.len, h.few, fun y hy => ?_⟩, fun q => ⟨.inr, fun z => z.elim (fun z => z ▸ m) id⟩, by omega, h2⟩
    rcases List.mem_or_eq_of_mem_set hy with z | z
    · exact h.val y z
    · rw [z]; exact hx
  · have h2 := gPutT_new (xs := xs) (t := x) (keyT_nm p) (fun z => m (mem_kz.mp z)) (by rw [List.length_map]; omega)
    refine ⟨qs ++ [p], xs ++ [x], ⟨?_, fun q hq => ?_, by rw [List.length_append, List.length_append, h.len]; rfl, by rw [List.length_append]; simp; omega, fun y hy => ?_⟩, fun q => ?_, by rw [List.length_append]; simp, ?_⟩
    · rw [List.nodup_append]
      exact ⟨h.nd, by simp, fun a ha b hb e => by rw [List.mem_singleton.mp hb] at e; exact m (e ▸ ha)⟩
    · rcases List.mem_append.mp hq with z | z
      · exact h.nm q z
      · rw [List.mem_singleton.mp z]; exact hp
    · rcases List.mem_append.mp hy with z | z
      · exact h.val y z
      · rw [List.mem_singleton.mp z]; exact hx
    · rw [List.mem_append, List.mem_singleton]
      exact Or.comm
    · unfold coinsT
      rw [ap_setT, h2, List.map_append]
      rfl
/-- a coin is read -/
theorem CO.get {B : Int} {qs : List (Int × Int)} {xs : List T} (h : CO B qs xs) {p : Int × Int} (hp : p ∈ qs) : ∃ n a c m, gIxU (coinsT qs xs) (nmT p) = some (n, coinT a c m) ∧ 1 ≤ a ∧ Cd 1 c := by
  obtain ⟨n, h1, h2⟩ := dIx_mem (mem_kz.mpr hp)
  have hn := dIx_lt h1
  rw [List.length_map] at hn
  have hx : xs[n]? = some (xs[n]'(by rw [h.len]; exact hn)) := List.getElem?_eq_getElem _
  obtain ⟨a, c, m, e, e1, e2⟩ := h.val _ (List.getElem_mem (l := xs) (n := n) (by rw [h.len]; exact hn))
  rw [e] at hx
  refine ⟨n, a, c, m, ?_, e1, e2⟩
  unfold coinsT
  rw [ixU_dT (keyT_nm p), h1, Option.bind_some, hx]
  rfl
theorem in_coins (neg : Bool) (qs : List (Int × Int)) (xs : List T) (p : Int × Int) : gInU neg (nmT p) (coinsT qs xs) = some (.v (.bl (if neg then !decide (p ∈ qs) else decide (p ∈ qs)))) := by
  have e : (dIx (qs.map kz) (kz p)).isSome = decide (p ∈ qs) := by
    by_cases m : p ∈ qs
    · obtain ⟨n, h, _⟩ := dIx_mem (mem_kz.mpr m)
      rw [h, decide_eq_true m]
      rfl
    · rw [dIx_not (fun z => m (mem_kz.mp z)), decide_eq_false m]
      rfl
  unfold coinsT
  rw [inU_dT (keyT_nm p), e]
def gbC : Ge → Option Out := (gSt [1] [] [] [0, 0] gSetU (fTup [] (fACons [0, 0] (f2 [0] gAddU (fC (.int 1)) (fCall [0] [0] m__law_next [] (fACons [] (fVar 0) (fACons [] (fC (.int 60)) (fANil))))) (fACons [0] (fCall [0] [0] m__law_condition [] (fACons [] (fVar 0) (fACons [] (fC (.int 1)) (fANil)))) (fACons [] (fCall [0] [0] m__law_next [] (fACons [] (fVar 0) (fACons [] (fC (.int 9)) (fANil)))) (fANil))))) (fVar 1) (fTup [] (fACons [0] (f2 [0] gAddU (fC (.int 1)) (fCall [0] [0] m__law_next [] (fACons [] (fVar 0) (fACons [] (fC (.int 6)) (fANil))))) (fACons [] (fCall [0] [0] m__law_next [] (fACons [] (fVar 0) (fACons [] (fC (.int 4)) (fANil)))) (fANil)))))
theorem coins_for (cs : List Int) : ∀ (ks : List T) (i r s : Int) (qs : List (Int × Int)) (xs : List T) (o : Option T), 0 ≤ i → CO 6 qs xs → qs.length + ks.length ≤ 30 → (1 ≤ qs.length ∨ ks ≠ []) → ∃ i' r' s' qs' xs' o', 0 ≤ i' ∧ CO 6 qs' xs' ∧ 1 ≤ qs'.length ∧ qs'.length ≤ qs.length + ks.length ∧
    forGo (fNm 2) gbC ks [some (tp cs i r s), some (coinsT qs xs), o] = some (.nx [some (tp cs i' r' s'), some (coinsT qs' xs'), o'])
  | [], i, r, s, qs, xs, o, hi, h, hl, hz => ⟨i, r, s, qs, xs, o, hi, h, hz.elim id fun z => absurd rfl z, by simp, rfl⟩
  | k :: ks, i, r, s, qs, xs, o, hi, h, hl, hz => by
    rw [List.length_cons] at hl
    obtain ⟨i1, r1, s1, v1, a1, b1, c1, e1⟩ := nx cs i r s 60 hi (by decide) (by decide)
    obtain ⟨i2, r2, s2, t, a2, ht, e2⟩ := cond1 cs i1 r1 s1 a1 6
    obtain ⟨i3, r3, s3, v3, a3, b3, c3, e3⟩ := nx cs i2 r2 s2 9 a2 (by decide) (by decide)
    obtain ⟨i4, r4, s4, v4, a4, b4, c4, e4⟩ := nx cs i3 r3 s3 6 a3 (by decide) (by decide)
    obtain ⟨i5, r5, s5, v5, a5, b5, c5, e5⟩ := nx cs i4 r4 s4 4 a4 (by decide) (by decide)
    obtain ⟨qs1, xs1, h1, m1, l1, p1⟩ := h.put (p := (1 + v4, v5)) (x := coinT (1 + v1) t v3) ⟨⟨by show 1 ≤ 1 + v4; omega, by show 1 + v4 ≤ 6; omega⟩, b5, by show v5 ≤ 3; omega⟩ ⟨_, _, _, rfl, by omega, ht⟩ (by omega)
    have z1 : 1 ≤ qs1.length := by
      have := (m1 (1 + v4, v5)).mpr (.inl rfl)
      exact List.length_pos_of_mem this
    obtain ⟨i6, r6, s6, qs2, xs2, o', a6, h2, z2, l2, e6⟩ := coins_for cs ks i5 r5 s5 qs1 xs1 (some k) a5 h1 (by omega) (.inl z1)
    refine ⟨i6, r6, s6, qs2, xs2, o', a6, h2, z2, by rw [List.length_cons]; omega, ?_⟩
    have e2' : runS m__law_condition [tp cs i1 r1 s1, .v (.int 1)] = some (t, [tp cs i2 r2 s2, .v (.int 1)]) := e2
    have hf : frz t = some t := by cases ht <;> rfl
    unfold gbC at e6 ⊢
    simp only [coinsT, nmT, coinT] at p1 e6 ⊢
    simp [forGo, e1, e2', e3, e4, e5, ht.pers, hf, p1, e6]
theorem coins_run (cs : List Int) (i r s : Int) (hi : 0 ≤ i) : ∃ i' r' s' qs xs, 0 ≤ i' ∧ CO 6 qs xs ∧ 1 ≤ qs.length ∧ qs.length ≤ 6 ∧ runS m__law_coins [tp cs i r s] = some (coinsT qs xs, [tp cs i' r' s']) := by
  obtain ⟨i1, r1, s1, n, a1, b1, c1, e1⟩ := nx cs i r s 6 hi (by decide) (by decide)
  obtain ⟨i2, r2, s2, qs, xs, o', a2, h2, z2, l2, e2⟩ := coins_for cs (rgT 0 (1 + n).toNat) i1 r1 s1 [] [] none a1 ⟨.nil, by simp, rfl, by simp, by simp⟩ (by rw [rg_len, List.length_nil]; omega) (.inr (fun z => by
    have := congrArg List.length z
    rw [rg_len, List.length_nil] at this
    omega))
  rw [rg_len, List.length_nil] at l2
  have hn1 : 1 + n ≤ 1000000 := by omega
  have hn2 : -1000000 ≤ 1 + n := by omega
  refine ⟨i2, r2, s2, qs, xs, a2, h2, z2, by omega, ap_rs ((ap_run rfl).trans ?_) rfl⟩
  have hg : g__law_coins = gSeq (gSet [] 1 (fun Γ => some (Γ, .val (.ow false (.dT []) [])))) (gSeq (gFor [2, 0, 1] (fR1 (fACons [] (f2 [0] gAddU (fC (.int 1)) (fCall [0] [0] m__law_next [] (fACons [] (fVar 0) (fACons [] (fC (.int 6)) (fANil))))) fANil)) (fNm 2) gbC) (gRet [1] (fVar 1))) := rfl
  rw [hg]
  simp only [coinsT, List.map_nil] at e2 ⊢
  simp [startG, e1, hn1, hn2, e2, mvIn, outAt]
end
end K33

set_option maxRecDepth 100000
namespace K33
section
open PySem L2 Vx PyProof.Rows
open Vx.Vp Vr Wd
/-- sorted(coins) -/
theorem so_coins {qs : List (Int × Int)} {xs : List T} (h : CO 6 qs xs) : ∃ rs : List (Int × Int), rs.Perm qs ∧ gSo 2 [coinsT qs xs] = some (.ow false .lst (rs.map nmT)) := by
  have e1 : qs.map kz = (qs.map fun q => [q.1, q.2]).map fun ns => ns.map Sum.inl := by rw [List.map_map]; rfl
  have e2 : ikeyss (qs.map kz) = some (qs.map fun q => [q.1, q.2]) := by rw [e1]; exact ikeyss_of _
  have e3 : (coinsT qs xs) = .ow false (.dT (qs.map kz)) xs := rfl
  have hall : (xs.all T.pers && decide ((qs.map fun q => [q.1, q.2]).length < 64) && ((qs.map fun q => [q.1, q.2]).all fun ns => ns.length == 2 && ns.all fun i => decide (0 ≤ i) && decide (i < bdB))) = true := by
    simp only [Bool.and_eq_true, decide_eq_true_eq, List.all_eq_true, beq_iff_eq]
    refine ⟨⟨fun x m => List.all_eq_true.mp h.pers x m, by rw [List.length_map]; have := h.few; omega⟩, fun ns m => ?_⟩
    obtain ⟨q, hq, rfl⟩ := List.mem_map.mp m
    refine ⟨rfl, fun i hi => ?_⟩
    obtain ⟨⟨b1, b2⟩, b3, b4⟩ := h.nm q hq
    simp only [List.mem_cons, List.not_mem_nil, or_false] at hi
    have hb : bdB = 2 ^ 80 := rfl
    rcases hi with rfl | rfl
    · exact ⟨by omega, Int.lt_of_le_of_lt b2 (by rw [hb]; decide)⟩
    · exact ⟨b3, Int.lt_of_le_of_lt b4 (by rw [hb]; decide)⟩
  have g1 : gSoT 2 [coinsT qs xs] = some (.ow false .lst ((srt (TS.code bdB) (qs.map fun q => [q.1, q.2])).map tupI)) := by
    show (ikeyss (qs.map kz)).bind _ = _
    rw [e2, Option.bind_some, if_pos hall]
  have pm := srt_perm (TS.code bdB) (qs.map fun q => [q.1, q.2])
  refine ⟨(srt (TS.code bdB) (qs.map fun q => [q.1, q.2])).map fun ns => (ns.headD 0, (ns.tail).headD 0), ?_, ?_⟩
  · have := pm.map fun ns : List Int => (ns.headD 0, (ns.tail).headD 0)
    rw [List.map_map] at this
    have e : (qs.map ((fun ns : List Int => (ns.headD 0, (ns.tail).headD 0)) ∘ fun q => [q.1, q.2])) = qs := by
      refine (List.map_congr_left fun q _ => ?_).trans (List.map_id qs)
      rfl
    rw [e] at this
    exact this
  · have g2 : gSoI [coinsT qs xs] = none := rfl
    have g3 : gSoD [coinsT qs xs] = none := rfl
    unfold gSo gnEi
    rw [g2]
    dsimp only
    rw [g3]
    dsimp only
    rw [g1, List.map_map]
    refine congrArg (fun l => some (T.ow false .lst l)) (List.map_congr_left fun ns m => ?_)
    obtain ⟨q, _, rfl⟩ := List.mem_map.mp (pm.mem_iff.mp m)
    rfl
theorem pd_nm (p : Int × Int) : toPD (nmT p) = some (.tuple [.int p.1, .int p.2]) := rfl
theorem pds_nm : ∀ ps : List (Int × Int), toPDs (ps.map nmT) = some (ps.map fun p => .tuple [.int p.1, .int p.2])
  | [] => rfl
  | p :: ps => by
    rw [List.map_cons]
    unfold toPDs
    rw [pd_nm, pds_nm ps]
    rfl
theorem nm_sh (p : Int × Int) : ShD 2 (nmT p) := ShD.tup (.cons (.int _) (.cons (.int _) .nil))
theorem any_nm (ps : List (Int × Int)) (p : Int × Int) : ((ps.map fun p => PyData.tuple [.int p.1, .int p.2]).any fun z => PyData.eqv z (.tuple [.int p.1, .int p.2])) = decide (p ∈ ps) := by
  induction ps with
  | nil => rfl
  | cons q ps ih =>
    rw [List.map_cons, List.any_cons, ih]
    have he : PyData.eqv (.tuple [.int q.1, .int q.2]) (.tuple [.int p.1, .int p.2]) = decide (q = p) := by
      simp only [PyData.eqv, PyData.eqvAll, Bool.and_true]
      obtain ⟨a, b⟩ := q
      obtain ⟨c, d⟩ := p
      rw [Bool.eq_iff_iff]
      simp
    rw [he, Bool.eq_iff_iff]
    simp only [Bool.or_eq_true, decide_eq_true_eq, List.mem_cons]
    constructor
    · rintro (z | z)
      · exact .inl z.symm
      · exact .inr z
    · rintro (z | z)
      · exact .inl z.symm
      · exact .inr z
theorem in_list (ps : List (Int × Int)) (p : Int × Int) : gInU true (nmT p) (.ow false .lst (ps.map nmT)) = some (.v (.bl (!decide (p ∈ ps)))) := by
  have h1 : gInT true (nmT p) (.ow false .lst (ps.map nmT)) = none := rfl
  obtain ⟨d, d1, d2, _⟩ := ((nm_sh p).up (m := 64) (by decide)).shaped
  obtain ⟨e, e1, e2, _⟩ := ((ShD.lst (n := 2) (.all fun t m => by obtain ⟨q, _, rfl⟩ := List.mem_map.mp m; exact nm_sh q) : ShD 3 (.ow false .lst (ps.map nmT))).up (m := 64) (by decide)).shaped
  rw [pd_nm] at d1
  cases d1
  have e3 : toPD (.ow false .lst (ps.map nmT)) = some (.list (ps.map fun p => .tuple [.int p.1, .int p.2])) := by
    unfold toPD
    rw [pds_nm]
    rfl
  rw [e3] at e1
  cases e1
  have ha := any_nm ps p
  have h2 : gInD true (nmT p) (.ow false .lst (ps.map nmT)) = some (.v (.bl (!decide (p ∈ ps)))) := by
    unfold gInD
    rw [pd_nm, e3]
    show (if SeqAt.shaped _ = true ∧ SeqAt.shaped _ = true then some (T.v (.bl (if true = true then _ else _))) else none) = _
    rw [if_pos ⟨d2, e2⟩, if_pos rfl, ha]
  unfold gInU gEi
  rw [h1]
  dsimp only
  rw [h2]
/-! ### the inputs -/
def gb0 : Ge → Option Out := (gSeq (gSet [] 7 (fIx [0] gIxU (fVar 4) (fCall [0] [0] m__law_next [] (fACons [] (fVar 0) (fACons [] (fN gLenU (fACons [] (fVar 4) fANil)) (fANil)))))) (gIf (fT (f2 [] (gInU true) (fVar 7) (fVar 5))) (gDrop (fMt [5] [7] [] isLst gApp (fVar 5) (fACons [] (fVar 7) fANil))) (gNx)))
structure InsOk (qs ps : List (Int × Int)) : Prop where
  nd : ps.Nodup
  sub : ∀ p ∈ ps, p ∈ qs
theorem nmT_get {rs : List (Int × Int)} {v : Int} (h0 : 0 ≤ v) (h1 : v < rs.length) : ∃ p ∈ rs, itm (rs.map nmT) v = some (v.toNat, nmT p) := by
  obtain ⟨p, hp⟩ : ∃ p, rs[v.toNat]? = some p := ⟨_, List.getElem?_eq_getElem (by omega)⟩
  refine ⟨p, List.mem_of_getElem? hp, ?_⟩
  have : (rs.map nmT)[v.toNat]? = some (nmT p) := by rw [List.getElem?_map, hp]; rfl
  have := itm_at this
  rwa [Int.toNat_of_nonneg h0] at this
def OP (o : Option T) : Prop := ∀ t, o = some t → t.pers = true
theorem ins_for (cs : List Int) (qs rs : List (Int × Int)) (hr : rs ≠ []) (hq : ∀ p ∈ rs, p ∈ qs) (hl : rs.length ≤ 50) : ∀ (ks : List T) (i r s : Int) (ps : List (Int × Int)) (x1 x2 x3 o6 o7 x8 x9 x10 x11 x12 x13 x14 x15 : Option T), 0 ≤ i → InsOk qs ps → ps.length + ks.length ≤ 30 → (1 ≤ ps.length ∨ ks ≠ []) → OP o7 → ∃ i' r' s' ps' o6' o7', 0 ≤ i' ∧ InsOk qs ps' ∧ 1 ≤ ps'.length ∧ ps'.length ≤ ps.length + ks.length ∧ OP o7' ∧
    forGo (fNm 6) gb0 ks [some (tp cs i r s), x1, x2, x3, some (.ow false .lst (rs.map nmT)), some (.ow false .lst (ps.map nmT)), o6, o7, x8, x9, x10, x11, x12, x13, x14, x15] = some (.nx [some (tp cs i' r' s'), x1, x2, x3, some (.ow false .lst (rs.map nmT)), some (.ow false .lst (ps'.map nmT)), o6', o7', x8, x9, x10, x11, x12, x13, x14, x15])
  | [], i, r, s, ps, x1, x2, x3, o6, o7, x8, x9, x10, x11, x12, x13, x14, x15, hi, h, hl, hz, hop => ⟨i, r, s, ps, o6, o7, hi, h, hz.elim id fun z => absurd rfl z, by simp, hop, rfl⟩
  | k :: ks, i, r, s, ps, x1, x2, x3, o6, o7, x8, x9, x10, x11, x12, x13, x14, x15, hi, h, hps, hz, _ => by
    rw [List.length_cons] at hps
    have hpos : 0 < rs.length := List.length_pos_iff.mpr hr
    obtain ⟨i1, r1, s1, v, a1, b1, c1, e1⟩ := nx cs i r s rs.length hi (by omega) (by omega)
    obtain ⟨p, hp, ip⟩ := nmT_get b1 c1
    have il := in_list ps p
    have pp : (nmT p).pers = true := rfl
    by_cases m : p ∈ ps
    · rw [decide_eq_true m] at il
      obtain ⟨i6, r6, s6, ps', o6', o7', a6, h6, z6, l6, op6, e6⟩ := ins_for cs qs rs hr hq hl ks i1 r1 s1 ps x1 x2 x3 (some k) (some (nmT p)) x8 x9 x10 x11 x12 x13 x14 x15 a1 h (by omega) (.inl (List.length_pos_of_mem m)) (fun t z => by cases z; rfl)
      refine ⟨i6, r6, s6, ps', o6', o7', a6, h6, z6, by rw [List.length_cons]; omega, op6, ?_⟩
      generalize nmT p = tp0 at *
      unfold gb0 at e6 ⊢
      simp [forGo, e1, ip, sub_p pp, pp, il, e6]
    · rw [decide_eq_false m] at il
      have ap : gApp (.ow false .lst (ps.map nmT)) [nmT p] = some (.ow false .lst ((ps ++ [p]).map nmT), .v .non) := by
        show (if (ps.map nmT).length < 100000 then some (T.ow false .lst (ps.map nmT ++ [nmT p]), T.v V.non) else none) = _
        rw [if_pos (by rw [List.length_map]; omega), List.map_append]
        rfl
      obtain ⟨i6, r6, s6, ps', o6', o7', a6, h6, z6, l6, op6, e6⟩ := ins_for cs qs rs hr hq hl ks i1 r1 s1 (ps ++ [p]) x1 x2 x3 (some k) (some (nmT p)) x8 x9 x10 x11 x12 x13 x14 x15 a1 ⟨by
          rw [List.nodup_append]
          exact ⟨h.nd, by simp, fun a ha b hb e => by rw [List.mem_singleton.mp hb] at e; exact m (e ▸ ha)⟩, fun q hq' => by
          rcases List.mem_append.mp hq' with z | z
          · exact h.sub q z
          · rw [List.mem_singleton.mp z]; exact hq p hp⟩ (by rw [List.length_append]; simp; omega) (.inl (by rw [List.length_append]; simp)) (fun t z => by cases z; rfl)
      rw [List.length_append, List.length_cons, List.length_nil] at l6
      refine ⟨i6, r6, s6, ps', o6', o7', a6, h6, z6, by rw [List.length_cons]; omega, op6, ?_⟩
      generalize (ps ++ [p]).map nmT = PL at *
      generalize nmT p = tp0 at *
      unfold gb0 at e6 ⊢
      simp [forGo, e1, ip, sub_p pp, pp, il, ap, e6]
end
end K33

set_option maxRecDepth 100000
namespace K33
section
open PySem L2 Vx PyProof.Rows
open Vx.Vp Vr Wd
def aOf (qs : List (Int × Int)) (xs : List T) (p : Int × Int) : Int := match gIxU (coinsT qs xs) (nmT p) with
  | some (_, .fz .tup (.v (.int a) :: _)) => a
  | _ => 0
theorem CO.at' {B : Int} {qs : List (Int × Int)} {xs : List T} (h : CO B qs xs) {p : Int × Int} (hp : p ∈ qs) : ∃ n c m, gIxU (coinsT qs xs) (nmT p) = some (n, coinT (aOf qs xs p) c m) ∧ 1 ≤ aOf qs xs p ∧ Cd 1 c := by
  obtain ⟨n, a, c, m, e, h1, h2⟩ := h.get hp
  have ea : aOf qs xs p = a := by unfold aOf; rw [e]; rfl
  rw [ea]
  exact ⟨n, c, m, e, h1, h2⟩
theorem ints_in : ∀ l : List Int, ints? (inL l) = some l
  | [] => rfl
  | i :: l => by
    show ints? (.v (.int i) :: inL l) = _
    unfold ints?
    rw [ints_in l]
    rfl
theorem set_set' {α : Type} (l : List α) (i : Nat) (a b : α) : (l.set i a).set i b = l.set i b := by simp
theorem wipe1 (Γ : Ge) (v : Nat) : wipeG Γ [v] = Γ.set v none := by
  simp [wipeG]
/-- [coins[one][0] for one in ..] -/
theorem lc_am {B : Int} {qs : List (Int × Int)} {xs : List T} (h : CO B qs xs) (c v : Nat) (hcv : c ≠ v) : ∀ (ps : List (Int × Int)), (∀ p ∈ ps, p ∈ qs) → ∀ (Γ : Ge) (acc : List Int), Γ[c]? = some (some (coinsT qs xs)) → v < Γ.length → ∃ o',
    lcGo [] [v] (fNm v) (fun Γ => some (Γ, true)) (fIx [] gIxU (fIx [] gIxU (fVar c) (fVar v)) (fC (.int 0))) (ps.map nmT) Γ (inL acc) = some (Γ.set v o', inL (acc ++ ps.map (aOf qs xs)))
  | [], _, Γ, acc, hc, hv => ⟨Γ[v], by simp [lcGo]⟩
  | p :: ps, hp, Γ, acc, hc, hv => by
    obtain ⟨n, cd, m, e, _, _⟩ := h.at' (hp p List.mem_cons_self)
    obtain ⟨o', ih⟩ := lc_am h c v hcv ps (fun q m => hp q (List.mem_cons_of_mem _ m)) (Γ.set v (some (nmT p))) (acc ++ [aOf qs xs p]) (by rw [List.getElem?_set_ne (Ne.symm hcv)]; exact hc) (by rw [List.length_set]; exact hv)
    refine ⟨o', ?_⟩
    rw [set_set'] at ih
    have e1 : acc ++ (p :: ps).map (aOf qs xs) = acc ++ [aOf qs xs p] ++ ps.map (aOf qs xs) := by simp
    rw [e1, List.map_cons]
    have e2 : inL acc ++ [.v (.int (aOf qs xs p))] = inL (acc ++ [aOf qs xs p]) := by rw [← inL_app]; rfl
    have pp : (nmT p).pers = true := rfl
    have hcp : (coinsT qs xs).pers = false := rfl
    have g1 : ((Γ.set v none).set v (some (nmT p)))[c]? = some (some (coinsT qs xs)) := by rw [set_set', List.getElem?_set_ne (Ne.symm hcv)]; exact hc
    have g2 : ((Γ.set v none).set v (some (nmT p)))[v]? = some (some (nmT p)) := by rw [set_set', List.getElem?_set_self hv]
    unfold lcGo
    rw [wipe1]
    have ev : fIx [] gIxU (fIx [] gIxU (fVar c) (fVar v)) (fC (.int 0)) ((Γ.set v none).set v (some (nmT p))) = some ((Γ.set v none).set v (some (nmT p)), .val (.v (.int (aOf qs xs p)))) := by
      simp only [coinT] at e
      generalize (Γ.set v none).set v (some (nmT p)) = Γ1 at g1 g2 ⊢
      generalize nmT p = tp0 at *
      simp [g1, g2, hcp, pp, e]
    simp only [ap_fNm, Option.bind_some, if_true, ev, ap_fzv, ap_fr0, Option.map_some, e2]
    rw [set_set']
    exact ih
/-- [output[0] for output in ..] -/
def oAm (t : T) : Int := match t with
  | .fz .tup (.v (.int a) :: _) => a
  | _ => 0
theorem lc_out (v : Nat) : ∀ (os : List T), (∀ t ∈ os, OutOk t) → ∀ (Γ : Ge) (acc : List Int), v < Γ.length → ∃ o',
    lcGo [] [v] (fNm v) (fun Γ => some (Γ, true)) (fIx [] gIxU (fVar v) (fC (.int 0))) os Γ (inL acc) = some (Γ.set v o', inL (acc ++ os.map oAm))
  | [], _, Γ, acc, hv => ⟨Γ[v], by simp [lcGo]⟩
  | t :: os, hp, Γ, acc, hv => by
    obtain ⟨a, c, rfl, _⟩ := hp t List.mem_cons_self
    obtain ⟨o', ih⟩ := lc_out v os (fun q m => hp q (List.mem_cons_of_mem _ m)) (Γ.set v (some (oT a c))) (acc ++ [a]) (by rw [List.length_set]; exact hv)
    refine ⟨o', ?_⟩
    rw [set_set'] at ih
    have e1 : acc ++ (oT a c :: os).map oAm = acc ++ [a] ++ os.map oAm := by simp [oAm, oT]
    rw [e1]
    have e2 : inL acc ++ [.v (.int a)] = inL (acc ++ [a]) := by rw [← inL_app]; rfl
    have g2 : ((Γ.set v none).set v (some (oT a c)))[v]? = some (some (oT a c)) := by rw [set_set', List.getElem?_set_self hv]
    unfold lcGo
    rw [wipe1]
    have ev : fIx [] gIxU (fVar v) (fC (.int 0)) ((Γ.set v none).set v (some (oT a c))) = some ((Γ.set v none).set v (some (oT a c)), .val (.v (.int a))) := by
      generalize (Γ.set v none).set v (some (oT a c)) = Γ1 at g2 ⊢
      simp only [oT] at g2 ⊢
      simp [g2]
    simp only [ap_fNm, Option.bind_some, if_true, ev, ap_fzv, ap_fr0, Option.map_some, e2]
    rw [set_set']
    exact ih
theorem gSum_in (l : List Int) : gSum [.ow false .lst (inL l)] = some (.v (.int l.sum)) := by
  show (ints? (inL l)).map _ = _
  rw [ints_in]
  rfl
def gb1 : Ge → Option Out := (gSeq (gSet [] 10 (f2 [0] gAddU (fC (.int 1)) (fCall [0] [0] m__law_next [] (fACons [] (fVar 0) (fACons [] (fC (.int 30)) (fANil)))))) (gSeq (gIf (fAnd (fTr (fVar 3)) (fT (f2 [] gLe (fVar 8) (fVar 10)))) (gSet [] 10 (fN gMax2 (fACons [] (fC (.int 1)) (fACons [] (f2 [] Vx.gSub (fVar 8) (fC (.int 1))) fANil)))) (gNx)) (gSeq (gAug [] 8 Vx.gSub (fVar 10)) (gDrop (fMt [9] [] [0, 10] isLst gApp (fVar 9) (fACons [] (fTup [10] (fACons [0] (fVar 10) (fACons [] (fTup [] (fACons [0] (fC (.str "key")) (fACons [] (f2 [0] gAddU (fC (.int 1)) (fCall [0] [0] m__law_next [] (fACons [] (fVar 0) (fACons [] (fC (.int 5)) (fANil))))) (fANil)))) (fANil)))) fANil))))))
theorem outs_for (cs : List Int) (g : Bool) : ∀ (ks : List T) (i r s t : Int) (os : List T) (x1 x2 x4 x5 o6 x7 o10 x11 x12 x13 x14 x15 : Option T), 0 ≤ i → (∀ u ∈ os, OutOk u) → os.length + ks.length ≤ 30 → ∃ i' r' s' t' os' o6' o10', 0 ≤ i' ∧ (∀ u ∈ os', OutOk u) ∧ os'.length = os.length + ks.length ∧
    forGo (fNm 6) gb1 ks [some (tp cs i r s), x1, x2, some (.v (.bl g)), x4, x5, o6, x7, some (.v (.int t)), some (.ow false .lst os), o10, x11, x12, x13, x14, x15] = some (.nx [some (tp cs i' r' s'), x1, x2, some (.v (.bl g)), x4, x5, o6', x7, some (.v (.int t')), some (.ow false .lst os'), o10', x11, x12, x13, x14, x15])
  | [], i, r, s, t, os, x1, x2, x4, x5, o6, x7, o10, x11, x12, x13, x14, x15, hi, h, hl => ⟨i, r, s, t, os, o6, o10, hi, h, rfl, rfl⟩
  | k :: ks, i, r, s, t, os, x1, x2, x4, x5, o6, x7, o10, x11, x12, x13, x14, x15, hi, h, hl => by
    rw [List.length_cons] at hl
    obtain ⟨i1, r1, s1, v, a1, b1, c1, e1⟩ := nx cs i r s 30 hi (by decide) (by decide)
    obtain ⟨i2, r2, s2, w, a2, b2, c2, e2⟩ := nx cs i1 r1 s1 5 a1 (by decide) (by decide)
    -- the part
    have hp : ∃ q : Int, 1 ≤ q ∧ q ≤ 30 ∧ q = if g = true ∧ t ≤ 1 + v then (if t - 1 > 1 then t - 1 else 1) else 1 + v := by
      refine ⟨_, ?_, ?_, rfl⟩
      · split
        · split <;> omega
        · omega
      · split
        · rename_i hc
          split <;> omega
        · omega
    obtain ⟨q, q1, q2, hq⟩ := hp
    have ap : gApp (.ow false .lst os) [.fz .tup [.v (.int q), .fz .tup [.v (.str "key"), .v (.int (1 + w))]]] = some (.ow false .lst (os ++ [oT q (kw "key" (1 + w))]), .v .non) := by
      show (if os.length < 100000 then some (T.ow false .lst (os ++ [oT q (kw "key" (1 + w))]), T.v V.non) else none) = _
      rw [if_pos (by omega)]
    obtain ⟨i3, r3, s3, t', os', o6', o10', a3, h3, l3, e3⟩ := outs_for cs g ks i2 r2 s2 (t - q) (os ++ [oT q (kw "key" (1 + w))]) x1 x2 x4 x5 (some k) x7 (some (.v (.int q))) x11 x12 x13 x14 x15 a2 (fun u m => by
      rcases List.mem_append.mp m with z | z
      · exact h u z
      · rw [List.mem_singleton.mp z]
        exact ⟨q, _, rfl, q1, Int.le_trans q2 (by decide), .key _ (by omega) (Int.le_trans (show 1 + w ≤ 6 by omega) (by decide))⟩) (by rw [List.length_append]; simp; omega)
    refine ⟨i3, r3, s3, t', os', o6', o10', a3, h3, by rw [l3, List.length_append]; simp; omega, ?_⟩
    unfold gb1 at e3 ⊢
    cases g with
    | false =>
      simp only [Bool.false_eq_true, false_and, if_false] at hq
      subst hq
      simp [forGo, gAug, e1, e2, ap, e3]
    | true =>
      by_cases hc : t ≤ 1 + v
      · simp only [true_and, hc, if_true] at hq
        have hq2 : (if t - 1 > 1 then t - 1 else 1) = q := hq.symm
        simp only [gt_iff_lt] at hq2
        simp [forGo, gAug, e1, e2, hc, hq2, ap, e3]
      · simp only [true_and, hc, if_false] at hq
        subst hq
        simp [forGo, gAug, e1, e2, hc, ap, e3]
end
end K33

set_option maxRecDepth 100000
namespace K33
section
open PySem L2 Vx PyProof.Rows
open Vx.Vp Vr Wd
def gb2 : Ge → Option Out := (gIf (fT (f2 [] (gInU false) (fVar 7) (fVar 1))) (gSeq (gAsT (fTgT 3 (fTCons (fNm 13) (fTCons (fNm 14) (fTCons (fNm 15) (fTNil))))) (fIx [] gIxU (fVar 1) (fVar 7))) (gDrop (fMt [12] [] [0, 11] isLst gApp (fVar 12) (fACons [] (fCall [0, 11] [0, 2] m__law_witness [] (fACons [] (fVar 0) (fACons [] (fVar 14) (fACons [] (fVar 11) (fACons [] (f2 [] Vx.gSub (fVar 2) (fVar 15)) (fACons [] (fVar 3) (fANil))))))) fANil)))) (gDrop (fMt [12] [] [] isLst gApp (fVar 12) (fACons [] (fTup [] (fACons [] (fC (.str "wait")) (fANil))) fANil))))
theorem wits_for (cs : List Int) (g : Bool) (wg nm : Int) {B : Int} {qs : List (Int × Int)} {xs : List T} (hc : CO B qs xs) : ∀ (ps : List (Int × Int)) (i r s : Int) (ws : List T) (x4 x5 x6 o7 x8 x9 x10 o13 o14 o15 : Option T), 0 ≤ i → (∀ u ∈ ws, Wt 2 u) → ws.length + ps.length ≤ 30 → ∃ i' r' s' ws' o7' o13' o14' o15', 0 ≤ i' ∧ (∀ u ∈ ws', Wt 2 u) ∧ ws'.length = ws.length + ps.length ∧
    forGo (fNm 7) gb2 (ps.map nmT) [some (tp cs i r s), some (coinsT qs xs), some (.v (.int wg)), some (.v (.bl g)), x4, x5, x6, o7, x8, x9, x10, some (.v (.int nm)), some (.ow false .lst ws), o13, o14, o15] =
      some (.nx [some (tp cs i' r' s'), some (coinsT qs xs), some (.v (.int wg)), some (.v (.bl g)), x4, x5, x6, o7', x8, x9, x10, some (.v (.int nm)), some (.ow false .lst ws'), o13', o14', o15'])
  | [], i, r, s, ws, x4, x5, x6, o7, x8, x9, x10, o13, o14, o15, hi, h, hl => ⟨i, r, s, ws, o7, o13, o14, o15, hi, h, rfl, rfl⟩
  | p :: ps, i, r, s, ws, x4, x5, x6, o7, x8, x9, x10, o13, o14, o15, hi, h, hl => by
    rw [List.length_cons] at hl
    have ic := in_coins false qs xs p
    have pp : (nmT p).pers = true := rfl
    have hcp : (coinsT qs xs).pers = false := rfl
    have app : ∀ w, gApp (.ow false .lst ws) [w] = some (.ow false .lst (ws ++ [w]), .v .non) := fun w => by
      show (if ws.length < 100000 then some (T.ow false .lst (ws ++ [w]), T.v V.non) else none) = _
      rw [if_pos (by omega)]
    have mem : ∀ {w : T}, Wt 2 w → ∀ u ∈ ws ++ [w], Wt 2 u := fun {w} hw u m => by
      rcases List.mem_append.mp m with z | z
      · exact h u z
      · rw [List.mem_singleton.mp z]; exact hw
    by_cases m : p ∈ qs
    · rw [decide_eq_true m] at ic
      obtain ⟨n, c, mm, e, _, hcd⟩ := hc.at' m
      obtain ⟨i1, r1, s1, w, a1, hw, e1⟩ := wit_ok cs hcd 8 (by decide) i r s nm (wg - mm) g hi
      have e1' : runS m__law_witness [tp cs i r s, c, .v (.int nm), .v (.int (wg - mm)), .v (.bl g)] = some (w, [tp cs i1 r1 s1, c, .v (.int nm), .v (.int (wg - mm)), .v (.bl g)]) := e1
      obtain ⟨i2, r2, s2, ws', o7', o13', o14', o15', a2, h2, l2, e2⟩ := wits_for cs g wg nm hc ps i1 r1 s1 (ws ++ [w]) x4 x5 x6 (some (nmT p)) x8 x9 x10 (some (.v (.int (aOf qs xs p)))) (some c) (some (.v (.int mm))) a1 (mem hw) (by rw [List.length_append]; simp; omega)
      refine ⟨i2, r2, s2, ws', o7', o13', o14', o15', a2, h2, by rw [l2, List.length_append]; simp; omega, ?_⟩
      rw [List.map_cons]
      have hp := hcd.pers
      have hwp := hw.pers
      simp only [coinT] at e
      generalize nmT p = tp0 at *
      generalize coinsT qs xs = CT at *
      unfold gb2 at e2 ⊢
      simp [forGo, pp, hcp, ic, e, hp, hwp, e1', app, e2]
    · rw [decide_eq_false m] at ic
      obtain ⟨i2, r2, s2, ws', o7', o13', o14', o15', a2, h2, l2, e2⟩ := wits_for cs g wg nm hc ps i r s (ws ++ [tW]) x4 x5 x6 (some (nmT p)) x8 x9 x10 o13 o14 o15 hi (mem .wait) (by rw [List.length_append]; simp; omega)
      refine ⟨i2, r2, s2, ws', o7', o13', o14', o15', a2, h2, by rw [l2, List.length_append]; simp; omega, ?_⟩
      rw [List.map_cons]
      have app' := app tW
      simp only [tW] at app' e2
      generalize nmT p = tp0 at *
      generalize coinsT qs xs = CT at *
      unfold gb2 at e2 ⊢
      simp [forGo, pp, hcp, ic, app', e2]
def gR4 : Ge → Option Out := (gSeq (gSet [] 11 (fCall [] [] m__law_mix [] (fACons [] (fCall [] [] m__law_values [] (fACons [] (fN gTuple (fACons [] (fVar 5) fANil)) (fACons [] (fN gTuple (fACons [] (fVar 9) fANil)) (fANil)))) (fANil)))) (gSeq (gSet [] 12 (fLst (fANil))) (gSeq (gFor [7, 0, 11, 12, 13, 14, 15] (fSrc (fVar 5)) (fNm 7) gb2) (gRet [] (fTup [] (fACons [] (fN gTuple (fACons [] (fVar 5) fANil)) (fACons [] (fN gTuple (fACons [] (fVar 9) fANil)) (fACons [] (fN gTuple (fACons [] (fVar 12) fANil)) (fANil)))))))))
def gR3 : Ge → Option Out := (gSeq (gIf (fAnd (fNot (fTr (fVar 3))) (fT (f2 [] gEq (fCall [0] [0] m__law_next [] (fACons [] (fVar 0) (fACons [] (fC (.int 3)) (fANil)))) (fC (.int 0))))) (gDrop (fMt [5] [] [0, 0] isLst gApp (fVar 5) (fACons [] (fTup [] (fACons [0] (f2 [0] gAddU (fC (.int 77)) (fCall [0] [0] m__law_next [] (fACons [] (fVar 0) (fACons [] (fC (.int 3)) (fANil))))) (fACons [] (fCall [0] [0] m__law_next [] (fACons [] (fVar 0) (fACons [] (fC (.int 4)) (fANil)))) (fANil)))) fANil))) (gNx)) gR4)
def gR2 : Ge → Option Out := (gSeq (gIf (fAnd (fTr (fVar 3)) (fT (f2 [] gLt (fVar 8) (fC (.int 0))))) (gSet [] 9 (fLst (fACons [] (fTup [] (fACons [] (fC (.int 1)) (fACons [] (fTup [] (fACons [] (fC (.str "key")) (fACons [] (fC (.int 2)) (fANil)))) (fANil)))) (fANil)))) (gNx)) gR3)
def FinS (cs : List Int) (C : T) (g : Ge → Option Out) (Γ : Ge) : Prop := ∃ i' r' s' ps os ws Γ', 0 ≤ i' ∧ Good ps os ws ∧ g Γ = some (.rt Γ' (sp3 ps os ws)) ∧ Γ'[0]? = some (some (tp cs i' r' s')) ∧ Γ'[1]? = some (some C)
theorem r4 (cs : List Int) {B : Int} {qs : List (Int × Int)} {xs : List T} (hc : CO B qs xs) (wg : Int) (g : Bool) (i r s : Int) (hi : 0 ≤ i) (ps : List (Int × Int)) (os : List T) (nd : ps.Nodup) (nm : ∀ p ∈ ps, nmR p) (p1 : 1 ≤ ps.length) (p4 : ps.length ≤ 4) (ho : ∀ t ∈ os, OutOk t) (o1 : 1 ≤ os.length) (o4 : os.length ≤ 4) (x4 x6 x7 x8 x10 : Option T) :
    FinS cs (coinsT qs xs) gR4 [some (tp cs i r s), some (coinsT qs xs), some (.v (.int wg)), some (.v (.bl g)), x4, some (.ow false .lst (ps.map nmT)), x6, x7, x8, some (.ow false .lst os), x10, none, none, none, none, none] := by
  obtain ⟨L, hL, hLl, hv, _⟩ := vals ps os nm ho (by omega) (by omega)
  have hm := lmix_ok L (by omega)
  obtain ⟨i2, r2, s2, ws, o7', o13', o14', o15', a2, h2, l2, e2⟩ := wits_for cs g wg (mixV L) hc ps i r s [] x4 (some (.ow false .lst (ps.map nmT))) x6 x7 x8 (some (.ow false .lst os)) x10 none none none hi (fun u m => by cases m) (by simp; omega)
  rw [List.length_nil, Nat.zero_add] at l2
  have q1 := nmT_pers ps
  have q2 := all_pers fun t m => (ho t m).pers
  have q3 := all_pers fun t m => (h2 t m).pers
  have t1 := ap_tupl q1
  have t2 := ap_tupl q2
  have t3 := ap_tupl q3
  refine ⟨i2, r2, s2, ps, os, ws, [some (tp cs i2 r2 s2), some (coinsT qs xs), some (.v (.int wg)), some (.v (.bl g)), x4, some (.ow false .lst (ps.map nmT)), x6, o7', x8, some (.ow false .lst os), x10, some (.v (.int (mixV L))), some (.ow false .lst ws), o13', o14', o15'], a2, ⟨nd, nm, p1, p4, ho, o1, o4, h2, l2⟩, ?_, rfl, rfl⟩
  unfold gR4
  have hm' : runS m__law_mix [.ow false .lst (inL L)] = some (.v (.int (mixV L)), [.ow false .lst (inL L)]) := hm
  have hcp : (coinsT qs xs).pers = false := rfl
  simp only [sp3]
  generalize ps.map nmT = PL at *
  generalize coinsT qs xs = CT at *
  simp [t1, t2, t3, hv, hm', sqTL, q1, q2, q3, e2, hcp, mvIn, -List.all_eq_true]
theorem r3 (cs : List Int) {qs : List (Int × Int)} {xs : List T} (hc : CO 6 qs xs) (wg : Int) (g : Bool) (i r s : Int) (hi : 0 ≤ i) (ps : List (Int × Int)) (os : List T) (nd : ps.Nodup) (nm : ∀ p ∈ ps, (1 ≤ p.1 ∧ p.1 ≤ 6) ∧ 0 ≤ p.2 ∧ p.2 ≤ 3) (p1 : 1 ≤ ps.length) (p4 : ps.length ≤ 3) (ho : ∀ t ∈ os, OutOk t) (o1 : 1 ≤ os.length) (o4 : os.length ≤ 4) (x4 x6 x7 x8 x10 : Option T) :
    FinS cs (coinsT qs xs) gR3 [some (tp cs i r s), some (coinsT qs xs), some (.v (.int wg)), some (.v (.bl g)), x4, some (.ow false .lst (ps.map nmT)), x6, x7, x8, some (.ow false .lst os), x10, none, none, none, none, none] := by
  have nm' : ∀ p ∈ ps, nmR p := fun p m => let ⟨⟨a, b⟩, c⟩ := nm p m; ⟨⟨a, Int.le_trans b (by decide)⟩, c⟩
  have hcp : (coinsT qs xs).pers = false := rfl
  cases g with
  | true =>
    obtain ⟨i', r', s', ps', os', ws, Γ', a, G, e, g0, g1⟩ := r4 cs hc wg true i r s hi ps os nd nm' p1 (by omega) ho o1 o4 x4 x6 x7 x8 x10
    refine ⟨i', r', s', ps', os', ws, Γ', a, G, ?_, g0, g1⟩
    unfold gR3
    generalize ps.map nmT = PL at *
    generalize coinsT qs xs = CT at *
    simp [e]
  | false =>
    obtain ⟨i1, r1, s1, v, a1, b1, c1, e1⟩ := nx cs i r s 3 hi (by decide) (by decide)
    by_cases hv : v = 0
    · subst hv
      obtain ⟨i2, r2, s2, u, a2, b2, c2, e2⟩ := nx cs i1 r1 s1 3 a1 (by decide) (by decide)
      obtain ⟨i3, r3, s3, w, a3, b3, c3, e3⟩ := nx cs i2 r2 s2 4 a2 (by decide) (by decide)
      have ap : gApp (.ow false .lst (ps.map nmT)) [.fz .tup [.v (.int (77 + u)), .v (.int w)]] = some (.ow false .lst ((ps ++ [(77 + u, w)]).map nmT), .v .non) := by
        show (if (ps.map nmT).length < 100000 then some (T.ow false .lst (ps.map nmT ++ [nmT (77 + u, w)]), T.v V.non) else none) = _
        rw [if_pos (by rw [List.length_map]; omega), List.map_append]
        rfl
      obtain ⟨i', r', s', ps', os', ws, Γ', a, G, e, g0, g1⟩ := r4 cs hc wg false i3 r3 s3 a3 (ps ++ [(77 + u, w)]) os (by
          rw [List.nodup_append]
          refine ⟨nd, by simp, fun a ha b hb e => ?_⟩
          rw [List.mem_singleton.mp hb] at e
          have := (nm a ha).1.2
          rw [e] at this
          have : 77 + u ≤ 6 := this
          omega) (fun p m => by
          rcases List.mem_append.mp m with z | z
          · exact nm' p z
          · rw [List.mem_singleton.mp z]
            exact ⟨⟨by show 1 ≤ 77 + u; omega, Int.le_trans (show 77 + u ≤ 80 by omega) (by decide)⟩, b3, by show w ≤ 3; omega⟩) (by rw [List.length_append]; simp) (by rw [List.length_append]; simp; omega) ho o1 o4 x4 x6 x7 x8 x10
      refine ⟨i', r', s', ps', os', ws, Γ', a, G, ?_, g0, g1⟩
      unfold gR3
      generalize (ps ++ [(77 + u, w)]).map nmT = PL2 at *
      generalize ps.map nmT = PL at *
      generalize coinsT qs xs = CT at *
      simp [e1, e2, e3, ap, e]
    · obtain ⟨i', r', s', ps', os', ws, Γ', a, G, e, g0, g1⟩ := r4 cs hc wg false i1 r1 s1 a1 ps os nd nm' p1 (by omega) ho o1 o4 x4 x6 x7 x8 x10
      refine ⟨i', r', s', ps', os', ws, Γ', a, G, ?_, g0, g1⟩
      unfold gR3
      generalize ps.map nmT = PL at *
      generalize coinsT qs xs = CT at *
      simp [e1, hv, e]
theorem r2 (cs : List Int) {qs : List (Int × Int)} {xs : List T} (hc : CO 6 qs xs) (wg : Int) (g : Bool) (i r s t : Int) (hi : 0 ≤ i) (ps : List (Int × Int)) (os : List T) (nd : ps.Nodup) (nm : ∀ p ∈ ps, (1 ≤ p.1 ∧ p.1 ≤ 6) ∧ 0 ≤ p.2 ∧ p.2 ≤ 3) (p1 : 1 ≤ ps.length) (p4 : ps.length ≤ 3) (ho : ∀ t ∈ os, OutOk t) (o1 : 1 ≤ os.length) (o4 : os.length ≤ 4) (x4 x6 x7 x10 : Option T) :
    FinS cs (coinsT qs xs) gR2 [some (tp cs i r s), some (coinsT qs xs), some (.v (.int wg)), some (.v (.bl g)), x4, some (.ow false .lst (ps.map nmT)), x6, x7, some (.v (.int t)), some (.ow false .lst os), x10, none, none, none, none, none] := by
  by_cases hb : g = true ∧ t < 0
  · obtain ⟨i', r', s', ps', os', ws, Γ', a, G, e, g0, g1⟩ := r3 cs hc wg g i r s hi ps [oT 1 (kw "key" 2)] nd nm p1 p4 (fun u m => by rw [List.mem_singleton.mp m]; exact ⟨1, _, rfl, by decide, by decide, .key 2 (by decide) (by decide)⟩) (by simp) (by simp) x4 x6 x7 (some (.v (.int t))) x10
    refine ⟨i', r', s', ps', os', ws, Γ', a, G, ?_, g0, g1⟩
    unfold gR2
    simp only [oT, kw] at e
    generalize ps.map nmT = PL at *
    generalize coinsT qs xs = CT at *
    simp [hb.1, hb.2] 
    rw [hb.1] at e
    exact e
  · obtain ⟨i', r', s', ps', os', ws, Γ', a, G, e, g0, g1⟩ := r3 cs hc wg g i r s hi ps os nd nm p1 p4 ho o1 o4 x4 x6 x7 (some (.v (.int t))) x10
    refine ⟨i', r', s', ps', os', ws, Γ', a, G, ?_, g0, g1⟩
    unfold gR2
    generalize ps.map nmT = PL at *
    generalize coinsT qs xs = CT at *
    cases g with
    | false => simp [e]
    | true =>
      have ht : ¬ t < 0 := fun z => hb ⟨rfl, z⟩
      simp [ht, e]
theorem spend_run (cs : List Int) (i r s wg : Int) (g : Bool) (hi : 0 ≤ i) {qs : List (Int × Int)} {xs : List T} (hc : CO 6 qs xs) (hz : 1 ≤ qs.length) : ∃ i' r' s' ps os ws, 0 ≤ i' ∧ Good ps os ws ∧
    runS m__law_spending [tp cs i r s, coinsT qs xs, .v (.int wg), .v (.bl g)] = some (sp3 ps os ws, [tp cs i' r' s', coinsT qs xs, .v (.int wg), .v (.bl g)]) := by
  obtain ⟨rs, pm, so⟩ := so_coins hc
  have hrs : rs.length = qs.length := pm.length_eq
  have hfew := hc.few
  obtain ⟨i1, r1, s1, n1, a1, b1, c1, e1⟩ := nx cs i r s 3 hi (by decide) (by decide)
  obtain ⟨i2, r2', s2, ps, o6, o7, a2, hps, z2, l2, hop, e2⟩ := ins_for cs qs rs (fun z => by rw [z] at hrs; simp at hrs; omega) (fun p m => pm.mem_iff.mp m) (by omega) (rgT 0 (1 + n1).toNat) i1 r1 s1 [] (some (coinsT qs xs)) (some (.v (.int wg))) (some (.v (.bl g))) none none none none none none none none none none a1 ⟨.nil, by simp⟩ (by rw [rg_len, List.length_nil]; omega) (.inr (fun z => by
    have := congrArg List.length z
    rw [rg_len, List.length_nil] at this
    omega)) (fun t z => by cases z)
  rw [rg_len, List.length_nil] at l2
  have hsub : ∀ p ∈ ps, (1 ≤ p.1 ∧ p.1 ≤ 6) ∧ 0 ≤ p.2 ∧ p.2 ≤ 3 := fun p m => hc.nm p (hps.sub p m)
  -- the total
  obtain ⟨oA, eA⟩ := lc_am hc 1 7 (by decide) ps hps.sub [some (tp cs i2 r2' s2), some (coinsT qs xs), some (.v (.int wg)), some (.v (.bl g)), some (.ow false .lst (rs.map nmT)), some (.ow false .lst (ps.map nmT)), o6, o7, none, none, none, none, none, none, none, none] [] rfl (by simp)
  rw [List.nil_append] at eA
  have gs := gSum_in (ps.map (aOf qs xs))
  -- the outputs
  obtain ⟨i3, r3', s3, n3, a3, b3, c3, e3⟩ := nx cs i2 r2' s2 3 a2 (by decide) (by decide)
  obtain ⟨i4, r4', s4, t, os, o6', o10', a4, h4, l4, e4⟩ := outs_for cs g (rgT 0 (1 + n3).toNat) i3 r3' s3 (ps.map (aOf qs xs)).sum [] (some (coinsT qs xs)) (some (.v (.int wg))) (some (.ow false .lst (rs.map nmT))) (some (.ow false .lst (ps.map nmT))) o6 o7 none none none none none none a3 (fun u m => by cases m) (by rw [rg_len, List.length_nil]; omega)
  rw [rg_len, List.length_nil, Nat.zero_add] at l4
  obtain ⟨i', r', s', ps', os', ws, Γ', a, G, e, g0, g1⟩ := r2 cs hc wg g i4 r4' s4 t a4 ps os hps.nd hsub z2 (by omega) h4 (by omega) (by omega) (some (.ow false .lst (rs.map nmT))) o6' o7 o10'
  have k1 : 1 + n1 ≤ 1000000 := by omega
  have k2 : -1000000 ≤ 1 + n1 := by omega
  have k3 : 1 + n3 ≤ 1000000 := by omega
  have k4 : -1000000 ≤ 1 + n3 := by omega
  have hcp : (coinsT qs xs).pers = false := rfl
  have q1 := nmT_pers ps
  have l10 : (ps.map nmT).length ≤ 10000 := by rw [List.length_map]; omega
  refine ⟨i', r', s', ps', os', ws, a, G, ap_rs ((ap_run rfl).trans ?_) rfl⟩
  have hg : g__law_spending = gSeq (gSet [] 4 (fN (gSo 2) (fACons [] (fVar 1) fANil))) (gSeq (gSet [] 5 (fLst (fANil))) (gSeq (gFor [6, 0, 5, 7] (fR1 (fACons [] (f2 [0] gAddU (fC (.int 1)) (fCall [0] [0] m__law_next [] (fACons [] (fVar 0) (fACons [] (fC (.int 3)) (fANil))))) fANil)) (fNm 6) gb0) (gSeq (gSet [] 8 (fN gSum (fACons [] (fLc [] [7] [7] (fSrc (fVar 5)) (fNm 7) ((fun Γ => some (Γ, true))) (fIx [] gIxU (fIx [] gIxU (fVar 1) (fVar 7)) (fC (.int 0)))) fANil))) (gSeq (gSet [] 9 (fLst (fANil))) (gSeq (gFor [6, 0, 8, 9, 10] (fR1 (fACons [] (f2 [0] gAddU (fC (.int 1)) (fCall [0] [0] m__law_next [] (fACons [] (fVar 0) (fACons [] (fC (.int 3)) (fANil))))) fANil)) (fNm 6) gb1) gR2))))) := rfl
  rw [hg]
  have hsp : (sp3 ps' os' ws).pers = true := rfl
  have e0 : inL [] = [] := rfl
  have e0' : ([] : List (Int × Int)).map nmT = [] := rfl
  rw [e0] at eA
  rw [e0'] at e2
  have hp7 : ∀ t, o7 = some t → t.pers = true := hop
  generalize sp3 ps' os' ws = SP at *
  generalize ps.map nmT = PL at *
  generalize rs.map nmT = RL at *
  generalize coinsT qs xs = CT at *
  cases o7 with
  | none => simp [startG, so, e1, k1, k2, e2, eA, gs, e3, k3, k4, e4, e, g0, g1, hcp, q1, l10, sqTL, persVs, rstG, hsp, outAt, -List.all_eq_true]
  | some t7 =>
    have ht7 := hp7 t7 rfl
    simp [startG, so, e1, k1, k2, e2, eA, gs, e3, k3, k4, e4, e, g0, g1, hcp, q1, l10, sqTL, persVs, rstG, hsp, ht7, outAt, -List.all_eq_true]
end
end K33

set_option maxRecDepth 100000
namespace K33
section
open PySem L2 Vx PyProof.Rows
open Vx.Vp Vr Wd
def gbG : Ge → Option Out := (gIf (fT (f2 [] (gInU true) (fVar 6) (fVar 1))) (gRet [] (fTup [6] (fACons [] (fC (.str "gone")) (fACons [] (fVar 6) (fANil))))) (gNx))
def gbLw : Ge → Option Out := (gIf (fNot (fTr (fCall [5, 7] [1, 2] m__law_met [] (fACons [] (fIx [] gIxU (fIx [] gIxU (fVar 1) (fIx [] gIxU (fVar 3) (fVar 8))) (fC (.int 1))) (fACons [] (fIx [] gIxU (fVar 5) (fVar 8)) (fACons [] (fVar 7) (fACons [] (f2 [] Vx.gSub (fVar 2) (fIx [] gIxU (fIx [] gIxU (fVar 1) (fIx [] gIxU (fVar 3) (fVar 8))) (fC (.int 2)))) (fANil)))))))) (gRet [] (fTup [8] (fACons [] (fC (.str "witness")) (fACons [] (fVar 8) (fANil))))) (gNx))
def gbLt : Ge → Option Out := (gIf (fT (f2 [] (gInU false) (fTup [7, 8] (fACons [] (fVar 7) (fACons [] (fVar 8) (fANil)))) (fVar 1))) (gRet [] (fTup [] (fACons [7, 8] (fC (.str "there")) (fACons [] (fTup [7, 8] (fACons [] (fVar 7) (fACons [] (fVar 8) (fANil)))) (fANil))))) (gNx))
def gbPw : Ge → Option Out := (gSeq (gAsT (fTgT 3 (fTCons (fNm 9) (fTCons (fNm 10) (fTCons (fNm 11) (fTNil))))) (fIx [] gIxU (fVar 1) (fIx [] gIxU (fVar 3) (fVar 8)))) (gIf (fNot (fTr (fCall [5, 7, 10] [0, 1, 2] m_met [] (fACons [] (fVar 10) (fACons [] (fIx [] gIxU (fVar 5) (fVar 8)) (fACons [] (fVar 7) (fACons [] (f2 [] Vx.gSub (fVar 2) (fVar 11)) (fANil)))))))) (gRet [] (fTup [8] (fACons [] (fC (.str "witness")) (fACons [] (fVar 8) (fANil))))) (gNx)))
def gbPt : Ge → Option Out := (gIf (fT (f2 [] (gInU false) (fTup [7, 12] (fACons [] (fVar 7) (fACons [] (fVar 12) (fANil)))) (fVar 1))) (gRet [] (fTup [] (fACons [7, 12] (fC (.str "there")) (fACons [] (fTup [7, 12] (fACons [] (fVar 7) (fACons [] (fVar 12) (fANil)))) (fANil))))) (gNx))
theorem forGo_nx {ft : Ge → T → Option Ge} {gb : Ge → Option Out} {x : T} {xs : List T} {Γ Γ' : Ge} (h : (ft Γ x).bind gb = some (.nx Γ')) : forGo ft gb (x :: xs) Γ = forGo ft gb xs Γ' := by
  unfold forGo
  cases e : ft Γ x with
  | none => rw [e] at h; cases h
  | some Γ1 =>
    rw [e, Option.bind_some] at h
    rw [Option.bind_some, h, Option.bind_some]
    cases xs <;> rfl
theorem forGo_rt {ft : Ge → T → Option Ge} {gb : Ge → Option Out} {x t : T} {xs : List T} {Γ Γ' : Ge} (h : (ft Γ x).bind gb = some (.rt Γ' t)) : forGo ft gb (x :: xs) Γ = some (.rt Γ' t) := by
  unfold forGo
  cases e : ft Γ x with
  | none => rw [e] at h; cases h
  | some Γ1 =>
    rw [e, Option.bind_some] at h
    rw [Option.bind_some, h, Option.bind_some]
theorem gone_for (qs : List (Int × Int)) (xs : List T) : ∀ (ps : List (Int × Int)), (∃ p, ∀ Γ : Ge, Γ[1]? = some (some (coinsT qs xs)) → 6 < Γ.length → forGo (fNm 6) gbG (ps.map nmT) Γ = some (.rt (Γ.set 6 (some (nmT p))) (.fz .tup [.v (.str "gone"), nmT p]))) ∨
    ((∀ p ∈ ps, p ∈ qs) ∧ ∀ Γ : Ge, Γ[1]? = some (some (coinsT qs xs)) → 6 < Γ.length → ∃ o, (OP o ∨ o = Γ[6]!) ∧ forGo (fNm 6) gbG (ps.map nmT) Γ = some (.nx (Γ.set 6 o)))
  | [] => .inr ⟨by simp, fun Γ h hl => ⟨Γ[6]!, .inr rfl, by simp [hl]⟩⟩
  | p :: ps => by
    have ic := in_coins true qs xs p
    have pp : (nmT p).pers = true := rfl
    have hcp : (coinsT qs xs).pers = false := rfl
    have hf : frz (nmT p) = some (nmT p) := rfl
    have step : ∀ Γ : Ge, Γ[1]? = some (some (coinsT qs xs)) → 6 < Γ.length → gbG (Γ.set 6 (some (nmT p))) = if p ∈ qs then some (.nx (Γ.set 6 (some (nmT p)))) else some (.rt (Γ.set 6 (some (nmT p))) (.fz .tup [.v (.str "gone"), nmT p])) := fun Γ h hl => by
      have g1 : (Γ.set 6 (some (nmT p)))[1]? = some (some (coinsT qs xs)) := by rw [List.getElem?_set_ne (by decide)]; exact h
      have g6 : (Γ.set 6 (some (nmT p)))[6]? = some (some (nmT p)) := List.getElem?_set_self hl
      unfold gbG
      generalize Γ.set 6 (some (nmT p)) = Γ1 at g1 g6 ⊢
      generalize nmT p = tp0 at *
      generalize coinsT qs xs = CT at *
      by_cases m : p ∈ qs
      · simp only [m, if_true] at ic ⊢
        simp [g1, g6, pp, hcp, ic]
      · simp only [m, if_false] at ic ⊢
        simp [g1, g6, pp, hcp, ic, hf]
    by_cases m : p ∈ qs
    · rcases gone_for qs xs ps with ⟨q, h⟩ | ⟨hq, h⟩
      · refine .inl ⟨q, fun Γ h1 hl => ?_⟩
        have := h (Γ.set 6 (some (nmT p))) (by rw [List.getElem?_set_ne (by decide)]; exact h1) (by rw [List.length_set]; exact hl)
        rw [List.map_cons]
        unfold forGo
        simp only [ap_fNm, Option.bind_some, step Γ h1 hl, m, if_true]
        rw [set_set'] at this
        exact this
      · refine .inr ⟨fun q mq => (List.mem_cons.mp mq).elim (fun z => z ▸ m) (hq q), fun Γ h1 hl => ?_⟩
        obtain ⟨o, ho, e⟩ := h (Γ.set 6 (some (nmT p))) (by rw [List.getElem?_set_ne (by decide)]; exact h1) (by rw [List.length_set]; exact hl)
        refine ⟨o, .inl ?_, ?_⟩
        · rcases ho with ho | ho
          · exact ho
          · intro t ht
            have e6 : (Γ.set 6 (some (nmT p)))[6]! = some (nmT p) := by simp [hl]
            rw [e6] at ho
            rw [ho] at ht
            cases ht
            rfl
        · rw [List.map_cons]
          unfold forGo
          simp only [ap_fNm, Option.bind_some, step Γ h1 hl, m, if_true]
          rw [set_set'] at e
          exact e
    · refine .inl ⟨p, fun Γ h1 hl => ?_⟩
      rw [List.map_cons]
      unfold forGo
      simp only [ap_fNm, Option.bind_some, step Γ h1 hl, m, if_false]
/-- the second loops -/
theorem wit_loop {B : Int} {qs : List (Int × Int)} {xs : List T} (hc : CO B qs xs) (ps : List (Int × Int)) (os ws : List T) (hq : ∀ p ∈ ps, p ∈ qs) (hw : ∀ w ∈ ws, Wt 2 w) (wg nm : Int) (hn : 0 ≤ nm ∧ nm ≤ MX) : ∀ (js : List Nat), (∀ j ∈ js, j < ps.length ∧ j < ws.length) →
    (∃ r : Int, (∀ o6 o8 o9 : Option T, ∃ Γ', forGo (fNm 8) gbLw (rgL js) [some (sp3 ps os ws), some (coinsT qs xs), some (.v (.int wg)), some (.fz .tup (ps.map nmT)), some (.fz .tup os), some (.fz .tup ws), o6, some (.v (.int nm)), o8, o9] = some (.rt Γ' (.fz .tup [.v (.str "witness"), .v (.int r)])) ∧ Γ'[0]? = some (some (sp3 ps os ws)) ∧ Γ'[1]? = some (some (coinsT qs xs)) ∧ Γ'[2]? = some (some (.v (.int wg)))) ∧
        ∀ o6 o8 o9 o10 o11 o12 : Option T, ∃ Γ', forGo (fNm 8) gbPw (rgL js) [some (sp3 ps os ws), some (coinsT qs xs), some (.v (.int wg)), some (.fz .tup (ps.map nmT)), some (.fz .tup os), some (.fz .tup ws), o6, some (.v (.int nm)), o8, o9, o10, o11, o12] = some (.rt Γ' (.fz .tup [.v (.str "witness"), .v (.int r)])) ∧ Γ'[0]? = some (some (sp3 ps os ws)) ∧ Γ'[1]? = some (some (coinsT qs xs)) ∧ Γ'[2]? = some (some (.v (.int wg)))) ∨
    ((∀ o6 o8 o9 : Option T, ∃ o8', forGo (fNm 8) gbLw (rgL js) [some (sp3 ps os ws), some (coinsT qs xs), some (.v (.int wg)), some (.fz .tup (ps.map nmT)), some (.fz .tup os), some (.fz .tup ws), o6, some (.v (.int nm)), o8, o9] = some (.nx [some (sp3 ps os ws), some (coinsT qs xs), some (.v (.int wg)), some (.fz .tup (ps.map nmT)), some (.fz .tup os), some (.fz .tup ws), o6, some (.v (.int nm)), o8', o9])) ∧
        ∀ o6 o8 o9 o10 o11 o12 : Option T, ∃ o8' o9' o10' o11', forGo (fNm 8) gbPw (rgL js) [some (sp3 ps os ws), some (coinsT qs xs), some (.v (.int wg)), some (.fz .tup (ps.map nmT)), some (.fz .tup os), some (.fz .tup ws), o6, some (.v (.int nm)), o8, o9, o10, o11, o12] = some (.nx [some (sp3 ps os ws), some (coinsT qs xs), some (.v (.int wg)), some (.fz .tup (ps.map nmT)), some (.fz .tup os), some (.fz .tup ws), o6, some (.v (.int nm)), o8', o9', o10', o11', o12]))
  | [], _ => .inr ⟨fun o6 o8 o9 => ⟨o8, rfl⟩, fun o6 o8 o9 o10 o11 o12 => ⟨o8, o9, o10, o11, rfl⟩⟩
  | j :: js, h => by
    obtain ⟨j1, j2⟩ := h j List.mem_cons_self
    have hp : ps[j]? = some ps[j] := List.getElem?_eq_getElem j1
    have hmem := List.getElem_mem j1
    generalize ps[j] = p at hp hmem
    have ip : itm (ps.map nmT) (j : Int) = some (j, nmT p) := itm_at (by rw [List.getElem?_map, hp]; rfl)
    have hww : ws[j]? = some ws[j] := List.getElem?_eq_getElem j2
    have hwm := hw _ (List.getElem_mem j2)
    generalize ws[j] = w at hww hwm
    have iw := itm_at hww
    obtain ⟨n, c, m, e, _, hcd⟩ := hc.at' (hq p hmem)
    obtain ⟨b, hb⟩ := met_ok hcd nm (wg - m) hn 2 w hwm (by decide)
    obtain ⟨k1, k2⟩ := hb 8 (by decide)
    have k1' : runS m__law_met [c, w, .v (.int nm), .v (.int (wg - m))] = some (.v (.bl b), [c, w, .v (.int nm), .v (.int (wg - m))]) := k1
    have k2' : runS m_met [c, w, .v (.int nm), .v (.int (wg - m))] = some (.v (.bl b), [c, w, .v (.int nm), .v (.int (wg - m))]) := k2
    have pp : (nmT p).pers = true := rfl
    have hcp : (coinsT qs xs).pers = false := rfl
    have hcP := hcd.pers
    have hwP := hwm.pers
    have hsp : (sp3 ps os ws).pers = true := rfl
    have ih := wit_loop hc ps os ws hq hw wg nm hn js (fun j' m => h j' (List.mem_cons_of_mem _ m))
    have er : rgL (j :: js) = .v (.int (0 + (j : Int))) :: rgL js := rfl
    rw [er]
    simp only [coinT] at e
    generalize hPL : ps.map nmT = PL at *
    generalize nmT p = tp0 at *
    generalize coinsT qs xs = CT at *
    generalize hSP : sp3 ps os ws = SP at *
    cases b with
    | false =>
      refine .inl ⟨0 + (j : Int), fun o6 o8 o9 => ?_, fun o6 o8 o9 o10 o11 o12 => ?_⟩
      · refine ⟨[some SP, some CT, some (.v (.int wg)), some (.fz .tup PL), some (.fz .tup os), some (.fz .tup ws), o6, some (.v (.int nm)), some (.v (.int (0 + (j : Int)))), o9], ?_, rfl, rfl, rfl⟩
        unfold gbLw
        simp [forGo, ip, iw, e, hcp, pp, sub_p pp, sub_p hcP, sub_p hwP, hcP, hwP, k1']
      · refine ⟨[some SP, some CT, some (.v (.int wg)), some (.fz .tup PL), some (.fz .tup os), some (.fz .tup ws), o6, some (.v (.int nm)), some (.v (.int (0 + (j : Int)))), some (.v (.int (aOf qs xs p))), some c, some (.v (.int m)), o12], ?_, rfl, rfl, rfl⟩
        unfold gbPw
        simp [forGo, ip, iw, e, hcp, pp, sub_p pp, sub_p hcP, sub_p hwP, hcP, hwP, k2']
    | true =>
      have s1 : ∀ o6 o8 o9 : Option T, (fNm 8 [some SP, some CT, some (.v (.int wg)), some (.fz .tup PL), some (.fz .tup os), some (.fz .tup ws), o6, some (.v (.int nm)), o8, o9] (.v (.int (0 + (j : Int))))).bind gbLw = some (.nx [some SP, some CT, some (.v (.int wg)), some (.fz .tup PL), some (.fz .tup os), some (.fz .tup ws), o6, some (.v (.int nm)), some (.v (.int (0 + (j : Int)))), o9]) := fun o6 o8 o9 => by
        unfold gbLw
        simp [ip, iw, e, hcp, pp, sub_p pp, sub_p hcP, sub_p hwP, hcP, hwP, k1']
      have s2 : ∀ o6 o8 o9 o10 o11 o12 : Option T, (fNm 8 [some SP, some CT, some (.v (.int wg)), some (.fz .tup PL), some (.fz .tup os), some (.fz .tup ws), o6, some (.v (.int nm)), o8, o9, o10, o11, o12] (.v (.int (0 + (j : Int))))).bind gbPw = some (.nx [some SP, some CT, some (.v (.int wg)), some (.fz .tup PL), some (.fz .tup os), some (.fz .tup ws), o6, some (.v (.int nm)), some (.v (.int (0 + (j : Int)))), some (.v (.int (aOf qs xs p))), some c, some (.v (.int m)), o12]) := fun o6 o8 o9 o10 o11 o12 => by
        unfold gbPw
        simp [ip, iw, e, hcp, pp, sub_p pp, sub_p hcP, sub_p hwP, hcP, hwP, k2']
      have f1 : ∀ o6 o8 o9 : Option T, forGo (fNm 8) gbLw (.v (.int (0 + (j : Int))) :: rgL js) [some SP, some CT, some (.v (.int wg)), some (.fz .tup PL), some (.fz .tup os), some (.fz .tup ws), o6, some (.v (.int nm)), o8, o9] = forGo (fNm 8) gbLw (rgL js) [some SP, some CT, some (.v (.int wg)), some (.fz .tup PL), some (.fz .tup os), some (.fz .tup ws), o6, some (.v (.int nm)), some (.v (.int (0 + (j : Int)))), o9] := fun o6 o8 o9 => forGo_nx (s1 o6 o8 o9)
      have f2 : ∀ o6 o8 o9 o10 o11 o12 : Option T, forGo (fNm 8) gbPw (.v (.int (0 + (j : Int))) :: rgL js) [some SP, some CT, some (.v (.int wg)), some (.fz .tup PL), some (.fz .tup os), some (.fz .tup ws), o6, some (.v (.int nm)), o8, o9, o10, o11, o12] = forGo (fNm 8) gbPw (rgL js) [some SP, some CT, some (.v (.int wg)), some (.fz .tup PL), some (.fz .tup os), some (.fz .tup ws), o6, some (.v (.int nm)), some (.v (.int (0 + (j : Int)))), some (.v (.int (aOf qs xs p))), some c, some (.v (.int m)), o12] := fun o6 o8 o9 o10 o11 o12 => forGo_nx (s2 o6 o8 o9 o10 o11 o12)
      rcases ih with ⟨r, g1, g2⟩ | ⟨g1, g2⟩
      · exact .inl ⟨r, fun o6 o8 o9 => by rw [f1]; exact g1 _ _ _, fun o6 o8 o9 o10 o11 o12 => by rw [f2]; exact g2 _ _ _ _ _ _⟩
      · exact .inr ⟨fun o6 o8 o9 => by rw [f1]; exact g1 _ _ _, fun o6 o8 o9 o10 o11 o12 => by rw [f2]; exact g2 _ _ _ _ _ _⟩
end
end K33

set_option maxRecDepth 100000
namespace K33
section
open PySem L2 Vx PyProof.Rows
open Vx.Vp Vr Wd
theorem there_loop (qs : List (Int × Int)) (xs : List T) (sp wg PS OS WS : T) (h1 : sp.pers = true) (h2 : wg.pers = true) (nm : Int) : ∀ (js : List Nat),
    (∃ r : Int, (∀ o6 o8 o9 : Option T, ∃ Γ', forGo (fNm 8) gbLt (rgL js) [some sp, some (coinsT qs xs), some wg, some PS, some OS, some WS, o6, some (.v (.int nm)), o8, o9] = some (.rt Γ' (.fz .tup [.v (.str "there"), nmT (nm, r)])) ∧ Γ'[0]? = some (some sp) ∧ Γ'[1]? = some (some (coinsT qs xs)) ∧ Γ'[2]? = some (some wg)) ∧
        ∀ o6 o8 o9 o10 o11 o12 : Option T, ∃ Γ', forGo (fNm 12) gbPt (rgL js) [some sp, some (coinsT qs xs), some wg, some PS, some OS, some WS, o6, some (.v (.int nm)), o8, o9, o10, o11, o12] = some (.rt Γ' (.fz .tup [.v (.str "there"), nmT (nm, r)])) ∧ Γ'[0]? = some (some sp) ∧ Γ'[1]? = some (some (coinsT qs xs)) ∧ Γ'[2]? = some (some wg)) ∨
    ((∀ o6 o8 o9 : Option T, ∃ o8', forGo (fNm 8) gbLt (rgL js) [some sp, some (coinsT qs xs), some wg, some PS, some OS, some WS, o6, some (.v (.int nm)), o8, o9] = some (.nx [some sp, some (coinsT qs xs), some wg, some PS, some OS, some WS, o6, some (.v (.int nm)), o8', o9])) ∧
        ∀ o6 o8 o9 o10 o11 o12 : Option T, ∃ o12', forGo (fNm 12) gbPt (rgL js) [some sp, some (coinsT qs xs), some wg, some PS, some OS, some WS, o6, some (.v (.int nm)), o8, o9, o10, o11, o12] = some (.nx [some sp, some (coinsT qs xs), some wg, some PS, some OS, some WS, o6, some (.v (.int nm)), o8, o9, o10, o11, o12']))
  | [] => .inr ⟨fun o6 o8 o9 => ⟨o8, rfl⟩, fun o6 o8 o9 o10 o11 o12 => ⟨o12, rfl⟩⟩
  | j :: js => by
    have ic := in_coins false qs xs (nm, 0 + (j : Int))
    have hcp : (coinsT qs xs).pers = false := rfl
    have hn : nmT (nm, 0 + (j : Int)) = .fz .tup [.v (.int nm), .v (.int (0 + (j : Int)))] := rfl
    have ih := there_loop qs xs sp wg PS OS WS h1 h2 nm js
    have er : rgL (j :: js) = .v (.int (0 + (j : Int))) :: rgL js := rfl
    rw [er]
    by_cases m : (nm, 0 + (j : Int)) ∈ qs
    · rw [decide_eq_true m, hn] at ic
      refine .inl ⟨0 + (j : Int), fun o6 o8 o9 => ?_, fun o6 o8 o9 o10 o11 o12 => ?_⟩
      · refine ⟨[some sp, some (coinsT qs xs), some wg, some PS, some OS, some WS, o6, some (.v (.int nm)), some (.v (.int (0 + (j : Int)))), o9], forGo_rt ?_, rfl, rfl, rfl⟩
        rw [hn]
        generalize coinsT qs xs = CT at *
        unfold gbLt
        simp only [Int.zero_add] at ic ⊢
        simp [ic, hcp]
      · refine ⟨[some sp, some (coinsT qs xs), some wg, some PS, some OS, some WS, o6, some (.v (.int nm)), o8, o9, o10, o11, some (.v (.int (0 + (j : Int))))], forGo_rt ?_, rfl, rfl, rfl⟩
        rw [hn]
        generalize coinsT qs xs = CT at *
        unfold gbPt
        simp only [Int.zero_add] at ic ⊢
        simp [ic, hcp]
    · rw [decide_eq_false m, hn] at ic
      have s1 : ∀ o6 o8 o9 : Option T, (fNm 8 [some sp, some (coinsT qs xs), some wg, some PS, some OS, some WS, o6, some (.v (.int nm)), o8, o9] (.v (.int (0 + (j : Int))))).bind gbLt = some (.nx [some sp, some (coinsT qs xs), some wg, some PS, some OS, some WS, o6, some (.v (.int nm)), some (.v (.int (0 + (j : Int)))), o9]) := fun o6 o8 o9 => by
        generalize coinsT qs xs = CT at *
        unfold gbLt
        simp only [Int.zero_add] at ic ⊢
        simp [ic, hcp]
      have s2 : ∀ o6 o8 o9 o10 o11 o12 : Option T, (fNm 12 [some sp, some (coinsT qs xs), some wg, some PS, some OS, some WS, o6, some (.v (.int nm)), o8, o9, o10, o11, o12] (.v (.int (0 + (j : Int))))).bind gbPt = some (.nx [some sp, some (coinsT qs xs), some wg, some PS, some OS, some WS, o6, some (.v (.int nm)), o8, o9, o10, o11, some (.v (.int (0 + (j : Int))))]) := fun o6 o8 o9 o10 o11 o12 => by
        generalize coinsT qs xs = CT at *
        unfold gbPt
        simp only [Int.zero_add] at ic ⊢
        simp [ic, hcp]
      rcases ih with ⟨r, g1, g2⟩ | ⟨g1, g2⟩
      · exact .inl ⟨r, fun o6 o8 o9 => by rw [forGo_nx (s1 o6 o8 o9)]; exact g1 _ _ _, fun o6 o8 o9 o10 o11 o12 => by rw [forGo_nx (s2 o6 o8 o9 o10 o11 o12)]; exact g2 _ _ _ _ _ _⟩
      · exact .inr ⟨fun o6 o8 o9 => by rw [forGo_nx (s1 o6 o8 o9)]; exact g1 _ _ _, fun o6 o8 o9 o10 o11 o12 => by rw [forGo_nx (s2 o6 o8 o9 o10 o11 o12)]; exact g2 _ _ _ _ _ _⟩
/-- what is left over -/
theorem left_ok {B : Int} {qs : List (Int × Int)} {xs : List T} (hc : CO B qs xs) (ps : List (Int × Int)) (os ws : List T) (hq : ∀ p ∈ ps, p ∈ qs) (ho : ∀ t ∈ os, OutOk t) (l1 : ps.length ≤ 100) (l2 : os.length ≤ 100) :
    runS m_left_over [sp3 ps os ws, coinsT qs xs] = some (.v (.int ((ps.map (aOf qs xs)).sum - (os.map oAm).sum)), [sp3 ps os ws, coinsT qs xs]) := by
  obtain ⟨o1, e1⟩ := lc_am hc 1 5 (by decide) ps hq [some (sp3 ps os ws), some (coinsT qs xs), some (.fz .tup (ps.map nmT)), some (.fz .tup os), some (.fz .tup ws), none, none] [] rfl (by simp)
  obtain ⟨o2, e2⟩ := lc_out 6 os ho [some (sp3 ps os ws), some (coinsT qs xs), some (.fz .tup (ps.map nmT)), some (.fz .tup os), some (.fz .tup ws), none, none] [] (by simp)
  have e0 : inL [] = [] := rfl
  rw [e0, List.nil_append] at e1 e2
  have g1 := gSum_in (ps.map (aOf qs xs))
  have g2 := gSum_in (os.map oAm)
  have q1 := nmT_pers ps
  have q2 := all_pers fun t m => (ho t m).pers
  have k1 : (ps.map nmT).length ≤ 10000 := by rw [List.length_map]; omega
  have k2 : os.length ≤ 10000 := by omega
  have hcp : (coinsT qs xs).pers = false := rfl
  refine ap_rs ((ap_run rfl).trans ?_) rfl
  unfold g_left_over
  simp only [sp3] at e1 e2 ⊢
  generalize ps.map nmT = PL at *
  generalize coinsT qs xs = CT at *
  simp [startG, sqf, q1, q2, k1, k2, persVs, e1, e2, g1, g2, rstG, hcp, outAt, -List.all_eq_true]
theorem cl_gone : (PyData.str "gone").canLay0 = true := by decide +kernel
theorem cl_witness : (PyData.str "witness").canLay0 = true := by decide +kernel
theorem cl_amount : (PyData.str "amount").canLay0 = true := by decide +kernel
theorem cl_there : (PyData.str "there").canLay0 = true := by decide +kernel
/-- why a spending cannot be taken: the law's and the program's -/
theorem fault_ok {B : Int} {qs : List (Int × Int)} {xs : List T} (hc : CO B qs xs) {ps : List (Int × Int)} {os ws : List T} (G : Good ps os ws) (wg : Int) : ∃ r : T, r.pers = true ∧ ShD 64 r ∧ (r = .v .non ∨ ∃ ys, r = .fz .tup ys) ∧ (r = .v .non → ∀ p ∈ ps, p ∈ qs) ∧
    runS m__law_fault [sp3 ps os ws, coinsT qs xs, .v (.int wg)] = some (r, [sp3 ps os ws, coinsT qs xs, .v (.int wg)]) ∧ runS m_fault_of [sp3 ps os ws, coinsT qs xs, .v (.int wg)] = some (r, [sp3 ps os ws, coinsT qs xs, .v (.int wg)]) := by
  have h4 := G.p4
  have o4 := G.o4
  have hwl := G.wl
  obtain ⟨L, hL, hLl, hv, hv2⟩ := vals ps os G.nm G.ho (by omega) (by omega)
  have hm' : runS m__law_mix [.ow false .lst (inL L)] = some (.v (.int (mixV L)), [.ow false .lst (inL L)]) := lmix_ok L (by omega)
  have hsn := spname (sp := sp3 ps os ws) rfl hL hLl (hv2 ws)
  have mr := mixIn L
  have q1 := nmT_pers ps
  have q2 := all_pers fun t m => (G.ho t m).pers
  have hcp : (coinsT qs xs).pers = false := rfl
  have hg1 : g__law_fault = gSeq (gAsT (fTgT 3 (fTCons (fNm 3) (fTCons (fNm 4) (fTCons (fNm 5) (fTNil))))) (fVar 0)) (gSeq (gFor [6, 6] (fSrc (fVar 3)) (fNm 6) gbG) (gSeq (gSet [] 7 (fCall [] [] m__law_mix [] (fACons [] (fCall [] [] m__law_values [] (fACons [] (fVar 3) (fACons [] (fVar 4) (fANil)))) (fANil)))) (gSeq (gFor [8, 5, 7, 8] (fR1 (fACons [] (fN gLenU (fACons [] (fVar 3) fANil)) fANil)) (fNm 8) gbLw) (gSeq (gIf (fT (f2 [6] gGt (fN gSum (fACons [] (fLc [] [9] [9] (fSrc (fVar 4)) (fNm 9) ((fun Γ => some (Γ, true))) (fIx [] gIxU (fVar 9) (fC (.int 0)))) fANil)) (fN gSum (fACons [] (fLc [] [6] [6] (fSrc (fVar 3)) (fNm 6) ((fun Γ => some (Γ, true))) (fIx [] gIxU (fIx [] gIxU (fVar 1) (fVar 6)) (fC (.int 0)))) fANil)))) (gRet [] (fTup [] (fACons [] (fC (.str "amount")) (fANil)))) (gNx)) (gSeq (gFor [8, 7, 8] (fR1 (fACons [] (fN gLenU (fACons [] (fVar 4) fANil)) fANil)) (fNm 8) gbLt) (gRet [] (fC .non))))))) := rfl
  have hg2 : g_fault_of = gSeq (gAsT (fTgT 3 (fTCons (fNm 3) (fTCons (fNm 4) (fTCons (fNm 5) (fTNil))))) (fVar 0)) (gSeq (gFor [6, 6] (fSrc (fVar 3)) (fNm 6) gbG) (gSeq (gSet [] 7 (fCall [] [] m_spending_name [] (fACons [] (fVar 0) (fANil)))) (gSeq (gFor [8, 5, 7, 8, 9, 10, 11] (fR1 (fACons [] (fN gLenU (fACons [] (fVar 3) fANil)) fANil)) (fNm 8) gbPw) (gSeq (gIf (fT (f2 [] gLt (fCall [] [] m_left_over [] (fACons [] (fVar 0) (fACons [] (fVar 1) (fANil)))) (fC (.int 0)))) (gRet [] (fTup [] (fACons [] (fC (.str "amount")) (fANil)))) (gNx)) (gSeq (gFor [12, 7, 12] (fR1 (fACons [] (fN gLenU (fACons [] (fVar 4) fANil)) fANil)) (fNm 12) gbPt) (gRet [] (fC .non))))))) := rfl
  rcases gone_for qs xs ps with ⟨p, h⟩ | ⟨hq, h⟩
  · have e1 := h [some (sp3 ps os ws), some (coinsT qs xs), some (.v (.int wg)), some (.fz .tup (ps.map nmT)), some (.fz .tup os), some (.fz .tup ws), none, none, none, none] rfl (by simp)
    have e2 := h [some (sp3 ps os ws), some (coinsT qs xs), some (.v (.int wg)), some (.fz .tup (ps.map nmT)), some (.fz .tup os), some (.fz .tup ws), none, none, none, none, none, none, none] rfl (by simp)
    refine ⟨.fz .tup [.v (.str "gone"), nmT p], rfl, (ShD.tup (.cons ((ShD.str cl_gone).up (by decide)) (.cons (nm_sh p) .nil))).up (n := 3) (by decide), .inr ⟨_, rfl⟩, fun z => (nomatch z), ap_rs ((ap_run rfl).trans ?_) rfl, ap_rs ((ap_run rfl).trans ?_) rfl⟩
    · rw [hg1]
      have hsp : sp3 ps os ws = .fz .tup [.fz .tup (ps.map nmT), .fz .tup os, .fz .tup ws] := rfl
      rw [hsp] at e1 ⊢
      generalize nmT p = tp0 at *
      generalize ps.map nmT = PL at *
      generalize coinsT qs xs = CT at *
      simp [startG, sqf, q1, e1, hcp, outAt, -List.all_eq_true]
    · rw [hg2]
      have hsp : sp3 ps os ws = .fz .tup [.fz .tup (ps.map nmT), .fz .tup os, .fz .tup ws] := rfl
      rw [hsp] at e2 ⊢
      generalize nmT p = tp0 at *
      generalize ps.map nmT = PL at *
      generalize coinsT qs xs = CT at *
      simp [startG, sqf, q1, e2, hcp, outAt, -List.all_eq_true]
  · obtain ⟨oL, hoL, e1⟩ := h [some (sp3 ps os ws), some (coinsT qs xs), some (.v (.int wg)), some (.fz .tup (ps.map nmT)), some (.fz .tup os), some (.fz .tup ws), none, none, none, none] rfl (by simp)
    obtain ⟨oP, hoP, e2⟩ := h [some (sp3 ps os ws), some (coinsT qs xs), some (.v (.int wg)), some (.fz .tup (ps.map nmT)), some (.fz .tup os), some (.fz .tup ws), none, none, none, none, none, none, none] rfl (by simp)
    have opL : OP oL := hoL.elim id fun z t ht => by rw [z] at ht; cases ht
    have tn1 : (ps.length : Int).toNat = ps.length := by omega
    have tn2 : (os.length : Int).toNat = os.length := by omega
    have lp : (ps.map nmT).length = ps.length := List.length_map _
    have b1 : (ps.length : Int) ≤ 1000000 := by omega
    have b2 : (-1000000 : Int) ≤ ps.length := by omega
    have b3 : (os.length : Int) ≤ 1000000 := by omega
    have b4 : (-1000000 : Int) ≤ os.length := by omega
    have hsp : sp3 ps os ws = .fz .tup [.fz .tup (ps.map nmT), .fz .tup os, .fz .tup ws] := rfl
    rcases wit_loop hc ps os ws hq G.hw wg (mixV L) ⟨by omega, mr.2⟩ (List.range ps.length) (fun j m => by have := List.mem_range.mp m; omega) with ⟨r, w1, w2⟩ | ⟨w1, w2⟩
    · refine ⟨.fz .tup [.v (.str "witness"), .v (.int r)], rfl, (ShD.v2 cl_witness r).up (by decide), .inr ⟨_, rfl⟩, fun z => (nomatch z), ap_rs ((ap_run rfl).trans ?_) rfl, ap_rs ((ap_run rfl).trans ?_) rfl⟩
      · obtain ⟨Γ', w3, w4, w5, w6⟩ := w1 oL none none
        rw [hg1]
        rw [hsp] at e1 w3 w4 ⊢
        generalize ps.map nmT = PL at *
        generalize coinsT qs xs = CT at *
        simp [startG, sqf, q1, e1, hv, hm', lp, b1, b2, rgT_is, tn1, w3, w4, w5, w6, hcp, outAt, -List.all_eq_true]
      · obtain ⟨Γ', w3, w4, w5, w6⟩ := w2 oP none none none none none
        rw [hg2]
        rw [hsp] at e2 w3 w4 hsn ⊢
        generalize ps.map nmT = PL at *
        generalize coinsT qs xs = CT at *
        simp [startG, sqf, q1, e2, hsn, lp, b1, b2, rgT_is, tn1, w3, w4, w5, w6, hcp, outAt, -List.all_eq_true]
    · obtain ⟨o8, w3⟩ := w1 oL none none
      obtain ⟨p8, p9, p10, p11, w4⟩ := w2 oP none none none none none
      have lo := left_ok hc ps os ws hq G.ho (by omega) (by omega)
      obtain ⟨x1, y1⟩ := lc_out 9 os G.ho [some (sp3 ps os ws), some (coinsT qs xs), some (.v (.int wg)), some (.fz .tup (ps.map nmT)), some (.fz .tup os), some (.fz .tup ws), oL, some (.v (.int (mixV L))), o8, none] [] (by simp)
      obtain ⟨x2, y2⟩ := lc_am hc 1 6 (by decide) ps hq [some (sp3 ps os ws), some (coinsT qs xs), some (.v (.int wg)), some (.fz .tup (ps.map nmT)), some (.fz .tup os), some (.fz .tup ws), oL, some (.v (.int (mixV L))), o8, none] [] rfl (by simp)
      have e0 : inL [] = [] := rfl
      rw [e0, List.nil_append] at y1 y2
      have g1 := gSum_in (ps.map (aOf qs xs))
      have g2 := gSum_in (os.map oAm)
      generalize (ps.map (aOf qs xs)).sum = A at *
      generalize (os.map oAm).sum = O at *
      have k1 : ps.length ≤ 10000 := by omega
      have k2 : os.length ≤ 10000 := by omega
      by_cases hAO : A < O
      · have hl : A - O < 0 := by omega
        refine ⟨.fz .tup [.v (.str "amount")], rfl, (ShD.tup (.cons (.str cl_amount) .nil)).up (n := 2) (by decide), .inr ⟨_, rfl⟩, fun z => (nomatch z), ap_rs ((ap_run rfl).trans ?_) rfl, ap_rs ((ap_run rfl).trans ?_) rfl⟩
        · rw [hg1]
          rw [hsp] at e1 w3 y1 y2 ⊢
          generalize ps.map nmT = PL at *
          generalize coinsT qs xs = CT at *
          cases oL with
          | none => simp [startG, sqf, q1, q2, e1, hv, hm', lp, b1, b2, rgT_is, tn1, w3, k1, k2, persVs, y1, y2, g1, g2, rstG, hAO, hcp, outAt, -List.all_eq_true]
          | some t =>
            have ht := opL t rfl
            simp [startG, sqf, q1, q2, e1, hv, hm', lp, b1, b2, rgT_is, tn1, w3, k1, k2, persVs, y1, y2, g1, g2, rstG, hAO, hcp, ht, outAt, -List.all_eq_true]
        · rw [hg2]
          rw [hsp] at e2 w4 hsn lo ⊢
          generalize ps.map nmT = PL at *
          generalize coinsT qs xs = CT at *
          simp [startG, sqf, q1, e2, hsn, lp, b1, b2, rgT_is, tn1, w4, lo, hl, hcp, outAt, -List.all_eq_true]
      · have hl : ¬ A - O < 0 := by omega
        rcases there_loop qs xs (sp3 ps os ws) (.v (.int wg)) (.fz .tup (ps.map nmT)) (.fz .tup os) (.fz .tup ws) rfl rfl (mixV L) (List.range os.length) with ⟨r, t1, t2⟩ | ⟨t1, t2⟩
        · refine ⟨.fz .tup [.v (.str "there"), nmT (mixV L, r)], rfl, (ShD.tup (.cons ((ShD.str cl_there).up (by decide)) (.cons (nm_sh _) .nil))).up (n := 3) (by decide), .inr ⟨_, rfl⟩, fun z => (nomatch z), ap_rs ((ap_run rfl).trans ?_) rfl, ap_rs ((ap_run rfl).trans ?_) rfl⟩
          · obtain ⟨Γ', t3, t4, t5, t6⟩ := t1 oL o8 none
            rw [hg1]
            rw [hsp] at e1 w3 y1 y2 t3 t4 ⊢
            generalize nmT (mixV L, r) = tp0 at *
            generalize ps.map nmT = PL at *
            generalize coinsT qs xs = CT at *
            cases oL with
            | none => simp [startG, sqf, q1, q2, e1, hv, hm', lp, b1, b2, b3, b4, rgT_is, tn1, tn2, w3, k1, k2, persVs, y1, y2, g1, g2, rstG, hAO, hcp, t3, t4, t5, t6, outAt, -List.all_eq_true]
            | some t =>
              have ht := opL t rfl
              simp [startG, sqf, q1, q2, e1, hv, hm', lp, b1, b2, b3, b4, rgT_is, tn1, tn2, w3, k1, k2, persVs, y1, y2, g1, g2, rstG, hAO, hcp, t3, t4, t5, t6, ht, outAt, -List.all_eq_true]
          · obtain ⟨Γ', t3, t4, t5, t6⟩ := t2 oP p8 p9 p10 p11 none
            rw [hg2]
            rw [hsp] at e2 w4 hsn lo t3 t4 ⊢
            generalize nmT (mixV L, r) = tp0 at *
            generalize ps.map nmT = PL at *
            generalize coinsT qs xs = CT at *
            simp [startG, sqf, q1, e2, hsn, lp, b1, b2, b3, b4, rgT_is, tn1, tn2, w4, lo, hl, hcp, t3, t4, t5, t6, outAt, -List.all_eq_true]
        · refine ⟨.v .non, rfl, ShD.non.up (by decide), .inl rfl, fun _ => hq, ap_rs ((ap_run rfl).trans ?_) rfl, ap_rs ((ap_run rfl).trans ?_) rfl⟩
          · obtain ⟨z8, t3⟩ := t1 oL o8 none
            rw [hg1]
            rw [hsp] at e1 w3 y1 y2 t3 ⊢
            generalize ps.map nmT = PL at *
            generalize coinsT qs xs = CT at *
            cases oL with
            | none => simp [startG, sqf, q1, q2, e1, hv, hm', lp, b1, b2, b3, b4, rgT_is, tn1, tn2, w3, k1, k2, persVs, y1, y2, g1, g2, rstG, hAO, hcp, t3, outAt, -List.all_eq_true]
            | some t =>
              have ht := opL t rfl
              simp [startG, sqf, q1, q2, e1, hv, hm', lp, b1, b2, b3, b4, rgT_is, tn1, tn2, w3, k1, k2, persVs, y1, y2, g1, g2, rstG, hAO, hcp, t3, ht, outAt, -List.all_eq_true]
          · obtain ⟨z12, t3⟩ := t2 oP p8 p9 p10 p11 none
            rw [hg2]
            rw [hsp] at e2 w4 hsn lo t3 ⊢
            generalize ps.map nmT = PL at *
            generalize coinsT qs xs = CT at *
            simp [startG, sqf, q1, e2, hsn, lp, b1, b2, b3, b4, rgT_is, tn1, tn2, w4, lo, hl, hcp, t3, outAt, -List.all_eq_true]
end
end K33

set_option maxRecDepth 100000
namespace K33
section
open PySem L2 Vx PyProof.Rows
open Vx.Vp Vr Wd
theorem lc_amF {B : Int} {qs : List (Int × Int)} {xs : List T} (h : CO B qs xs) (c v : Nat) (hcv : c ≠ v) : ∀ (ps : List (Int × Int)) (Γ : Ge) (acc : List Int), Γ[c]? = some (some (coinsT qs xs)) → v < Γ.length → ∃ o',
    lcGo [] [v] (fNm v) (fT (f2 [] (gInU false) (fVar v) (fVar c))) (fIx [] gIxU (fIx [] gIxU (fVar c) (fVar v)) (fC (.int 0))) (ps.map nmT) Γ (inL acc) = some (Γ.set v o', inL (acc ++ (ps.filter fun p => decide (p ∈ qs)).map (aOf qs xs)))
  | [], Γ, acc, hc, hv => ⟨Γ[v], by simp [lcGo]⟩
  | p :: ps, Γ, acc, hc, hv => by
    have ic := in_coins false qs xs p
    have pp : (nmT p).pers = true := rfl
    have hcp : (coinsT qs xs).pers = false := rfl
    have g1 : ((Γ.set v none).set v (some (nmT p)))[c]? = some (some (coinsT qs xs)) := by rw [set_set', List.getElem?_set_ne (Ne.symm hcv)]; exact hc
    have g2 : ((Γ.set v none).set v (some (nmT p)))[v]? = some (some (nmT p)) := by rw [set_set', List.getElem?_set_self hv]
    have ev0 : fT (f2 [] (gInU false) (fVar v) (fVar c)) ((Γ.set v none).set v (some (nmT p))) = some ((Γ.set v none).set v (some (nmT p)), decide (p ∈ qs)) := by
      generalize (Γ.set v none).set v (some (nmT p)) = Γ1 at g1 g2 ⊢
      generalize nmT p = tp0 at *
      simp only [Bool.false_eq_true, if_false] at ic
      generalize coinsT qs xs = CT at *
      simp [g1, g2, hcp, pp, ic]
    rw [List.map_cons]
    by_cases m : p ∈ qs
    · obtain ⟨n, cd, mm, e, _, _⟩ := h.at' m
      obtain ⟨o', ih⟩ := lc_amF h c v hcv ps (Γ.set v (some (nmT p))) (acc ++ [aOf qs xs p]) (by rw [List.getElem?_set_ne (Ne.symm hcv)]; exact hc) (by rw [List.length_set]; exact hv)
      refine ⟨o', ?_⟩
      rw [set_set'] at ih
      have e1 : acc ++ ((p :: ps).filter fun p => decide (p ∈ qs)).map (aOf qs xs) = acc ++ [aOf qs xs p] ++ (ps.filter fun p => decide (p ∈ qs)).map (aOf qs xs) := by simp [m]
      rw [e1]
      have e2 : inL acc ++ [.v (.int (aOf qs xs p))] = inL (acc ++ [aOf qs xs p]) := by rw [← inL_app]; rfl
      have ev : fIx [] gIxU (fIx [] gIxU (fVar c) (fVar v)) (fC (.int 0)) ((Γ.set v none).set v (some (nmT p))) = some ((Γ.set v none).set v (some (nmT p)), .val (.v (.int (aOf qs xs p)))) := by
        simp only [coinT] at e
        generalize (Γ.set v none).set v (some (nmT p)) = Γ1 at g1 g2 ⊢
        generalize nmT p = tp0 at *
        simp [g1, g2, hcp, pp, e]
      unfold lcGo
      rw [wipe1]
      simp only [ap_fNm, Option.bind_some, ev0, m, decide_true, if_true, ev, ap_fzv, ap_fr0, Option.map_some, e2]
      rw [set_set']
      exact ih
    · obtain ⟨o', ih⟩ := lc_amF h c v hcv ps (Γ.set v (some (nmT p))) acc (by rw [List.getElem?_set_ne (Ne.symm hcv)]; exact hc) (by rw [List.length_set]; exact hv)
      refine ⟨o', ?_⟩
      rw [set_set'] at ih
      have e1 : acc ++ ((p :: ps).filter fun p => decide (p ∈ qs)).map (aOf qs xs) = acc ++ (ps.filter fun p => decide (p ∈ qs)).map (aOf qs xs) := by simp [m]
      rw [e1]
      unfold lcGo
      rw [wipe1]
      simp only [ap_fNm, Option.bind_some, ev0, m, decide_false, Bool.false_eq_true, if_false]
      rw [set_set']
      exact ih
def oCd (t : T) : T := match t with
  | .fz .tup [_, c] => c
  | _ => .v .non
def mkO (nm : Int) (os : List T) (j : Nat) : T := .fz .tup [nmT (nm, 0 + (j : Int)), .v (.int (oAm (os[j]?.getD (.v .non)))), oCd (os[j]?.getD (.v .non))]
theorem made_p (nm : Int) (os : List T) (ho : ∀ t ∈ os, OutOk t) : ∀ (js : List Nat), (∀ j ∈ js, j < os.length) → ∀ (acc : List T) (x0 o : Option T), ∃ o', lcGo [] [3] (fNm 3) (fun Γ => some (Γ, true)) (fTup [2] (fACons [] (fTup [1, 3] (fACons [] (fVar 1) (fACons [] (fVar 3) (fANil)))) (fACons [] (fIx [] gIxU (fIx [] gIxU (fVar 2) (fVar 3)) (fC (.int 0))) (fACons [] (fIx [] gIxU (fIx [] gIxU (fVar 2) (fVar 3)) (fC (.int 1))) (fANil))))) (rgL js)
    [x0, some (.v (.int nm)), some (.fz .tup os), o] acc = some ([x0, some (.v (.int nm)), some (.fz .tup os), o'], acc ++ js.map (mkO nm os))
  | [], _, acc, x0, o => ⟨o, by simp [lcGo, rgL]⟩
  | j :: js, h, acc, x0, o => by
    have hj := h j List.mem_cons_self
    have hx : os[j]? = some os[j] := List.getElem?_eq_getElem hj
    obtain ⟨a, c, e, _, _, hc⟩ := ho _ (List.getElem_mem hj)
    rw [e] at hx
    have ix := itm_at hx
    obtain ⟨o', ih⟩ := made_p nm os ho js (fun j' m => h j' (List.mem_cons_of_mem _ m)) (acc ++ [mkO nm os j]) x0 (some (.v (.int (0 + (j : Int)))))
    refine ⟨o', ?_⟩
    have hmk : mkO nm os j = .fz .tup [.fz .tup [.v (.int nm), .v (.int (0 + (j : Int)))], .v (.int a), c] := by
      unfold mkO
      rw [hx]
      rfl
    have hp := hc.pers
    have hf : frz c = some c := by cases hc <;> rfl
    have e1 : acc ++ (j :: js).map (mkO nm os) = acc ++ [mkO nm os j] ++ js.map (mkO nm os) := by simp
    rw [e1]
    rw [hmk] at ih ⊢
    simp only [rgL, oT, Int.zero_add] at ih ix ⊢
    generalize js.map (mkO nm os) = R at *
    simp [lcGo, wipeG, ix, sub_p hp, hp, hf] at ih ⊢
    exact ih
theorem made_l (nm : Int) (os : List T) (ho : ∀ t ∈ os, OutOk t) : ∀ (js : List Nat), (∀ j ∈ js, j < os.length) → ∀ (acc : List T) (x0 x1 x2 x3 x4 x5 x7 x8 x9 x10 x11 x13 o : Option T), ∃ o', lcGo [] [14] (fNm 14) (fun Γ => some (Γ, true)) (fTup [12] (fACons [] (fTup [6, 14] (fACons [] (fVar 6) (fACons [] (fVar 14) (fANil)))) (fACons [] (fIx [] gIxU (fIx [] gIxU (fVar 12) (fVar 14)) (fC (.int 0))) (fACons [] (fIx [] gIxU (fIx [] gIxU (fVar 12) (fVar 14)) (fC (.int 1))) (fANil))))) (rgL js)
    [x0, x1, x2, x3, x4, x5, some (.v (.int nm)), x7, x8, x9, x10, x11, some (.fz .tup os), x13, o] acc = some ([x0, x1, x2, x3, x4, x5, some (.v (.int nm)), x7, x8, x9, x10, x11, some (.fz .tup os), x13, o'], acc ++ js.map (mkO nm os))
  | [], _, acc, x0, x1, x2, x3, x4, x5, x7, x8, x9, x10, x11, x13, o => ⟨o, by simp [lcGo, rgL]⟩
  | j :: js, h, acc, x0, x1, x2, x3, x4, x5, x7, x8, x9, x10, x11, x13, o => by
    have hj := h j List.mem_cons_self
    have hx : os[j]? = some os[j] := List.getElem?_eq_getElem hj
    obtain ⟨a, c, e, _, _, hc⟩ := ho _ (List.getElem_mem hj)
    rw [e] at hx
    have ix := itm_at hx
    obtain ⟨o', ih⟩ := made_l nm os ho js (fun j' m => h j' (List.mem_cons_of_mem _ m)) (acc ++ [mkO nm os j]) x0 x1 x2 x3 x4 x5 x7 x8 x9 x10 x11 x13 (some (.v (.int (0 + (j : Int)))))
    refine ⟨o', ?_⟩
    have hmk : mkO nm os j = .fz .tup [.fz .tup [.v (.int nm), .v (.int (0 + (j : Int)))], .v (.int a), c] := by
      unfold mkO
      rw [hx]
      rfl
    have hp := hc.pers
    have hf : frz c = some c := by cases hc <;> rfl
    have e1 : acc ++ (j :: js).map (mkO nm os) = acc ++ [mkO nm os j] ++ js.map (mkO nm os) := by simp
    rw [e1]
    rw [hmk] at ih ⊢
    simp only [rgL, oT, Int.zero_add] at ih ix ⊢
    generalize js.map (mkO nm os) = R at *
    simp [lcGo, wipeG, ix, sub_p hp, hp, hf] at ih ⊢
    exact ih
theorem mkO_sh (nm : Int) (os : List T) (ho : ∀ t ∈ os, OutOk t) (j : Nat) (hj : j < os.length) : ShD 6 (mkO nm os j) := by
  have hx : os[j]? = some os[j] := List.getElem?_eq_getElem hj
  obtain ⟨a, c, e, _, _, hc⟩ := ho _ (List.getElem_mem hj)
  unfold mkO
  rw [hx, e]
  exact (ShD.tup (n := 4) (.cons ((nm_sh _).up (by decide)) (.cons ((ShD.int a).up (by decide)) (.cons (cd_sh hc) .nil)))).up (by decide)
theorem mkO_list (nm : Int) (os : List T) (ho : ∀ t ∈ os, OutOk t) : ShD 64 (.ow false .lst ((List.range os.length).map (mkO nm os))) := (ShD.lst (n := 6) (.all fun t m => by
  obtain ⟨j, hj, rfl⟩ := List.mem_map.mp m
  exact mkO_sh nm os ho j (List.mem_range.mp hj))).up (by decide)
theorem ints_sh (l : List Int) : ShD 64 (.ow false .lst (inL l)) := (ShD.lst (n := 1) (.all fun t m => by
  obtain ⟨j, hj, rfl⟩ := List.mem_map.mp m
  exact ShD.int j)).up (by decide)
theorem mkO_pers (nm : Int) (os : List T) (js : List Nat) : (js.map (mkO nm os)).all T.pers = true := all_pers fun t m => by
  obtain ⟨j, _, rfl⟩ := List.mem_map.mp m
  rfl
def gL5 : Ge → Option Out := (gSeq (gSet [] 12 (fIx [] gIxU (fVar 5) (fC (.int 1)))) (gIf (fT (f2 [14, 6, 14, 12] gNe (fN gList (fACons [] (fCall [] [] m_made_by [] (fACons [] (fVar 5) (fANil))) fANil)) (fLc [] [14, 6, 14, 12] [14] (fR1 (fACons [] (fN gLenU (fACons [] (fVar 12) fANil)) fANil)) (fNm 14) ((fun Γ => some (Γ, true))) (fTup [12] (fACons [] (fTup [6, 14] (fACons [] (fVar 6) (fACons [] (fVar 14) (fANil)))) (fACons [] (fIx [] gIxU (fIx [] gIxU (fVar 12) (fVar 14)) (fC (.int 0))) (fACons [] (fIx [] gIxU (fIx [] gIxU (fVar 12) (fVar 14)) (fC (.int 1))) (fANil)))))))) (gRet [] (fC (.bl false))) (gNx)))
def gL4 : Ge → Option Out := (gSeq (gSet [] 11 (f2 [13] Vx.gSub (fN gSum (fACons [] (fLc [] [13] [13] (fSrc (fIx [] gIxU (fVar 5) (fC (.int 0)))) (fNm 13) (fT (f2 [] (gInU false) (fVar 13) (fVar 3))) (fIx [] gIxU (fIx [] gIxU (fVar 3) (fVar 13)) (fC (.int 0)))) fANil)) (fN gSum (fACons [] (fLc [] [13] [13] (fSrc (fIx [] gIxU (fVar 5) (fC (.int 1)))) (fNm 13) ((fun Γ => some (Γ, true))) (fIx [] gIxU (fVar 13) (fC (.int 0)))) fANil)))) (gSeq (gIf (fAnd (fT (f2 [] (gIsN false) (fVar 9) (fC .non))) (fT (f2 [] gNe (fCall [] [] m_left_over [] (fACons [] (fVar 5) (fACons [] (fN gCp (fACons [] (fVar 3) fANil)) (fANil)))) (fVar 11)))) (gRet [] (fC (.bl false))) (gNx)) gL5))
def gL3 : Ge → Option Out := (gSeq (gSet [] 9 (fCall [] [] m__law_fault [] (fACons [] (fVar 5) (fACons [] (fVar 3) (fACons [] (fVar 4) (fANil)))))) (gSeq (gIf (fT (f2 [] gNe (fCall [] [] m_fault_of [] (fACons [] (fVar 5) (fACons [] (fN gCp (fACons [] (fVar 3) fANil)) (fACons [] (fVar 4) (fANil))))) (fVar 9))) (gRet [] (fC (.bl false))) (gNx)) (gSeq (gSet [] 10 (fN gCp (fACons [] (fVar 3) fANil))) (gSeq (gSt [10] [] [] [1, 6] gSetU (fTup [] (fACons [] (fC (.int 3)) (fACons [] (fTup [] (fACons [] (fC (.str "key")) (fACons [] (fC (.int 1)) (fANil)))) (fACons [] (fC (.int 0)) (fANil))))) (fVar 10) (fTup [6] (fACons [1] (fVar 6) (fACons [] (fCall [1] [0] m__law_next [] (fACons [] (fVar 1) (fACons [] (fN gLenU (fACons [] (fIx [] gIxU (fVar 5) (fC (.int 1))) fANil)) (fANil)))) (fANil))))) (gSeq (gIf (fT (f2 [] gNe (fCall [] [] m_fault_of [] (fACons [] (fVar 5) (fACons [] (fVar 10) (fACons [] (fVar 4) (fANil))))) (fCall [] [] m__law_fault [] (fACons [] (fVar 5) (fACons [] (fVar 10) (fACons [] (fVar 4) (fANil))))))) (gRet [] (fC (.bl false))) (gNx)) gL4)))))
def gL2 : Ge → Option Out := (gSeq (gSet [] 7 (f2 [] gAddU (fCall [] [] m__law_values [] (fACons [] (fIx [] gIxU (fVar 5) (fC (.int 0))) (fACons [] (fIx [] gIxU (fVar 5) (fC (.int 1))) (fANil)))) (fLst (fACons [] (fN gLenU (fACons [] (fIx [] gIxU (fVar 5) (fC (.int 2))) fANil)) (fANil))))) (gSeq (gFor [8, 7] (fSrc (fIx [] gIxU (fVar 5) (fC (.int 2)))) (fNm 8) (gSet [] 7 (f2 [] gAddU (fVar 7) (fCall [] [] m__law_flat_witness [] (fACons [] (fVar 8) (fANil)))))) (gSeq (gIf (fT (f2 [] gNe (fN gList (fACons [] (fCall [] [] m_flat_spending [] (fACons [] (fVar 5) (fANil))) fANil)) (fVar 7))) (gRet [] (fC (.bl false))) (gNx)) gL3)))
def gL1 : Ge → Option Out := (gSeq (gIf (fOr (fNot (fTr (fCall [] [] m_is_spending [] (fACons [] (fVar 5) (fANil))))) (fOr (fNot (fTr (fCall [] [] m__law_spoilt [] (fACons [] (fVar 5) (fANil))))) (fT (f2 [] gNe (fCall [] [] m_spending_name [] (fACons [] (fVar 5) (fANil))) (fVar 6))))) (gRet [] (fC (.bl false))) (gNx)) gL2)
def gL0 : Ge → Option Out := gSeq (gSet [] 3 (fCall [1] [0] m__law_coins [] (fACons [] (fVar 1) (fANil)))) (gSeq (gSet [] 4 (f2 [1] gAddU (fC (.int 4)) (fCall [1] [0] m__law_next [] (fACons [] (fVar 1) (fACons [] (fC (.int 16)) (fANil)))))) (gSeq (gSet [] 5 (fCall [1] [0] m__law_spending [] (fAConsV 1 (fACons [1] (fVar 3) (fACons [1] (fVar 4) (fACons [] (f2 [] gEq (fCall [1] [0] m__law_next [] (fACons [] (fVar 1) (fACons [] (fC (.int 2)) (fANil)))) (fC (.int 0))) (fANil))))))) (gSeq (gSet [] 6 (fCall [] [] m__law_mix [] (fACons [] (fCall [] [] m__law_values [] (fACons [] (fIx [] gIxU (fVar 5) (fC (.int 0))) (fACons [] (fIx [] gIxU (fVar 5) (fC (.int 1))) (fANil)))) (fANil)))) gL1)))
end
end K33

set_option maxRecDepth 100000
namespace K33
section
open PySem L2 Vx PyProof.Rows
open Vx.Vp Vr Wd
/-! ### copies of the coins: the hashes of small names differ -/
def all24 : List (Int × Int) := [1, 2, 3, 4, 5, 6].flatMap fun a => [0, 1, 2, 3].map fun b => (a, b)
theorem h24 : (all24.map fun p => tkH [p.1, p.2]).Nodup := by decide +kernel
theorem inj_of {α β : Type} {f : α → β} : ∀ {l : List α}, (l.map f).Nodup → ∀ {a b : α}, a ∈ l → b ∈ l → f a = f b → a = b
  | [], _, _, _, h, _, _ => by cases h
  | x :: l, nd, a, b, ha, hb, e => by
    rw [List.map_cons, List.nodup_cons] at nd
    rcases List.mem_cons.mp ha with e1 | ha'
    · rcases List.mem_cons.mp hb with e2 | hb'
      · rw [e1, e2]
      · exact absurd (List.mem_map.mpr ⟨b, hb', by rw [← e, e1]⟩) nd.1
    · rcases List.mem_cons.mp hb with e2 | hb'
      · exact absurd (List.mem_map.mpr ⟨a, ha', by rw [e, e2]⟩) nd.1
      · exact inj_of nd.2 ha' hb' e
theorem nd_of {α β : Type} {f : α → β} {m : List α} (hm : (m.map f).Nodup) : ∀ {l : List α}, l.Nodup → (∀ a ∈ l, a ∈ m) → (l.map f).Nodup
  | [], _, _ => .nil
  | a :: l, nd, h => by
    rw [List.nodup_cons] at nd
    rw [List.map_cons, List.nodup_cons]
    refine ⟨fun z => ?_, nd_of hm nd.2 fun x hx => h x (List.mem_cons_of_mem _ hx)⟩
    obtain ⟨b, hb, e⟩ := List.mem_map.mp z
    have := inj_of hm (h b (List.mem_cons_of_mem _ hb)) (h a List.mem_cons_self) e
    exact nd.1 (this ▸ hb)
theorem mem24 {p : Int × Int} (h : (1 ≤ p.1 ∧ p.1 ≤ 6) ∧ 0 ≤ p.2 ∧ p.2 ≤ 3) : p ∈ all24 := by
  obtain ⟨a, b⟩ := p
  obtain ⟨⟨h1, h2⟩, h3, h4⟩ := h
  dsimp only at h1 h2 h3 h4
  refine List.mem_flatMap.mpr ⟨a, ?_, List.mem_map.mpr ⟨b, ?_, rfl⟩⟩
  · rcases (by omega : a = 1 ∨ a = 2 ∨ a = 3 ∨ a = 4 ∨ a = 5 ∨ a = 6) with rfl | rfl | rfl | rfl | rfl | rfl <;> simp
  · rcases (by omega : b = 0 ∨ b = 1 ∨ b = 2 ∨ b = 3) with rfl | rfl | rfl | rfl <;> simp
theorem cp_coins {qs : List (Int × Int)} {xs : List T} (h : CO 6 qs xs) : gCp [coinsT qs xs] = some (coinsT qs xs) := by
  have e1 : qs.map kz = (qs.map fun q => [q.1, q.2]).map fun ns => ns.map Sum.inl := by rw [List.map_map]; rfl
  have e2 : ikeyss (qs.map kz) = some (qs.map fun q => [q.1, q.2]) := by rw [e1]; exact ikeyss_of _
  have nd : ((qs.map fun q => [q.1, q.2]).map tkH).Nodup := by
    rw [List.map_map]
    exact nd_of h24 h.nd fun p hp => mem24 (h.nm p hp)
  have g1 : gCpK [coinsT qs xs] = none := rfl
  have g2 : gCpT [coinsT qs xs] = some (coinsT qs xs) := by
    show (ikeyss (qs.map kz)).bind _ = _
    rw [e2, Option.bind_some, if_pos (by rw [h.pers, decide_eq_true nd]; rfl)]
    rfl
  unfold gCp gnEi
  rw [g1]
  exact g2
theorem CO.more {B B' : Int} {qs : List (Int × Int)} {xs : List T} (h : CO B qs xs) (k : B ≤ B') : CO B' qs xs := ⟨h.nd, fun q m => ⟨⟨(h.nm q m).1.1, Int.le_trans (h.nm q m).1.2 k⟩, (h.nm q m).2⟩, h.len, h.few, h.val⟩
theorem made_ok {ps : List (Int × Int)} {os ws : List T} (G : Good ps os ws) {nm : Int} (hn : runS m_spending_name [sp3 ps os ws] = some (.v (.int nm), [sp3 ps os ws])) :
    runS m_made_by [sp3 ps os ws] = some (.ow false .lst ((List.range os.length).map (mkO nm os)), [sp3 ps os ws]) := by
  have o4 := G.o4
  obtain ⟨o', e⟩ := made_p nm os G.ho (List.range os.length) (fun j m => List.mem_range.mp m) [] (some (sp3 ps os ws)) none
  rw [List.nil_append] at e
  have b3 : (os.length : Int) ≤ 1000000 := by omega
  have b4 : (-1000000 : Int) ≤ os.length := by omega
  have tn2 : (os.length : Int).toNat = os.length := by omega
  have lr : (rgL (List.range os.length)).length ≤ 10000 := by unfold rgL; rw [List.length_map, List.length_range]; omega
  refine ap_rs ((ap_run rfl).trans ?_) rfl
  unfold g_made_by
  have hsp : sp3 ps os ws = .fz .tup [.fz .tup (ps.map nmT), .fz .tup os, .fz .tup ws] := rfl
  rw [hsp] at e hn ⊢
  generalize (List.range os.length).map (mkO nm os) = R at *
  generalize ps.map nmT = PL at *
  simp [startG, hn, b3, b4, rgT_is, tn2, lr, persVs, e, rstG, outAt]
theorem l5 {ps : List (Int × Int)} {os ws : List T} (G : Good ps os ws) {nm : Int} (hn : runS m_spending_name [sp3 ps os ws] = some (.v (.int nm), [sp3 ps os ws])) (x0 x1 x2 x3 x4 x7 x8 x9 x10 x11 x12 : Option T) :
    gL5 [x0, x1, x2, x3, x4, some (sp3 ps os ws), some (.v (.int nm)), x7, x8, x9, x10, x11, x12, none, none] = some (.nx [x0, x1, x2, x3, x4, some (sp3 ps os ws), some (.v (.int nm)), x7, x8, x9, x10, x11, some (.fz .tup os), none, none]) := by
  have o4 := G.o4
  have hm := made_ok G hn
  obtain ⟨o', e⟩ := made_l nm os G.ho (List.range os.length) (fun j m => List.mem_range.mp m) [] x0 x1 x2 x3 x4 (some (sp3 ps os ws)) x7 x8 x9 x10 x11 none none
  rw [List.nil_append] at e
  have b3 : (os.length : Int) ≤ 1000000 := by omega
  have b4 : (-1000000 : Int) ≤ os.length := by omega
  have tn2 : (os.length : Int).toNat = os.length := by omega
  have lr : (rgL (List.range os.length)).length ≤ 10000 := by unfold rgL; rw [List.length_map, List.length_range]; omega
  have gn := gNe_self (mkO_list nm os G.ho)
  have gl := gListL (mkO_pers nm os (List.range os.length))
  have hsp : sp3 ps os ws = .fz .tup [.fz .tup (ps.map nmT), .fz .tup os, .fz .tup ws] := rfl
  unfold gL5
  rw [hsp] at e hm ⊢
  generalize (List.range os.length).map (mkO nm os) = R at *
  generalize ps.map nmT = PL at *
  simp [hm, gl, b3, b4, rgT_is, tn2, lr, persVs, e, gn, rstG]
theorem l4 {qs : List (Int × Int)} {xs : List T} (hc : CO 6 qs xs) {ps : List (Int × Int)} {os ws : List T} (G : Good ps os ws) {nm : Int} (hn : runS m_spending_name [sp3 ps os ws] = some (.v (.int nm), [sp3 ps os ws])) {r : T} (hr : r = .v .non ∨ ∃ ys, r = .fz .tup ys) (hq : r = .v .non → ∀ p ∈ ps, p ∈ qs) (x0 x1 x2 x4 x7 x8 x10 x11 x12 : Option T) : ∃ y11 y12,
    gL4 [x0, x1, x2, some (coinsT qs xs), x4, some (sp3 ps os ws), some (.v (.int nm)), x7, x8, some r, x10, x11, x12, none, none] = some (.nx [x0, x1, x2, some (coinsT qs xs), x4, some (sp3 ps os ws), some (.v (.int nm)), x7, x8, some r, x10, y11, y12, none, none]) := by
  have h4 := G.p4
  have o4 := G.o4
  obtain ⟨o1, e1⟩ := lc_amF hc 3 13 (by decide) ps [x0, x1, x2, some (coinsT qs xs), x4, some (sp3 ps os ws), some (.v (.int nm)), x7, x8, some r, x10, x11, x12, none, none] [] rfl (by simp)
  obtain ⟨o2, e2⟩ := lc_out 13 os G.ho [x0, x1, x2, some (coinsT qs xs), x4, some (sp3 ps os ws), some (.v (.int nm)), x7, x8, some r, x10, x11, x12, none, none] [] (by simp)
  have e0 : inL [] = [] := rfl
  rw [e0, List.nil_append] at e1 e2
  have g1 := gSum_in ((ps.filter fun p => decide (p ∈ qs)).map (aOf qs xs))
  have g2 := gSum_in (os.map oAm)
  have q1 := nmT_pers ps
  have q2 := all_pers fun t m => (G.ho t m).pers
  have k1 : (ps.map nmT).length ≤ 10000 := by rw [List.length_map]; omega
  have k2 : os.length ≤ 10000 := by omega
  have hcp : (coinsT qs xs).pers = false := rfl
  have cp := cp_coins hc
  have h5 := fun x11 => l5 G hn x0 x1 x2 (some (coinsT qs xs)) x4 x7 x8 (some r) x10 x11 x12
  have hsp : sp3 ps os ws = .fz .tup [.fz .tup (ps.map nmT), .fz .tup os, .fz .tup ws] := rfl
  refine ⟨some (.v (.int (((ps.filter fun p => decide (p ∈ qs)).map (aOf qs xs)).sum - (os.map oAm).sum))), some (.fz .tup os), ?_⟩
  unfold gL4
  rcases hr with rfl | ⟨ys, rfl⟩
  · have hall := hq rfl
    have lo := left_ok hc ps os ws hall G.ho (by omega) (by omega)
    have hf : (ps.filter fun p => decide (p ∈ qs)) = ps := List.filter_eq_self.mpr fun p m => decide_eq_true (hall p m)
    rw [hf] at e1 g1 ⊢
    generalize (ps.map (aOf qs xs)).sum = A at *
    generalize (os.map oAm).sum = O at *
    rw [hsp] at e1 e2 lo h5 ⊢
    generalize ps.map nmT = PL at *
    generalize coinsT qs xs = CT at *
    simp [sqf, q1, q2, k1, k2, persVs, e1, e2, g1, g2, rstG, hcp, cp, lo, gIsN, h5, -List.all_eq_true]
  · generalize ((ps.filter fun p => decide (p ∈ qs)).map (aOf qs xs)).sum = A at *
    generalize (os.map oAm).sum = O at *
    rw [hsp] at e1 e2 h5 ⊢
    generalize ps.map nmT = PL at *
    generalize coinsT qs xs = CT at *
    simp [sqf, q1, q2, k1, k2, persVs, e1, e2, g1, g2, rstG, hcp, gIsN, h5, -List.all_eq_true]
end
end K33

set_option maxRecDepth 100000
namespace K33
section
open PySem L2 Vx PyProof.Rows
open Vx.Vp Vr Wd
theorem l3 (cs : List Int) (i r s wg : Int) (hi : 0 ≤ i) {qs : List (Int × Int)} {xs : List T} (hc : CO 6 qs xs) (hz : qs.length ≤ 6) {ps : List (Int × Int)} {os ws : List T} (G : Good ps os ws) {nm : Int} (hnm : 1 ≤ nm ∧ nm ≤ MX) (hn : runS m_spending_name [sp3 ps os ws] = some (.v (.int nm), [sp3 ps os ws])) (x0 x2 x7 x8 x9 x10 x11 x12 : Option T) : ∃ i' r' s' y9 y10 y11 y12, 0 ≤ i' ∧
    gL3 [x0, some (tp cs i r s), x2, some (coinsT qs xs), some (.v (.int wg)), some (sp3 ps os ws), some (.v (.int nm)), x7, x8, x9, x10, x11, x12, none, none] = some (.nx [x0, some (tp cs i' r' s'), x2, some (coinsT qs xs), some (.v (.int wg)), some (sp3 ps os ws), some (.v (.int nm)), x7, x8, y9, y10, y11, y12, none, none]) := by
  obtain ⟨rr, rp, rsh, rk, rq, f1, f2⟩ := fault_ok hc G wg
  have o1 := G.o1
  have o4 := G.o4
  obtain ⟨i1, r1, s1, v, a1, b1, c1, e1⟩ := nx cs i r s os.length hi (by omega) (by omega)
  obtain ⟨qs', xs', hc', _, _, pt⟩ := (hc.more (B' := MX) (by decide)).put (p := (nm, v)) (x := coinT 3 (kw "key" 1) 0) ⟨hnm, b1, by show v ≤ 3; omega⟩ ⟨3, _, _, rfl, by decide, .key 1 (by decide) (by decide)⟩ (by omega)
  obtain ⟨r2, rp2, rsh2, _, _, f3, f4⟩ := fault_ok hc' G wg
  have n1 := gNe_self rsh
  have n2 := gNe_self rsh2
  have cp := cp_coins hc
  obtain ⟨y11, y12, e4⟩ := l4 hc G hn rk rq x0 (some (tp cs i1 r1 s1)) x2 (some (.v (.int wg))) x7 x8 (some (coinsT qs' xs')) x11 x12
  refine ⟨i1, r1, s1, some rr, some (coinsT qs' xs'), y11, y12, a1, ?_⟩
  have hcp : (coinsT qs xs).pers = false := rfl
  have hcp' : (coinsT qs' xs').pers = false := rfl
  have hsp : sp3 ps os ws = .fz .tup [.fz .tup (ps.map nmT), .fz .tup os, .fz .tup ws] := rfl
  unfold gL3
  simp only [coinT, kw, nmT] at pt
  rw [hsp] at f1 f2 f3 f4 e4 ⊢
  generalize ps.map nmT = PL at *
  generalize coinsT qs xs = CT at *
  generalize coinsT qs' xs' = CT' at *
  simp [f1, f2, rp, n1, cp, hcp, e1, pt, hcp', f3, f4, rp2, n2, e4]
theorem fsp_ok {ps : List (Int × Int)} {os ws : List T} (G : Good ps os ws) {L L2 : List Int} (hv : runS m_values_of [sp3 ps os ws] = some (.ow false .lst (inL L), [sp3 ps os ws])) (hl : L.length ≤ 2000)
    (h2 : ∀ a o : Option T, ∃ o', forGo (fNm 2) (gDrop (fMt [1] [] [] isLst gExt (fVar 1) (fACons [] (fCall [] [] m_flat_witness [] (fACons [] (fVar 2) fANil)) fANil))) ws [a, some (.ow false .lst (inL (L ++ [(ws.length : Int)]))), o] = some (.nx [a, some (.ow false .lst (inL L2)), o'])) :
    runS m_flat_spending [sp3 ps os ws] = some (.ow false .lst (inL L2), [sp3 ps os ws]) := by
  obtain ⟨o', e⟩ := h2 (some (sp3 ps os ws)) none
  have q3 := all_pers fun t m => (G.hw t m).pers
  have ap := appL L ws.length (by omega)
  refine ap_rs ((ap_run rfl).trans ?_) rfl
  have hsp : sp3 ps os ws = .fz .tup [.fz .tup (ps.map nmT), .fz .tup os, .fz .tup ws] := rfl
  unfold g_flat_spending
  rw [hsp] at e hv ⊢
  generalize ps.map nmT = PL at *
  generalize inL (L ++ [(ws.length : Int)]) = M1 at *
  generalize inL L = M0 at *
  simp [startG, hv, ap, sqf, q3, e, mvIn, outAt, -List.all_eq_true]
theorem l2 (cs : List Int) (i r s wg : Int) (hi : 0 ≤ i) {qs : List (Int × Int)} {xs : List T} (hc : CO 6 qs xs) (hz : qs.length ≤ 6) {ps : List (Int × Int)} {os ws : List T} (G : Good ps os ws) {nm : Int} (hnm : 1 ≤ nm ∧ nm ≤ MX) (hn : runS m_spending_name [sp3 ps os ws] = some (.v (.int nm), [sp3 ps os ws])) {L : List Int} (hL : InR L) (hl : L.length ≤ 2000)
    (hv : runS m__law_values [.fz .tup (ps.map nmT), .fz .tup os] = some (.ow false .lst (inL L), [.fz .tup (ps.map nmT), .fz .tup os])) (hv2 : runS m_values_of [sp3 ps os ws] = some (.ow false .lst (inL L), [sp3 ps os ws])) (x0 x2 x7 x8 x9 x10 x11 x12 : Option T) : ∃ i' r' s' y7 y8 y9 y10 y11 y12, 0 ≤ i' ∧
    gL2 [x0, some (tp cs i r s), x2, some (coinsT qs xs), some (.v (.int wg)), some (sp3 ps os ws), some (.v (.int nm)), x7, x8, x9, x10, x11, x12, none, none] = some (.nx [x0, some (tp cs i' r' s'), x2, some (coinsT qs xs), some (.v (.int wg)), some (sp3 ps os ws), some (.v (.int nm)), y7, y8, y9, y10, y11, y12, none, none]) := by
  have h4 := G.p4
  have wl := G.wl
  obtain ⟨L2, hL2, l2b, z1, z2⟩ := fls_for ws G.hw (L ++ [(ws.length : Int)]) (hL.app (one_r _ (by omega))) (by simp only [List.length_append, List.length_cons, List.length_nil]; omega)
  have fs := fsp_ok G hv2 hl z2
  obtain ⟨y8, z3⟩ := z1 x0 (some (tp cs i r s)) x2 (some (coinsT qs xs)) (some (.v (.int wg))) (some (sp3 ps os ws)) (some (.v (.int nm))) x8 x9 x10 x11 x12 none none
  obtain ⟨i', r', s', y9, y10, y11, y12, a, e⟩ := l3 cs i r s wg hi hc hz G hnm hn x0 x2 (some (.ow false .lst (inL L2))) y8 x9 x10 x11 x12
  have ad := addL L [(ws.length : Int)] (by simp only [List.length_cons, List.length_nil]; omega)
  have e1 : inL [(ws.length : Int)] = [.v (.int ws.length)] := rfl
  rw [e1] at ad
  have n1 := gNe_self (ints_sh L2)
  have gl := gListL (inL_pers L2)
  have q3 := all_pers fun t m => (G.hw t m).pers
  refine ⟨i', r', s', some (.ow false .lst (inL L2)), y8, y9, y10, y11, y12, a, ?_⟩
  have hcp : (coinsT qs xs).pers = false := rfl
  have hsp : sp3 ps os ws = .fz .tup [.fz .tup (ps.map nmT), .fz .tup os, .fz .tup ws] := rfl
  unfold gL2
  rw [hsp] at fs z3 e ⊢
  generalize ps.map nmT = PL at *
  generalize coinsT qs xs = CT at *
  generalize inL (L ++ [(ws.length : Int)]) = M1 at *
  generalize inL L2 = M2 at *
  generalize inL L = M0 at *
  simp [hv, ad, sqf, q3, z3, fs, gl, n1, e, -List.all_eq_true]
theorem turn (cs : List Int) (i r s : Int) (hi : 0 ≤ i) (x0 x2 x3 x4 x5 x6 x7 x8 x9 x10 x11 x12 : Option T) : ∃ i' r' s' y3 y4 y5 y6 y7 y8 y9 y10 y11 y12, 0 ≤ i' ∧
    gL0 [x0, some (tp cs i r s), x2, x3, x4, x5, x6, x7, x8, x9, x10, x11, x12, none, none] = some (.nx [x0, some (tp cs i' r' s'), x2, y3, y4, y5, y6, y7, y8, y9, y10, y11, y12, none, none]) := by
  obtain ⟨i1, r1, s1, qs, xs, a1, hc, z1, z6, e1⟩ := coins_run cs i r s hi
  obtain ⟨i2, r2, s2, v, a2, b2, c2, e2⟩ := nx cs i1 r1 s1 16 a1 (by decide) (by decide)
  obtain ⟨i3, r3, s3, w, a3, b3, c3, e3⟩ := nx cs i2 r2 s2 2 a2 (by decide) (by decide)
  obtain ⟨i4, r4, s4, ps, os, ws, a4, G, e4⟩ := spend_run cs i3 r3 s3 (4 + v) (decide (w = 0)) a3 hc z1
  have h4 := G.p4
  have o4 := G.o4
  obtain ⟨L, hL, hLl, hv, hv2⟩ := vals ps os G.nm G.ho (by omega) (by omega)
  have hm' : runS m__law_mix [.ow false .lst (inL L)] = some (.v (.int (mixV L)), [.ow false .lst (inL L)]) := lmix_ok L (by omega)
  have hsn := spname (sp := sp3 ps os ws) rfl hL hLl (hv2 ws)
  have ig := isp_good G
  have ls := lspoilt G
  obtain ⟨i5, r5, s5, y7, y8, y9, y10, y11, y12, a5, e5⟩ := l2 cs i4 r4 s4 (4 + v) a4 hc z6 G (mixIn L) hsn hL hLl hv (hv2 ws) x0 x2 x7 x8 x9 x10 x11 x12
  refine ⟨i5, r5, s5, some (coinsT qs xs), some (.v (.int (4 + v))), some (sp3 ps os ws), some (.v (.int (mixV L))), y7, y8, y9, y10, y11, y12, a5, ?_⟩
  have hcp : (coinsT qs xs).pers = false := rfl
  have hsp : sp3 ps os ws = .fz .tup [.fz .tup (ps.map nmT), .fz .tup os, .fz .tup ws] := rfl
  unfold gL0 gL1
  rw [hsp] at e4 hsn ig ls e5 ⊢
  generalize ps.map nmT = PL at *
  generalize coinsT qs xs = CT at *
  generalize inL L = M0 at *
  simp [e1, e2, e3, e4, hcp, hv, hm', ig, ls, hsn, e5]
theorem turns (cs : List Int) : ∀ (ks : List T) (i r s : Int) (x0 x2 x3 x4 x5 x6 x7 x8 x9 x10 x11 x12 : Option T), 0 ≤ i → ∃ i' r' s' y2 y3 y4 y5 y6 y7 y8 y9 y10 y11 y12, 0 ≤ i' ∧
    forGo (fNm 2) gL0 ks [x0, some (tp cs i r s), x2, x3, x4, x5, x6, x7, x8, x9, x10, x11, x12, none, none] = some (.nx [x0, some (tp cs i' r' s'), y2, y3, y4, y5, y6, y7, y8, y9, y10, y11, y12, none, none])
  | [], i, r, s, x0, x2, x3, x4, x5, x6, x7, x8, x9, x10, x11, x12, hi => ⟨i, r, s, x2, x3, x4, x5, x6, x7, x8, x9, x10, x11, x12, hi, rfl⟩
  | k :: ks, i, r, s, x0, x2, x3, x4, x5, x6, x7, x8, x9, x10, x11, x12, hi => by
    obtain ⟨i1, r1, s1, y3, y4, y5, y6, y7, y8, y9, y10, y11, y12, a1, e1⟩ := turn cs i r s hi x0 (some k) x3 x4 x5 x6 x7 x8 x9 x10 x11 x12
    obtain ⟨i2, r2, s2, w2, w3, w4, w5, w6, w7, w8, w9, w10, w11, w12, a2, e2⟩ := turns cs ks i1 r1 s1 x0 (some k) y3 y4 y5 y6 y7 y8 y9 y10 y11 y12 a1
    exact ⟨i2, r2, s2, w2, w3, w4, w5, w6, w7, w8, w9, w10, w11, w12, a2, (forGo_nx (by rw [ap_fNm, Option.bind_some]; exact e1)).trans e2⟩
theorem plain (ns : List Int) (h : ns.length ≤ 63) : ∃ us, us.length = 1 ∧ m_law [scT ns] = some (.ret (.v (.bl true)), us) := by
  obtain ⟨i', r', s', y2, y3, y4, y5, y6, y7, y8, y9, y10, y11, y12, _, e⟩ := turns ns (rgT 0 3) 0 0 11 (some (scT ns)) none none none none none none none none none none none (Int.le_refl 0)
  refine ⟨[scT ns], rfl, (ap_run rfl).trans ?_⟩
  have hg : g_law = gSeq (gSet [] 1 (fLst (fACons [] (fN gList (fACons [] (fVar 0) fANil)) (fACons [] (fC (.int 0)) (fACons [] (fC (.int 0)) (fACons [] (fC (.int 11)) (fANil))))))) (gSeq (gFor [2, 1, 3, 4, 5, 6, 7, 8, 9, 10, 11, 12, 13, 14] (fR1 (fACons [] (fC (.int 3)) fANil)) (fNm 2) gL0) (gRet [] (fC (.bl true)))) := rfl
  have hlist : gList [scT ns] = some (.ow false .lst (ns.map fun i => .v (.int i))) := by
    show (if (inL ns).all T.pers = true then some (T.ow false .lst (inL ns)) else none) = _
    rw [if_pos (inL_pers ns)]
    rfl
  have hp : (scT ns).pers = true := rfl
  have htp : T.ow false .lst [T.ow false .lst (ns.map fun i => T.v (.int i)), .v (.int 0), .v (.int 0), .v (.int 11)] = tp ns 0 0 11 := rfl
  have h3 : (3 : Int).toNat = 3 := rfl
  rw [hg]
  generalize scT ns = SC at *
  simp [startG, hlist, hp, htp, e, outAt]
end
end K33

set_option maxRecDepth 100000
set_option maxHeartbeats 0
namespace K33
open PySem L2 Vx PyProof.Rows
theorem all_mk {P : Program} {w : World} {K : PySem.W.Frag} {h : Heap} {mg : Str → Option Value} {fa : Addr} (LX : (∃ t, mg "MOST_AMOUNT" = some (.int 1099511627776 t)) ∧ (∃ t, mg "TOP" = some (.int 18446744073709551615 t))) (X : K.In h) (G : h.Ns mainGlobals mg) (hfa : mg "law" = some (.ref fa))
    {f0 f1 f2 f3 f4 f5 f6 f7 f8 f9 f10 f11 f12 f13 f14 f15 f16 f17 f18 f19 f20 f21 f22 f23 f24 f25 f26 f27 f28 f29 f30 f31 f32 f33 f34 f35 f36 f37 f38  X_NotValid : Addr} {od0 od1 od2 od3 od4 od5 od6 od7 od8 od9 od10 od11 od12 od13 od14 od15 od16 od17 od18 od19 od20 od21 od22 od23 od24 od25 od26 od27 od28 od29 od30 od31 od32 od33 od34 od35 od36 od37 od38 an0 an1 an2 an3 an4 an5 an6 an7 an8 an9 an10 an11 an12 an13 an14 an15 an16 an17 an18 an19 an20 an21 an22 an23 an24 an25 an26 an27 an28 an29 an30 an31 an32 an33 an34 an35 an36 an37 an38 : Option Addr} {sl0 sl1 sl2 sl3 sl4 sl5 sl6 sl7 sl8 sl9 sl10 sl11 sl12 sl13 sl14 sl15 sl16 sl17 sl18 sl19 sl20 sl21 sl22 sl23 sl24 sl25 sl26 sl27 sl28 sl29 sl30 sl31 sl32 sl33 sl34 sl35 sl36 sl37 sl38 : Array (Option Value)} {oc0 oc1 oc2 oc3 oc4 oc5 oc6 oc7 oc8 oc9 oc10 oc11 oc12 oc13 oc14 oc15 oc16 oc17 oc18 oc19 oc20 oc21 oc22 oc23 oc24 oc25 oc26 oc27 oc28 oc29 oc30 oc31 oc32 oc33 oc34 oc35 oc36 oc37 oc38 kV0 kV1 kV2 kV3 kV4 kV5 kV6 kV7 kV8 kV9 kV10 kV11 kV12 kV13 kV14 kV15 kV16 kV17 kV18 kV19 kV20 kV21 kV22 kV23 kV24 kV25 kV26 kV27 kV28 kV29 kV30 kV31 kV32 kV33 kV34 kV35 kV36 kV37 kV38 dc0 dc1 dc2 dc3 dc4 dc5 dc6 dc7 dc8 dc9 dc10 dc11 dc12 dc13 dc14 dc15 dc16 dc17 dc18 dc19 dc20 dc21 dc22 dc23 dc24 dc25 dc26 dc27 dc28 dc29 dc30 dc31 dc32 dc33 dc34 dc35 dc36 dc37 dc38 pm0 pm1 pm2 pm3 pm4 pm5 pm6 pm7 pm8 pm9 pm10 pm11 pm12 pm13 pm14 pm15 pm16 pm17 pm18 pm19 pm20 pm21 pm22 pm23 pm24 pm25 pm26 pm27 pm28 pm29 pm30 pm31 pm32 pm33 pm34 pm35 pm36 pm37 pm38 cd0 cd1 cd2 cd3 cd4 cd5 cd6 cd7 cd8 cd9 cd10 cd11 cd12 cd13 cd14 cd15 cd16 cd17 cd18 cd19 cd20 cd21 cd22 cd23 cd24 cd25 cd26 cd27 cd28 cd29 cd30 cd31 cd32 cd33 cd34 cd35 cd36 cd37 cd38 ct0 ct1 ct2 ct3 ct4 ct5 ct6 ct7 ct8 ct9 ct10 ct11 ct12 ct13 ct14 ct15 ct16 ct17 ct18 ct19 ct20 ct21 ct22 ct23 ct24 ct25 ct26 ct27 ct28 ct29 ct30 ct31 ct32 ct33 ct34 ct35 ct36 ct37 ct38 : Value} {t_DEPTH t_LAST t_MOST_AGE t_MOST_conditions t_MOST_spendings t_START t_STEP : Tok}
    (a0 : PySem.W.nsIn K mainGlobals "_law_next" = some (some (.ref f0)))
    (l0 : K.lookup f0 = some ⟨oc0, od0, .func (PySem.W.fnOf "_law_next" "_law_next" (defArgs s__law_next) (defBody s__law_next) (defScope s__law_next) .none kV0 dc0 pm0 an0 cd0 ct0), sl0⟩)
    (c0 : PySem.W.codeIn K cd0 "_law_next" = true)
    (k0 : PySem.W.keepIn K (.ref f0) = true)
    (a1 : PySem.W.nsIn K mainGlobals "_law_mix" = some (some (.ref f1)))
    (l1 : K.lookup f1 = some ⟨oc1, od1, .func (PySem.W.fnOf "_law_mix" "_law_mix" (defArgs s__law_mix) (defBody s__law_mix) (defScope s__law_mix) .none kV1 dc1 pm1 an1 cd1 ct1), sl1⟩)
    (c1 : PySem.W.codeIn K cd1 "_law_mix" = true)
    (k1 : PySem.W.keepIn K (.ref f1) = true)
    (a2 : PySem.W.nsIn K mainGlobals "_law_condition" = some (some (.ref f2)))
    (l2 : K.lookup f2 = some ⟨oc2, od2, .func (PySem.W.fnOf "_law_condition" "_law_condition" (defArgs s__law_condition) (defBody s__law_condition) (defScope s__law_condition) .none kV2 dc2 pm2 an2 cd2 ct2), sl2⟩)
    (c2 : PySem.W.codeIn K cd2 "_law_condition" = true)
    (k2 : PySem.W.keepIn K (.ref f2) = true)
    (a3 : PySem.W.nsIn K mainGlobals "_law_coins" = some (some (.ref f3)))
    (l3 : K.lookup f3 = some ⟨oc3, od3, .func (PySem.W.fnOf "_law_coins" "_law_coins" (defArgs s__law_coins) (defBody s__law_coins) (defScope s__law_coins) .none kV3 dc3 pm3 an3 cd3 ct3), sl3⟩)
    (c3 : PySem.W.codeIn K cd3 "_law_coins" = true)
    (k3 : PySem.W.keepIn K (.ref f3) = true)
    (a4 : PySem.W.nsIn K mainGlobals "_law_flat" = some (some (.ref f4)))
    (l4 : K.lookup f4 = some ⟨oc4, od4, .func (PySem.W.fnOf "_law_flat" "_law_flat" (defArgs s__law_flat) (defBody s__law_flat) (defScope s__law_flat) .none kV4 dc4 pm4 an4 cd4 ct4), sl4⟩)
    (c4 : PySem.W.codeIn K cd4 "_law_flat" = true)
    (k4 : PySem.W.keepIn K (.ref f4) = true)
    (a5 : PySem.W.nsIn K mainGlobals "_law_values" = some (some (.ref f5)))
    (l5 : K.lookup f5 = some ⟨oc5, od5, .func (PySem.W.fnOf "_law_values" "_law_values" (defArgs s__law_values) (defBody s__law_values) (defScope s__law_values) .none kV5 dc5 pm5 an5 cd5 ct5), sl5⟩)
    (c5 : PySem.W.codeIn K cd5 "_law_values" = true)
    (k5 : PySem.W.keepIn K (.ref f5) = true)
    (a6 : PySem.W.nsIn K mainGlobals "_law_witness" = some (some (.ref f6)))
    (l6 : K.lookup f6 = some ⟨oc6, od6, .func (PySem.W.fnOf "_law_witness" "_law_witness" (defArgs s__law_witness) (defBody s__law_witness) (defScope s__law_witness) .none kV6 dc6 pm6 an6 cd6 ct6), sl6⟩)
    (c6 : PySem.W.codeIn K cd6 "_law_witness" = true)
    (k6 : PySem.W.keepIn K (.ref f6) = true)
    (a7 : PySem.W.nsIn K mainGlobals "_law_spending" = some (some (.ref f7)))
    (l7 : K.lookup f7 = some ⟨oc7, od7, .func (PySem.W.fnOf "_law_spending" "_law_spending" (defArgs s__law_spending) (defBody s__law_spending) (defScope s__law_spending) .none kV7 dc7 pm7 an7 cd7 ct7), sl7⟩)
    (c7 : PySem.W.codeIn K cd7 "_law_spending" = true)
    (k7 : PySem.W.keepIn K (.ref f7) = true)
    (a8 : PySem.W.nsIn K mainGlobals "is_row_of" = some (some (.ref f8)))
    (l8 : K.lookup f8 = some ⟨oc8, od8, .func (PySem.W.fnOf "is_row_of" "is_row_of" (defArgs s_is_row_of) (defBody s_is_row_of) (defScope s_is_row_of) .none kV8 dc8 pm8 an8 cd8 ct8), sl8⟩)
    (c8 : PySem.W.codeIn K cd8 "is_row_of" = true)
    (k8 : PySem.W.keepIn K (.ref f8) = true)
    (a9 : PySem.W.nsIn K mainGlobals "is_number" = some (some (.ref f9)))
    (l9 : K.lookup f9 = some ⟨oc9, od9, .func (PySem.W.fnOf "is_number" "is_number" (defArgs s_is_number) (defBody s_is_number) (defScope s_is_number) .none kV9 dc9 pm9 an9 cd9 ct9), sl9⟩)
    (c9 : PySem.W.codeIn K cd9 "is_number" = true)
    (k9 : PySem.W.keepIn K (.ref f9) = true)
    (a10 : PySem.W.nsIn K mainGlobals "is_between" = some (some (.ref f10)))
    (l10 : K.lookup f10 = some ⟨oc10, od10, .func (PySem.W.fnOf "is_between" "is_between" (defArgs s_is_between) (defBody s_is_between) (defScope s_is_between) .none kV10 dc10 pm10 an10 cd10 ct10), sl10⟩)
    (c10 : PySem.W.codeIn K cd10 "is_between" = true)
    (k10 : PySem.W.keepIn K (.ref f10) = true)
    (a11 : PySem.W.nsIn K mainGlobals "is_name" = some (some (.ref f11)))
    (l11 : K.lookup f11 = some ⟨oc11, od11, .func (PySem.W.fnOf "is_name" "is_name" (defArgs s_is_name) (defBody s_is_name) (defScope s_is_name) .none kV11 dc11 pm11 an11 cd11 ct11), sl11⟩)
    (c11 : PySem.W.codeIn K cd11 "is_name" = true)
    (k11 : PySem.W.keepIn K (.ref f11) = true)
    (a12 : PySem.W.nsIn K mainGlobals "is_coin_name" = some (some (.ref f12)))
    (l12 : K.lookup f12 = some ⟨oc12, od12, .func (PySem.W.fnOf "is_coin_name" "is_coin_name" (defArgs s_is_coin_name) (defBody s_is_coin_name) (defScope s_is_coin_name) .none kV12 dc12 pm12 an12 cd12 ct12), sl12⟩)
    (c12 : PySem.W.codeIn K cd12 "is_coin_name" = true)
    (k12 : PySem.W.keepIn K (.ref f12) = true)
    (a13 : PySem.W.nsIn K mainGlobals "is_word" = some (some (.ref f13)))
    (l13 : K.lookup f13 = some ⟨oc13, od13, .func (PySem.W.fnOf "is_word" "is_word" (defArgs s_is_word) (defBody s_is_word) (defScope s_is_word) .none kV13 dc13 pm13 an13 cd13 ct13), sl13⟩)
    (c13 : PySem.W.codeIn K cd13 "is_word" = true)
    (k13 : PySem.W.keepIn K (.ref f13) = true)
    (a14 : PySem.W.nsIn K mainGlobals "is_rows" = some (some (.ref f14)))
    (l14 : K.lookup f14 = some ⟨oc14, od14, .func (PySem.W.fnOf "is_rows" "is_rows" (defArgs s_is_rows) (defBody s_is_rows) (defScope s_is_rows) .none kV14 dc14 pm14 an14 cd14 ct14), sl14⟩)
    (c14 : PySem.W.codeIn K cd14 "is_rows" = true)
    (k14 : PySem.W.keepIn K (.ref f14) = true)
    (a15 : PySem.W.nsIn K mainGlobals "fits_condition" = some (some (.ref f15)))
    (l15 : K.lookup f15 = some ⟨oc15, od15, .func (PySem.W.fnOf "fits_condition" "fits_condition" (defArgs s_fits_condition) (defBody s_fits_condition) (defScope s_fits_condition) .none kV15 dc15 pm15 an15 cd15 ct15), sl15⟩)
    (c15 : PySem.W.codeIn K cd15 "fits_condition" = true)
    (k15 : PySem.W.keepIn K (.ref f15) = true)
    (a16 : PySem.W.nsIn K mainGlobals "is_condition" = some (some (.ref f16)))
    (l16 : K.lookup f16 = some ⟨oc16, od16, .func (PySem.W.fnOf "is_condition" "is_condition" (defArgs s_is_condition) (defBody s_is_condition) (defScope s_is_condition) .none kV16 dc16 pm16 an16 cd16 ct16), sl16⟩)
    (c16 : PySem.W.codeIn K cd16 "is_condition" = true)
    (k16 : PySem.W.keepIn K (.ref f16) = true)
    (a17 : PySem.W.nsIn K mainGlobals "is_output" = some (some (.ref f17)))
    (l17 : K.lookup f17 = some ⟨oc17, od17, .func (PySem.W.fnOf "is_output" "is_output" (defArgs s_is_output) (defBody s_is_output) (defScope s_is_output) .none kV17 dc17 pm17 an17 cd17 ct17), sl17⟩)
    (c17 : PySem.W.codeIn K cd17 "is_output" = true)
    (k17 : PySem.W.keepIn K (.ref f17) = true)
    (a18 : PySem.W.nsIn K mainGlobals "is_value" = some (some (.ref f18)))
    (l18 : K.lookup f18 = some ⟨oc18, od18, .func (PySem.W.fnOf "is_value" "is_value" (defArgs s_is_value) (defBody s_is_value) (defScope s_is_value) .none kV18 dc18 pm18 an18 cd18 ct18), sl18⟩)
    (c18 : PySem.W.codeIn K cd18 "is_value" = true)
    (k18 : PySem.W.keepIn K (.ref f18) = true)
    (a19 : PySem.W.nsIn K mainGlobals "fits_witness" = some (some (.ref f19)))
    (l19 : K.lookup f19 = some ⟨oc19, od19, .func (PySem.W.fnOf "fits_witness" "fits_witness" (defArgs s_fits_witness) (defBody s_fits_witness) (defScope s_fits_witness) .none kV19 dc19 pm19 an19 cd19 ct19), sl19⟩)
    (c19 : PySem.W.codeIn K cd19 "fits_witness" = true)
    (k19 : PySem.W.keepIn K (.ref f19) = true)
    (a20 : PySem.W.nsIn K mainGlobals "is_witness" = some (some (.ref f20)))
    (l20 : K.lookup f20 = some ⟨oc20, od20, .func (PySem.W.fnOf "is_witness" "is_witness" (defArgs s_is_witness) (defBody s_is_witness) (defScope s_is_witness) .none kV20 dc20 pm20 an20 cd20 ct20), sl20⟩)
    (c20 : PySem.W.codeIn K cd20 "is_witness" = true)
    (k20 : PySem.W.keepIn K (.ref f20) = true)
    (a21 : PySem.W.nsIn K mainGlobals "is_spending" = some (some (.ref f21)))
    (l21 : K.lookup f21 = some ⟨oc21, od21, .func (PySem.W.fnOf "is_spending" "is_spending" (defArgs s_is_spending) (defBody s_is_spending) (defScope s_is_spending) .none kV21 dc21 pm21 an21 cd21 ct21), sl21⟩)
    (c21 : PySem.W.codeIn K cd21 "is_spending" = true)
    (k21 : PySem.W.keepIn K (.ref f21) = true)
    (a22 : PySem.W.nsIn K mainGlobals "_law_spoilt" = some (some (.ref f22)))
    (l22 : K.lookup f22 = some ⟨oc22, od22, .func (PySem.W.fnOf "_law_spoilt" "_law_spoilt" (defArgs s__law_spoilt) (defBody s__law_spoilt) (defScope s__law_spoilt) .none kV22 dc22 pm22 an22 cd22 ct22), sl22⟩)
    (c22 : PySem.W.codeIn K cd22 "_law_spoilt" = true)
    (k22 : PySem.W.keepIn K (.ref f22) = true)
    (a23 : PySem.W.nsIn K mainGlobals "mix" = some (some (.ref f23)))
    (l23 : K.lookup f23 = some ⟨oc23, od23, .func (PySem.W.fnOf "mix" "mix" (defArgs s_mix) (defBody s_mix) (defScope s_mix) .none kV23 dc23 pm23 an23 cd23 ct23), sl23⟩)
    (c23 : PySem.W.codeIn K cd23 "mix" = true)
    (k23 : PySem.W.keepIn K (.ref f23) = true)
    (a24 : PySem.W.nsIn K mainGlobals "flat_condition" = some (some (.ref f24)))
    (l24 : K.lookup f24 = some ⟨oc24, od24, .func (PySem.W.fnOf "flat_condition" "flat_condition" (defArgs s_flat_condition) (defBody s_flat_condition) (defScope s_flat_condition) .none kV24 dc24 pm24 an24 cd24 ct24), sl24⟩)
    (c24 : PySem.W.codeIn K cd24 "flat_condition" = true)
    (k24 : PySem.W.keepIn K (.ref f24) = true)
    (a25 : PySem.W.nsIn K mainGlobals "values_of" = some (some (.ref f25)))
    (l25 : K.lookup f25 = some ⟨oc25, od25, .func (PySem.W.fnOf "values_of" "values_of" (defArgs s_values_of) (defBody s_values_of) (defScope s_values_of) .none kV25 dc25 pm25 an25 cd25 ct25), sl25⟩)
    (c25 : PySem.W.codeIn K cd25 "values_of" = true)
    (k25 : PySem.W.keepIn K (.ref f25) = true)
    (a26 : PySem.W.nsIn K mainGlobals "spending_name" = some (some (.ref f26)))
    (l26 : K.lookup f26 = some ⟨oc26, od26, .func (PySem.W.fnOf "spending_name" "spending_name" (defArgs s_spending_name) (defBody s_spending_name) (defScope s_spending_name) .none kV26 dc26 pm26 an26 cd26 ct26), sl26⟩)
    (c26 : PySem.W.codeIn K cd26 "spending_name" = true)
    (k26 : PySem.W.keepIn K (.ref f26) = true)
    (a27 : PySem.W.nsIn K mainGlobals "_law_flat_witness" = some (some (.ref f27)))
    (l27 : K.lookup f27 = some ⟨oc27, od27, .func (PySem.W.fnOf "_law_flat_witness" "_law_flat_witness" (defArgs s__law_flat_witness) (defBody s__law_flat_witness) (defScope s__law_flat_witness) .none kV27 dc27 pm27 an27 cd27 ct27), sl27⟩)
    (c27 : PySem.W.codeIn K cd27 "_law_flat_witness" = true)
    (k27 : PySem.W.keepIn K (.ref f27) = true)
    (a28 : PySem.W.nsIn K mainGlobals "flat_witness" = some (some (.ref f28)))
    (l28 : K.lookup f28 = some ⟨oc28, od28, .func (PySem.W.fnOf "flat_witness" "flat_witness" (defArgs s_flat_witness) (defBody s_flat_witness) (defScope s_flat_witness) .none kV28 dc28 pm28 an28 cd28 ct28), sl28⟩)
    (c28 : PySem.W.codeIn K cd28 "flat_witness" = true)
    (k28 : PySem.W.keepIn K (.ref f28) = true)
    (a29 : PySem.W.nsIn K mainGlobals "flat_spending" = some (some (.ref f29)))
    (l29 : K.lookup f29 = some ⟨oc29, od29, .func (PySem.W.fnOf "flat_spending" "flat_spending" (defArgs s_flat_spending) (defBody s_flat_spending) (defScope s_flat_spending) .none kV29 dc29 pm29 an29 cd29 ct29), sl29⟩)
    (c29 : PySem.W.codeIn K cd29 "flat_spending" = true)
    (k29 : PySem.W.keepIn K (.ref f29) = true)
    (a30 : PySem.W.nsIn K mainGlobals "_law_met" = some (some (.ref f30)))
    (l30 : K.lookup f30 = some ⟨oc30, od30, .func (PySem.W.fnOf "_law_met" "_law_met" (defArgs s__law_met) (defBody s__law_met) (defScope s__law_met) .none kV30 dc30 pm30 an30 cd30 ct30), sl30⟩)
    (c30 : PySem.W.codeIn K cd30 "_law_met" = true)
    (k30 : PySem.W.keepIn K (.ref f30) = true)
    (a31 : PySem.W.nsIn K mainGlobals "_law_fault" = some (some (.ref f31)))
    (l31 : K.lookup f31 = some ⟨oc31, od31, .func (PySem.W.fnOf "_law_fault" "_law_fault" (defArgs s__law_fault) (defBody s__law_fault) (defScope s__law_fault) .none kV31 dc31 pm31 an31 cd31 ct31), sl31⟩)
    (c31 : PySem.W.codeIn K cd31 "_law_fault" = true)
    (k31 : PySem.W.keepIn K (.ref f31) = true)
    (a32 : PySem.W.nsIn K mainGlobals "token" = some (some (.ref f32)))
    (l32 : K.lookup f32 = some ⟨oc32, od32, .func (PySem.W.fnOf "token" "token" (defArgs s_token) (defBody s_token) (defScope s_token) .none kV32 dc32 pm32 an32 cd32 ct32), sl32⟩)
    (c32 : PySem.W.codeIn K cd32 "token" = true)
    (k32 : PySem.W.keepIn K (.ref f32) = true)
    (a33 : PySem.W.nsIn K mainGlobals "lock" = some (some (.ref f33)))
    (l33 : K.lookup f33 = some ⟨oc33, od33, .func (PySem.W.fnOf "lock" "lock" (defArgs s_lock) (defBody s_lock) (defScope s_lock) .none kV33 dc33 pm33 an33 cd33 ct33), sl33⟩)
    (c33 : PySem.W.codeIn K cd33 "lock" = true)
    (k33 : PySem.W.keepIn K (.ref f33) = true)
    (a34 : PySem.W.nsIn K mainGlobals "met" = some (some (.ref f34)))
    (l34 : K.lookup f34 = some ⟨oc34, od34, .func (PySem.W.fnOf "met" "met" (defArgs s_met) (defBody s_met) (defScope s_met) .none kV34 dc34 pm34 an34 cd34 ct34), sl34⟩)
    (c34 : PySem.W.codeIn K cd34 "met" = true)
    (k34 : PySem.W.keepIn K (.ref f34) = true)
    (a35 : PySem.W.nsIn K mainGlobals "left_over" = some (some (.ref f35)))
    (l35 : K.lookup f35 = some ⟨oc35, od35, .func (PySem.W.fnOf "left_over" "left_over" (defArgs s_left_over) (defBody s_left_over) (defScope s_left_over) .none kV35 dc35 pm35 an35 cd35 ct35), sl35⟩)
    (c35 : PySem.W.codeIn K cd35 "left_over" = true)
    (k35 : PySem.W.keepIn K (.ref f35) = true)
    (a36 : PySem.W.nsIn K mainGlobals "fault_of" = some (some (.ref f36)))
    (l36 : K.lookup f36 = some ⟨oc36, od36, .func (PySem.W.fnOf "fault_of" "fault_of" (defArgs s_fault_of) (defBody s_fault_of) (defScope s_fault_of) .none kV36 dc36 pm36 an36 cd36 ct36), sl36⟩)
    (c36 : PySem.W.codeIn K cd36 "fault_of" = true)
    (k36 : PySem.W.keepIn K (.ref f36) = true)
    (a37 : PySem.W.nsIn K mainGlobals "made_by" = some (some (.ref f37)))
    (l37 : K.lookup f37 = some ⟨oc37, od37, .func (PySem.W.fnOf "made_by" "made_by" (defArgs s_made_by) (defBody s_made_by) (defScope s_made_by) .none kV37 dc37 pm37 an37 cd37 ct37), sl37⟩)
    (c37 : PySem.W.codeIn K cd37 "made_by" = true)
    (k37 : PySem.W.keepIn K (.ref f37) = true)
    (a38 : PySem.W.nsIn K mainGlobals "law" = some (some (.ref f38)))
    (l38 : K.lookup f38 = some ⟨oc38, od38, .func (PySem.W.fnOf "law" "law" (defArgs s_law) (defBody s_law) (defScope s_law) .none kV38 dc38 pm38 an38 cd38 ct38), sl38⟩)
    (c38 : PySem.W.codeIn K cd38 "law" = true)
    (k38 : PySem.W.keepIn K (.ref f38) = true)
    (n_abs : PySem.W.nsIn K mainGlobals "abs" = some none)
    (n_all : PySem.W.nsIn K mainGlobals "all" = some none)
    (n_bool : PySem.W.nsIn K mainGlobals "bool" = some none)
    (n_dict : PySem.W.nsIn K mainGlobals "dict" = some none)
    (n_int : PySem.W.nsIn K mainGlobals "int" = some none)
    (n_isinstance : PySem.W.nsIn K mainGlobals "isinstance" = some none)
    (n_len : PySem.W.nsIn K mainGlobals "len" = some none)
    (n_list : PySem.W.nsIn K mainGlobals "list" = some none)
    (n_max : PySem.W.nsIn K mainGlobals "max" = some none)
    (n_range : PySem.W.nsIn K mainGlobals "range" = some none)
    (n_sorted : PySem.W.nsIn K mainGlobals "sorted" = some none)
    (n_str : PySem.W.nsIn K mainGlobals "str" = some none)
    (n_sum : PySem.W.nsIn K mainGlobals "sum" = some none)
    (n_tuple : PySem.W.nsIn K mainGlobals "tuple" = some none)
    (v_DEPTH : PySem.W.nsIn K mainGlobals "DEPTH" = some (some (.int 3 t_DEPTH)))
    (v_LAST : PySem.W.nsIn K mainGlobals "LAST" = some (some (.int 11400714819323198485 t_LAST)))
    (v_MOST_AGE : PySem.W.nsIn K mainGlobals "MOST_AGE" = some (some (.int 1000 t_MOST_AGE)))
    (v_MOST_conditions : PySem.W.nsIn K mainGlobals "MOST_conditions" = some (some (.int 4 t_MOST_conditions)))
    (v_MOST_spendings : PySem.W.nsIn K mainGlobals "MOST_spendings" = some (some (.int 4 t_MOST_spendings)))
    (v_START : PySem.W.nsIn K mainGlobals "START" = some (some (.int 1469598103934665603 t_START)))
    (v_STEP : PySem.W.nsIn K mainGlobals "STEP" = some (some (.int 1099511628211 t_STEP)))
    (xa_NotValid : PySem.W.nsIn K mainGlobals "NotValid" = some (some (.ref X_NotValid)))
    (xq_NotValid : PySem.W.excIn K X_NotValid [.type "ValueError", .type "Exception", .type "BaseException", .type "object"] "ValueError.__new__" = true)
    (xk_NotValid : PySem.W.keepIn K (.ref X_NotValid) = true)
    (xb_NotValid : PySem.W.subIn K (.ref X_NotValid) (.type "BaseException") = some true)
    (xt_NotValid : PySem.W.typeIn K (.ref X_NotValid) = some (.type "type"))
    (xi_NotValid : PySem.W.isClsIn K X_NotValid = true)
    (xs_NotValid : PySem.W.subIn K (.ref X_NotValid) (.ref X_NotValid) = some true)
    : ∃ fd : FuncData, (∀ (s : Shared) (v : Value), BindsTo s fd ⟨[v], []⟩ [("_law_script", v)]) ∧ ∀ base : Heap, K.In base → base.Ns mainGlobals mg → FnOk P w K mg base (L2.CX P w) 16 fa fd ["_law_script"] (spF K (fun _ => 0) .none [] m_law) := by
  have e := hfa.symm.trans (PySem.W.mg_of X G a38)
  cases e
  obtain ⟨⟨t_MOST_AMOUNT, w_MOST_AMOUNT⟩, ⟨t_TOP, w_TOP⟩⟩ := LX
  have T : Txt K mg X_NotValid t_DEPTH t_LAST t_MOST_AGE t_MOST_AMOUNT t_MOST_conditions t_MOST_spendings t_START t_STEP t_TOP := ⟨PySem.W.mg_none_of X G n_abs, PySem.W.mg_none_of X G n_all, PySem.W.mg_none_of X G n_bool, PySem.W.mg_none_of X G n_dict, PySem.W.mg_none_of X G n_int, PySem.W.mg_none_of X G n_isinstance, PySem.W.mg_none_of X G n_len, PySem.W.mg_none_of X G n_list, PySem.W.mg_none_of X G n_max, PySem.W.mg_none_of X G n_range, PySem.W.mg_none_of X G n_sorted, PySem.W.mg_none_of X G n_str, PySem.W.mg_none_of X G n_sum, PySem.W.mg_none_of X G n_tuple, PySem.W.mg_of X G v_DEPTH, PySem.W.mg_of X G v_LAST, PySem.W.mg_of X G v_MOST_AGE, w_MOST_AMOUNT, PySem.W.mg_of X G v_MOST_conditions, PySem.W.mg_of X G v_MOST_spendings, PySem.W.mg_of X G v_START, PySem.W.mg_of X G v_STEP, w_TOP, ⟨PySem.F.excBase_ValueError, xq_NotValid, PySem.W.mg_of X G xa_NotValid, xk_NotValid, xb_NotValid, xt_NotValid, exm_own xb_NotValid xi_NotValid xt_NotValid xs_NotValid⟩⟩
  have F0 := fun_mk (st := s__law_next) l0 c0 k0
  have F1 := fun_mk (st := s__law_mix) l1 c1 k1
  have F2 := fun_mk (st := s__law_condition) l2 c2 k2
  have F3 := fun_mk (st := s__law_coins) l3 c3 k3
  have F4 := fun_mk (st := s__law_flat) l4 c4 k4
  have F5 := fun_mk (st := s__law_values) l5 c5 k5
  have F6 := fun_mk (st := s__law_witness) l6 c6 k6
  have F7 := fun_mk (st := s__law_spending) l7 c7 k7
  have F8 := fun_mk (st := s_is_row_of) l8 c8 k8
  have F9 := fun_mk (st := s_is_number) l9 c9 k9
  have F10 := fun_mk (st := s_is_between) l10 c10 k10
  have F11 := fun_mk (st := s_is_name) l11 c11 k11
  have F12 := fun_mk (st := s_is_coin_name) l12 c12 k12
  have F13 := fun_mk (st := s_is_word) l13 c13 k13
  have F14 := fun_mk (st := s_is_rows) l14 c14 k14
  have F15 := fun_mk (st := s_fits_condition) l15 c15 k15
  have F16 := fun_mk (st := s_is_condition) l16 c16 k16
  have F17 := fun_mk (st := s_is_output) l17 c17 k17
  have F18 := fun_mk (st := s_is_value) l18 c18 k18
  have F19 := fun_mk (st := s_fits_witness) l19 c19 k19
  have F20 := fun_mk (st := s_is_witness) l20 c20 k20
  have F21 := fun_mk (st := s_is_spending) l21 c21 k21
  have F22 := fun_mk (st := s__law_spoilt) l22 c22 k22
  have F23 := fun_mk (st := s_mix) l23 c23 k23
  have F24 := fun_mk (st := s_flat_condition) l24 c24 k24
  have F25 := fun_mk (st := s_values_of) l25 c25 k25
  have F26 := fun_mk (st := s_spending_name) l26 c26 k26
  have F27 := fun_mk (st := s__law_flat_witness) l27 c27 k27
  have F28 := fun_mk (st := s_flat_witness) l28 c28 k28
  have F29 := fun_mk (st := s_flat_spending) l29 c29 k29
  have F30 := fun_mk (st := s__law_met) l30 c30 k30
  have F31 := fun_mk (st := s__law_fault) l31 c31 k31
  have F32 := fun_mk (st := s_token) l32 c32 k32
  have F33 := fun_mk (st := s_lock) l33 c33 k33
  have F34 := fun_mk (st := s_met) l34 c34 k34
  have F35 := fun_mk (st := s_left_over) l35 c35 k35
  have F36 := fun_mk (st := s_fault_of) l36 c36 k36
  have F37 := fun_mk (st := s_made_by) l37 c37 k37
  have F38 := fun_mk (st := s_law) l38 c38 k38
  have B0 := F0.binds (ps := ["_law_tape", "_law_many"]) fun _ _ _ _ _ _ us hl => match us, hl with | [_, _], _ => rfl
  have B1 := F1.binds (ps := ["_law_values_here"]) fun _ _ _ _ _ _ us hl => match us, hl with | [_], _ => rfl
  have B2 := F2.binds (ps := ["_law_tape", "_law_depth"]) fun _ _ _ _ _ _ us hl => match us, hl with | [_, _], _ => rfl
  have B3 := F3.binds (ps := ["_law_tape"]) fun _ _ _ _ _ _ us hl => match us, hl with | [_], _ => rfl
  have B4 := F4.binds (ps := ["_law_condition_here"]) fun _ _ _ _ _ _ us hl => match us, hl with | [_], _ => rfl
  have B5 := F5.binds (ps := ["_law_inputs", "_law_outputs"]) fun _ _ _ _ _ _ us hl => match us, hl with | [_, _], _ => rfl
  have B6 := F6.binds (ps := ["_law_tape", "_law_condition_here", "_law_name", "_law_age", "_law_good"]) fun _ _ _ _ _ _ us hl => match us, hl with | [_, _, _, _, _], _ => rfl
  have B7 := F7.binds (ps := ["_law_tape", "_law_coins_here", "_law_weight", "_law_good"]) fun _ _ _ _ _ _ us hl => match us, hl with | [_, _, _, _], _ => rfl
  have B8 := F8.binds (ps := ["value", "least"]) fun _ _ _ _ _ _ us hl => match us, hl with | [_, _], _ => rfl
  have B9 := F9.binds (ps := ["value"]) fun _ _ _ _ _ _ us hl => match us, hl with | [_], _ => rfl
  have B10 := F10.binds (ps := ["value", "least", "most"]) fun _ _ _ _ _ _ us hl => match us, hl with | [_, _, _], _ => rfl
  have B11 := F11.binds (ps := ["value"]) fun _ _ _ _ _ _ us hl => match us, hl with | [_], _ => rfl
  have B12 := F12.binds (ps := ["value"]) fun _ _ _ _ _ _ us hl => match us, hl with | [_], _ => rfl
  have B13 := F13.binds (ps := ["value", "word", "many"]) fun _ _ _ _ _ _ us hl => match us, hl with | [_, _, _], _ => rfl
  have B14 := F14.binds (ps := ["value"]) fun _ _ _ _ _ _ us hl => match us, hl with | [_], _ => rfl
  have B15 := F15.binds (ps := ["value", "depth"]) fun _ _ _ _ _ _ us hl => match us, hl with | [_, _], _ => rfl
  have B16 := F16.binds (ps := ["value"]) fun _ _ _ _ _ _ us hl => match us, hl with | [_], _ => rfl
  have B17 := F17.binds (ps := ["value"]) fun _ _ _ _ _ _ us hl => match us, hl with | [_], _ => rfl
  have B18 := F18.binds (ps := ["value"]) fun _ _ _ _ _ _ us hl => match us, hl with | [_], _ => rfl
  have B19 := F19.binds (ps := ["value", "depth"]) fun _ _ _ _ _ _ us hl => match us, hl with | [_, _], _ => rfl
  have B20 := F20.binds (ps := ["value"]) fun _ _ _ _ _ _ us hl => match us, hl with | [_], _ => rfl
  have B21 := F21.binds (ps := ["value"]) fun _ _ _ _ _ _ us hl => match us, hl with | [_], _ => rfl
  have B22 := F22.binds (ps := ["_law_spending_here"]) fun _ _ _ _ _ _ us hl => match us, hl with | [_], _ => rfl
  have B23 := F23.binds (ps := ["values"]) fun _ _ _ _ _ _ us hl => match us, hl with | [_], _ => rfl
  have B24 := F24.binds (ps := ["condition"]) fun _ _ _ _ _ _ us hl => match us, hl with | [_], _ => rfl
  have B25 := F25.binds (ps := ["spending"]) fun _ _ _ _ _ _ us hl => match us, hl with | [_], _ => rfl
  have B26 := F26.binds (ps := ["spending"]) fun _ _ _ _ _ _ us hl => match us, hl with | [_], _ => rfl
  have B27 := F27.binds (ps := ["_law_witness_here"]) fun _ _ _ _ _ _ us hl => match us, hl with | [_], _ => rfl
  have B28 := F28.binds (ps := ["witness"]) fun _ _ _ _ _ _ us hl => match us, hl with | [_], _ => rfl
  have B29 := F29.binds (ps := ["spending"]) fun _ _ _ _ _ _ us hl => match us, hl with | [_], _ => rfl
  have B30 := F30.binds (ps := ["_law_condition_here", "_law_witness_here", "_law_name", "_law_age"]) fun _ _ _ _ _ _ us hl => match us, hl with | [_, _, _, _], _ => rfl
  have B31 := F31.binds (ps := ["_law_spending_here", "_law_coins_here", "_law_weight"]) fun _ _ _ _ _ _ us hl => match us, hl with | [_, _, _], _ => rfl
  have B32 := F32.binds (ps := ["public", "name"]) fun _ _ _ _ _ _ us hl => match us, hl with | [_, _], _ => rfl
  have B33 := F33.binds (ps := ["value"]) fun _ _ _ _ _ _ us hl => match us, hl with | [_], _ => rfl
  have B34 := F34.binds (ps := ["condition", "witness", "name", "age"]) fun _ _ _ _ _ _ us hl => match us, hl with | [_, _, _, _], _ => rfl
  have B35 := F35.binds (ps := ["spending", "coins"]) fun _ _ _ _ _ _ us hl => match us, hl with | [_, _], _ => rfl
  have B36 := F36.binds (ps := ["spending", "coins", "weight"]) fun _ _ _ _ _ _ us hl => match us, hl with | [_, _, _], _ => rfl
  have B37 := F37.binds (ps := ["spending"]) fun _ _ _ _ _ _ us hl => match us, hl with | [_], _ => rfl
  have B38 := F38.binds (ps := ["_law_script"]) fun _ _ _ _ _ _ us hl => match us, hl with | [_], _ => rfl
  refine ⟨PySem.W.fnOf "law" "law" (defArgs s_law) (defBody s_law) (defScope s_law) .none kV38 dc38 pm38 an38 cd38 ct38, fun s v => .of_eq rfl, fun base _ _ => ?_⟩
  have C0 : Cal P w K (fun _ => 0) mg base 1 "_law_next" .none [0] m__law_next [] := cal_of F0 sc__law_next (PySem.W.mg_of X G a0) B0 .nil perAll0 (b__law_next T )
  have C1 : Cal P w K (fun _ => 0) mg base 1 "_law_mix" .none [] m__law_mix [] := cal_of F1 sc__law_mix (PySem.W.mg_of X G a1) B1 .nil perAll0 (b__law_mix T )
  have D2 := cal_rec (P := P) (w := w) (cl := (fun _ => 0)) (mg := mg) (base := base) (C := .none) (A := [2, 3]) (M := [0, 2, 3, 4]) (sem := r__law_condition) (k0 := 1) (g := g__law_condition) F2 sc__law_condition (PySem.W.mg_of X G a2) B2 .nil perAll0 (fun _ => rfl) (fun _ => rfl) fun n c => b__law_condition T C0 C1 (1 + n) (Nat.ble_eq_true_of_le (Nat.le_add_right 1 n)) c
  have C2 : Cal P w K (fun _ => 0) mg base 9 "_law_condition" .none [0] m__law_condition [] := D2 8
  have C3 : Cal P w K (fun _ => 0) mg base 10 "_law_coins" .none [0] m__law_coins [] := cal_of F3 sc__law_coins (PySem.W.mg_of X G a3) B3 .nil perAll0 (b__law_coins T C0 C2)
  have D4 := cal_rec (P := P) (w := w) (cl := (fun _ => 0)) (mg := mg) (base := base) (C := .none) (A := [1, 2, 3, 4]) (M := [1, 2, 3, 4]) (sem := r__law_flat) (k0 := 0) (g := g__law_flat) F4 sc__law_flat (PySem.W.mg_of X G a4) B4 .nil perAll0 (fun _ => rfl) (fun _ => rfl) fun n c => b__law_flat T  (0 + n) (Nat.ble_eq_true_of_le (Nat.le_add_right 0 n)) c
  have C4 : Cal P w K (fun _ => 0) mg base 8 "_law_flat" .none [] m__law_flat [] := D4 8
  have C5 : Cal P w K (fun _ => 0) mg base 9 "_law_values" .none [] m__law_values [] := cal_of F5 sc__law_values (PySem.W.mg_of X G a5) B5 .nil perAll0 (b__law_values T C4)
  have D6 := cal_rec (P := P) (w := w) (cl := (fun _ => 0)) (mg := mg) (base := base) (C := .none) (A := [5, 6, 7]) (M := [0, 2, 5, 6, 7, 8, 9]) (sem := r__law_witness) (k0 := 1) (g := g__law_witness) F6 sc__law_witness (PySem.W.mg_of X G a6) B6 .nil perAll0 (fun _ => rfl) (fun _ => rfl) fun n c => b__law_witness T C0 C1 (1 + n) (Nat.ble_eq_true_of_le (Nat.le_add_right 1 n)) c
  have C6 : Cal P w K (fun _ => 0) mg base 9 "_law_witness" .none [0, 2] m__law_witness [] := D6 8
  have C7 : Cal P w K (fun _ => 0) mg base 10 "_law_spending" .none [0] m__law_spending [] := cal_of F7 sc__law_spending (PySem.W.mg_of X G a7) B7 .nil perAll0 (b__law_spending T C0 C1 C5 C6)
  have C8 : Cal P w K (fun _ => 0) mg base 1 "is_row_of" .none [] m_is_row_of [] := cal_of F8 sc_is_row_of (PySem.W.mg_of X G a8) B8 .nil perAll0 (b_is_row_of T )
  have C9 : Cal P w K (fun _ => 0) mg base 1 "is_number" .none [] m_is_number [] := cal_of F9 sc_is_number (PySem.W.mg_of X G a9) B9 .nil perAll0 (b_is_number T )
  have C10 : Cal P w K (fun _ => 0) mg base 2 "is_between" .none [] m_is_between [] := cal_of F10 sc_is_between (PySem.W.mg_of X G a10) B10 .nil perAll0 (b_is_between T C9)
  have C11 : Cal P w K (fun _ => 0) mg base 3 "is_name" .none [] m_is_name [] := cal_of F11 sc_is_name (PySem.W.mg_of X G a11) B11 .nil perAll0 (b_is_name T C10)
  have C12 : Cal P w K (fun _ => 0) mg base 4 "is_coin_name" .none [] m_is_coin_name [] := cal_of F12 sc_is_coin_name (PySem.W.mg_of X G a12) B12 .nil perAll0 (b_is_coin_name T C11 C10)
  have C13 : Cal P w K (fun _ => 0) mg base 1 "is_word" .none [] m_is_word [] := cal_of F13 sc_is_word (PySem.W.mg_of X G a13) B13 .nil perAll0 (b_is_word T )
  have C14 : Cal P w K (fun _ => 0) mg base 1 "is_rows" .none [] m_is_rows [] := cal_of F14 sc_is_rows (PySem.W.mg_of X G a14) B14 .nil perAll0 (b_is_rows T )
  have D15 := cal_rec (P := P) (w := w) (cl := (fun _ => 0)) (mg := mg) (base := base) (C := .none) (A := []) (M := [2]) (sem := r_fits_condition) (k0 := 3) (g := g_fits_condition) F15 sc_fits_condition (PySem.W.mg_of X G a15) B15 .nil perAll0 (fun _ => rfl) (fun _ => rfl) fun n c => b_fits_condition T C13 C11 C10 C14 (3 + n) (Nat.ble_eq_true_of_le (Nat.le_add_right 3 n)) c
  have C15 : Cal P w K (fun _ => 0) mg base 11 "fits_condition" .none [] m_fits_condition [] := D15 8
  have C16 : Cal P w K (fun _ => 0) mg base 12 "is_condition" .none [] m_is_condition [] := cal_of F16 sc_is_condition (PySem.W.mg_of X G a16) B16 .nil perAll0 (b_is_condition T C15)
  have C17 : Cal P w K (fun _ => 0) mg base 13 "is_output" .none [] m_is_output [] := cal_of F17 sc_is_output (PySem.W.mg_of X G a17) B17 .nil perAll0 (b_is_output T C10 C16)
  have C18 : Cal P w K (fun _ => 0) mg base 3 "is_value" .none [] m_is_value [] := cal_of F18 sc_is_value (PySem.W.mg_of X G a18) B18 .nil perAll0 (b_is_value T C10)
  have D19 := cal_rec (P := P) (w := w) (cl := (fun _ => 0)) (mg := mg) (base := base) (C := .none) (A := []) (M := [2]) (sem := r_fits_witness) (k0 := 3) (g := g_fits_witness) F19 sc_fits_witness (PySem.W.mg_of X G a19) B19 .nil perAll0 (fun _ => rfl) (fun _ => rfl) fun n c => b_fits_witness T C13 C11 C18 C14 C10 (3 + n) (Nat.ble_eq_true_of_le (Nat.le_add_right 3 n)) c
  have C19 : Cal P w K (fun _ => 0) mg base 11 "fits_witness" .none [] m_fits_witness [] := D19 8
  have C20 : Cal P w K (fun _ => 0) mg base 12 "is_witness" .none [] m_is_witness [] := cal_of F20 sc_is_witness (PySem.W.mg_of X G a20) B20 .nil perAll0 (b_is_witness T C19)
  have C21 : Cal P w K (fun _ => 0) mg base 14 "is_spending" .none [] m_is_spending [] := cal_of F21 sc_is_spending (PySem.W.mg_of X G a21) B21 .nil perAll0 (b_is_spending T C8 C12 C17 C20)
  have C22 : Cal P w K (fun _ => 0) mg base 15 "_law_spoilt" .none [] m__law_spoilt [] := cal_of F22 sc__law_spoilt (PySem.W.mg_of X G a22) B22 .nil perAll0 (b__law_spoilt T C21)
  have C23 : Cal P w K (fun _ => 0) mg base 4 "mix" (.ref X_NotValid) [] m_mix [] := cal_of F23 sc_mix (PySem.W.mg_of X G a23) B23 .nil perAll0 (b_mix T C18)
  have D24 := cal_rec (P := P) (w := w) (cl := (fun _ => 0)) (mg := mg) (base := base) (C := .none) (A := [1, 2, 3, 4]) (M := [1, 2, 3, 4]) (sem := r_flat_condition) (k0 := 0) (g := g_flat_condition) F24 sc_flat_condition (PySem.W.mg_of X G a24) B24 .nil perAll0 (fun _ => rfl) (fun _ => rfl) fun n c => b_flat_condition T  (0 + n) (Nat.ble_eq_true_of_le (Nat.le_add_right 0 n)) c
  have C24 : Cal P w K (fun _ => 0) mg base 8 "flat_condition" .none [] m_flat_condition [] := D24 8
  have C25 : Cal P w K (fun _ => 0) mg base 9 "values_of" .none [] m_values_of [] := cal_of F25 sc_values_of (PySem.W.mg_of X G a25) B25 .nil perAll0 (b_values_of T C24)
  have C26 : Cal P w K (fun _ => 0) mg base 10 "spending_name" .none [] m_spending_name [] := cal_of F26 sc_spending_name (PySem.W.mg_of X G a26) B26 .nil perAll0 (b_spending_name T C23 C25)
  have D27 := cal_rec (P := P) (w := w) (cl := (fun _ => 0)) (mg := mg) (base := base) (C := .none) (A := [1, 2]) (M := [1, 2]) (sem := r__law_flat_witness) (k0 := 0) (g := g__law_flat_witness) F27 sc__law_flat_witness (PySem.W.mg_of X G a27) B27 .nil perAll0 (fun _ => rfl) (fun _ => rfl) fun n c => b__law_flat_witness T  (0 + n) (Nat.ble_eq_true_of_le (Nat.le_add_right 0 n)) c
  have C27 : Cal P w K (fun _ => 0) mg base 8 "_law_flat_witness" .none [] m__law_flat_witness [] := D27 8
  have D28 := cal_rec (P := P) (w := w) (cl := (fun _ => 0)) (mg := mg) (base := base) (C := .none) (A := [1, 2, 3]) (M := [1, 2, 3]) (sem := r_flat_witness) (k0 := 0) (g := g_flat_witness) F28 sc_flat_witness (PySem.W.mg_of X G a28) B28 .nil perAll0 (fun _ => rfl) (fun _ => rfl) fun n c => b_flat_witness T  (0 + n) (Nat.ble_eq_true_of_le (Nat.le_add_right 0 n)) c
  have C28 : Cal P w K (fun _ => 0) mg base 8 "flat_witness" .none [] m_flat_witness [] := D28 8
  have C29 : Cal P w K (fun _ => 0) mg base 10 "flat_spending" .none [] m_flat_spending [] := cal_of F29 sc_flat_spending (PySem.W.mg_of X G a29) B29 .nil perAll0 (b_flat_spending T C25 C28)
  have D30 := cal_rec (P := P) (w := w) (cl := (fun _ => 0)) (mg := mg) (base := base) (C := .none) (A := [4, 5]) (M := [1, 2, 4, 5, 6]) (sem := r__law_met) (k0 := 1) (g := g__law_met) F30 sc__law_met (PySem.W.mg_of X G a30) B30 .nil perAll0 (fun _ => rfl) (fun _ => rfl) fun n c => b__law_met T C1 (1 + n) (Nat.ble_eq_true_of_le (Nat.le_add_right 1 n)) c
  have C30 : Cal P w K (fun _ => 0) mg base 9 "_law_met" .none [1, 2] m__law_met [] := D30 8
  have C31 : Cal P w K (fun _ => 0) mg base 10 "_law_fault" .none [] m__law_fault [] := cal_of F31 sc__law_fault (PySem.W.mg_of X G a31) B31 .nil perAll0 (b__law_fault T C1 C5 C30)
  have C32 : Cal P w K (fun _ => 0) mg base 5 "token" .none [0, 1] m_token [] := cal_of F32 sc_token (PySem.W.mg_of X G a32) B32 .nil perAll0 (b_token T C23)
  have C33 : Cal P w K (fun _ => 0) mg base 5 "lock" .none [0] m_lock [] := cal_of F33 sc_lock (PySem.W.mg_of X G a33) B33 .nil perAll0 (b_lock T C23)
  have D34 := cal_rec (P := P) (w := w) (cl := (fun _ => 0)) (mg := mg) (base := base) (C := .none) (A := [4, 5]) (M := [0, 1, 2, 4, 5, 6]) (sem := r_met) (k0 := 5) (g := g_met) F34 sc_met (PySem.W.mg_of X G a34) B34 .nil perAll0 (fun _ => rfl) (fun _ => rfl) fun n c => b_met T C32 C33 (5 + n) (Nat.ble_eq_true_of_le (Nat.le_add_right 5 n)) c
  have C34 : Cal P w K (fun _ => 0) mg base 13 "met" .none [0, 1, 2] m_met [] := D34 8
  have C35 : Cal P w K (fun _ => 0) mg base 1 "left_over" .none [] m_left_over [] := cal_of F35 sc_left_over (PySem.W.mg_of X G a35) B35 .nil perAll0 (b_left_over T )
  have C36 : Cal P w K (fun _ => 0) mg base 14 "fault_of" .none [] m_fault_of [] := cal_of F36 sc_fault_of (PySem.W.mg_of X G a36) B36 .nil perAll0 (b_fault_of T C26 C34 C35)
  have C37 : Cal P w K (fun _ => 0) mg base 11 "made_by" .none [] m_made_by [] := cal_of F37 sc_made_by (PySem.W.mg_of X G a37) B37 .nil perAll0 (b_made_by T C26)
  exact fnok_of F38 sc_law (b_law T C3 C0 C7 C1 C5 C21 C22 C26 C27 C29 C31 C36 C35 C37)
theorem walk {l : PySem.W.OpenLaw} {q : Program} {loose : List Str} {XP : (Str → Option Value) → Heap → Prop} {YP : World → Heap → Prop} {d : DefRec} {K : Params → PySem.W.Frag} (hn : l.most = some 63) (hdf : d.params.defaults = [])
    (hY : ∀ (w : World) (h : Heap), YP w h → (K w.params).In h)
    (F : ∀ (w : World) (mg : Str → Option Value) (fa : Addr) (h : Heap), XP mg h → (K w.params).In h → h.Ns mainGlobals mg → mg d.name = some (.ref fa) →
      ∃ fd : FuncData, (∀ (s : Shared) (v : Value), BindsTo s fd ⟨[v], []⟩ [("_law_script", v)]) ∧ ∀ base : Heap, (K w.params).In base → base.Ns mainGlobals mg → FnOk l.prog w (K w.params) mg base (L2.CX l.prog w) 16 fa fd ["_law_script"] (spF (K w.params) (fun _ => 0) .none [] m_law)) :
    PySem.W.WalkO q loose XP YP l.row.toRowW d [] (fun f vs => PySem.call f vs) :=
  walk_ofX (n := 63) (k := 16) (x := "_law_script") (CX := fun w => L2.CX l.prog w) (sp := fun w => spF (K w.params) (fun _ => 0) .none [] m_law) hn (by decide) hdf ⟨rfl, by decide, by decide⟩ hY F (fun _ _ _ _ hl hS => law_spF plain hl hS _) fun _ _ _ _ _ z => cx_none z
end K33
open PySem PySem.W PyProof.Rows
set_option maxRecDepth 100000 in
set_option maxHeartbeats 0 in
theorem PySem.Challenge.cw_parentweave_k33_what_a_spending_may_take_holds : PySem.Challenge.rw_parentweave_k33_what_a_spending_may_take.Holds := by
  w_on; o_law; k_head; (case hw => w_witness2)
  k_fill
  refine K33.walk (l := PySem.Challenge.rw_parentweave_k33_what_a_spending_may_take) rfl rfl (fun w h Y => PySem.W.kIn_of Y) ?F
  case F =>
    intro w mg fa h XL KX G hmg
    refine' K33.all_mk ⟨Vx.loose_int XL (by simp), Vx.loose_int XL (by simp)⟩ KX G hmg ?a0 ?l0 ?c0 ?k0 ?a1 ?l1 ?c1 ?k1 ?a2 ?l2 ?c2 ?k2 ?a3 ?l3 ?c3 ?k3 ?a4 ?l4 ?c4 ?k4 ?a5 ?l5 ?c5 ?k5 ?a6 ?l6 ?c6 ?k6 ?a7 ?l7 ?c7 ?k7 ?a8 ?l8 ?c8 ?k8 ?a9 ?l9 ?c9 ?k9 ?a10 ?l10 ?c10 ?k10 ?a11 ?l11 ?c11 ?k11 ?a12 ?l12 ?c12 ?k12 ?a13 ?l13 ?c13 ?k13 ?a14 ?l14 ?c14 ?k14 ?a15 ?l15 ?c15 ?k15 ?a16 ?l16 ?c16 ?k16 ?a17 ?l17 ?c17 ?k17 ?a18 ?l18 ?c18 ?k18 ?a19 ?l19 ?c19 ?k19 ?a20 ?l20 ?c20 ?k20 ?a21 ?l21 ?c21 ?k21 ?a22 ?l22 ?c22 ?k22 ?a23 ?l23 ?c23 ?k23 ?a24 ?l24 ?c24 ?k24 ?a25 ?l25 ?c25 ?k25 ?a26 ?l26 ?c26 ?k26 ?a27 ?l27 ?c27 ?k27 ?a28 ?l28 ?c28 ?k28 ?a29 ?l29 ?c29 ?k29 ?a30 ?l30 ?c30 ?k30 ?a31 ?l31 ?c31 ?k31 ?a32 ?l32 ?c32 ?k32 ?a33 ?l33 ?c33 ?k33 ?a34 ?l34 ?c34 ?k34 ?a35 ?l35 ?c35 ?k35 ?a36 ?l36 ?c36 ?k36 ?a37 ?l37 ?c37 ?k37 ?a38 ?l38 ?c38 ?k38 ?n_abs ?n_all ?n_bool ?n_dict ?n_int ?n_isinstance ?n_len ?n_list ?n_max ?n_range ?n_sorted ?n_str ?n_sum ?n_tuple ?v_DEPTH ?v_LAST ?v_MOST_AGE ?v_MOST_conditions ?v_MOST_spendings ?v_START ?v_STEP ?xa_NotValid ?xq_NotValid ?xk_NotValid ?xb_NotValid ?xt_NotValid ?xi_NotValid ?xs_NotValid
    (case a0 => k_is)
    (case l0 => k_is)
    (case c0 => k_is)
    (case k0 => k_is)
    (case a1 => k_is)
    (case l1 => k_is)
    (case c1 => k_is)
    (case k1 => k_is)
    (case a2 => k_is)
    (case l2 => k_is)
    (case c2 => k_is)
    (case k2 => k_is)
    (case a3 => k_is)
    (case l3 => k_is)
    (case c3 => k_is)
    (case k3 => k_is)
    (case a4 => k_is)
    (case l4 => k_is)
    (case c4 => k_is)
    (case k4 => k_is)
    (case a5 => k_is)
    (case l5 => k_is)
    (case c5 => k_is)
    (case k5 => k_is)
    (case a6 => k_is)
    (case l6 => k_is)
    (case c6 => k_is)
    (case k6 => k_is)
    (case a7 => k_is)
    (case l7 => k_is)
    (case c7 => k_is)
    (case k7 => k_is)
    (case a8 => k_is)
    (case l8 => k_is)
    (case c8 => k_is)
    (case k8 => k_is)
    (case a9 => k_is)
    (case l9 => k_is)
    (case c9 => k_is)
    (case k9 => k_is)
    (case a10 => k_is)
    (case l10 => k_is)
    (case c10 => k_is)
    (case k10 => k_is)
    (case a11 => k_is)
    (case l11 => k_is)
    (case c11 => k_is)
    (case k11 => k_is)
    (case a12 => k_is)
    (case l12 => k_is)
    (case c12 => k_is)
    (case k12 => k_is)
    (case a13 => k_is)
    (case l13 => k_is)
    (case c13 => k_is)
    (case k13 => k_is)
    (case a14 => k_is)
    (case l14 => k_is)
    (case c14 => k_is)
    (case k14 => k_is)
    (case a15 => k_is)
    (case l15 => k_is)
    (case c15 => k_is)
    (case k15 => k_is)
    (case a16 => k_is)
    (case l16 => k_is)
    (case c16 => k_is)
    (case k16 => k_is)
    (case a17 => k_is)
    (case l17 => k_is)
    (case c17 => k_is)
    (case k17 => k_is)
    (case a18 => k_is)
    (case l18 => k_is)
    (case c18 => k_is)
    (case k18 => k_is)
    (case a19 => k_is)
    (case l19 => k_is)
    (case c19 => k_is)
    (case k19 => k_is)
    (case a20 => k_is)
    (case l20 => k_is)
    (case c20 => k_is)
    (case k20 => k_is)
    (case a21 => k_is)
    (case l21 => k_is)
    (case c21 => k_is)
    (case k21 => k_is)
    (case a22 => k_is)
    (case l22 => k_is)
    (case c22 => k_is)
    (case k22 => k_is)
    (case a23 => k_is)
    (case l23 => k_is)
    (case c23 => k_is)
    (case k23 => k_is)
    (case a24 => k_is)
    (case l24 => k_is)
    (case c24 => k_is)
    (case k24 => k_is)
    (case a25 => k_is)
    (case l25 => k_is)
    (case c25 => k_is)
    (case k25 => k_is)
    (case a26 => k_is)
    (case l26 => k_is)
    (case c26 => k_is)
    (case k26 => k_is)
    (case a27 => k_is)
    (case l27 => k_is)
    (case c27 => k_is)
    (case k27 => k_is)
    (case a28 => k_is)
    (case l28 => k_is)
    (case c28 => k_is)
    (case k28 => k_is)
    (case a29 => k_is)
    (case l29 => k_is)
    (case c29 => k_is)
    (case k29 => k_is)
    (case a30 => k_is)
    (case l30 => k_is)
    (case c30 => k_is)
    (case k30 => k_is)
    (case a31 => k_is)
    (case l31 => k_is)
    (case c31 => k_is)
    (case k31 => k_is)
    (case a32 => k_is)
    (case l32 => k_is)
    (case c32 => k_is)
    (case k32 => k_is)
    (case a33 => k_is)
    (case l33 => k_is)
    (case c33 => k_is)
    (case k33 => k_is)
    (case a34 => k_is)
    (case l34 => k_is)
    (case c34 => k_is)
    (case k34 => k_is)
    (case a35 => k_is)
    (case l35 => k_is)
    (case c35 => k_is)
    (case k35 => k_is)
    (case a36 => k_is)
    (case l36 => k_is)
    (case c36 => k_is)
    (case k36 => k_is)
    (case a37 => k_is)
    (case l37 => k_is)
    (case c37 => k_is)
    (case k37 => k_is)
    (case a38 => k_is)
    (case l38 => k_is)
    (case c38 => k_is)
    (case k38 => k_is)
    (case n_abs => k_is)
    (case n_all => k_is)
    (case n_bool => k_is)
    (case n_dict => k_is)
    (case n_int => k_is)
    (case n_isinstance => k_is)
    (case n_len => k_is)
    (case n_list => k_is)
    (case n_max => k_is)
    (case n_range => k_is)
    (case n_sorted => k_is)
    (case n_str => k_is)
    (case n_sum => k_is)
    (case n_tuple => k_is)
    (case v_DEPTH => k_is)
    (case v_LAST => k_is)
    (case v_MOST_AGE => k_is)
    (case v_MOST_conditions => k_is)
    (case v_MOST_spendings => k_is)
    (case v_START => k_is)
    (case v_STEP => k_is)
    (case xa_NotValid => k_is)
    (case xq_NotValid => k_exc)
    (case xk_NotValid => k_is)
    (case xb_NotValid => k_is)
    (case xt_NotValid => k_is)
    (case xi_NotValid => k_is)
    (case xs_NotValid => first | rfl | k_is)
