import PyProof.Rows.All
import Wide.All
import OpenK.AllK
import Wide.FinOn
import HandS.ForMost
import HandS.ForExc
import HandS.IsInst
import HandS.Wide
import HandS.Lambda
import HandS.ExcCtx
import HandS.Flow
import HandS.TupAny
import HandS.TupMul
import HandS.Conv
import PyProof.StrOps2
import KE.SortData
import HandS.Zip
import HandS.WordsDict
import HandS.Style
import HandS.More
import HandS.EndBits
import HandS.WideBits
import HandS.ExcValue
import HandS.HotCalls
import HandS.ExcIs
import HandS.EndTab
import PyProof.Rows.SumAny
import HandS.EndOwn
import HandS.SetFor
import HandS.Strs
import HandS.Finally
import HandS.NoneIn
import KE.KTupSum
import KE.SortKeyHeap
import KE.KDictZip
import PyProof.ListNew
import HandS.ListEq
import HandS.DictEq
import HandS.DeepEq
import KE.KEqNest
import PySem.Challenge.RW_heatclocks_k60_whole_records
set_option Elab.async false
set_option linter.all false
set_option maxRecDepth 100000
set_option maxHeartbeats 4000000
namespace Mr
open PySem PySem.Spec PyProof.Rows L2

/-! ## data -/
inductive D where
  | non | bl (b : Bool) | int (i : Int) | str (x : Str)
  | tup (xs : List D) | lst (xs : List D) | dct (ks : List Key) (ds : List D) | dcT (ks : List (List Key)) (ds : List D)
  | scr (ns : List Int) | ctup (ss : List Str) | adr (a : Addr)
  /-- {None: ..}, a dict with this one key -/
  | ndc
instance : Inhabited D := ⟨.non⟩

inductive Res (α : Type) where
  | ok (a : α) | ex (c : Str) | bad
theorem nr {α : Sort _} {a b : α} (h : a = b) : a = b := h
namespace Res
def bind {α β : Type} (m : Res α) (g : α → Res β) : Res β := match m with
  | .ok a => g a | .ex c => .ex c | .bad => .bad
@[simp] theorem ok_bind {α β : Type} (a : α) (g : α → Res β) : (Res.ok a).bind g = g a := nr rfl
@[simp] theorem ex_bind {α β : Type} (c : Str) (g : α → Res β) : (Res.ex c : Res α).bind g = .ex c := nr rfl
@[simp] theorem bad_bind {α β : Type} (g : α → Res β) : (Res.bad : Res α).bind g = .bad := nr rfl
def Post {α : Type} (k : α → Prop) (e : Str → Prop) : Res α → Prop
  | .ok a => k a | .ex c => e c | .bad => False
theorem Post.mono {α : Type} {k k' : α → Prop} {e e' : Str → Prop} {m : Res α} (h : Post k e m) (hk : ∀ a, k a → k' a) (he : ∀ c, e c → e' c) : Post k' e' m := by
  cases m with
  | ok a => exact hk a h
  | ex c => exact he c h
  | bad => exact h
theorem Post.bind {α β : Type} {k : β → Prop} {e : Str → Prop} {m : Res α} {g : α → Res β} : Post k e (m.bind g) ↔ Post (fun a => Post k e (g a)) e m := by
  cases m <;> exact Iff.rfl
end Res
open Res

/-! ## shapes, representation -/
inductive Sh where
  | dead | fz | own (s : Sh) | ownD (s : Sh)
  deriving DecidableEq

abbrev Fr := PySem.W.Frag
/-- a list that stands still: frozen, or of the module -/
def CL (K : Fr) (H : Hp) (a : Addr) (vs : List V) : Prop :=
  (∃ o, H a = some (.frz o (.lst vs))) ∨ ∃ (o : Obj) (its : Array Value) (n : Nat), K.lookup a = some o ∧ o.cls = .type "list" ∧ o.dict = none ∧ o.data = .seq its n ∧ its.size ≤ sizeLine ∧ Vals vs its.toList
theorem CL.sq {K : Fr} {H : Hp} {a : Addr} {vs : List V} (h : CL K H a vs) : SqL K H a vs := by
  rcases h with h | h
  · exact .inl (.inr h)
  · exact .inr h
/-- a frozen list -/
def FL (H : Hp) (a : Addr) (vs : List V) : Prop := ∃ o, H a = some (.frz o (.lst vs))
theorem FL.sq {K : Fr} {H : Hp} {a : Addr} {vs : List V} (h : FL H a vs) : SqL K H a vs := .inl (.inr h)
/-- at a stands a dict with the one key None; its object is o -/
def NdP (H : Hp) (a : Addr) (o : Obj) : Prop := H a = some (.frz o (.ext fun _ => True)) ∧ (a == sysModules) = false ∧ o.ExactDict ∧ ∃ es ep en, o.data = .dict es ep ∧ es.size = 1 ∧ es[0]? = some en ∧ en.key = .none
mutual
def R (K : Fr) (H : Hp) : D → V → Prop
  | .non, v => v = .non
  | .bl b, v => v = .bl b
  | .int i, v => v = .int i
  | .str x, v => v = .str x
  | .tup ds, v => ∃ a vs, v = .ref a ∧ H a = some (.tup vs) ∧ vs.length ≤ sizeLine ∧ Rl K H ds vs
  | .lst ds, v => ∃ a vs, v = .ref a ∧ FL H a vs ∧ vs.length ≤ sizeLine ∧ Rl K H ds vs
  | .dct ks ds, v => ∃ a vs o, v = .ref a ∧ H a = some (.frz o (.dK (ks.zip vs))) ∧ ks.length = ds.length ∧ Rl K H ds vs
  | .dcT ks ds, v => ∃ a vs o, v = .ref a ∧ H a = some (.frz o (.dT (ks.zip vs))) ∧ ks.length = ds.length ∧ Rl K H ds vs
  | .scr ns, v => ∃ a, v = .ref a ∧ CL K H a (ns.map V.int) ∧ ns.length ≤ sizeLine
  | .ctup ss, v => ∃ a, v = .ref a ∧ SqT K H a (ss.map V.str)
  | .adr a, v => v = .ref a
  | .ndc, v => ∃ a o, v = .ref a ∧ NdP H a o
def Rl (K : Fr) (H : Hp) : List D → List V → Prop
  | [], vs => vs = []
  | d :: ds, vs => ∃ v r, vs = v :: r ∧ R K H d v ∧ Rl K H ds r
end
def All3 (P : D → V → List Addr → Prop) : List D → List V → List Addr → Prop
  | [], vs, fp => vs = [] ∧ fp = []
  | d :: ds, vs, fp => ∃ v r f1 f2, vs = v :: r ∧ fp = f1 ++ f2 ∧ P d v f1 ∧ All3 P ds r f2
def RO (K : Fr) (H : Hp) : Sh → D → V → List Addr → Prop
  | .dead => fun _ _ _ => False
  | .fz => fun d v fp => fp = [] ∧ R K H d v
  | .own τ => fun d v fp => ∃ ds a vs fps, d = .lst ds ∧ v = .ref a ∧ H a = some (.lst vs) ∧ vs.length ≤ sizeLine ∧ fp = a :: fps ∧ All3 (RO K H τ) ds vs fps
  | .ownD τ => fun d v fp => ∃ ks ds a vs fps, d = .dct ks ds ∧ v = .ref a ∧ H a = some (.dK (ks.zip vs)) ∧ ks.length = ds.length ∧ fp = a :: fps ∧ All3 (RO K H τ) ds vs fps

/-! ## heaps -/
/-- what stands at the footprint is an open list or dict -/
def isO : HO → Prop
  | .lst _ => True
  | .dK _ => True
  | _ => False
/-- the tables of code objects are told as before -/
class TabsOf where
  T : List (Addr × Str)
variable [TabsOf]
def Tb (H : Hp) : Prop := LamX.Tabs TabsOf.T H
def TabK (H H' : Hp) : Prop := Tb H → Tb H'
theorem TabK.of {H H' : Hp} (k : ∀ b o, H b = some o → ¬ isO o → H' b = some o) : TabK H H' := fun t p hp => by
  obtain ⟨ps, h1, h2, h3⟩ := t p hp
  refine ⟨ps, k _ _ h1 (fun h => h), h2, fun pos cv hc => ?_⟩
  obtain ⟨c, e1, e2⟩ := h3 pos cv hc
  exact ⟨c, e1, k _ _ e2 (fun h => h)⟩
theorem TabK.trans {H H1 H2 : Hp} (a : TabK H H1) (b : TabK H1 H2) : TabK H H2 := fun t => b (a t)
structure Ext (H H' : Hp) : Prop where
  go : ∀ b o, H b = some o → (∀ ps, o ≠ .tbl ps) → H' b = some o
  tab : TabK H H'
instance {H H' : Hp} : CoeFun (Ext H H') (fun _ => ∀ b o, H b = some o → (∀ ps, o ≠ .tbl ps) → H' b = some o) := ⟨Ext.go⟩
theorem Ext.refl (H : Hp) : Ext H H := ⟨fun _ _ h _ => h, fun t => t⟩
theorem Ext.trans {H H1 H2 : Hp} (a : Ext H H1) (b : Ext H1 H2) : Ext H H2 := ⟨fun c o h n => b c o (a c o h n) n, a.tab.trans b.tab⟩
/-- what may be changed -/
structure Zt where
  p : Addr → Prop
/-- nothing is changed -/
def Z0 : Zt := ⟨fun _ => False⟩
structure ExtZ (Z : Zt) (H H' : Hp) : Prop where
  go : ∀ b o, ¬ Z.p b → H b = some o → (∀ ps, o ≠ .tbl ps) → H' b = some o
  tab : Tb H'
instance {Z : Zt} {H H' : Hp} : CoeFun (ExtZ Z H H') (fun _ => ∀ b o, ¬ Z.p b → H b = some o → (∀ ps, o ≠ .tbl ps) → H' b = some o) := ⟨ExtZ.go⟩
theorem ExtZ.ext {Z : Zt} {H H1 H2 : Hp} (a : ExtZ Z H H1) (b : Ext H1 H2) : ExtZ Z H H2 := ⟨fun c o z h n => b c o (a c o z h n) n, b.tab a.tab⟩
theorem TabK.new {H : Hp} {p : Addr} {o : HO} (h : H p = none) : TabK H (upd H p o) := .of fun b x e _ => by
  rw [upd_ne (ne_of_none e h)]
  exact e
/-- an open list or dict is rewritten -/
theorem TabK.upd {H : Hp} {p : Addr} {o u : HO} (h : H p = some u) (hu : isO u) : TabK H (upd H p o) := .of fun b x e n => by
  rw [upd_ne (fun z => by subst z; rw [h] at e; cases e; exact n hu)]
  exact e
theorem Ext.new {H : Hp} {p : Addr} {o : HO} (h : H p = none) : Ext H (upd H p o) := ⟨fun b x e _ => by
  rw [upd_ne (ne_of_none e h)]
  exact e, TabK.new h⟩
def isF : HO → Prop
  | .frz _ _ => True
  | .tup _ => True
  | _ => False
def KeepF (H H' : Hp) : Prop := ∀ b o, H b = some o → isF o → H' b = some o
theorem isF.ntbl {o : HO} (h : isF o) : ∀ ps, o ≠ .tbl ps := fun ps e => by subst e; exact h
theorem Ext.keepF {H H' : Hp} (h : Ext H H') : KeepF H H' := fun b o e f => h b o e f.ntbl
theorem KeepF.refl (H : Hp) : KeepF H H := fun _ _ e _ => e
theorem KeepF.trans {H H1 H2 : Hp} (a : KeepF H H1) (b : KeepF H1 H2) : KeepF H H2 := fun c o e f => b c o (a c o e f) f

section
variable {K : Fr} {H H' : Hp}
theorem FL.keep {a : Addr} {vs : List V} (h : FL H a vs) (k : KeepF H H') : FL H' a vs := let ⟨o, h⟩ := h; ⟨o, k _ _ h trivial⟩
theorem CL.keep {a : Addr} {vs : List V} (h : CL K H a vs) (k : KeepF H H') : CL K H' a vs := by
  rcases h with ⟨o, h⟩ | h
  · exact .inl ⟨o, k _ _ h trivial⟩
  · exact .inr h
theorem SqT.keep {a : Addr} {vs : List V} (h : SqT K H a vs) (k : KeepF H H') : SqT K H' a vs := by
  rcases h with (h | ⟨o, h⟩) | h
  · exact .inl (.inl (k _ _ h trivial))
  · exact .inl (.inr ⟨o, k _ _ h trivial⟩)
  · exact .inr h
mutual
theorem R.keep (k : KeepF H H') : ∀ (d : D) {v : V}, R K H d v → R K H' d v
  | .non, _, h => h
  | .bl _, _, h => h
  | .int _, _, h => h
  | .str _, _, h => h
  | .tup ds, _, ⟨a, vs, e, s, z, l⟩ => ⟨a, vs, e, k _ _ s trivial, z, Rl.keep k ds l⟩
  | .lst ds, _, ⟨a, vs, e, s, z, l⟩ => ⟨a, vs, e, s.keep k, z, Rl.keep k ds l⟩
  | .dct ks ds, _, ⟨a, vs, o, e, s, z, l⟩ => ⟨a, vs, o, e, k _ _ s trivial, z, Rl.keep k ds l⟩
  | .dcT ks ds, _, ⟨a, vs, o, e, s, z, l⟩ => ⟨a, vs, o, e, k _ _ s trivial, z, Rl.keep k ds l⟩
  | .scr ns, _, ⟨a, e, s, z⟩ => ⟨a, e, s.keep k, z⟩
  | .ctup ns, _, ⟨a, e, s⟩ => ⟨a, e, SqT.keep s k⟩
  | .adr _, _, h => h
  | .ndc, _, ⟨a, o, e, s, r⟩ => ⟨a, o, e, k _ _ s trivial, r⟩
theorem Rl.keep (k : KeepF H H') : ∀ (ds : List D) {vs : List V}, Rl K H ds vs → Rl K H' ds vs
  | [], _, h => h
  | d :: ds, _, ⟨v, r, e, h, t⟩ => ⟨v, r, e, R.keep k d h, Rl.keep k ds t⟩
end
theorem Rl.length : ∀ {ds : List D} {vs : List V}, Rl K H ds vs → vs.length = ds.length
  | [], _, h => by rw [show _ = [] from h]; rfl
  | d :: ds, _, ⟨v, r, e, _, t⟩ => by subst e; simp [Rl.length t]
theorem Rl.get : ∀ {ds : List D} {vs : List V} {i : Nat} {d : D}, Rl K H ds vs → ds[i]? = some d → ∃ v, vs[i]? = some v ∧ R K H d v
  | [], _, _, _, _, e => by simp at e
  | d :: ds, _, 0, x, ⟨v, r, e, h, _⟩, q => by subst e; simp at q; subst q; exact ⟨v, rfl, h⟩
  | d :: ds, _, i + 1, x, ⟨v, r, e, _, t⟩, q => by
    subst e
    obtain ⟨u, h1, h2⟩ := Rl.get (i := i) (d := x) t (by simpa using q)
    exact ⟨u, by simpa using h1, h2⟩
theorem Rl.at : ∀ {ds : List D} {vs : List V} {i : Nat} {v : V}, Rl K H ds vs → vs[i]? = some v → ∃ d, ds[i]? = some d ∧ R K H d v
  | [], _, _, _, h, e => by rw [show _ = [] from h] at e; simp at e
  | d :: ds, _, 0, x, ⟨v, r, e, h, _⟩, q => by subst e; simp at q; subst q; exact ⟨d, rfl, h⟩
  | d :: ds, _, i + 1, x, ⟨v, r, e, _, t⟩, q => by
    subst e
    obtain ⟨u, h1, h2⟩ := Rl.at (i := i) (v := x) t (by simpa using q)
    exact ⟨u, by simpa using h1, h2⟩
theorem Rl.append : ∀ {ds es : List D} {vs us : List V}, Rl K H ds vs → Rl K H es us → Rl K H (ds ++ es) (vs ++ us)
  | [], _, _, _, h, h' => by rw [show _ = [] from h]; exact h'
  | d :: ds, es, _, us, ⟨v, r, e, h, t⟩, h' => by subst e; exact ⟨v, r ++ us, rfl, h, Rl.append t h'⟩
theorem Rl.take : ∀ {ds : List D} {vs : List V} (n : Nat), Rl K H ds vs → Rl K H (ds.take n) (vs.take n)
  | _, _, 0, _ => by simp [Rl]
  | [], _, _ + 1, h => by rw [show _ = [] from h]; simp [Rl]
  | d :: ds, _, n + 1, ⟨v, r, e, h, t⟩ => by subst e; exact ⟨v, r.take n, rfl, h, Rl.take n t⟩
theorem Rl.drop : ∀ {ds : List D} {vs : List V} (n : Nat), Rl K H ds vs → Rl K H (ds.drop n) (vs.drop n)
  | _, _, 0, h => by simpa using h
  | [], _, _ + 1, h => by rw [show _ = [] from h]; simp [Rl]
  | d :: ds, _, n + 1, ⟨v, r, e, h, t⟩ => by subst e; simpa using Rl.drop n t
theorem Rl.reverse : ∀ {ds : List D} {vs : List V}, Rl K H ds vs → Rl K H ds.reverse vs.reverse
  | [], _, h => by rw [show _ = [] from h]; simp [Rl]
  | d :: ds, _, ⟨v, r, e, h, t⟩ => by
    subst e
    rw [List.reverse_cons, List.reverse_cons]
    exact (Rl.reverse t).append ⟨v, [], rfl, h, rfl⟩
theorem Rl.one {d : D} {v : V} (h : R K H d v) : Rl K H [d] [v] := ⟨v, [], rfl, h, rfl⟩

theorem All3.mono {P Q : D → V → List Addr → Prop} : ∀ {ds : List D} {vs : List V} {fp : List Addr}, All3 P ds vs fp → (∀ d v f, (∀ a ∈ f, a ∈ fp) → P d v f → Q d v f) → All3 Q ds vs fp
  | [], _, _, h, _ => h
  | d :: ds, _, _, ⟨v, r, f1, f2, e1, e2, h, t⟩, k => by
    subst e1 e2
    exact ⟨v, r, f1, f2, rfl, rfl, k _ _ _ (fun a ha => List.mem_append_left _ ha) h, t.mono fun d v f hf => k d v f fun a ha => List.mem_append_right _ (hf a ha)⟩
theorem All3.length {P : D → V → List Addr → Prop} : ∀ {ds : List D} {vs : List V} {fp : List Addr}, All3 P ds vs fp → vs.length = ds.length
  | [], _, _, h => by rw [h.1]; rfl
  | d :: ds, _, _, ⟨v, r, f1, f2, e1, e2, h, t⟩ => by subst e1; simp [t.length]
theorem All3.rl : ∀ {ds : List D} {vs : List V} {fp : List Addr}, All3 (RO K H .fz) ds vs fp → fp = [] ∧ Rl K H ds vs
  | [], _, _, h => ⟨h.2, h.1⟩
  | d :: ds, _, _, ⟨v, r, f1, f2, e1, e2, h, t⟩ => by
    obtain ⟨t1, t2⟩ := t.rl
    obtain ⟨h1, h2⟩ := h
    subst h1 t1
    exact ⟨e2, v, r, e1, h2, t2⟩
theorem All3.of_rl : ∀ {ds : List D} {vs : List V}, Rl K H ds vs → All3 (RO K H .fz) ds vs []
  | [], _, h => ⟨h, rfl⟩
  | d :: ds, _, ⟨v, r, e, h, t⟩ => ⟨v, r, [], [], e, rfl, ⟨rfl, h⟩, All3.of_rl t⟩
theorem All3.append {P : D → V → List Addr → Prop} : ∀ {ds es : List D} {vs us : List V} {f g : List Addr}, All3 P ds vs f → All3 P es us g → All3 P (ds ++ es) (vs ++ us) (f ++ g)
  | [], _, _, _, _, _, h, h' => by rw [h.1, h.2]; exact h'
  | d :: ds, es, _, us, _, g, ⟨v, r, f1, f2, e1, e2, h, t⟩, h' => by
    subst e1 e2
    exact ⟨v, r ++ us, f1, f2 ++ g, rfl, by simp, h, t.append h'⟩
theorem RO.keep (k : KeepF H H') : ∀ (τ : Sh) {d : D} {v : V} {fp : List Addr}, RO K H τ d v fp → (∀ a ∈ fp, H' a = H a) → RO K H' τ d v fp
  | .dead, _, _, _, h, _ => h
  | .fz, _, _, _, ⟨e, h⟩, _ => ⟨e, R.keep k _ h⟩
  | .own τ, _, _, _, ⟨ds, a, vs, fps, e1, e2, e3, z, e4, h⟩, q => by
    subst e4
    refine ⟨ds, a, vs, fps, e1, e2, by rw [q a (by simp)]; exact e3, z, rfl, h.mono fun d v f hf r => RO.keep k τ r fun b hb => q b (by simp [hf b hb])⟩
  | .ownD τ, _, _, _, ⟨ks, ds, a, vs, fps, e1, e2, e3, z, e4, h⟩, q => by
    subst e4
    refine ⟨ks, ds, a, vs, fps, e1, e2, by rw [q a (by simp)]; exact e3, z, rfl, h.mono fun d v f hf r => RO.keep k τ r fun b hb => q b (by simp [hf b hb])⟩
theorem All3.mem {P : D → V → List Addr → Prop} {G : Addr → Prop} : ∀ {ds : List D} {vs : List V} {fp : List Addr}, All3 P ds vs fp → (∀ d v f, P d v f → ∀ a ∈ f, G a) → ∀ a ∈ fp, G a
  | [], _, _, h, _ => by rw [h.2]; intro a ha; simp at ha
  | d :: ds, _, _, ⟨v, r, f1, f2, e1, e2, h, t⟩, k => by
    subst e2
    intro a ha
    rcases List.mem_append.mp ha with ha | ha
    · exact k _ _ _ h a ha
    · exact t.mem k a ha
theorem RO.open : ∀ (τ : Sh) {d : D} {v : V} {fp : List Addr}, RO K H τ d v fp → ∀ a ∈ fp, ∃ o, H a = some o ∧ isO o
  | .dead, _, _, _, h => h.elim
  | .fz, _, _, _, ⟨e, _⟩ => by rw [e]; intro a ha; simp at ha
  | .own τ, _, _, _, ⟨ds, a, vs, fps, e1, e2, e3, z, e4, h⟩ => by
    subst e4
    intro b hb
    rcases List.mem_cons.mp hb with hb | hb
    · exact ⟨.lst vs, by rw [hb]; exact e3, trivial⟩
    · exact h.mem (G := fun a => ∃ o, H a = some o ∧ isO o) (fun d v f r => RO.open τ r) b hb
  | .ownD τ, _, _, _, ⟨ks, ds, a, vs, fps, e1, e2, e3, z, e4, h⟩ => by
    subst e4
    intro b hb
    rcases List.mem_cons.mp hb with hb | hb
    · exact ⟨.dK (ks.zip vs), by rw [hb]; exact e3, trivial⟩
    · exact h.mem (G := fun a => ∃ o, H a = some o ∧ isO o) (fun d v f r => RO.open τ r) b hb
theorem isO.ntbl {o : HO} (h : isO o) : ∀ ps, o ≠ .tbl ps := fun ps e => by subst e; exact h
theorem RO.ext {τ : Sh} {d : D} {v : V} {fp : List Addr} (r : RO K H τ d v fp) (x : Ext H H') : RO K H' τ d v fp :=
  RO.keep x.keepF τ r fun a ha => by
    obtain ⟨o, e, p⟩ := RO.open τ r a ha
    rw [e]
    exact x a o e p.ntbl
theorem R.ext {d : D} {v : V} (r : R K H d v) (x : Ext H H') : R K H' d v := R.keep x.keepF d r
theorem Rl.ext {d : List D} {v : List V} (r : Rl K H d v) (x : Ext H H') : Rl K H' d v := Rl.keep x.keepF d r
end

/-! ## the state -/
abbrev Env := List D
abbrev Sg := L2.St
/-- nothing stands there (but, perhaps, a table) -/
def Fre (H : Hp) (a : Addr) : Prop := ∀ o, H a = some o → ∃ ps, o = .tbl ps
theorem Fre.of {H : Hp} {a : Addr} (h : H a = none) : Fre H a := fun o e => by rw [h] at e; cases e
def Slot (K : Fr) (H : Hp) (τ : Sh) (d : D) (s : Option V) (fp : List Addr) : Prop := (τ = .dead ∧ fp = []) ∨ ∃ v, s = some v ∧ RO K H τ d v fp
def AllS (K : Fr) (H : Hp) : List Sh → Env → Sg → List Addr → Prop
  | [], [], [], fp => fp = []
  | τ :: ω, d :: ρ, s :: σ, fp => ∃ f1 f2, fp = f1 ++ f2 ∧ Slot K H τ d s f1 ∧ AllS K H ω ρ σ f2
  | _, _, _, _ => False
structure SR (K : Fr) (H0 : Hp) (Z : Zt) (ω : List Sh) (ρ : Env) (σ : Sg) (H : Hp) : Prop where
  ext : ExtZ Z H0 H
  slots : ∃ fp, AllS K H ω ρ σ fp ∧ fp.Nodup ∧ ∀ a ∈ fp, Fre H0 a ∨ Z.p a
section
variable {K : Fr} {H H' H0 : Hp} {Z : Zt}
theorem Slot.keep {τ : Sh} {d : D} {s : Option V} {fp : List Addr} (h : Slot K H τ d s fp) (k : KeepF H H') (q : ∀ a ∈ fp, H' a = H a) : Slot K H' τ d s fp := by
  rcases h with h | ⟨v, e, r⟩
  · exact .inl h
  · exact .inr ⟨v, e, RO.keep k τ r q⟩
theorem Slot.open {τ : Sh} {d : D} {s : Option V} {fp : List Addr} (h : Slot K H τ d s fp) : ∀ a ∈ fp, ∃ o, H a = some o ∧ isO o := by
  rcases h with ⟨_, h⟩ | ⟨v, e, r⟩
  · rw [h]; intro a ha; simp at ha
  · exact RO.open τ r
theorem AllS.keep (k : KeepF H H') : ∀ {ω : List Sh} {ρ : Env} {σ : Sg} {fp : List Addr}, AllS K H ω ρ σ fp → (∀ a ∈ fp, H' a = H a) → AllS K H' ω ρ σ fp
  | [], [], [], _, h, _ => h
  | τ :: ω, d :: ρ, s :: σ, _, ⟨f1, f2, e, h, t⟩, q => by
    subst e
    exact ⟨f1, f2, rfl, h.keep k fun a ha => q a (List.mem_append_left _ ha), AllS.keep k t fun a ha => q a (List.mem_append_right _ ha)⟩
  | [], [], _ :: _, _, h, _ => h.elim
  | [], _ :: _, _, _, h, _ => h.elim
  | _ :: _, [], _, _, h, _ => h.elim
  | _ :: _, _ :: _, [], _, h, _ => h.elim
theorem AllS.open : ∀ {ω : List Sh} {ρ : Env} {σ : Sg} {fp : List Addr}, AllS K H ω ρ σ fp → ∀ a ∈ fp, ∃ o, H a = some o ∧ isO o
  | [], [], [], _, h => by rw [show _ = [] from h]; intro a ha; simp at ha
  | τ :: ω, d :: ρ, s :: σ, _, ⟨f1, f2, e, h, t⟩ => by
    subst e
    intro a ha
    rcases List.mem_append.mp ha with ha | ha
    · exact h.open a ha
    · exact AllS.open t a ha
  | [], [], _ :: _, _, h => h.elim
  | [], _ :: _, _, _, h => h.elim
  | _ :: _, [], _, _, h => h.elim
  | _ :: _, _ :: _, [], _, h => h.elim
theorem SR.mono {ω : List Sh} {ρ : Env} {σ : Sg} (h : SR K H0 Z ω ρ σ H) (x : Ext H H') : SR K H0 Z ω ρ σ H' := by
  obtain ⟨e, fp, a, n, f⟩ := h
  exact ⟨e.ext x, fp, AllS.keep x.keepF a fun b hb => by
    obtain ⟨o, e, p⟩ := AllS.open a b hb
    rw [e]
    exact x b o e p.ntbl, n, f⟩
/-- one slot, and the rest -/
theorem AllS.focus : ∀ {ω : List Sh} {ρ : Env} {σ : Sg} {fp : List Addr} (i : Nat) {τ : Sh}, AllS K H ω ρ σ fp → ω[i]? = some τ →
    ∃ d s A f B, ρ[i]? = some d ∧ σ[i]? = some s ∧ fp = A ++ (f ++ B) ∧ Slot K H τ d s f ∧
      ∀ (H' : Hp) (τ' : Sh) (d' : D) (s' : Option V) (f' : List Addr), KeepF H H' → (∀ a ∈ A ++ B, H' a = H a) → Slot K H' τ' d' s' f' → AllS K H' (ω.set i τ') (ρ.set i d') (σ.set i s') (A ++ (f' ++ B))
  | [], _, _, _, _, _, _, e => by simp at e
  | τ :: ω, d :: ρ, s :: σ, _, 0, τ1, ⟨f1, f2, e, h, t⟩, q => by
    simp at q
    subst q
    refine ⟨d, s, [], f1, f2, rfl, rfl, e, h, fun H' τ' d' s' f' k kp sl => ?_⟩
    exact ⟨f', f2, rfl, sl, AllS.keep k t fun a ha => kp a (by simpa using ha)⟩
  | τ :: ω, d :: ρ, s :: σ, _, i + 1, τ1, ⟨f1, f2, e, h, t⟩, q => by
    obtain ⟨d1, s1, A, f, B, e1, e2, e3, sl, go⟩ := AllS.focus i t (by simpa using q)
    subst e e3
    refine ⟨d1, s1, f1 ++ A, f, B, by simpa using e1, by simpa using e2, by simp, sl, fun H' τ' d' s' f' k kp sl' => ?_⟩
    refine ⟨f1, A ++ (f' ++ B), by simp, h.keep k fun a ha => kp a (by simp [ha]), go H' τ' d' s' f' k (fun a ha => kp a ?_) sl'⟩
    rcases List.mem_append.mp ha with ha | ha <;> simp [ha]
  | _ :: _, [], _, _, _, _, h, _ => h.elim
  | _ :: _, _ :: _, [], _, _, _, h, _ => h.elim
theorem AllS.len : ∀ {ω : List Sh} {ρ : Env} {σ : Sg} {fp : List Addr}, AllS K H ω ρ σ fp → ρ.length = ω.length ∧ σ.length = ω.length
  | [], [], [], _, h => ⟨rfl, rfl⟩
  | τ :: ω, d :: ρ, s :: σ, _, ⟨f1, f2, e, h, t⟩ => by
    obtain ⟨a, b⟩ := AllS.len t
    exact ⟨by simp [a], by simp [b]⟩
  | [], [], _ :: _, _, h => h.elim
  | [], _ :: _, _, _, h => h.elim
  | _ :: _, [], _, _, h => h.elim
  | _ :: _, _ :: _, [], _, h => h.elim
theorem SR.focus {ω : List Sh} {ρ : Env} {σ : Sg} (h : SR K H0 Z ω ρ σ H) (i : Nat) {τ : Sh} (q : ω[i]? = some τ) :
    ∃ d s f, ρ[i]? = some d ∧ σ[i]? = some s ∧ Slot K H τ d s f ∧ f.Nodup ∧ (∀ a ∈ f, Fre H0 a ∨ Z.p a) ∧
      ∀ (H' : Hp) (τ' : Sh) (d' : D) (s' : Option V) (f' : List Addr), KeepF H H' → (∀ a o, H a = some o → a ∉ f → (∀ ps, o ≠ .tbl ps) → H' a = some o) → TabK H H' → Slot K H' τ' d' s' f' → f'.Nodup → (∀ a ∈ f', a ∈ f ∨ Fre H a) →
        SR K H0 Z (ω.set i τ') (ρ.set i d') (σ.set i s') H' := by
  obtain ⟨ex, fp, al, n, fr⟩ := h
  obtain ⟨d, s, A, f, B, e1, e2, e3, sl, go⟩ := al.focus i q
  subst e3
  have nA := List.nodup_append.mp n
  have nB := List.nodup_append.mp nA.2.1
  refine ⟨d, s, f, e1, e2, sl, nB.1, fun a ha => fr a (by simp [ha]), fun H' τ' d' s' f' k kp tk sl' nd new => ?_⟩
  have disj : ∀ a ∈ A ++ B, a ∉ f := fun a ha hf => by
    rcases List.mem_append.mp ha with ha | ha
    · exact nA.2.2 a ha a (List.mem_append_left _ hf) rfl
    · exact nB.2.2 a hf a ha rfl
  have opn := al.open
  have kp' : ∀ a ∈ A ++ B, H' a = H a := fun a ha => by
    obtain ⟨o, e, p⟩ := opn a (by rcases List.mem_append.mp ha with ha | ha <;> simp [ha])
    rw [e]
    exact kp a o e (disj a ha) p.ntbl
  have disj' : ∀ a ∈ f', a ∉ A ++ B := fun a ha hb => by
    rcases new a ha with z | z
    · exact disj a hb z
    · obtain ⟨o, e, p⟩ := opn a (by rcases List.mem_append.mp hb with hb | hb <;> simp [hb])
      obtain ⟨ps, e'⟩ := z o e
      exact p.ntbl ps e'
  refine ⟨⟨fun b o z e t => ?_, tk ex.tab⟩, A ++ (f' ++ B), go H' τ' d' s' f' k kp' sl', ?_, fun a ha => ?_⟩
  · refine kp b o (ex b o z e t) (fun hf => ?_) t
    rcases fr b (by simp [hf]) with q | q
    · obtain ⟨ps, e'⟩ := q o e
      exact t ps e'
    · exact z q
  · rw [List.nodup_append]
    refine ⟨nA.1, ?_, fun a ha b hb e => ?_⟩
    · rw [List.nodup_append]
      exact ⟨nd, nB.2.1, fun a ha b hb e => disj' a ha (by rw [e]; exact List.mem_append_right _ hb)⟩
    · subst e
      rcases List.mem_append.mp hb with hb | hb
      · exact disj' a hb (List.mem_append_left _ ha)
      · exact nA.2.2 a ha a (List.mem_append_right _ hb) rfl
  · rcases List.mem_append.mp ha with ha | ha
    · exact fr a (by simp [ha])
    · rcases List.mem_append.mp ha with ha | ha
      · rcases new a ha with z | z
        · exact fr a (by simp [z])
        · refine Classical.byCases (fun q : Z.p a => .inr q) fun q => .inl fun o r => ?_
          refine Classical.byCases (fun t : ∃ ps, o = .tbl ps => t) fun t => ?_
          exact absurd (z o (ex a o q r fun ps e => t ⟨ps, e⟩)) t
      · exact fr a (by simp [ha])
end
end Mr

namespace Mr
variable [TabsOf]
open PySem PySem.Spec PyProof.Rows L2
open Res

/-! ## freezing -/
inductive Fz : Hp → (Hp → Prop) → Prop
  | done {H : Hp} {P : Hp → Prop} : P H → Fz H P
  | step {H : Hp} {P : Hp → Prop} {d : Addr} {u : HO} : H d = some u → Mut (some u) → (∀ od, Fz (upd H d (.frz od u)) P) → Fz H P
theorem Fz.inv {X : Cx} {pins : List (Addr × Obj)} {σ : Sg} {s : Shared} {P : Hp → Prop} {H : Hp} (f : Fz H P) : Inv X pins σ H s → ∃ H', Inv X pins σ H' s ∧ P H' := by
  induction f with
  | done p => exact fun I => ⟨_, I, p⟩
  | step h m _ ih =>
    intro I
    obtain ⟨od, I'⟩ := I.lock h m
    exact ih od I'
theorem Fz.bind {P Q : Hp → Prop} {H : Hp} (f : Fz H P) (k : ∀ H', P H' → Fz H' Q) : Fz H Q := by
  induction f with
  | done p => exact k _ p
  | step h m _ ih => exact .step h m fun od => ih od k
theorem Fz.mono {P Q : Hp → Prop} {H : Hp} (f : Fz H P) (k : ∀ H', P H' → Q H') : Fz H Q := f.bind fun H' p => .done (k H' p)
theorem pe_fz {X : Cx} {e : Expr} {t : TE} (h : PE X e t) : PE X e (fun σ H Q => t σ H fun v H1 => Fz H1 (Q v)) :=
  ⟨fun pins s σ H Q I hw => thn (h.run pins s σ H _ I hw) fun u s1 ⟨v, H1, I1, r, f⟩ => by
    obtain ⟨H2, I2, q⟩ := f.inv I1
    exact ⟨v, H2, I2, r, q⟩⟩
theorem ps_fz {X : Cx} {st : Stmt} {t : TS} (h : PS X st t) : PS X st (fun D σ H => Fz H fun H1 => t D σ H1) :=
  ⟨fun pins s σ H D I hw => by
    obtain ⟨H2, I2, q⟩ := hw.inv I
    exact h.run pins s σ H2 D I2 q⟩
theorem pss_fz {X : Cx} {st : List Stmt} {t : TS} (h : PSs X st t) : PSs X st (fun D σ H => Fz H fun H1 => t D σ H1) :=
  ⟨fun pins s σ H D I hw => by
    obtain ⟨H2, I2, q⟩ := hw.inv I
    exact h.run pins s σ H2 D I2 q⟩
theorem pe_or2 {X : Cx} {e : Expr} {t u : TE} (h : PE X e t) (h' : PE X e u) : PE X e (fun σ H Q => t σ H Q ∨ u σ H Q) :=
  ⟨fun pins s σ H Q I hw => hw.elim (h.run pins s σ H Q I) (h'.run pins s σ H Q I)⟩
theorem pt_or2 {X : Cx} {e : Expr} {t u : TT} (h : PT X e t) (h' : PT X e u) : PT X e (fun σ H Q => t σ H Q ∨ u σ H Q) :=
  ⟨fun pins s σ H Q I hw => hw.elim (h.run pins s σ H Q I) (h'.run pins s σ H Q I)⟩
theorem ps_or2 {X : Cx} {st : Stmt} {t u : TS} (h : PS X st t) (h' : PS X st u) : PS X st (fun D σ H => t D σ H ∨ u D σ H) :=
  ⟨fun pins s σ H D I hw => hw.elim (h.run pins s σ H D I) (h'.run pins s σ H D I)⟩

def KeepBut (fp : List Addr) (H H' : Hp) : Prop := KeepF H H' ∧ ∀ a, a ∉ fp → H' a = H a
theorem KeepBut.refl {fp : List Addr} (H : Hp) : KeepBut fp H H := ⟨KeepF.refl H, fun _ _ => rfl⟩
theorem KeepBut.tab {fp : List Addr} {H H' : Hp} (k : KeepBut fp H H') (o : ∀ a ∈ fp, ∃ u, H a = some u ∧ isO u) : TabK H H' := .of fun b x e n => by
  by_cases hb : b ∈ fp
  · obtain ⟨u, e2, p⟩ := o b hb
    rw [e] at e2
    cases e2
    exact absurd p n
  · rw [k.2 b hb]
    exact e
section
variable {K : Fr}
theorem freeze_list {τ : Sh} (ih : ∀ {H : Hp} {d : D} {v : V} {fp : List Addr}, RO K H τ d v fp → fp.Nodup → Fz H fun H2 => R K H2 d v ∧ KeepBut fp H H2) :
    ∀ (ds : List D) {H : Hp} {vs : List V} {fp : List Addr}, All3 (RO K H τ) ds vs fp → fp.Nodup → Fz H fun H2 => Rl K H2 ds vs ∧ KeepBut fp H H2
  | [], H, _, _, h, _ => .done ⟨h.1, KeepBut.refl H⟩
  | d :: ds, H, _, _, ⟨v, r, f1, f2, e1, e2, h, t⟩, n => by
    subst e1 e2
    have nd := List.nodup_append.mp n
    refine (ih h nd.1).bind fun H1 ⟨r1, k1, b1⟩ => ?_
    have t1 : All3 (RO K H1 τ) ds r f2 := t.mono fun d v f hf ro => RO.keep k1 τ ro fun a ha => b1 a fun hb => nd.2.2 a hb a (hf a ha) rfl
    refine (freeze_list ih ds t1 nd.2.1).mono fun H2 ⟨r2, k2, b2⟩ => ⟨⟨v, r, rfl, R.keep k2 _ r1, r2⟩, k1.trans k2, fun a ha => ?_⟩
    rw [b2 a fun z => ha (List.mem_append_right _ z), b1 a fun z => ha (List.mem_append_left _ z)]
theorem keepF_frz {H : Hp} {a : Addr} {o : Obj} {u : HO} (e : H a = some u) (n : ¬ isF u) : KeepF H (upd H a (.frz o u)) := fun b x e' f => by
  by_cases hb : b = a
  · subst hb; rw [e] at e'; cases e'; exact absurd f n
  · rw [upd_ne hb]; exact e'
theorem freeze : ∀ (τ : Sh) {H : Hp} {d : D} {v : V} {fp : List Addr}, RO K H τ d v fp → fp.Nodup → Fz H fun H2 => R K H2 d v ∧ KeepBut fp H H2
  | .dead, _, _, _, _, h, _ => h.elim
  | .fz, H, d, v, fp, h, _ => .done ⟨h.2, KeepBut.refl H⟩
  | .own τ, H, d, v, fp, ⟨ds, a, vs, fps, e1, e2, e3, z, e4, h⟩, n => by
    subst e1 e2 e4
    have nd := List.nodup_cons.mp n
    refine (freeze_list (fun h n => freeze τ h n) ds h nd.2).bind fun H1 ⟨r1, k1, b1⟩ => ?_
    have ea : H1 a = some (.lst vs) := by rw [b1 a nd.1]; exact e3
    refine .step ea trivial fun od => .done ?_
    have k2 : KeepF H1 (upd H1 a (.frz od (.lst vs))) := keepF_frz ea fun f => f
    refine ⟨⟨a, vs, rfl, ⟨od, upd_same⟩, z, Rl.keep k2 _ r1⟩, k1.trans k2, fun b hb => ?_⟩
    rw [upd_ne (fun e => hb (by simp [e])), b1 b fun q => hb (by simp [q])]
  | .ownD τ, H, d, v, fp, ⟨ks, ds, a, vs, fps, e1, e2, e3, z, e4, h⟩, n => by
    subst e1 e2 e4
    have nd := List.nodup_cons.mp n
    refine (freeze_list (fun h n => freeze τ h n) ds h nd.2).bind fun H1 ⟨r1, k1, b1⟩ => ?_
    have ea : H1 a = some (.dK (ks.zip vs)) := by rw [b1 a nd.1]; exact e3
    refine .step ea trivial fun od => .done ?_
    have k2 : KeepF H1 (upd H1 a (.frz od (.dK (ks.zip vs)))) := keepF_frz ea fun f => f
    refine ⟨⟨a, vs, od, rfl, upd_same, z, Rl.keep k2 _ r1⟩, k1.trans k2, fun b hb => ?_⟩
    rw [upd_ne (fun e => hb (by simp [e])), b1 b fun q => hb (by simp [q])]
end

/-! ## judgements -/
/-- what is wanted where the class c leaves -/
def EK (X : Cx) (H0 : Hp) (Z : Zt) (W : WX) (c : Str) : Prop := ∀ σ' H' C, ExtZ Z H0 H' → X.mg c = some (.ref C) → W (.ref C) none σ' H'
/-- a value of the shape τ, new since H -/
def Got (K : Fr) (H : Hp) (τ : Sh) (d : D) (v : V) (H' : Hp) : Prop := Ext H H' ∧ ∃ fp, RO K H' τ d v fp ∧ (∀ a ∈ fp, Fre H a) ∧ fp.Nodup
theorem Got.fz {K : Fr} {H H' : Hp} {d : D} {v : V} (x : Ext H H') (r : R K H' d v) : Got K H .fz d v H' := ⟨x, [], ⟨rfl, r⟩, by simp, by simp⟩
theorem Got.r {K : Fr} {H H' : Hp} {d : D} {v : V} (g : Got K H .fz d v H') : R K H' d v := let ⟨_, _, r, _⟩ := g; r.2
theorem Got.ext {K : Fr} {H H' : Hp} {τ : Sh} {d : D} {v : V} (g : Got K H τ d v H') : Ext H H' := g.1
theorem Fre.back {H H' : Hp} {a : Addr} (x : Ext H H') (f : Fre H' a) : Fre H a := fun o e => Classical.byCases (fun t : ∃ ps, o = .tbl ps => t) fun t => absurd (f o (x a o e fun ps q => t ⟨ps, q⟩)) t
theorem Got.from {K : Fr} {H H1 H' : Hp} {τ : Sh} {d : D} {v : V} (x : Ext H H1) (g : Got K H1 τ d v H') : Got K H τ d v H' := by
  obtain ⟨e, fp, r, f, n⟩ := g
  exact ⟨x.trans e, fp, r, fun a ha => (f a ha).back x, n⟩

/-- a list that stands or is locked -/
def FLO (H : Hp) (a : Addr) (xs : List V) : Prop := H a = some (.lst xs) ∨ ∃ o, H a = some (.frz o (.lst xs))
theorem FLO.sq {K : Fr} {H : Hp} {a : Addr} {vs : List V} (h : FLO H a vs) : SqL K H a vs := .inl h
/-- a value as it is looked at: its own list or dict may be open -/
def RV (K : Fr) (H : Hp) : D → V → Prop
  | .lst ds, v => ∃ a vs, v = .ref a ∧ FLO H a vs ∧ vs.length ≤ sizeLine ∧ Rl K H ds vs
  | .dct ks ds, v => ∃ a vs, v = .ref a ∧ Rd H a (.dK (ks.zip vs)) ∧ ks.length = ds.length ∧ Rl K H ds vs
  | d, v => R K H d v
theorem R.v {K : Fr} {H : Hp} {d : D} {v : V} (r : R K H d v) : RV K H d v := by
  cases d <;> first | exact r | skip
  · obtain ⟨a, vs, e, f, z, l⟩ := r; exact ⟨a, vs, e, .inr f, z, l⟩
  · obtain ⟨a, vs, o, e, f, z, l⟩ := r; exact ⟨a, vs, e, .inr ⟨o, f⟩, z, l⟩
theorem FLO.ext {H H' : Hp} {a : Addr} {vs : List V} (h : FLO H a vs) (x : Ext H H') : FLO H' a vs := by
  rcases h with h | ⟨o, h⟩
  · exact .inl (x _ _ h fun ps z => by cases z)
  · exact .inr ⟨o, x _ _ h fun ps z => by cases z⟩
theorem RV.ext {K : Fr} {H H' : Hp} {d : D} {v : V} (r : RV K H d v) (x : Ext H H') : RV K H' d v := by
  cases d <;> first | exact R.ext (d := _) r x | skip
  · obtain ⟨a, vs, e, f, z, l⟩ := r; exact ⟨a, vs, e, f.ext x, z, l.ext x⟩
  · obtain ⟨a, vs, e, f, z, l⟩ := r
    refine ⟨a, vs, e, ?_, z, l.ext x⟩
    rcases f with h | ⟨o, h⟩
    · exact .inl (x _ _ h fun ps z => by cases z)
    · exact .inr ⟨o, x _ _ h fun ps z => by cases z⟩
theorem RO.v1 {K : Fr} {H : Hp} {d : D} {v : V} {fp : List Addr} (r : RO K H (.own .fz) d v fp) : RV K H d v := by
  obtain ⟨ds, a, vs, fps, e1, e2, e3, z, e4, h⟩ := r
  subst e1
  exact ⟨a, vs, e2, .inl e3, z, h.rl.2⟩
theorem RO.v2 {K : Fr} {H : Hp} {d : D} {v : V} {fp : List Addr} (r : RO K H (.ownD .fz) d v fp) : RV K H d v := by
  obtain ⟨ks, ds, a, vs, fps, e1, e2, e3, z, e4, h⟩ := r
  subst e1
  exact ⟨a, vs, e2, .inl e3, z, h.rl.2⟩
def RVl (K : Fr) (H : Hp) : List D → List V → Prop
  | [], vs => vs = []
  | d :: ds, vs => ∃ v r, vs = v :: r ∧ RV K H d v ∧ RVl K H ds r
theorem RVl.ext {K : Fr} {H H' : Hp} : ∀ {ds : List D} {vs : List V}, RVl K H ds vs → Ext H H' → RVl K H' ds vs
  | [], _, h, _ => h
  | d :: ds, _, ⟨v, r, e, h, t⟩, x => ⟨v, r, e, h.ext x, t.ext x⟩
def GotV (K : Fr) (H : Hp) (d : D) (v : V) (H' : Hp) : Prop := Ext H H' ∧ RV K H' d v
theorem Got.v {K : Fr} {H H' : Hp} {d : D} {v : V} (g : Got K H .fz d v H') : GotV K H d v H' := ⟨g.ext, g.r.v⟩

section
variable (X : Cx) (H0 : Hp) (Z : Zt) (W : WX) (ω : List Sh)
/-- an expression that changes nothing: its value by the slots -/
def PX (e : Expr) (f : Env → Res D) (τ : Sh) : Prop := ∃ t, PE X e t ∧ ∀ ρ σ H Q, SR X.K H0 Z ω ρ σ H → Post (fun d => ∀ v H', Got X.K H τ d v H' → Q v H') (EK X H0 Z W) (f ρ) → t σ H Q
/-- .. looked at -/
def PVX (e : Expr) (f : Env → Res D) : Prop := ∃ t, PE X e t ∧ ∀ ρ σ H Q, SR X.K H0 Z ω ρ σ H → Post (fun d => ∀ v H', GotV X.K H d v H' → Q v H') (EK X H0 Z W) (f ρ) → t σ H Q
def PTX (e : Expr) (f : Env → Res Bool) : Prop := ∃ t, PT X e t ∧ ∀ ρ σ H Q, SR X.K H0 Z ω ρ σ H → Post (fun b => ∀ H', Ext H H' → Q b H') (EK X H0 Z W) (f ρ) → t σ H Q
def PWX (e : Expr) (f : Env → Res Bool) : Prop := ∃ t, PW X e t ∧ ∀ ρ σ H Q, SR X.K H0 Z ω ρ σ H → Post (fun b => ∀ H', Ext H H' → Q b H') (EK X H0 Z W) (f ρ) → t σ H Q
def PAVX (es : List Expr) (f : Env → Res (List D)) : Prop := ∃ t, PA X es t ∧ ∀ ρ σ H Q, SR X.K H0 Z ω ρ σ H → Post (fun ds => ∀ vs H', Ext H H' → RVl X.K H' ds vs → Q vs H') (EK X H0 Z W) (f ρ) → t σ H Q
def PAX (es : List Expr) (f : Env → Res (List D)) : Prop := ∃ t, PA X es t ∧ ∀ ρ σ H Q, SR X.K H0 Z ω ρ σ H → Post (fun ds => ∀ vs H', Ext H H' → Rl X.K H' ds vs → Q vs H') (EK X H0 Z W) (f ρ) → t σ H Q
inductive Fl where
  | nx (ρ : Env) | rt (d : D) (ρ : Env)
/-- behind a statement -/
def FK (ω' ωr : List Sh) (τr : Sh) (H : Hp) (Dn : Ends) : Fl → Prop
  | .nx ρ' => ∀ σ' H', KeepF H H' → SR X.K H0 Z ω' ρ' σ' H' → Dn.nx σ' H'
  | .rt d ρ' => ∀ v σ' H', SR X.K H0 Z (τr :: ωr) (d :: ρ') (some v :: σ') H' → Dn.rt v H'
def SX (ω' ωr : List Sh) (τr : Sh) (st : Stmt) (f : Env → Res Fl) : Prop := ∃ t, PS X st t ∧ ∀ ρ σ H Dn, SR X.K H0 Z ω ρ σ H → Post (FK X H0 Z ω' ωr τr H Dn) (EK X H0 Z W) (f ρ) → t Dn σ H
def BX (ω' ωr : List Sh) (τr : Sh) (st : List Stmt) (f : Env → Res Fl) : Prop := ∃ t, PSs X st t ∧ ∀ ρ σ H Dn, SR X.K H0 Z ω ρ σ H → Post (FK X H0 Z ω' ωr τr H Dn) (EK X H0 Z W) (f ρ) → t Dn σ H
end

section
variable {X : Cx} {H0 : Hp} {Z : Zt} {W : WX} {ω : List Sh}
theorem PX.freeze {e : Expr} {f : Env → Res D} {τ : Sh} (h : PX X H0 Z W ω e f τ) : PX X H0 Z W ω e f .fz := by
  obtain ⟨t, p, s⟩ := h
  refine ⟨_, pe_fz p, fun ρ σ H Q sr ps => s ρ σ H _ sr (ps.mono (fun d q v H' ⟨x, fp, r, fr, n⟩ => ?_) fun _ h => h)⟩
  refine (Mr.freeze τ r n).mono fun H2 ⟨r2, k2, b2⟩ => q v H2 (Got.fz ⟨fun b o e nt => ?_, x.tab.trans (KeepBut.tab ⟨k2, b2⟩ (RO.open τ r))⟩ r2)
  have nb : b ∉ fp := fun hb => by
    obtain ⟨ps, z⟩ := fr b hb o e
    exact nt ps z
  rw [b2 b nb]
  exact x b o e nt
theorem PX.v {e : Expr} {f : Env → Res D} (h : PX X H0 Z W ω e f .fz) : PVX X H0 Z W ω e f := by
  obtain ⟨t, p, s⟩ := h
  exact ⟨t, p, fun ρ σ H Q sr ps => s ρ σ H Q sr (ps.mono (fun d q v H' g => q v H' g.v) fun _ h => h)⟩
/-- the environment's slot -/
def gv (ρ : Env) (i : Nat) : D := ρ.getD i .non
def nv (i : Nat) (ρ : Env) : Res D := .ok (gv ρ i)
theorem px_v (i : Nat) {x : Str} {pos : Pos} (hN : X.N[i]? = some x := by rfl) (hω : ω[i]? = some .fz := by rfl) (hv : Vis X.env.scope x := by first | exact Or.inl rfl | exact Or.inr (Or.inl rfl) | exact Or.inr (Or.inr rfl)) (hd : (x == ("__debug__" : Str)) = false := by decide)
    (hcd : (x == ("__classdict__" : Str)) = false := by decide) : PX X H0 Z W ω (.Name x pos) (nv i) .fz := by
  refine ⟨_, pe_var hN hv hd hcd, fun ρ σ H Q sr ps => ?_⟩
  obtain ⟨d, s, f, e1, e2, sl, _⟩ := sr.focus i hω
  rcases sl with ⟨z, _⟩ | ⟨v, e3, e4, r⟩
  · cases z
  · subst e3
    have : gv ρ i = d := by unfold gv; rw [List.getD_eq_getElem?_getD, e1]; rfl
    refine ⟨v, e2, ps v H ?_⟩
    rw [this]
    exact Got.fz (Ext.refl H) r
/-- an open list's or dict's name -/
theorem pv_o (i : Nat) {x : Str} {τ : Sh} {pos : Pos} (hN : X.N[i]? = some x := by rfl) (hω : ω[i]? = some τ := by rfl) (hτ : τ = .own .fz ∨ τ = .ownD .fz := by first | exact .inl rfl | exact .inr rfl) (hv : Vis X.env.scope x := by first | exact Or.inl rfl | exact Or.inr (Or.inl rfl) | exact Or.inr (Or.inr rfl)) (hd : (x == ("__debug__" : Str)) = false := by decide)
    (hcd : (x == ("__classdict__" : Str)) = false := by decide) : PVX X H0 Z W ω (.Name x pos) (nv i) := by
  refine ⟨_, pe_var hN hv hd hcd, fun ρ σ H Q sr ps => ?_⟩
  obtain ⟨d, s, f, e1, e2, sl, _⟩ := sr.focus i hω
  rcases sl with ⟨z, _⟩ | ⟨v, e3, r⟩
  · rcases hτ with h | h <;> (rw [h] at z; cases z)
  · subst e3
    have : gv ρ i = d := by unfold gv; rw [List.getD_eq_getElem?_getD, e1]; rfl
    refine ⟨v, e2, ps v H ?_⟩
    rw [this]
    refine ⟨Ext.refl H, ?_⟩
    rcases hτ with h | h
    · subst h; exact r.v1
    · subst h; exact r.v2
theorem px_c {e : Expr} {d : D} {v : V} (h : PE X e (tC v)) (r : ∀ H, R X.K H d v) : PX X H0 Z W ω e (fun _ => .ok d) .fz := ⟨_, h, fun ρ σ H Q sr ps => ps v H (Got.fz (Ext.refl H) (r H))⟩
theorem px_int {i : Int} {j pos} : PX X H0 Z W ω (.Constant (.int i) j pos) (fun _ => .ok (.int i)) .fz := px_c pe_int fun _ => rfl
theorem px_str {x : Str} {j pos} : PX X H0 Z W ω (.Constant (.str x) j pos) (fun _ => .ok (.str x)) .fz := px_c pe_str fun _ => rfl
theorem px_bl {b : Bool} {j pos} : PX X H0 Z W ω (.Constant (.bool b) j pos) (fun _ => .ok (.bl b)) .fz := px_c pe_bl fun _ => rfl
theorem px_non {j pos} : PX X H0 Z W ω (.Constant .none j pos) (fun _ => .ok .non) .fz := px_c pe_non fun _ => rfl
theorem px_gi {x : Str} {i : Int} {t : Tok} {pos : Pos} (hg : Gl X x) (hm : X.mg x = some (.int i t)) (hd : (x == ("__debug__" : Str)) = false := by decide) : PX X H0 Z W ω (.Name x pos) (fun _ => .ok (.int i)) .fz := px_c (v := .int i) (pe_glob hg hm ⟨t, rfl⟩ hd) fun _ => rfl
theorem px_gs {x y : Str} {t : Tok} {pos : Pos} (hg : Gl X x) (hm : X.mg x = some (.str y t)) (hd : (x == ("__debug__" : Str)) = false := by decide) : PX X H0 Z W ω (.Name x pos) (fun _ => .ok (.str y)) .fz := px_c (v := .str y) (pe_glob hg hm ⟨t, rfl⟩ hd) fun _ => rfl

/-! ### operators -/
def OpS (K : Fr) (r : R2) (g : D → D → Res D) (τ : Sh) : Prop := ∀ d e v u H Q, RV K H d v → RV K H e u → Post (fun x => ∀ w H', Got K H τ x w H' → Q w H') (fun _ => False) (g d e) → r v u H Q
def op2 (g : D → D → Res D) (f h : Env → Res D) (ρ : Env) : Res D := (f ρ).bind fun x => (h ρ).bind fun y => g x y
variable {a b c : Expr} {f g h : Env → Res D} {pos : Pos}
theorem bin_s {ta tb : TE} {r : R2} {o : D → D → Res D} {τ : Sh} (hs : OpS X.K r o τ) (sa : ∀ ρ σ H Q, SR X.K H0 Z ω ρ σ H → Post (fun d => ∀ v H', GotV X.K H d v H' → Q v H') (EK X H0 Z W) (f ρ) → ta σ H Q)
    (sb : ∀ ρ σ H Q, SR X.K H0 Z ω ρ σ H → Post (fun d => ∀ v H', GotV X.K H d v H' → Q v H') (EK X H0 Z W) (g ρ) → tb σ H Q) (ne : ∀ x y c, o x y ≠ .ex c) :
    ∀ ρ σ H Q, SR X.K H0 Z ω ρ σ H → Post (fun d => ∀ v H', Got X.K H τ d v H' → Q v H') (EK X H0 Z W) (op2 o f g ρ) → tOp r ta tb σ H Q := by
  intro ρ σ H Q sr ps
  refine sa ρ σ H _ sr ((Post.bind.mp ps).mono (fun x q v H1 g1 => ?_) fun _ h => h)
  refine sb ρ σ H1 _ (sr.mono g1.1) ((Post.bind.mp q).mono (fun y q v2 H2 g2 => ?_) fun _ h => h)
  refine hs x y v v2 H2 Q (g1.2.ext g2.1) g2.2 ?_
  cases e : o x y with
  | ok z => rw [e] at q; exact fun w H' g3 => q w H' ((g3.from g2.1).from g1.1)
  | ex c => exact absurd e (ne x y c)
  | bad => rw [e] at q; exact q
theorem px_op {op : Operator} {r : R2} {o : D → D → Res D} {τ : Sh} (ho : OpR X (binaryOp op) r) (hs : OpS X.K r o τ) (ne : ∀ x y c, o x y ≠ .ex c) (ha : PVX X H0 Z W ω a f) (hb : PVX X H0 Z W ω b g) : PX X H0 Z W ω (.BinOp a op b pos) (op2 o f g) τ := by
  obtain ⟨ta, pa, sa⟩ := ha
  obtain ⟨tb, pb, sb⟩ := hb
  exact ⟨_, pe_op ho pa pb, bin_s hs sa sb ne⟩
theorem px_cmp {op : CmpOp} {r : R2} {o : D → D → Res D} (ho : OpR X (compareOp op) r) (hs : OpS X.K r o .fz) (ne : ∀ x y c, o x y ≠ .ex c) (ha : PVX X H0 Z W ω a f) (hb : PVX X H0 Z W ω b g) (hm : behindInMarks op b = false) : PX X H0 Z W ω (.Compare a [op] [b] pos) (op2 o f g) .fz := by
  obtain ⟨ta, pa, sa⟩ := ha
  obtain ⟨tb, pb, sb⟩ := hb
  exact ⟨_, pe_cmpR ho pa pb hm, bin_s hs sa sb ne⟩
/-- a bool -/
def isB : D → Res Bool
  | .bl b => .ok b
  | _ => .bad
def tst (f : Env → Res D) (ρ : Env) : Res Bool := (f ρ).bind isB
theorem R.bl {K : Fr} {H : Hp} {d : D} {v : V} {b : Bool} (r : R K H d v) (e : isB d = .ok b) : v = .bl b := by
  cases d <;> first | (cases e; exact r) | cases e
theorem tst_s {t : TE} (s : ∀ ρ σ H Q, SR X.K H0 Z ω ρ σ H → Post (fun d => ∀ v H', Got X.K H .fz d v H' → Q v H') (EK X H0 Z W) (f ρ) → t σ H Q) :
    ∀ ρ σ H Q, SR X.K H0 Z ω ρ σ H → Post (fun b => ∀ H', Ext H H' → Q b H') (EK X H0 Z W) (tst f ρ) → tTest t σ H Q := fun ρ σ H Q sr ps =>
  s ρ σ H _ sr ((Post.bind.mp ps).mono (fun d q v H' g => by
    cases e : isB d with
    | ok b => rw [e] at q; exact ⟨b, g.r.bl e, q H' g.ext⟩
    | ex c => cases d <;> cases e
    | bad => rw [e] at q; exact q.elim) fun _ h => h)
theorem ptx_cmp {op : CmpOp} {r : R2} {o : D → D → Res D} (ho : OpR X (compareOp op) r) (hs : OpS X.K r o .fz) (ne : ∀ x y c, o x y ≠ .ex c) (ha : PVX X H0 Z W ω a f) (hb : PVX X H0 Z W ω b g) (hm : behindInMarks op b = false) : PTX X H0 Z W ω (.Compare a [op] [b] pos) (tst (op2 o f g)) := by
  obtain ⟨ta, pa, sa⟩ := ha
  obtain ⟨tb, pb, sb⟩ := hb
  exact ⟨_, pt_cmpR ho pa pb hm, tst_s (bin_s hs sa sb ne)⟩
/-- an expression whose value is a bool -/
theorem ptx_v {e : Expr} (h : PX X H0 Z W ω e f .fz) (he : ∀ whole, isTrue e X.env whole = (do let v ← whole; standAt e.pos; holding [v] (truthy v)) := by intro _; rfl) : PTX X H0 Z W ω e (tst f) := by
  obtain ⟨t, p, s⟩ := h
  exact ⟨_, pt_val p he, tst_s s⟩
def notR (f : Env → Res Bool) (ρ : Env) : Res Bool := (f ρ).bind fun b => .ok (!b)
theorem ptx_not {f : Env → Res Bool} (h : PTX X H0 Z W ω a f) : PTX X H0 Z W ω (.UnaryOp .Not a pos) (notR f) := by
  obtain ⟨t, p, s⟩ := h
  exact ⟨_, pt_not p, fun ρ σ H Q sr ps => s ρ σ H _ sr ((Post.bind.mp ps).mono (fun b q H' x => q H' x) fun _ h => h)⟩
def andR (f g : Env → Res Bool) (ρ : Env) : Res Bool := (f ρ).bind fun b => if b = true then g ρ else .ok false
def orR (f g : Env → Res Bool) (ρ : Env) : Res Bool := (f ρ).bind fun b => if b = true then .ok true else g ρ
variable {rest : List Expr}
theorem pwx_and1 {f : Env → Res Bool} (h : PTX X H0 Z W ω a f) : PWX X H0 Z W ω (.BoolOp .And [a] pos) f := let ⟨_, p, s⟩ := h; ⟨_, pw_and1 p, s⟩
theorem pwx_or1 {f : Env → Res Bool} (h : PTX X H0 Z W ω a f) : PWX X H0 Z W ω (.BoolOp .Or [a] pos) f := let ⟨_, p, s⟩ := h; ⟨_, pw_or1 p, s⟩
theorem pwx_and {f g : Env → Res Bool} (ha : PTX X H0 Z W ω a f) (hb : PWX X H0 Z W ω (.BoolOp .And (b :: rest) pos) g) : PWX X H0 Z W ω (.BoolOp .And (a :: b :: rest) pos) (andR f g) := by
  obtain ⟨t, p, s⟩ := ha
  obtain ⟨t', p', s'⟩ := hb
  refine ⟨_, pw_and p p', fun ρ σ H Q sr ps => s ρ σ H _ sr ((Post.bind.mp ps).mono (fun b q H1 x => ?_) fun _ h => h)⟩
  cases b with
  | true => exact iteT (s' ρ σ H1 Q (sr.mono x) ((show Post _ _ (g ρ) from q).mono (fun b q H2 y => q H2 (x.trans y)) fun _ h => h))
  | false => exact iteF (q H1 x)
theorem pwx_or {f g : Env → Res Bool} (ha : PTX X H0 Z W ω a f) (hb : PWX X H0 Z W ω (.BoolOp .Or (b :: rest) pos) g) : PWX X H0 Z W ω (.BoolOp .Or (a :: b :: rest) pos) (orR f g) := by
  obtain ⟨t, p, s⟩ := ha
  obtain ⟨t', p', s'⟩ := hb
  refine ⟨_, pw_or p p', fun ρ σ H Q sr ps => s ρ σ H _ sr ((Post.bind.mp ps).mono (fun b q H1 x => ?_) fun _ h => h)⟩
  cases b with
  | true => exact iteT (q H1 x)
  | false => exact iteF (s' ρ σ H1 Q (sr.mono x) ((show Post _ _ (g ρ) from q).mono (fun b q H2 y => q H2 (x.trans y)) fun _ h => h))
theorem PWX.pt {e : Expr} {f : Env → Res Bool} (h : PWX X H0 Z W ω e f) : PTX X H0 Z W ω e f := let ⟨_, p, s⟩ := h; ⟨_, p.pt, s⟩
/-- and, or as values (bools) -/
def andV (f g : Env → Res D) (ρ : Env) : Res D := (f ρ).bind fun x => (isB x).bind fun b => if b = true then g ρ else .ok (.bl false)
def orV (f g : Env → Res D) (ρ : Env) : Res D := (f ρ).bind fun x => (isB x).bind fun b => if b = true then .ok (.bl true) else g ρ
def notV (f : Env → Res D) (ρ : Env) : Res D := (f ρ).bind fun x => (isB x).bind fun b => .ok (.bl (!b))
theorem isB_post {d : D} {k : Bool → Prop} {e : Str → Prop} (h : Post k e (isB d)) : ∃ b, isB d = .ok b ∧ k b := by
  cases d <;> first | exact ⟨_, rfl, h⟩ | exact h.elim
theorem px_one {op} (h : PX X H0 Z W ω a f .fz) : PX X H0 Z W ω (.BoolOp op [a] pos) f .fz := let ⟨_, p, s⟩ := h; ⟨_, pe_one p, s⟩
theorem px_and (ha : PX X H0 Z W ω a f .fz) (hb : PX X H0 Z W ω (.BoolOp .And (b :: rest) pos) g .fz) : PX X H0 Z W ω (.BoolOp .And (a :: b :: rest) pos) (andV f g) .fz := by
  obtain ⟨t, p, s⟩ := ha
  obtain ⟨t', p', s'⟩ := hb
  refine ⟨_, pe_and p p', fun ρ σ H Q sr ps => s ρ σ H _ sr ((Post.bind.mp ps).mono (fun d q v H1 x => ?_) fun _ h => h)⟩
  obtain ⟨k, e, q⟩ := isB_post (Post.bind.mp q)
  refine ⟨k, x.r.bl e, ?_⟩
  cases k with
  | true => exact iteT (s' ρ σ H1 Q (sr.mono x.ext) ((show Post _ _ (g ρ) from q).mono (fun b q w H2 y => q w H2 (y.from x.ext)) fun _ h => h))
  | false => exact iteF (q _ H1 (Got.fz x.ext rfl))
theorem px_or (ha : PX X H0 Z W ω a f .fz) (hb : PX X H0 Z W ω (.BoolOp .Or (b :: rest) pos) g .fz) : PX X H0 Z W ω (.BoolOp .Or (a :: b :: rest) pos) (orV f g) .fz := by
  obtain ⟨t, p, s⟩ := ha
  obtain ⟨t', p', s'⟩ := hb
  refine ⟨_, pe_or p p', fun ρ σ H Q sr ps => s ρ σ H _ sr ((Post.bind.mp ps).mono (fun d q v H1 x => ?_) fun _ h => h)⟩
  obtain ⟨k, e, q⟩ := isB_post (Post.bind.mp q)
  refine ⟨k, x.r.bl e, ?_⟩
  cases k with
  | true => exact iteT (q _ H1 (Got.fz x.ext rfl))
  | false => exact iteF (s' ρ σ H1 Q (sr.mono x.ext) ((show Post _ _ (g ρ) from q).mono (fun b q w H2 y => q w H2 (y.from x.ext)) fun _ h => h))
theorem px_not (h : PX X H0 Z W ω a f .fz) : PX X H0 Z W ω (.UnaryOp .Not a pos) (notV f) .fz := by
  obtain ⟨t, p, s⟩ := h
  refine ⟨_, pe_not p, fun ρ σ H Q sr ps => s ρ σ H _ sr ((Post.bind.mp ps).mono (fun d q v H1 x => ?_) fun _ h => h)⟩
  obtain ⟨k, e, q⟩ := isB_post (Post.bind.mp q)
  exact ⟨k, x.r.bl e, q _ H1 (Got.fz x.ext rfl)⟩
/-- a if t else b -/
def ifV (t : Env → Res Bool) (f g : Env → Res D) (ρ : Env) : Res D := (t ρ).bind fun b => if b = true then f ρ else g ρ
theorem px_if {τ : Sh} {k : Env → Res Bool} (hc : PTX X H0 Z W ω c k) (ha : PX X H0 Z W ω a f τ) (hb : PX X H0 Z W ω b g τ) : PX X H0 Z W ω (.IfExp c a b pos) (ifV k f g) τ := by
  obtain ⟨tc, pc, sc⟩ := hc
  obtain ⟨ta, pa, sa⟩ := ha
  obtain ⟨tb, pb, sb⟩ := hb
  refine ⟨_, pe_ifExp pc pa pb, fun ρ σ H Q sr ps => sc ρ σ H _ sr ((Post.bind.mp ps).mono (fun k q H1 x => ?_) fun _ h => h)⟩
  cases k with
  | true => exact iteT (sa ρ σ H1 Q (sr.mono x) ((show Post _ _ (f ρ) from q).mono (fun b q w H2 y => q w H2 (y.from x)) fun _ h => h))
  | false => exact iteF (sb ρ σ H1 Q (sr.mono x) ((show Post _ _ (g ρ) from q).mono (fun b q w H2 y => q w H2 (y.from x)) fun _ h => h))
/-- chains -/
def chV (o o' : D → D → Res D) (f g h : Env → Res D) (ρ : Env) : Res D := (f ρ).bind fun x => (g ρ).bind fun y => (o x y).bind fun z => (isB z).bind fun k => if k = true then (h ρ).bind fun w => o' y w else .ok (.bl false)
theorem ch_s {ta tb tc : TE} {r r' : R2} {o o' : D → D → Res D} (hs : OpS X.K r o .fz) (hs' : OpS X.K r' o' .fz) (ne : ∀ x y c, o x y ≠ .ex c) (ne' : ∀ x y c, o' x y ≠ .ex c)
    (sa : ∀ ρ σ H Q, SR X.K H0 Z ω ρ σ H → Post (fun d => ∀ v H', GotV X.K H d v H' → Q v H') (EK X H0 Z W) (f ρ) → ta σ H Q)
    (sb : ∀ ρ σ H Q, SR X.K H0 Z ω ρ σ H → Post (fun d => ∀ v H', GotV X.K H d v H' → Q v H') (EK X H0 Z W) (g ρ) → tb σ H Q)
    (sc : ∀ ρ σ H Q, SR X.K H0 Z ω ρ σ H → Post (fun d => ∀ v H', GotV X.K H d v H' → Q v H') (EK X H0 Z W) (h ρ) → tc σ H Q) :
    ∀ ρ σ H Q, SR X.K H0 Z ω ρ σ H → Post (fun d => ∀ v H', Got X.K H .fz d v H' → Q v H') (EK X H0 Z W) (chV o o' f g h ρ) → tChain r r' ta tb tc σ H Q := by
  intro ρ σ H Q sr ps
  refine sa ρ σ H _ sr ((Post.bind.mp ps).mono (fun x q v H1 g1 => ?_) fun _ h => h)
  refine sb ρ σ H1 _ (sr.mono g1.1) ((Post.bind.mp q).mono (fun y q v2 H2 g2 => ?_) fun _ h => h)
  refine hs x y v v2 H2 _ (g1.2.ext g2.1) g2.2 ?_
  cases e : o x y with
  | ex c => exact absurd e (ne x y c)
  | bad => rw [e] at q; exact q
  | ok z =>
    rw [e] at q
    intro w H3 g3
    obtain ⟨k, e2, q⟩ := isB_post (Post.bind.mp (show Post _ _ ((isB z).bind _) from q))
    refine ⟨k, g3.r.bl e2, ?_⟩
    cases k with
    | false => exact iteF (q _ H3 (Got.fz ((g1.1.trans g2.1).trans g3.ext) rfl))
    | true =>
      refine iteT (sc ρ σ H3 _ (((sr.mono g1.1).mono g2.1).mono g3.ext) ((Post.bind.mp (show Post _ _ ((h ρ).bind _) from q)).mono (fun u q w' H4 g4 => ?_) fun _ h => h))
      refine hs' y u v2 w' H4 Q ((g2.2.ext g3.ext).ext g4.1) g4.2 ?_
      cases e3 : o' y u with
      | ok z => rw [e3] at q; exact fun w H' g5 => q w H' ((((g5.from g4.1).from g3.ext).from g2.1).from g1.1)
      | ex c => exact absurd e3 (ne' y u c)
      | bad => rw [e3] at q; exact q
theorem px_ch {op op' : CmpOp} {r r' : R2} {o o' : D → D → Res D} (ho : OpR X (compareOp op) r) (ho' : OpR X (compareOp op') r') (hs : OpS X.K r o .fz) (hs' : OpS X.K r' o' .fz) (ne : ∀ x y c, o x y ≠ .ex c) (ne' : ∀ x y c, o' x y ≠ .ex c)
    (ha : PVX X H0 Z W ω a f) (hb : PVX X H0 Z W ω b g) (hc : PVX X H0 Z W ω c h) (hm : lastMarks [op, op'] [b, c] = false := by with_unfolding_all rfl) : PX X H0 Z W ω (.Compare a [op, op'] [b, c] pos) (chV o o' f g h) .fz := by
  obtain ⟨ta, pa, sa⟩ := ha
  obtain ⟨tb, pb, sb⟩ := hb
  obtain ⟨tc, pc, sc⟩ := hc
  exact ⟨_, pe_chain ho ho' pa pb pc hm, ch_s hs hs' ne ne' sa sb sc⟩
theorem ptx_ch {op op' : CmpOp} {r r' : R2} {o o' : D → D → Res D} (ho : OpR X (compareOp op) r) (ho' : OpR X (compareOp op') r') (hs : OpS X.K r o .fz) (hs' : OpS X.K r' o' .fz) (ne : ∀ x y c, o x y ≠ .ex c) (ne' : ∀ x y c, o' x y ≠ .ex c)
    (ha : PVX X H0 Z W ω a f) (hb : PVX X H0 Z W ω b g) (hc : PVX X H0 Z W ω c h) (hm : lastMarks [op, op'] [b, c] = false := by with_unfolding_all rfl) : PTX X H0 Z W ω (.Compare a [op, op'] [b, c] pos) (tst (chV o o' f g h)) := by
  obtain ⟨ta, pa, sa⟩ := ha
  obtain ⟨tb, pb, sb⟩ := hb
  obtain ⟨tc, pc, sc⟩ := hc
  exact ⟨_, pt_chain ho ho' pa pb pc hm, tst_s (ch_s hs hs' ne ne' sa sb sc)⟩

/-! ### argument lists -/
def nilA (_ : Env) : Res (List D) := .ok []
def consA (f : Env → Res D) (g : Env → Res (List D)) (ρ : Env) : Res (List D) := (f ρ).bind fun x => (g ρ).bind fun xs => .ok (x :: xs)
theorem pax_nil : PAX X H0 Z W ω [] nilA := ⟨_, pa_nil, fun ρ σ H Q sr ps => ps [] H (Ext.refl H) rfl⟩
theorem pax_cons {es : List Expr} {g : Env → Res (List D)} (ha : PX X H0 Z W ω a f .fz) (hb : PAX X H0 Z W ω es g) (hs : starEach (a :: es) X.env = (false, eval a X.env) :: starEach es X.env := by rfl) : PAX X H0 Z W ω (a :: es) (consA f g) := by
  obtain ⟨ta, pa, sa⟩ := ha
  obtain ⟨tb, pb, sb⟩ := hb
  refine ⟨_, pa_cons pa pb hs, fun ρ σ H Q sr ps => ?_⟩
  refine sa ρ σ H _ sr ((Post.bind.mp ps).mono (fun x q v H1 g1 => ?_) fun _ h => h)
  exact sb ρ σ H1 _ (sr.mono g1.ext) ((Post.bind.mp q).mono (fun xs q vs H2 x2 r2 => q (v :: vs) H2 (g1.ext.trans x2) ⟨v, vs, rfl, g1.r.ext x2, r2⟩) fun _ h => h)
theorem pav_nil : PAVX X H0 Z W ω [] nilA := ⟨_, pa_nil, fun ρ σ H Q sr ps => ps [] H (Ext.refl H) rfl⟩
theorem pav_cons {es : List Expr} {g : Env → Res (List D)} (ha : PVX X H0 Z W ω a f) (hb : PAVX X H0 Z W ω es g) (hs : starEach (a :: es) X.env = (false, eval a X.env) :: starEach es X.env := by rfl) : PAVX X H0 Z W ω (a :: es) (consA f g) := by
  obtain ⟨ta, pa, sa⟩ := ha
  obtain ⟨tb, pb, sb⟩ := hb
  refine ⟨_, pa_cons pa pb hs, fun ρ σ H Q sr ps => ?_⟩
  refine sa ρ σ H _ sr ((Post.bind.mp ps).mono (fun x q v H1 g1 => ?_) fun _ h => h)
  exact sb ρ σ H1 _ (sr.mono g1.1) ((Post.bind.mp q).mono (fun xs q vs H2 x2 r2 => q (v :: vs) H2 (g1.1.trans x2) ⟨v, vs, rfl, g1.2.ext x2, r2⟩) fun _ h => h)
end
end Mr

namespace Mr
variable [TabsOf]
open PySem PySem.Spec PyProof.Rows L2
open Res

/-! ## data as the library has it -/
mutual
def D.toP : D → PyData
  | .non => .none | .bl b => .bool b | .int i => .int i | .str x => .str x
  | .tup ds => .tuple (D.toPl ds) | .lst ds => .list (D.toPl ds) | .scr ns => .list (ns.map .int) | .ctup ss => .tuple (ss.map .str) | .adr _ => .none
  | .dct _ _ => .dict [] | .dcT _ _ => .dict [] | .ndc => .dict []
def D.toPl : List D → List PyData
  | [] => []
  | d :: ds => d.toP :: D.toPl ds
end
mutual
/-- no dict in it -/
def D.noD : D → Bool
  | .tup ds => D.noDl ds | .lst ds => D.noDl ds | .dct _ _ => false | .dcT _ _ => false | .adr _ => false | .ndc => false | _ => true
def D.noDl : List D → Bool
  | [] => true
  | d :: ds => d.noD && D.noDl ds
end
section
variable {K : Fr} {H : Hp}
theorem dp_ints : ∀ ns : List Int, DpAll K H (ns.map V.int) (ns.map PyData.int)
  | [] => .nil
  | n :: ns => .cons (.int n) (dp_ints ns)
theorem dp_strs : ∀ ns : List Str, DpAll K H (ns.map V.str) (ns.map PyData.str)
  | [] => .nil
  | n :: ns => .cons (.str n) (dp_strs ns)
mutual
theorem R.dp : ∀ (d : D) {v : V}, R K H d v → d.noD = true → Dp K H v d.toP
  | .non, _, h, _ => by rw [show _ = V.non from h, D.toP]; exact .non
  | .bl b, _, h, _ => by rw [show _ = V.bl b from h, D.toP]; exact .bl b
  | .int b, _, h, _ => by rw [show _ = V.int b from h, D.toP]; exact .int b
  | .str b, _, h, _ => by rw [show _ = V.str b from h, D.toP]; exact .str b
  | .tup ds, _, ⟨a, vs, e, s, z, l⟩, n => by
    subst e
    rw [D.toP]
    exact .tup (.of s) (Rl.dp ds l (by simpa [D.noD] using n))
  | .lst ds, _, ⟨a, vs, e, s, z, l⟩, n => by
    subst e
    rw [D.toP]
    exact .lst s.sq (Rl.dp ds l (by simpa [D.noD] using n))
  | .scr ns, _, ⟨a, e, s, z⟩, n => by
    subst e
    rw [D.toP]
    exact .lst s.sq (dp_ints ns)
  | .ctup ns, _, ⟨a, e, s⟩, n => by
    subst e
    rw [D.toP]
    exact .tup s (dp_strs ns)
  | .adr _, _, _, n => by simp [D.noD] at n
  | .dct _ _, _, _, n => by simp [D.noD] at n
  | .ndc, _, _, n => by simp [D.noD] at n
  | .dcT _ _, _, _, n => by simp [D.noD] at n
theorem Rl.dp : ∀ (ds : List D) {vs : List V}, Rl K H ds vs → D.noDl ds = true → DpAll K H vs (D.toPl ds)
  | [], _, h, _ => by rw [show _ = [] from h, D.toPl]; exact .nil
  | d :: ds, _, ⟨v, r, e, h, t⟩, n => by
    subst e
    rw [D.toPl]
    simp only [D.noDl, Bool.and_eq_true] at n
    exact .cons (R.dp d h n.1) (Rl.dp ds t n.2)
end
end

theorem RV.dp {K : Fr} {H : Hp} {d : D} {v : V} (r : RV K H d v) (n : d.noD = true) : Dp K H v d.toP := by
  cases d <;> first | exact R.dp (d := _) r n | skip
  · obtain ⟨a, vs, e, f, z, l⟩ := r
    subst e
    rw [D.toP]
    exact .lst f.sq (Rl.dp _ l (by simpa [D.noD] using n))
  · simp [D.noD] at n

/-! ## operators by data -/
def mulOk (i j : Int) : Bool := !((decide (Builtin.Int.intBits i > shortFactorBits) && decide (Builtin.Int.intBits j > shortFactorBits) && Builtin.Int.intTooBig (Builtin.Int.intBits i + Builtin.Int.intBits j)))
def addD : D → D → Res D
  | .int i, .int j => .ok (.int (i + j))
  | .str a, .str b => if a.length + b.length ≤ sizeLine then .ok (.str (a ++ b)) else .bad
  | .tup a, .tup b => if a.length + b.length ≤ sizeLine then .ok (.tup (a ++ b)) else .bad
  | .lst a, .lst b => if a.length + b.length ≤ sizeLine then .ok (.lst (a ++ b)) else .bad
  | _, _ => .bad
def subD : D → D → Res D
  | .int i, .int j => .ok (.int (i - j))
  | _, _ => .bad
def mulD : D → D → Res D
  | .int i, .int j => if mulOk i j then .ok (.int (i * j)) else .bad
  | .str a, .int j => if j = 0 then .ok (.str Str.empty) else if j = 1 then .ok (.str a) else .bad
  | .lst a, .int j => if 0 ≤ j ∧ j < 2 ^ 63 ∧ a.length * j.toNat ≤ sizeLine then .ok (.lst (List.replicate j.toNat a).flatten) else .bad
  | .tup a, .int j => if a ≠ [] ∧ 2 ≤ j ∧ j ≤ 1000 ∧ a.length ≤ 1000 then .ok (.tup (List.replicate j.toNat a).flatten) else .bad
  | _, _ => .bad
def fdivD : D → D → Res D
  | .int i, .int j => if 0 < j ∧ j.natAbs.log2 < 9000 then .ok (.int (i / j)) else .bad
  | _, _ => .bad
def modD : D → D → Res D
  | .int i, .int j => if 0 < j then .ok (.int (i % j)) else .bad
  | _, _ => .bad
def powD : D → D → Res D
  | .int i, .int j => if 0 ≤ j ∧ j ≤ 1000000 ∧ i.natAbs < 2 ^ 64 then .ok (.int (i ^ j.toNat)) else .bad
  | _, _ => .bad
def ltD : D → D → Res D
  | .int i, .int j => .ok (.bl (decide (i < j)))
  | _, _ => .bad
def leD : D → D → Res D
  | .int i, .int j => .ok (.bl (decide (i ≤ j)))
  | _, _ => .bad
def gtD : D → D → Res D
  | .int i, .int j => .ok (.bl (decide (j < i)))
  | _, _ => .bad
def geD : D → D → Res D
  | .int i, .int j => .ok (.bl (decide (j ≤ i)))
  | _, _ => .bad
def shp (d : D) : Bool := d.noD && SeqAt.shaped d.toP
def eqv (d e : D) : Bool := PyData.eqv d.toP e.toP
def eqD (d e : D) : Res D := if shp d && shp e then .ok (.bl (eqv d e)) else .bad
def neD (d e : D) : Res D := if shp d && shp e then .ok (.bl (!eqv d e)) else .bad
def isN : D → Bool
  | .non => true
  | _ => false
def isD : D → D → Res D
  | d, .non => .ok (.bl (isN d))
  | _, _ => .bad
def isnD : D → D → Res D
  | d, .non => .ok (.bl (!isN d))
  | _, _ => .bad
def flat : D → Bool
  | .non => true | .bl _ => true | .int _ => true | .str _ => true | _ => false
def memD (x : D) (ds : List D) : Res Bool := if flat x && ds.all flat then .ok (ds.any fun y => eqv y x) else .bad

end Mr
namespace Mr
variable [TabsOf]
open PySem PySem.Spec PyProof.Rows L2
open Res
section
variable {K : Fr}
theorem addD_ne (x y : D) (c : Str) : addD x y ≠ .ex c := by unfold addD; split <;> first | (split <;> (intro h; cases h)) | (intro h; cases h)
theorem subD_ne (x y : D) (c : Str) : subD x y ≠ .ex c := by unfold subD; split <;> (intro h; cases h)
theorem mulD_ne (x y : D) (c : Str) : mulD x y ≠ .ex c := by unfold mulD; split <;> (repeat' split) <;> (intro h; cases h)
theorem fdivD_ne (x y : D) (c : Str) : fdivD x y ≠ .ex c := by unfold fdivD; split <;> (repeat' split) <;> (intro h; cases h)
theorem modD_ne (x y : D) (c : Str) : modD x y ≠ .ex c := by unfold modD; split <;> (repeat' split) <;> (intro h; cases h)
theorem powD_ne (x y : D) (c : Str) : powD x y ≠ .ex c := by unfold powD; split <;> (repeat' split) <;> (intro h; cases h)
theorem ltD_ne (x y : D) (c : Str) : ltD x y ≠ .ex c := by unfold ltD; split <;> (intro h; cases h)
theorem leD_ne (x y : D) (c : Str) : leD x y ≠ .ex c := by unfold leD; split <;> (intro h; cases h)
theorem gtD_ne (x y : D) (c : Str) : gtD x y ≠ .ex c := by unfold gtD; split <;> (intro h; cases h)
theorem geD_ne (x y : D) (c : Str) : geD x y ≠ .ex c := by unfold geD; split <;> (intro h; cases h)
theorem eqD_ne (x y : D) (c : Str) : eqD x y ≠ .ex c := by unfold eqD; split <;> (intro h; cases h)
theorem neD_ne (x y : D) (c : Str) : neD x y ≠ .ex c := by unfold neD; split <;> (intro h; cases h)
theorem isD_ne (x y : D) (c : Str) : isD x y ≠ .ex c := by unfold isD; split <;> (intro h; cases h)
theorem isnD_ne (x y : D) (c : Str) : isnD x y ≠ .ex c := by unfold isnD; split <;> (intro h; cases h)

theorem ints_s {r : R2} {g : Int → Int → Res D} {o : D → D → Res D} (h1 : ∀ i j, o (.int i) (.int j) = g i j) (h2 : ∀ d e k, Post k (fun _ => False) (o d e) → ∃ i j, d = .int i ∧ e = .int j)
    (h3 : ∀ i j H Q, Post (fun x => ∀ w H', Got K H .fz x w H' → Q w H') (fun _ => False) (g i j) → r (.int i) (.int j) H Q) : OpS K r o .fz := by
  intro d e v u H Q hd he ps
  obtain ⟨i, j, rfl, rfl⟩ := h2 d e _ ps
  rw [h1] at ps
  rw [show v = V.int i from hd, show u = V.int j from he]
  exact h3 i j H Q ps
theorem of_ints {o : D → D → Res D} (h : ∀ d e, (∀ i j, ¬ (d = .int i ∧ e = .int j)) → o d e = .bad) : ∀ d e k, Post k (fun _ => False) (o d e) → ∃ i j, d = .int i ∧ e = .int j := fun d e k p => by
  apply Classical.byContradiction
  intro n
  rw [h d e fun i j q => n ⟨i, j, q⟩] at p
  exact p
theorem sub_s : OpS K (rI0 fun i j => .int (i - j)) subD .fz := ints_s (g := fun i j => .ok (.int (i - j))) (fun _ _ => rfl) (of_ints fun d e n => by cases d <;> cases e <;> first | rfl | exact absurd ⟨rfl, rfl⟩ (n _ _)) fun i j H Q p => ⟨i, j, rfl, rfl, p _ H (Got.fz (Ext.refl H) rfl)⟩
theorem lt_s : OpS K (rI0 fun i j => .bl (decide (i < j))) ltD .fz := ints_s (g := fun i j => .ok (.bl (decide (i < j)))) (fun _ _ => rfl) (of_ints fun d e n => by cases d <;> cases e <;> first | rfl | exact absurd ⟨rfl, rfl⟩ (n _ _)) fun i j H Q p => ⟨i, j, rfl, rfl, p _ H (Got.fz (Ext.refl H) rfl)⟩
theorem le_s : OpS K (rI0 fun i j => .bl (decide (i ≤ j))) leD .fz := ints_s (g := fun i j => .ok (.bl (decide (i ≤ j)))) (fun _ _ => rfl) (of_ints fun d e n => by cases d <;> cases e <;> first | rfl | exact absurd ⟨rfl, rfl⟩ (n _ _)) fun i j H Q p => ⟨i, j, rfl, rfl, p _ H (Got.fz (Ext.refl H) rfl)⟩
theorem gt_s : OpS K (rI0 fun i j => .bl (decide (j < i))) gtD .fz := ints_s (g := fun i j => .ok (.bl (decide (j < i)))) (fun _ _ => rfl) (of_ints fun d e n => by cases d <;> cases e <;> first | rfl | exact absurd ⟨rfl, rfl⟩ (n _ _)) fun i j H Q p => ⟨i, j, rfl, rfl, p _ H (Got.fz (Ext.refl H) rfl)⟩
theorem ge_s : OpS K (rI0 fun i j => .bl (decide (j ≤ i))) geD .fz := ints_s (g := fun i j => .ok (.bl (decide (j ≤ i)))) (fun _ _ => rfl) (of_ints fun d e n => by cases d <;> cases e <;> first | rfl | exact absurd ⟨rfl, rfl⟩ (n _ _)) fun i j H Q p => ⟨i, j, rfl, rfl, p _ H (Got.fz (Ext.refl H) rfl)⟩
theorem Post.ite {α : Type} {c : Prop} [Decidable c] {k : α → Prop} {e : Str → Prop} {a : Res α} (h : Post k e (if c then a else .bad)) : c ∧ Post k e a := by
  by_cases hc : c
  · rw [if_pos hc] at h; exact ⟨hc, h⟩
  · rw [if_neg hc] at h; exact h.elim
theorem mod_s : OpS K (rI (fun _ j => 0 < j) fun i j => .int (i % j)) modD .fz := ints_s (g := fun i j => if 0 < j then .ok (.int (i % j)) else .bad) (fun _ _ => rfl) (of_ints fun d e n => by cases d <;> cases e <;> first | rfl | exact absurd ⟨rfl, rfl⟩ (n _ _)) fun i j H Q p => by
  obtain ⟨c, p⟩ := Post.ite p
  exact ⟨i, j, rfl, rfl, c, p _ H (Got.fz (Ext.refl H) rfl)⟩
theorem fdiv_s : OpS K (rI CDivW fun i j => .int (i / j)) fdivD .fz := ints_s (g := fun i j => if 0 < j ∧ j.natAbs.log2 < 9000 then .ok (.int (i / j)) else .bad) (fun _ _ => rfl) (of_ints fun d e n => by cases d <;> cases e <;> first | rfl | exact absurd ⟨rfl, rfl⟩ (n _ _)) fun i j H Q p => by
  obtain ⟨c, p⟩ := Post.ite p
  exact ⟨i, j, rfl, rfl, c, p _ H (Got.fz (Ext.refl H) rfl)⟩
theorem pow_s : OpS K (rI CPow fun i j => .int (i ^ j.toNat)) powD .fz := ints_s (g := fun i j => if 0 ≤ j ∧ j ≤ 1000000 ∧ i.natAbs < 2 ^ 64 then .ok (.int (i ^ j.toNat)) else .bad) (fun _ _ => rfl) (of_ints fun d e n => by cases d <;> cases e <;> first | rfl | exact absurd ⟨rfl, rfl⟩ (n _ _)) fun i j H Q p => by
  obtain ⟨c, p⟩ := Post.ite p
  exact ⟨i, j, rfl, rfl, c, p _ H (Got.fz (Ext.refl H) rfl)⟩
theorem eq_s : OpS K (rEqD K) eqD .fz := by
  intro d e v u H Q hd he ps
  obtain ⟨c, p⟩ := Post.ite ps
  simp only [shp, Bool.and_eq_true] at c
  exact ⟨_, _, hd.dp c.1.1, he.dp c.2.1, c.1.2, c.2.2, p _ H (Got.fz (Ext.refl H) rfl)⟩
theorem ne_s : OpS K (rNeD K) neD .fz := by
  intro d e v u H Q hd he ps
  obtain ⟨c, p⟩ := Post.ite ps
  simp only [shp, Bool.and_eq_true] at c
  exact ⟨_, _, hd.dp c.1.1, he.dp c.2.1, c.1.2, c.2.2, p _ H (Got.fz (Ext.refl H) rfl)⟩
theorem RV.isN {H : Hp} {d : D} {v : V} (r : RV K H d v) : decide (v = .non) = isN d := by
  cases d with
  | non => rw [show v = V.non from r]; rfl
  | bl b => rw [show v = V.bl b from r]; rfl
  | int b => rw [show v = V.int b from r]; rfl
  | str b => rw [show v = V.str b from r]; rfl
  | tup _ => obtain ⟨_, _, e, _⟩ := r; rw [e]; rfl
  | lst _ => obtain ⟨_, _, e, _⟩ := r; rw [e]; rfl
  | dct _ _ => obtain ⟨_, _, e, _⟩ := r; rw [e]; rfl
  | dcT _ _ => obtain ⟨_, _, _, e, _⟩ := r; rw [e]; rfl
  | scr _ => obtain ⟨_, e, _⟩ := r; rw [e]; rfl
  | ctup _ => obtain ⟨_, e, _⟩ := r; rw [e]; rfl
  | adr _ => rw [show v = V.ref _ from r]; rfl
  | ndc => obtain ⟨_, _, e, _⟩ := r; rw [e]; rfl
theorem is_s : OpS K (fun x y H Q => y = .non ∧ Q (.bl (decide (x = .non))) H) isD .fz := by
  intro d e v u H Q hd he ps
  cases e <;> first | exact (show False from ps).elim | skip
  exact ⟨he, by rw [hd.isN]; exact ps _ H (Got.fz (Ext.refl H) rfl)⟩
theorem isn_s : OpS K (fun x y H Q => y = .non ∧ Q (.bl (!decide (x = .non))) H) isnD .fz := by
  intro d e v u H Q hd he ps
  cases e <;> first | exact (show False from ps).elim | skip
  exact ⟨he, by rw [hd.isN]; exact ps _ H (Got.fz (Ext.refl H) rfl)⟩
end

/-! ### + and * with what they lay -/
section
variable {X : Cx} {pins : List (Addr × Obj)} {σ : Sg} {H : Hp} {s : Shared}
theorem lstO {l : Addr} {xs : List V} (I : Inv X pins σ H s) (h : FLO H l xs) : xs.length ≤ sizeLine ∧ ∃ (its : List Value) (n : Nat), Vals xs its ∧ xs.length = its.length ∧ s.heap.get? l = some { cls := .type "list", data := .seq its.toArray n } := by
  rcases h with h | ⟨o, h⟩
  · exact I.lstM h
  · obtain ⟨_, z, its, n, r, e⟩ := I.hok l _ h
    exact ⟨z, its, n, r, r.length, e⟩
def rCatL : R2 := fun x y H Q => ∃ l b xs zs, x = .ref l ∧ y = .ref b ∧ FLO H l xs ∧ FLO H b zs ∧ xs.length + zs.length ≤ sizeLine ∧ ∀ p, H p = none → Q (.ref p) (upd H p (.lst (xs ++ zs)))
theorem op_catL : OpR X (binaryOp .Add) rCatL := by
  intro pins s σ H x y v u Q I rx ry h
  obtain ⟨l, b, xs, zs, rfl, rfl, hH, hB, hz, q⟩ := h
  cases rx
  cases ry
  obtain ⟨z, its, n, r, hl, e⟩ := lstO I hH
  obtain ⟨z2, its2, n2, r2, hl2, e2⟩ := lstO I hB
  refine PySem.P.add_list e e2 ?_ (by rw [List.size_toArray, List.size_toArray]; omega)
  have ea : its.toArray ++ its2.toArray = (its ++ its2).toArray := by simp
  rw [ea]
  exact ⟨.ref _, _, I.lnew (t' := s.toks) (r.append r2) (by rw [List.length_append]; omega), rfl, q _ I.fresh⟩
end
section
variable {K : Fr}
theorem Got.lst {H H1 : Hp} {ds : List D} {vs : List V} {p : Addr} (x : Ext H H1) (hp : H1 p = none) (l : Rl K H1 ds vs) (z : vs.length ≤ sizeLine) : Got K H (.own .fz) (.lst ds) (.ref p) (upd H1 p (.lst vs)) :=
  ⟨x.trans (Ext.new hp), [p], ⟨ds, p, vs, [], rfl, rfl, upd_same, z, rfl, All3.of_rl (l.ext (Ext.new hp))⟩, by simpa using (Fre.of hp).back x, by simp⟩
theorem Got.tup {H H1 : Hp} {ds : List D} {vs : List V} {p : Addr} (x : Ext H H1) (hp : H1 p = none) (l : Rl K H1 ds vs) (z : vs.length ≤ sizeLine) : Got K H .fz (.tup ds) (.ref p) (upd H1 p (.tup vs)) :=
  Got.fz (x.trans (Ext.new hp)) ⟨p, vs, rfl, upd_same, z, l.ext (Ext.new hp)⟩
theorem RV.listO {H : Hp} {ds : List D} {v : V} (r : RV K H (.lst ds) v) : ∃ a vs, v = .ref a ∧ FLO H a vs ∧ vs.length ≤ sizeLine ∧ Rl K H ds vs := r
/-- [..] + [..]: new -/
def catD : D → D → Res D
  | .lst a, .lst b => if a.length + b.length ≤ sizeLine then .ok (.lst (a ++ b)) else .bad
  | _, _ => .bad
theorem catD_ne (x y : D) (c : Str) : catD x y ≠ .ex c := by unfold catD; split <;> (repeat' split) <;> (intro h; cases h)
theorem cat_s : OpS K rCatL catD (.own .fz) := by
  intro d e v u H Q hd he ps
  cases d <;> cases e <;> first | exact (show False from ps).elim | skip
  obtain ⟨a, vs, rfl, f, z, l⟩ := hd.listO
  obtain ⟨b, us, rfl, f2, z2, l2⟩ := he.listO
  obtain ⟨c, p⟩ := Post.ite ps
  have hl : vs.length + us.length ≤ sizeLine := by rw [l.length, l2.length]; exact c
  exact ⟨a, b, vs, us, rfl, rfl, f, f2, hl, fun q hq => p _ _ (Got.lst (Ext.refl H) hq (l.append l2) (by rw [List.length_append]; exact hl))⟩
def addR (K : Fr) : R2 := fun x y H Q => (rI0 (fun i j => .int (i + j)) x y H Q ∨ (∃ i j, x = .str i ∧ y = .str j ∧ i.length + j.length ≤ sizeLine ∧ Q (.str (i ++ j)) H)) ∨ (rCatA K x y H Q ∨ rCatL x y H Q)
theorem op_addR {X : Cx} : OpR X (binaryOp .Add) (addR X.K) := (op_add.or op_add_str).or (op_catA.or op_catL)
/-- with a freezing behind -/
def OpZ (K : Fr) (r : R2) (g : D → D → Res D) : Prop := ∀ (d e : D) (v u : V) (H : Hp) (Q : VK), RV K H d v → RV K H e u → Post (fun x => ∀ w H', Got K H .fz x w H' → Q w H') (fun _ => False) (g d e) → r v u H fun w H' => Fz H' (Q w)
theorem got_fz {H H' : Hp} {τ : Sh} {d : D} {v : V} {Q : VK} (g : Got K H τ d v H') (q : ∀ w H', Got K H .fz d w H' → Q w H') : Fz H' (Q v) := by
  obtain ⟨x, fp, r, fr, n⟩ := g
  refine (Mr.freeze τ r n).mono fun H2 ⟨r2, k2, b2⟩ => q v H2 (Got.fz ⟨fun b o e nt => ?_, x.tab.trans (KeepBut.tab ⟨k2, b2⟩ (RO.open τ r))⟩ r2)
  have nb : b ∉ fp := fun hb => by
    obtain ⟨ps, z⟩ := fr b hb o e
    exact nt ps z
  rw [b2 b nb]
  exact x b o e nt
theorem add_z : OpZ K (addR K) addD := by
  intro d e v u H Q hd he ps
  cases d <;> cases e <;> first | exact (show False from ps).elim | skip
  · exact .inl (.inl ⟨_, _, hd, he, .done (ps _ H (Got.fz (Ext.refl H) rfl))⟩)
  · obtain ⟨c, p⟩ := Post.ite ps
    exact .inl (.inr ⟨_, _, hd, he, c, .done (p _ H (Got.fz (Ext.refl H) rfl))⟩)
  · rename_i ds es
    obtain ⟨a, vs, rfl, f, z, l⟩ := hd
    obtain ⟨b, us, rfl, f2, z2, l2⟩ := he
    obtain ⟨c, p⟩ := Post.ite ps
    have hl : vs.length + us.length ≤ sizeLine := by rw [l.length, l2.length]; exact c
    refine .inr (.inl ⟨a, b, vs, us, rfl, rfl, .of f, .of f2, hl, fun e0 => ?_, fun _ e1 => ?_, fun _ _ q hq => ?_⟩)
    · subst e0
      have e3 : ds = [] := by have := l.length; cases ds with | nil => rfl | cons _ _ => simp at this
      subst e3
      exact .done (p _ H (Got.fz (Ext.refl H) ⟨b, us, rfl, f2, z2, l2⟩))
    · subst e1
      have e3 : es = [] := by have := l2.length; cases es with | nil => rfl | cons _ _ => simp at this
      subst e3
      rw [List.append_nil] at p
      exact .done (p _ H (Got.fz (Ext.refl H) ⟨a, vs, rfl, f, z, l⟩))
    · exact .done (p _ _ (Got.tup (Ext.refl H) hq (l.append l2) (by rw [List.length_append]; exact hl)))
  · obtain ⟨a, vs, rfl, f, z, l⟩ := hd.listO
    obtain ⟨b, us, rfl, f2, z2, l2⟩ := he.listO
    obtain ⟨c, p⟩ := Post.ite ps
    have hl : vs.length + us.length ≤ sizeLine := by rw [l.length, l2.length]; exact c
    exact .inr (.inr ⟨a, b, vs, us, rfl, rfl, f, f2, hl, fun q hq => got_fz (Got.lst (Ext.refl H) hq (l.append l2) (by rw [List.length_append]; exact hl)) p⟩)
end
section
variable {X : Cx} {H0 : Hp} {Z : Zt} {W : WX} {ω : List Sh} {a b : Expr} {f g : Env → Res D} {pos : Pos}
theorem px_opz {op : Operator} {r : R2} {o : D → D → Res D} (ho : OpR X (binaryOp op) r) (hs : OpZ X.K r o) (ne : ∀ x y c, o x y ≠ .ex c) (ha : PVX X H0 Z W ω a f) (hb : PVX X H0 Z W ω b g) : PX X H0 Z W ω (.BinOp a op b pos) (op2 o f g) .fz := by
  obtain ⟨ta, pa, sa⟩ := ha
  obtain ⟨tb, pb, sb⟩ := hb
  refine ⟨_, pe_fz (pe_op ho pa pb), fun ρ σ H Q sr ps => ?_⟩
  refine sa ρ σ H _ sr ((Post.bind.mp ps).mono (fun x q v H1 g1 => ?_) fun _ h => h)
  refine sb ρ σ H1 _ (sr.mono g1.1) ((Post.bind.mp q).mono (fun y q v2 H2 g2 => ?_) fun _ h => h)
  refine hs x y v v2 H2 Q (g1.2.ext g2.1) g2.2 ?_
  cases e : o x y with
  | ok z => rw [e] at q; exact fun w H' g3 => q w H' ((g3.from g2.1).from g1.1)
  | ex c => exact absurd e (ne x y c)
  | bad => rw [e] at q; exact q
theorem px_add (ha : PVX X H0 Z W ω a f) (hb : PVX X H0 Z W ω b g) : PX X H0 Z W ω (.BinOp a .Add b pos) (op2 addD f g) .fz := px_opz op_addR add_z addD_ne ha hb
theorem px_cat (ha : PVX X H0 Z W ω a f) (hb : PVX X H0 Z W ω b g) : PX X H0 Z W ω (.BinOp a .Add b pos) (op2 catD f g) (.own .fz) := px_op op_catL cat_s catD_ne ha hb
theorem px_sub (ha : PVX X H0 Z W ω a f) (hb : PVX X H0 Z W ω b g) : PX X H0 Z W ω (.BinOp a .Sub b pos) (op2 subD f g) .fz := px_op op_sub sub_s subD_ne ha hb
theorem px_fdiv (ha : PVX X H0 Z W ω a f) (hb : PVX X H0 Z W ω b g) : PX X H0 Z W ω (.BinOp a .FloorDiv b pos) (op2 fdivD f g) .fz := px_op op_fdivW fdiv_s fdivD_ne ha hb
theorem px_mod (ha : PVX X H0 Z W ω a f) (hb : PVX X H0 Z W ω b g) : PX X H0 Z W ω (.BinOp a .Mod b pos) (op2 modD f g) .fz := px_op op_mod mod_s modD_ne ha hb
theorem px_pow (ha : PVX X H0 Z W ω a f) (hb : PVX X H0 Z W ω b g) : PX X H0 Z W ω (.BinOp a .Pow b pos) (op2 powD f g) .fz := px_op op_pow pow_s powD_ne ha hb
end
end Mr

namespace Mr
variable [TabsOf]
open PySem PySem.Spec PyProof.Rows L2
open Res

/-! ## weakening -/
def wkB : List Sh → List Sh → Bool
  | [], [] => true
  | a :: as, b :: bs => (decide (b = .dead) || decide (a = b)) && wkB as bs
  | _, _ => false
/-- the dead slots cleared -/
def killE : List Sh → Env → Env
  | τ :: ω, d :: ρ => (if τ = .dead then .non else d) :: killE ω ρ
  | _, ρ => ρ
section
variable {K : Fr} {H H' H0 : Hp} {Z : Zt}
theorem AllS.wk : ∀ {ω ω' : List Sh} {ρ : Env} {σ : Sg} {fp : List Addr}, wkB ω ω' = true → AllS K H ω ρ σ fp → ∃ fp', fp'.Sublist fp ∧ AllS K H ω' (killE ω' ρ) σ fp'
  | [], [], [], [], _, _, h => ⟨[], by rw [show _ = [] from h]; exact .slnil, rfl⟩
  | τ :: ω, τ' :: ω', d :: ρ, s :: σ, _, w, ⟨f1, f2, e, h, t⟩ => by
    subst e
    simp only [wkB, Bool.and_eq_true, Bool.or_eq_true, decide_eq_true_eq] at w
    obtain ⟨fp', sub, t'⟩ := AllS.wk w.2 t
    by_cases hd : τ' = .dead
    · refine ⟨fp', sub.trans (List.sublist_append_right f1 f2), [], fp', rfl, .inl ⟨hd, rfl⟩, ?_⟩
      exact t'
    · rcases w.1 with w1 | w1
      · exact absurd w1 hd
      · subst w1
        refine ⟨f1 ++ fp', List.Sublist.append (List.Sublist.refl f1) sub, f1, fp', rfl, ?_, t'⟩
        rw [if_neg hd]
        exact h
  | [], [], [], _ :: _, _, _, h => h.elim
  | [], [], _ :: _, _, _, _, h => h.elim
  | [], _ :: _, _, _, _, w, _ => by cases w
  | _ :: _, [], _, _, _, w, _ => by cases w
  | _ :: _, _ :: _, [], _, _, _, h => h.elim
  | _ :: _, _ :: _, _ :: _, [], _, _, h => h.elim
theorem SR.wk {ω ω' : List Sh} {ρ : Env} {σ : Sg} (w : wkB ω ω' = true) (h : SR K H0 Z ω ρ σ H) : SR K H0 Z ω' (killE ω' ρ) σ H := by
  obtain ⟨e, fp, a, n, f⟩ := h
  obtain ⟨fp', sub, a'⟩ := a.wk w
  exact ⟨e, fp', a', n.sublist sub, fun b hb => f b (sub.subset hb)⟩
theorem SR.put {ω : List Sh} {ρ : Env} {σ : Sg} {τ : Sh} {d : D} {v : V} {i : Nat} (hi : i < ω.length) (h : SR K H0 Z ω ρ σ H) (g : Got K H τ d v H') : SR K H0 Z (ω.set i τ) (ρ.set i d) (σ.set i (some v)) H' := by
  obtain ⟨x, fp, r, fr, n⟩ := g
  obtain ⟨d0, s0, f, e1, e2, sl, nd, fr0, go⟩ := h.focus i (List.getElem?_eq_getElem hi)
  exact go H' τ d (some v) fp x.keepF (fun a o e _ t => x a o e t) x.tab (.inr ⟨v, rfl, r⟩) n fun a ha => .inr (fr a ha)
theorem SR.len {ω : List Sh} {ρ : Env} {σ : Sg} (h : SR K H0 Z ω ρ σ H) : ρ.length = ω.length ∧ σ.length = ω.length := let ⟨_, _, a, _⟩ := h; a.len
/-- a result put ahead of the slots -/
theorem SR.cons {ω : List Sh} {ρ : Env} {σ : Sg} {τ : Sh} {d : D} {v : V} (h : SR K H0 Z ω ρ σ H) (g : Got K H τ d v H') : SR K H0 Z (τ :: ω) (d :: ρ) (some v :: σ) H' := by
  obtain ⟨x, fp, r, fr, n⟩ := g
  have h' := h.mono x
  obtain ⟨e, fp1, a, n1, f1⟩ := h
  obtain ⟨e', _⟩ := h'
  have opn := a.open
  refine ⟨e', fp ++ fp1, ⟨fp, fp1, rfl, .inr ⟨v, rfl, r⟩, AllS.keep x.keepF a fun b hb => ?_⟩, ?_, fun b hb => ?_⟩
  · obtain ⟨o, eo, p⟩ := opn b hb
    rw [eo]
    exact x b o eo p.ntbl
  · rw [List.nodup_append]
    refine ⟨n, n1, fun b hb c hc q => ?_⟩
    subst q
    obtain ⟨o, eo, p⟩ := opn b hc
    obtain ⟨ps, z⟩ := fr b hb o eo
    exact p.ntbl ps z
  · rcases List.mem_append.mp hb with hb | hb
    · refine Classical.byCases (fun q : Z.p b => .inr q) fun q => .inl fun o r => ?_
      refine Classical.byCases (fun t : ∃ ps, o = .tbl ps => t) fun t => ?_
      exact absurd (fr b hb o (e b o q r fun ps e => t ⟨ps, e⟩)) t
    · exact f1 b hb
end

theorem set_same {α : Type} : ∀ {l : List α} {i : Nat} {x : α}, l[i]? = some x → l.set i x = l
  | [], _, _, h => by simp at h
  | a :: l, 0, x, h => by simp at h; simp [h]
  | a :: l, i + 1, x, h => by simp at h; simp [set_same h]

/-! ## statements -/
section
variable {X : Cx} {H0 : Hp} {Z : Zt} {W : WX} {ω ωr : List Sh} {τr : Sh} {pos : Pos}
def setF (i : Nat) (f : Env → Res D) (ρ : Env) : Res Fl := (f ρ).bind fun d => .ok (.nx (ρ.set i d))
theorem sx_set (i : Nat) {x : Str} {e : Expr} {f : Env → Res D} {τ : Sh} {pos' : Pos} (hN : X.N.Nodup) (he : PX X H0 Z W ω e f τ) (hi : X.N[i]? = some x := by rfl) (hl : i < ω.length := by decide) (hx : Loc X.env.scope x := by first | exact .inl rfl | exact .inr rfl)
    (hs : swapsWith e (some (.Name x pos')) pos.line X.env = pure false := by rfl) (hf : X.fn x = true ∨ X.env.scope.names.lookup x = some .local := by first | exact .inl rfl | exact .inr rfl) :
    SX X H0 Z W ω (ω.set i τ) ωr τr (.Assign [.Name x pos'] e pos) (setF i f) := by
  obtain ⟨t, p, s⟩ := he
  refine ⟨_, ps_set hN hi hx p hs hf, fun ρ σ H Dn sr ps => ?_⟩
  exact s ρ σ H _ sr ((Post.bind.mp ps).mono (fun d q v H1 g => q _ H1 g.ext.keepF (sr.put hl g)) fun _ h => h)
def exprF (f : Env → Res D) (ρ : Env) : Res Fl := (f ρ).bind fun _ => .ok (.nx ρ)
theorem sx_expr {e : Expr} {f : Env → Res D} {τ : Sh} (he : PX X H0 Z W ω e f τ) (hs : swapsWith e none pos.line X.env = pure false := by rfl) : SX X H0 Z W ω ω ωr τr (.Expr e pos) (exprF f) := by
  obtain ⟨t, p, s⟩ := he
  refine ⟨_, ps_expr p hs, fun ρ σ H Dn sr ps => ?_⟩
  exact s ρ σ H _ sr ((Post.bind.mp ps).mono (fun d q v H1 g => q _ H1 g.ext.keepF (sr.mono g.ext)) fun _ h => h)
def retF (ωr : List Sh) (f : Env → Res D) (ρ : Env) : Res Fl := (f ρ).bind fun d => .ok (.rt d (killE ωr ρ))
theorem sx_ret {e : Expr} {f : Env → Res D} (he : PX X H0 Z W ω e f τr) (hw : wkB ω ωr = true := by rfl) {ω' : List Sh} : SX X H0 Z W ω ω' ωr τr (.Return (some e) pos) (retF ωr f) := by
  obtain ⟨t, p, s⟩ := he
  refine ⟨_, ps_ret p, fun ρ σ H Dn sr ps => ?_⟩
  exact s ρ σ H _ sr ((Post.bind.mp ps).mono (fun d q v H1 g => q v _ H1 ((sr.wk hw).cons g)) fun _ h => h)
def retN (ωr : List Sh) (ρ : Env) : Res Fl := .ok (.rt .non (killE ωr ρ))
theorem sx_retN (hw : wkB ω ωr = true := by rfl) {ω' : List Sh} : SX X H0 Z W ω ω' ωr .fz (.Return none pos) (retN ωr) :=
  ⟨_, ps_retN, fun ρ σ H Dn sr ps => ps .non _ H ((sr.wk hw).cons (Got.fz (Ext.refl H) rfl))⟩
def nxF (ρ : Env) : Res Fl := .ok (.nx ρ)
theorem bx_nil : BX X H0 Z W ω ω ωr τr [] nxF := ⟨_, pss_nil, fun ρ σ H Dn sr ps => ps σ H (KeepF.refl H) sr⟩
def seqF (f g : Env → Res Fl) (ρ : Env) : Res Fl := (f ρ).bind fun fl => match fl with
  | .nx ρ' => g ρ'
  | .rt d ρ' => .ok (.rt d ρ')
theorem bx_cons {st : Stmt} {rest : List Stmt} {ω1 ω2 : List Sh} {f g : Env → Res Fl} (h : SX X H0 Z W ω ω1 ωr τr st f) (h' : BX X H0 Z W ω1 ω2 ωr τr rest g) : BX X H0 Z W ω ω2 ωr τr (st :: rest) (seqF f g) := by
  obtain ⟨t, p, s⟩ := h
  obtain ⟨t', p', s'⟩ := h'
  refine ⟨_, pss_cons p p', fun ρ σ H Dn sr ps => ?_⟩
  refine s ρ σ H _ sr ((Post.bind.mp ps).mono (fun fl q => ?_) fun _ h => h)
  cases fl with
  | nx ρ' => exact fun σ' H' k sr' => s' ρ' σ' H' Dn sr' (q.mono (fun fl r => by
      cases fl with
      | nx ρ'' => exact fun σ'' H'' k' sr'' => r σ'' H'' (k.trans k') sr''
      | rt d ρ'' => exact r) fun _ h => h)
  | rt d ρ' => exact q
/-- the end of a block: slots forgotten -/
def wkF (ω' : List Sh) (f : Env → Res Fl) (ρ : Env) : Res Fl := (f ρ).bind fun fl => match fl with
  | .nx ρ' => .ok (.nx (killE ω' ρ'))
  | .rt d ρ' => .ok (.rt d ρ')
theorem bx_wk {st : List Stmt} {ω1 : List Sh} (ω' : List Sh) {f : Env → Res Fl} (h : BX X H0 Z W ω ω1 ωr τr st f) (hw : wkB ω1 ω' = true := by rfl) : BX X H0 Z W ω ω' ωr τr st (wkF ω' f) := by
  obtain ⟨t, p, s⟩ := h
  refine ⟨t, p, fun ρ σ H Dn sr ps => s ρ σ H Dn sr ((Post.bind.mp ps).mono (fun fl q => ?_) fun _ h => h)⟩
  cases fl with
  | nx ρ' => exact fun σ' H' k sr' => q σ' H' k (sr'.wk hw)
  | rt d ρ' => exact q
/-- a block that never goes on behind itself -/
theorem bx_any {st : List Stmt} {ω1 : List Sh} {ω' : List Sh} {f : Env → Res Fl} (h : BX X H0 Z W ω ω1 ωr τr st f) (hn : ∀ ρ, (∃ d ρ', f ρ = .ok (.rt d ρ')) ∨ (∃ c, f ρ = .ex c) ∨ f ρ = .bad) : BX X H0 Z W ω ω' ωr τr st f := by
  obtain ⟨t, p, s⟩ := h
  refine ⟨t, p, fun ρ σ H Dn sr ps => s ρ σ H Dn sr ?_⟩
  rcases hn ρ with ⟨d, ρ', e⟩ | ⟨c, e⟩ | e <;> (rw [e] at ps ⊢; exact ps)
def ifF (c : Env → Res Bool) (f g : Env → Res Fl) (ρ : Env) : Res Fl := (c ρ).bind fun b => if b = true then f ρ else g ρ
theorem sx_if {c : Expr} {a b : List Stmt} {k : Env → Res Bool} {f g : Env → Res Fl} {ω' : List Sh} (hc : PTX X H0 Z W ω c k) (ha : BX X H0 Z W ω ω' ωr τr a f) (hb : BX X H0 Z W ω ω' ωr τr b g) : SX X H0 Z W ω ω' ωr τr (.If c a b pos) (ifF k f g) := by
  obtain ⟨tc, pc, sc⟩ := hc
  obtain ⟨ta, pa, sa⟩ := ha
  obtain ⟨tb, pb, sb⟩ := hb
  refine ⟨_, ps_if pc pa pb, fun ρ σ H Dn sr ps => sc ρ σ H _ sr ((Post.bind.mp ps).mono (fun k q H1 x => ?_) fun _ h => h)⟩
  have fin : ∀ fl, FK X H0 Z ω' ωr τr H Dn fl → FK X H0 Z ω' ωr τr H1 Dn fl := fun fl q => by
    cases fl with
    | nx ρ' => exact fun σ' H' k sr' => q σ' H' (x.keepF.trans k) sr'
    | rt d ρ' => exact q
  cases k with
  | true => exact iteT (sa ρ σ H1 Dn (sr.mono x) ((show Post _ _ (f ρ) from q).mono fin fun _ h => h))
  | false => exact iteF (sb ρ σ H1 Dn (sr.mono x) ((show Post _ _ (g ρ) from q).mono fin fun _ h => h))
/-- raise X('..') -/
def raF (c : Str) (_ : Env) : Res Fl := .ex c
theorem sx_raise {C : Addr} {bmB : List Value} {B newId initId : String} {x m : Str} {j : Nat} {p p2 pos' : Pos} {ω' : List Sh} (hc : X.calm = true) (tk : L2N.Takes X W) (F : ExcBaseFacts B newId initId bmB) (q : PySem.W.excIn X.K C bmB newId = true) (gC : X.mg x = some (.ref C)) (kC : PySem.W.keepIn X.K (.ref C) = true) (r : Raises X (.ref C)) (hg : Gl X x)
    (hdb : (x == ("__debug__" : Str)) = false := by decide) : SX X H0 Z W ω ω' ωr τr (.Raise (some (.Call (.Name x p) [.Constant (.str m) j p2] [] pos)) none pos') (raF x) :=
  ⟨_, L2N.ps_raise hc tk (L2N.pmk_own F q gC kC r hg hdb), fun ρ σ H Dn sr ps => ps σ H C sr.ext gC⟩
/-- an own slot is locked for good -/
theorem SR.fz {ω : List Sh} {ρ : Env} {σ : Sg} {H : Hp} {τ : Sh} (i : Nat) (hi : ω[i]? = some τ) (hd : τ ≠ .dead) (h : SR X.K H0 Z ω ρ σ H) : Fz H fun H' => KeepF H H' ∧ SR X.K H0 Z (ω.set i .fz) ρ σ H' := by
  obtain ⟨d, s, f, e1, e2, sl, nd, fr, go⟩ := h.focus i hi
  rcases sl with ⟨z, _⟩ | ⟨v, e3, r⟩
  · exact absurd z hd
  · subst e3
    refine (Mr.freeze τ r nd).mono fun H' ⟨r2, k2, b2⟩ => ⟨k2, ?_⟩
    have := go H' .fz d (some v) [] k2 (fun a o e n t => by rw [b2 a n]; exact e) (KeepBut.tab ⟨k2, b2⟩ (RO.open τ r)) (.inr ⟨v, rfl, rfl, r2⟩) (by simp) (by simp)
    rw [set_same e1, set_same e2] at this
    exact this
theorem sx_fz (i : Nat) {τ : Sh} {st : Stmt} {ω' : List Sh} {f : Env → Res Fl} (h : SX X H0 Z W (ω.set i .fz) ω' ωr τr st f) (hi : ω[i]? = some τ := by rfl) (hd : τ ≠ .dead := by decide) : SX X H0 Z W ω ω' ωr τr st f := by
  obtain ⟨t, p, s⟩ := h
  refine ⟨_, ps_fz p, fun ρ σ H Dn sr ps => (sr.fz i hi hd).mono fun H1 ⟨k, sr1⟩ => s ρ σ H1 Dn sr1 (ps.mono (fun fl q => ?_) fun _ h => h)⟩
  cases fl with
  | nx ρ' => exact fun σ' H' k' sr' => q σ' H' (k.trans k') sr'
  | rt d ρ' => exact q
theorem bx_fz (i : Nat) {τ : Sh} {st : List Stmt} {ω' : List Sh} {f : Env → Res Fl} (h : BX X H0 Z W (ω.set i .fz) ω' ωr τr st f) (hi : ω[i]? = some τ := by rfl) (hd : τ ≠ .dead := by decide) : BX X H0 Z W ω ω' ωr τr st f := by
  obtain ⟨t, p, s⟩ := h
  refine ⟨_, pss_fz p, fun ρ σ H Dn sr ps => (sr.fz i hi hd).mono fun H1 ⟨k, sr1⟩ => s ρ σ H1 Dn sr1 (ps.mono (fun fl q => ?_) fun _ h => h)⟩
  cases fl with
  | nx ρ' => exact fun σ' H' k' sr' => q σ' H' (k.trans k') sr'
  | rt d ρ' => exact q

/-! ### targets -/
variable (X H0 Z) in
def TGX (ω ω' : List Sh) (tg : Expr) (g : D → Env → Res Env) : Prop := ∃ t, PG X tg t ∧ ∀ d v ρ σ H Q, SR X.K H0 Z ω ρ σ H → R X.K H d v → Post (fun ρ' => ∀ σ', SR X.K H0 Z ω' ρ' σ' H → Q σ' H) (fun _ => False) (g d ρ) → t v σ H Q
variable (X H0 Z) in
def TGsX (ω ω' : List Sh) (tgs : List Expr) (g : List D → Env → Res Env) : Prop := ∃ t, PGs X tgs t ∧ ∀ ds vs ρ σ H Q, SR X.K H0 Z ω ρ σ H → Rl X.K H ds vs → Post (fun ρ' => ∀ σ', SR X.K H0 Z ω' ρ' σ' H → Q σ' H) (fun _ => False) (g ds ρ) → t vs σ H Q
def nmG (i : Nat) (d : D) (ρ : Env) : Res Env := .ok (ρ.set i d)
theorem tg_name (i : Nat) {x : Str} (hN : X.N.Nodup) (hi : X.N[i]? = some x := by rfl) (hl : i < ω.length := by decide) (hx : Loc X.env.scope x := by first | exact .inl rfl | exact .inr rfl) (hf : X.fn x = true ∨ X.env.scope.names.lookup x = some .local := by first | exact .inl rfl | exact .inr rfl) : TGX X H0 Z ω (ω.set i .fz) (.Name x pos) (nmG i) :=
  ⟨_, pg_name hN hi hx hf, fun d v ρ σ H Q sr r ps => ps _ (sr.put hl (Got.fz (Ext.refl H) r))⟩
def nilG : List D → Env → Res Env
  | [], ρ => .ok ρ
  | _, _ => .bad
def consG (g : D → Env → Res Env) (h : List D → Env → Res Env) : List D → Env → Res Env
  | d :: ds, ρ => (g d ρ).bind fun ρ' => h ds ρ'
  | [], _ => .bad
theorem tgs_nil : TGsX X H0 Z ω ω [] nilG := ⟨_, pgs_nil, fun ds vs ρ σ H Q sr r ps => by
  cases ds with
  | nil => exact ⟨r, ps σ sr⟩
  | cons _ _ => exact ps.elim⟩
theorem tgs_cons {e : Expr} {es : List Expr} {ω1 ω2 : List Sh} {g : D → Env → Res Env} {h : List D → Env → Res Env} (h1 : TGX X H0 Z ω ω1 e g) (h2 : TGsX X H0 Z ω1 ω2 es h) (hs : (assignEach (e :: es) X.env).map (·.2) = assign e X.env :: (assignEach es X.env).map (·.2) := by rfl) : TGsX X H0 Z ω ω2 (e :: es) (consG g h) := by
  obtain ⟨t, p, s⟩ := h1
  obtain ⟨t', p', s'⟩ := h2
  refine ⟨_, pgs_cons p p' hs, fun ds vs ρ σ H Q sr r ps => ?_⟩
  cases ds with
  | nil => exact ps.elim
  | cons d ds =>
    obtain ⟨v, vr, e, rd, rt⟩ := r
    refine ⟨v, vr, e, s d v ρ σ H _ sr rd ((Post.bind.mp ps).mono (fun ρ' q σ' sr' => ?_) fun _ h => h)⟩
    exact s' ds vr ρ' σ' H Q sr' rt q
def tupG (n : Nat) (g : List D → Env → Res Env) : D → Env → Res Env
  | .tup ds, ρ => if ds.length = n then g ds ρ else .bad
  | _, _ => .bad
theorem tg_tup {es : List Expr} {k n : Nat} {ω' : List Sh} {g : List D → Env → Res Env} (hc : X.calm = true) (h : TGsX X H0 Z ω ω' es g) (hn : (assignEach es X.env).length = n := by rfl) (hst : (assignEach es X.env).findIdx? (·.1) = none := by rfl) : TGX X H0 Z ω ω' (.Tuple es k pos) (tupG n g) := by
  obtain ⟨t, p, s⟩ := h
  refine ⟨_, pg_tup hc p hn hst, fun d v ρ σ H Q sr r ps => ?_⟩
  cases d <;> first | exact (show False from ps).elim | skip
  obtain ⟨a, vs, e, f, z, l⟩ := r
  obtain ⟨c, ps⟩ := Post.ite ps
  exact ⟨a, vs, e, .of f, by rw [l.length]; exact c, s _ vs ρ σ H Q sr l ps⟩
/-- target = value -/
def asgF (f : Env → Res D) (g : D → Env → Res Env) (ρ : Env) : Res Fl := (f ρ).bind fun d => (g d ρ).bind fun ρ' => .ok (.nx ρ')
theorem sx_asg {tg e : Expr} {f : Env → Res D} {g : D → Env → Res Env} {ω' : List Sh} (he : PX X H0 Z W ω e f .fz) (hg : TGX X H0 Z ω ω' tg g) (ng : ∀ d ρ c, g d ρ ≠ .ex c) (hs : swapsWithSole [tg] e pos.line X.env = pure false := by rfl) (hw : swappedStores [tg] e X.env = pure none := by rfl)
    (h1 : (assignEach [tg] X.env).map (·.2) = [assign tg X.env] := by rfl) : SX X H0 Z W ω ω' ωr τr (.Assign [tg] e pos) (asgF f g) := by
  obtain ⟨t, p, s⟩ := he
  obtain ⟨t', p', s'⟩ := hg
  refine ⟨_, ps_asg p p' hs hw h1, fun ρ σ H Dn sr ps => ?_⟩
  refine s ρ σ H _ sr ((Post.bind.mp ps).mono (fun d q v H1 gt => ?_) fun _ h => h)
  refine s' d v ρ σ H1 _ (sr.mono gt.ext) gt.r ?_
  cases e2 : g d ρ with
  | ok ρ' => rw [e2] at q; exact fun σ' sr' => q σ' H1 gt.ext.keepF sr'
  | ex c => exact absurd e2 (ng _ _ c)
  | bad => rw [e2] at q; exact q.elim

/-! ### for -/
def ItOk (K : Fr) (J : It) (ds : List D) (H1 : Hp) : Prop := ∀ i H2, KeepF H1 H2 → (ds.length ≤ i → J.stop i H2) ∧ ∀ d, ds[i]? = some d → J.go i H2 ∧ ∀ x H3, J.yld i H2 x H3 → Ext H2 H3 ∧ R K H3 d x
variable (X H0 Z W ω) in
def IX (tg e : Expr) (f : Env → Res (List D)) : Prop := ∃ wi, PI X tg e wi ∧ ∀ ρ σ H Rr, SR X.K H0 Z ω ρ σ H → Post (fun ds => ∀ J H1, Ext H H1 → ItOk X.K J ds H1 → Rr J H1) (EK X H0 Z W) (f ρ) → wi σ H Rr
def forM (b : D → Env → Res Fl) : List D → Env → Res Fl
  | [], ρ => .ok (.nx ρ)
  | d :: ds, ρ => (b d ρ).bind fun fl => match fl with
    | .nx ρ' => forM b ds ρ'
    | .rt d ρ' => .ok (.rt d ρ')
def bodyF (g : D → Env → Res Env) (b : Env → Res Fl) (d : D) (ρ : Env) : Res Fl := (g d ρ).bind b
def forF (fi : Env → Res (List D)) (g : D → Env → Res Env) (b : Env → Res Fl) (ρ : Env) : Res Fl := (fi ρ).bind fun ds => forM (bodyF g b) ds ρ
theorem ng_name (i : Nat) (d : D) (ρ : Env) (c : Str) : nmG i d ρ ≠ .ex c := fun h => by cases h
theorem ngs_nil (d : List D) (ρ : Env) (c : Str) : nilG d ρ ≠ .ex c := by cases d <;> (intro h; cases h)
theorem ngs_cons {g : D → Env → Res Env} {h : List D → Env → Res Env} (n1 : ∀ d ρ c, g d ρ ≠ .ex c) (n2 : ∀ d ρ c, h d ρ ≠ .ex c) (d : List D) (ρ : Env) (c : Str) : consG g h d ρ ≠ .ex c := by
  cases d with
  | nil => intro h; cases h
  | cons d ds =>
    show (g d ρ).bind _ ≠ _
    cases e : g d ρ with
    | ok ρ' => exact n2 ds ρ' c
    | ex c' => exact absurd e (n1 _ _ _)
    | bad => intro h; cases h
theorem ng_tup {n : Nat} {g : List D → Env → Res Env} (n1 : ∀ d ρ c, g d ρ ≠ .ex c) (d : D) (ρ : Env) (c : Str) : tupG n g d ρ ≠ .ex c := by
  cases d <;> first | (intro h; cases h; done) | skip
  show (if _ then _ else _) ≠ _
  split
  · exact n1 _ _ _
  · intro h; cases h
theorem sx_for {tg e : Expr} {body : List Stmt} {fi : Env → Res (List D)} {g : D → Env → Res Env} {ω1 : List Sh} {b : Env → Res Fl} (hp : PassesOwn (model X.prog X.w) X.A X.env X.xe) (hc : X.calm = true) (hi : IX X H0 Z W ω tg e fi) (hg : TGX X H0 Z ω ω1 tg g) (hb : BX X H0 Z W ω1 ω ωr τr body b) (ng : ∀ d ρ c, g d ρ ≠ .ex c)
    (hs : ∀ x, foldedSetIterable e X.env x = pure x := by intro _; rfl) : SX X H0 Z W ω ω ωr τr (.For tg e body [] pos) (forF fi g b) := by
  obtain ⟨wi, pi, si⟩ := hi
  obtain ⟨tg', pg, sg⟩ := hg
  obtain ⟨tb, pb, sb⟩ := hb
  refine ⟨_, ps_for hp hc pi pg pb hs, fun ρ σ H Dn sr ps => ?_⟩
  refine si ρ σ H _ sr ((Post.bind.mp ps).mono (fun ds q J H1 x it => ?_) fun _ h => h)
  refine ⟨fun i m σ H2 => m = ds.length - i ∧ i ≤ ds.length ∧ KeepF H1 H2 ∧ ∃ ρ, SR X.K H0 Z ω ρ σ H2 ∧ Post (FK X H0 Z ω ωr τr H Dn) (EK X H0 Z W) (forM (bodyF g b) (ds.drop i) ρ), ⟨ds.length, by simp, Nat.zero_le _, KeepF.refl H1, ρ, sr.mono x, by simpa using q⟩, ?_⟩
  rintro i m σ2 H2 ⟨rfl, hi, k, ρ2, sr2, q2⟩
  obtain ⟨st, gr⟩ := it i H2 k
  by_cases hlt : i < ds.length
  · have hd : ds.drop i = ds[i] :: ds.drop (i + 1) := List.drop_eq_getElem_cons hlt
    obtain ⟨go, yl⟩ := gr ds[i] (List.getElem?_eq_getElem hlt)
    rw [hd] at q2
    refine .inr ⟨go, fun σ' H' => KeepF H1 H' ∧ ∃ ρ, SR X.K H0 Z ω ρ σ' H' ∧ Post (FK X H0 Z ω ωr τr H Dn) (EK X H0 Z W) (forM (bodyF g b) (ds.drop (i + 1)) ρ), fun σ' H' ⟨k', ρ', sr', q'⟩ => ⟨ds.length - (i + 1), by omega, rfl, hlt, k', ρ', sr', q'⟩, fun y H3 hy => ?_⟩
    obtain ⟨x3, r3⟩ := yl y H3 hy
    have q3 := Post.bind.mp (show Post _ _ ((bodyF g b ds[i] ρ2).bind _) from q2)
    refine sg ds[i] y ρ2 σ2 H3 _ (sr2.mono x3) r3 ?_
    cases eg : g ds[i] ρ2 with
    | ex c => exact absurd eg (ng _ _ c)
    | bad => rw [bodyF, eg] at q3; exact q3.elim
    | ok ρ3 =>
      rw [bodyF, eg] at q3
      intro σ3 sr3
      refine sb ρ3 σ3 H3 _ sr3 ((show Post _ _ (b ρ3) from q3).mono (fun fl r => ?_) fun _ h => h)
      cases fl with
      | nx ρ4 => exact fun σ4 H4 k4 sr4 => ⟨(k.trans x3.keepF).trans k4, ρ4, sr4, r⟩
      | rt d ρ4 => exact r
  · have e : i = ds.length := by omega
    subst e
    rw [List.drop_length] at q2
    exact .inl ⟨st (Nat.le_refl _), q2 σ2 H2 (x.keepF.trans k) sr2⟩
end
end Mr

namespace Mr
variable [TabsOf]
open PySem PySem.Spec PyProof.Rows L2
open Res

/-! ## calls -/
section
variable {X : Cx} {H0 : Hp} {Z : Zt} {W : WX} {ω ωr : List Sh} {τr : Sh} {pos : Pos}
def CallS (K : Fr) (r : List V → Hp → VK → Prop) (g : List D → Res D) (τ : Sh) : Prop := ∀ (ds : List D) (vs : List V) (H : Hp) (Q : VK), RVl K H ds vs → Post (fun x => ∀ w H', Got K H τ x w H' → Q w H') (fun _ => False) (g ds) → r vs H Q
def callF (fa : Env → Res (List D)) (g : List D → Res D) (ρ : Env) : Res D := (fa ρ).bind g
theorem call_s {ta : TA} {fa : Env → Res (List D)} {r : List V → Hp → VK → Prop} {g : List D → Res D} {τ : Sh} (hs : CallS X.K r g τ) (ng : ∀ ds c, g ds ≠ .ex c) (sa : ∀ ρ σ H Q, SR X.K H0 Z ω ρ σ H → Post (fun ds => ∀ vs H', Ext H H' → RVl X.K H' ds vs → Q vs H') (EK X H0 Z W) (fa ρ) → ta σ H Q) :
    ∀ ρ σ H Q, SR X.K H0 Z ω ρ σ H → Post (fun d => ∀ v H', Got X.K H τ d v H' → Q v H') (EK X H0 Z W) (callF fa g ρ) → tCB r ta σ H Q := by
  intro ρ σ H Q sr ps
  refine sa ρ σ H _ sr ((Post.bind.mp ps).mono (fun ds q vs H1 x l => ?_) fun _ h => h)
  refine hs ds vs H1 Q l ?_
  cases e : g ds with
  | ok z => rw [e] at q; exact fun w H' g3 => q w H' (g3.from x)
  | ex c => exact absurd e (ng ds c)
  | bad => rw [e] at q; exact q
theorem px_callB {id : String} {x : Str} {p : Pos} {e : Expr} {es : List Expr} {fa : Env → Res (List D)} {r : List V → Hp → VK → Prop} {g : List D → Res D} {τ : Sh} (hc : CallR X (.builtin id) r) (hs : CallS X.K r g τ) (ng : ∀ ds c, g ds ≠ .ex c) (hg : Gl X x) (hm : X.mg x = none) (hv : bootBuiltins x = some (.builtin id)) (ha : PAVX X H0 Z W ω (e :: es) fa)
    (hn : x ≠ "__name__" := by decide) (hdb : (x == ("__debug__" : Str)) = false := by decide) (he : starEach (e :: es) X.env = (false, eval e X.env) :: starEach es X.env := by rfl) (hpl : (backTo pos (starEach es X.env)).any (·.1) = false := by rfl) : PX X H0 Z W ω (.Call (.Name x p) (e :: es) [] pos) (callF fa g) τ := by
  obtain ⟨ta, pa, sa⟩ := ha
  exact ⟨_, pe_callB hc hg hm hv pa hn hdb he hpl, call_s hs ng sa⟩
theorem px_callTy {T : String} {x : Str} {p : Pos} {e : Expr} {es : List Expr} {fa : Env → Res (List D)} {r : List V → Hp → VK → Prop} {g : List D → Res D} {τ : Sh} (hc : CallR X (.type T) r) (hs : CallS X.K r g τ) (ng : ∀ ds c, g ds ≠ .ex c) (hg : Gl X x) (hm : X.mg x = none) (hv : bootBuiltins x = some (.type T)) (ha : PAVX X H0 Z W ω (e :: es) fa)
    (hn : x ≠ "__name__" := by decide) (hdb : (x == ("__debug__" : Str)) = false := by decide) (he : starEach (e :: es) X.env = (false, eval e X.env) :: starEach es X.env := by rfl) (hpl : (backTo pos (starEach es X.env)).any (·.1) = false := by rfl) : PX X H0 Z W ω (.Call (.Name x p) (e :: es) [] pos) (callF fa g) τ := by
  obtain ⟨ta, pa, sa⟩ := ha
  exact ⟨_, pe_callTy hc hg hm hv pa hn hdb he hpl, call_s hs ng sa⟩

/-- a def's promise: its mirror -/
def Prom (K : Fr) (mg : Str → Option Value) (n : Nat) (τr : Sh) (m : List D → Res D) : Sp := fun vs H Q E => Tb H ∧ ∃ ds, ds.length = n ∧ Rl K H ds vs ∧
  Post (fun d => ∀ v H', Got K H τr d v H' → Q v H') (fun c => ∀ C H', Ext H H' → mg c = some (.ref C) → E (.ref C) none H') (m ds)
theorem px_call {k n : Nat} {f : Addr} {fd : FuncData} {ps : List Str} {x : Str} {p : Pos} {e : Expr} {es : List Expr} {fa : Env → Res (List D)} {m : List D → Res D} {τ : Sh} (F : FnOk X.prog X.w X.K X.mg X.base (L2N.CX X.prog X.w) k f fd ps (Prom X.K X.mg n τ m)) (hr : Room k X.A) (hm : X.mg x = some (.ref f)) (hk : PySem.W.keepIn X.K (.ref f) = true) (hb : Binds X.K fd ps []) (tk : L2N.Takes X W)
    (hg : Gl X x) (hn : (e :: es).length = n) (ha : PAX X H0 Z W ω (e :: es) fa) (hl : ∀ ρ ds, fa ρ = .ok ds → ds.length = (e :: es).length) (hdb : (x == ("__debug__" : Str)) = false := by decide) (he : starEach (e :: es) X.env = (false, eval e X.env) :: starEach es X.env := by rfl) (hpl : (backTo pos (starEach es X.env)).any (·.1) = false := by rfl) :
    PX X H0 Z W ω (.Call (.Name x p) (e :: es) [] pos) (callF fa m) τ := by
  obtain ⟨ta, pa, sa⟩ := ha
  refine ⟨_, pe_callS F hr hg hm hk hb (fun σ => L2N.passAt tk σ) pa hdb he hpl, fun ρ σ H Q sr pp => ?_⟩
  have hl' := hl ρ
  have pp := Post.bind.mp pp
  refine sa ρ σ H _ sr ?_
  cases e0 : fa ρ with
  | bad => rw [e0] at pp; exact pp
  | ex c => rw [e0] at pp; exact pp
  | ok ds =>
    rw [e0] at pp
    exact fun vs H1 x1 l => ⟨x1.tab sr.ext.tab, ds, by rw [← hn]; exact hl' ds e0, l, (show Post _ _ (m ds) from pp).mono (fun d q v H' g => q v H' (g.from x1)) fun c q C H' xx hC => q σ H' C ((sr.ext.ext x1).ext xx) hC⟩
theorem len_nil (ρ : Env) (ds : List D) (h : nilA ρ = .ok ds) : ds.length = ([] : List Expr).length := by cases h; rfl
theorem len_cons {e : Expr} {es : List Expr} {f : Env → Res D} {g : Env → Res (List D)} (hl : ∀ ρ ds, g ρ = .ok ds → ds.length = es.length) (ρ : Env) (ds : List D) (h : consA f g ρ = .ok ds) : ds.length = (e :: es).length := by
  unfold consA at h
  cases e1 : f ρ with
  | ok x =>
    rw [e1] at h
    cases e2 : g ρ with
    | ok xs =>
      rw [e2] at h
      cases h
      simp [hl ρ xs e2]
    | ex c => rw [e2] at h; cases h
    | bad => rw [e2] at h; cases h
  | ex c => rw [e1] at h; cases h
  | bad => rw [e1] at h; cases h
end

/-! ## defs -/
def finD (τr : Sh) : Fl → Res D
  | .nx _ => if τr = .fz then .ok .non else .bad
  | .rt d _ => .ok d
/-- the mirror of a body -/
def mir (pad : Nat) (τr : Sh) (body : Env → Res Fl) (ds : List D) : Res D := (body (ds ++ List.replicate pad .non)).bind (finD τr)
section
variable {P : Program} {w : World} {K : Fr} {mg : Str → Option Value} {base : Heap}
theorem slots_start {H : Hp} : ∀ {ds : List D} {vs : List V}, Rl K H ds vs → ∀ pad, AllS K H (List.replicate ds.length .fz ++ List.replicate pad .dead) (ds ++ List.replicate pad .non) (vs.map some ++ List.replicate pad none) []
  | [], _, h, pad => by
    rw [show _ = [] from h]
    simp only [List.length_nil, List.replicate_zero, List.nil_append, List.map_nil]
    induction pad with
    | zero => rfl
    | succ n ih => exact ⟨[], [], rfl, .inl ⟨rfl, rfl⟩, ih⟩
  | d :: ds, _, ⟨v, r, e, h, t⟩, pad => by
    subst e
    exact ⟨[], [], rfl, .inr ⟨v, rfl, rfl, h⟩, slots_start t pad⟩
theorem fun_ok {x qual : Str} {st : Stmt} {f : Addr} {fd : FuncData} {N ps : List Str} {k n pad : Nat} {τr : Sh} {ω0 ωr : List Sh} {body : Env → Res Fl} (F : Fun K x qual st f fd) (S : FnScope N ps (defScope st)) (hn : n = ps.length) (hpad : pad = N.length - n) (hω : ω0 = List.replicate n .fz ++ List.replicate pad .dead) (hτ : τr ≠ .dead)
    (hbody : ∀ (cdv : Value) (A : Around) (outer : List PySem.Env) (s : Shared) (H : Hp) (E : XK), Room k (A.deeper (envOfC qual (defScope st) s.heap.objs.size f cdv)) →
      ∃ ω1, BX (cxOf (L2N.CX P w) P w K mg base N qual (defScope st) f cdv A outer s H E) H Z0 (fun cls d _ H' => E cls d H') ω0 ω1 ωr τr (defBody st) body) :
    FnOk P w K mg base (L2N.CX P w) (k + 1) f fd ps (Prom K mg n τr (mir pad τr body)) := by
  obtain ⟨oc, od, kV, doc, pm, an, cdv, ct, osl, rfl, lk, hcd⟩ := F.ex
  refine fn_of lk hcd S (fun vs H Q E h => ?_) fun A outer s H vs Q E hr h => ?_
  · obtain ⟨_, ds, e, l, _⟩ := h
    rw [l.length, e, hn]
  · obtain ⟨hTb, ds, e, l, pp⟩ := h
    obtain ⟨ω1, t, pt, st'⟩ := hbody cdv A outer s H E hr
    refine ⟨t, pt, ?_⟩
    have hst : L2.start N vs = vs.map some ++ List.replicate pad none := by
      unfold L2.start
      rw [l.length, e, hpad]
    have sr : SR K H Z0 ω0 (ds ++ List.replicate pad .non) (L2.start N vs) H := by
      refine ⟨⟨fun b o _ e _ => e, hTb⟩, [], ?_, by simp, by simp⟩
      rw [hω, hst, ← e]
      exact slots_start l pad
    refine st' _ _ H _ sr ((Post.bind.mp pp).mono (fun fl q => ?_) fun c q σ' H' C x hC => q C H' ⟨fun b o e t => x b o (fun z => z) e t, fun _ => x.tab⟩ hC)
    cases fl with
    | nx ρ' =>
      intro σ' H' k' sr'
      unfold finD at q
      obtain ⟨c, q⟩ := Post.ite q
      subst c
      exact q .non H' (Got.fz ⟨fun b o e t => sr'.ext b o (fun z => z) e t, fun _ => sr'.ext.tab⟩ rfl)
    | rt d ρ' =>
      intro v σ' H' sr'
      obtain ⟨ex, fp, al, nd, fr⟩ := sr'
      obtain ⟨f1, f2, e1, sl, _⟩ := al
      subst e1
      rcases sl with ⟨z, e2⟩ | ⟨u, e2, r⟩
      · exact absurd z hτ
      · cases e2
        exact q v H' ⟨⟨fun b o e t => ex b o (fun z => z) e t, fun _ => ex.tab⟩, f1, r, fun a ha => (fr a (by simp [ha])).elim (fun z => z) fun z => z.elim, (List.nodup_append.mp nd).1⟩
end
end Mr

namespace Mr
variable [TabsOf]
open PySem PySem.Spec PyProof.Rows L2
open Res

/-! ## what is walked -/
def kD : Key → D
  | .inl i => .int i
  | .inr x => .str x
def iterD : D → Res (List D)
  | .lst ds => .ok ds
  | .tup ds => .ok ds
  | .scr ns => .ok (ns.map .int)
  | .dct ks _ => .ok (ks.map kD)
  | .str x => .ok (x.cps.toList.map fun c => .str ⟨#[c]⟩)
  | .ndc => .ok [.non]
  | _ => .bad
theorem pi_or2 {X : Cx} {tg e : Expr} {t u : TI} (h : PI X tg e t) (h' : PI X tg e u) : PI X tg e (fun σ H Q => t σ H Q ∨ u σ H Q) :=
  ⟨fun pins s σ H Q I hw => hw.elim (h.run pins s σ H Q I) (h'.run pins s σ H Q I)⟩
section
variable {K : Fr} {H H' H1 : Hp}
theorem kD_R {k : Key} : R K H (kD k) (kV k) := by cases k <;> rfl
theorem keys_R : ∀ ks : List Key, Rl K H (ks.map kD) (ks.map kV)
  | [] => rfl
  | k :: ks => ⟨kV k, ks.map kV, rfl, kD_R, keys_R ks⟩
theorem ints_R : ∀ ns : List Int, Rl K H (ns.map .int) (ns.map V.int)
  | [] => rfl
  | n :: ns => ⟨_, _, rfl, rfl, ints_R ns⟩
theorem SqL.keep {a : Addr} {vs : List V} (h : FL H1 a vs) (k : KeepF H1 H') : SqL K H' a vs := (h.keep k).sq
theorem it_list {a : Addr} {vs : List V} {ds : List D} (sq : ∀ H2, KeepF H1 H2 → SqL K H2 a vs) (l : Rl K H1 ds vs) : ItOk K (Itl K a) ds H1 := fun i H2 k => by
  have hs := sq H2 k
  refine ⟨fun hi => ⟨vs, hs, by rw [l.length]; exact hi⟩, fun d hd => ?_⟩
  obtain ⟨v, e, r⟩ := (Rl.keep k _ l).get hd
  refine ⟨⟨vs, v, hs, e⟩, fun x H3 y => ?_⟩
  obtain ⟨e3, y⟩ := y
  subst e3
  have := y vs hs
  rw [e] at this
  cases this
  exact ⟨Ext.refl _, r⟩
theorem it_tup {a : Addr} {vs : List V} {ds : List D} (sq : SqT K H1 a vs) (l : Rl K H1 ds vs) : ItOk K (Itt K a) ds H1 := fun i H2 k => by
  have hs := SqT.keep sq k
  refine ⟨fun hi => ⟨vs, hs, by rw [l.length]; exact hi⟩, fun d hd => ?_⟩
  obtain ⟨v, e, r⟩ := (Rl.keep k _ l).get hd
  refine ⟨⟨vs, v, hs, e⟩, fun x H3 y => ?_⟩
  obtain ⟨e3, y⟩ := y
  subst e3
  have := y vs hs
  rw [e] at this
  cases this
  exact ⟨Ext.refl _, r⟩
theorem zip_at {κ : Type} {ks : List κ} {vs : List V} {i : Nat} {k : κ} {v : V} (h : (ks.zip vs)[i]? = some (k, v)) : ks[i]? = some k ∧ vs[i]? = some v := by
  rw [List.getElem?_zip_eq_some] at h
  exact h
theorem it_keys {d : Addr} {o : Obj} {ks : List Key} {vs : List V} (hl : ks.length = vs.length) (h : H1 d = some (.frz o (.dK (ks.zip vs)))) : ItOk K (Itk d o (ks.zip vs)) (ks.map kD) H1 := fun i H2 k => by
  have hs := k _ _ h trivial
  have hz : (ks.zip vs).length = ks.length := by rw [List.length_zip, ← hl, Nat.min_self]
  refine ⟨fun hi => ⟨hs, by rw [hz]; simpa using hi⟩, fun x hx => ?_⟩
  have hi : i < ks.length := by simpa using (List.getElem?_eq_some_iff.mp hx).1
  refine ⟨⟨hs, by rw [hz]; exact hi⟩, fun y H3 hy => ?_⟩
  obtain ⟨e3, k', v, e, ey⟩ := hy
  subst e3 ey
  have e1 := (zip_at e).1
  rw [List.getElem?_map, e1] at hx
  cases hx
  exact ⟨Ext.refl _, kD_R⟩
theorem it_keysT {d : Addr} {o : Obj} {ks : List (List Key)} {vs : List V} (hl : ks.length = vs.length) (hz0 : ∀ k ∈ ks, k.length ≤ sizeLine) (h : H1 d = some (.frz o (.dT (ks.zip vs)))) : ItOk K (Itkt d o (ks.zip vs)) (ks.map fun k => .tup (k.map kD)) H1 := fun i H2 k => by
  have hs := k _ _ h trivial
  have hz : (ks.zip vs).length = ks.length := by rw [List.length_zip, ← hl, Nat.min_self]
  refine ⟨fun hi => ⟨hs, by rw [hz]; simpa using hi⟩, fun x hx => ?_⟩
  have hi : i < ks.length := by simpa using (List.getElem?_eq_some_iff.mp hx).1
  refine ⟨⟨hs, by rw [hz]; exact hi⟩, fun y H3 hy => ?_⟩
  obtain ⟨e3, k', v, q, e, ey, eq⟩ := hy
  subst e3 ey
  have e1 := (zip_at e).1
  rw [List.getElem?_map, e1] at hx
  cases hx
  exact ⟨Ext.refl _, q, _, rfl, eq, by rw [List.length_map]; exact hz0 _ (List.mem_of_getElem? e1), keys_R _⟩
theorem it_str {x : Str} : ItOk K (Its x) (x.cps.toList.map fun c => .str ⟨#[c]⟩) H1 := fun i H2 k => by
  refine ⟨fun hi => show x.cps.size ≤ i by simpa using hi, fun d hd => ?_⟩
  have hi : i < x.cps.size := by simpa using (List.getElem?_eq_some_iff.mp hd).1
  refine ⟨hi, fun v H3 hy => ?_⟩
  obtain ⟨e3, c, e, ev⟩ := hy
  subst e3 ev
  rw [List.getElem?_map, Array.getElem?_toList, e] at hd
  cases hd
  exact ⟨Ext.refl _, rfl⟩
theorem it_rng {lo : Int} {n : Nat} : ItOk K (Itr lo n) ((List.range n).map fun i => .int (lo + (i : Nat))) H1 := fun i H2 k => by
  refine ⟨fun hi => show n ≤ i by simpa using hi, fun d hd => ?_⟩
  have hi : i < n := by simpa using (List.getElem?_eq_some_iff.mp hd).1
  refine ⟨hi, fun v H3 hy => ?_⟩
  obtain ⟨e3, ev⟩ := hy
  subst e3 ev
  rw [List.getElem?_map, List.getElem?_range hi] at hd
  cases hd
  exact ⟨Ext.refl _, rfl⟩
theorem it_rngC {lo c : Int} {n : Nat} : ItOk K (Itc lo c n) ((List.range n).map fun i => .int (lo + (i : Nat) * c)) H1 := fun i H2 k => by
  refine ⟨fun hi => show n ≤ i by simpa using hi, fun d hd => ?_⟩
  have hi : i < n := by simpa using (List.getElem?_eq_some_iff.mp hd).1
  refine ⟨hi, fun v H3 hy => ?_⟩
  obtain ⟨e3, ev⟩ := hy
  subst e3 ev
  rw [List.getElem?_map, List.getElem?_range hi] at hd
  cases hd
  exact ⟨Ext.refl _, rfl⟩
theorem it_enum {a : Addr} {vs : List V} {ds : List D} (f : FL H1 a vs) (l : Rl K H1 ds vs) : ItOk K (Ite K a) (ds.zipIdx.map fun p => .tup [.int (p.2 : Nat), p.1]) H1 := fun i H2 k => by
  have hs := SqL.keep (K := K) f k
  refine ⟨fun hi => ⟨vs, hs, by rw [l.length]; simpa using hi⟩, fun d hd => ?_⟩
  rw [List.getElem?_map, List.getElem?_zipIdx] at hd
  cases e0 : ds[i]? with
  | none => rw [e0] at hd; cases hd
  | some x =>
    rw [e0] at hd
    simp at hd
    subst hd
    obtain ⟨v, e, r⟩ := (Rl.keep k _ l).get e0
    refine ⟨⟨vs, v, hs, e⟩, fun y H3 hy => ?_⟩
    obtain ⟨T, z, e1, e2, e3, e4⟩ := hy
    have := e4 vs hs
    rw [e] at this
    cases this
    subst e1 e3
    refine ⟨Ext.new e2, T, _, rfl, upd_same, by show 2 ≤ sizeLine; decide, ?_⟩
    exact ⟨.int (i : Nat), [v], rfl, rfl, v, [], rfl, r.ext (Ext.new e2), rfl⟩
theorem it_zip {a b : Addr} {vs us : List V} {ds es : List D} (f : FL H1 a vs) (f2 : FL H1 b us) (l : Rl K H1 ds vs) (l2 : Rl K H1 es us) : ItOk K (Itz K a b) ((ds.zip es).map fun p => .tup [p.1, p.2]) H1 := fun i H2 k => by
  have hs := SqL.keep (K := K) f k
  have hs2 := SqL.keep (K := K) f2 k
  refine ⟨fun hi => ⟨vs, us, hs, hs2, by rw [l.length, l2.length]; simp at hi; omega⟩, fun d hd => ?_⟩
  rw [List.getElem?_map] at hd
  cases e0 : (ds.zip es)[i]? with
  | none => rw [e0] at hd; cases hd
  | some x =>
    rw [e0] at hd
    simp at hd
    subst hd
    obtain ⟨q1, q2⟩ := List.getElem?_zip_eq_some.mp e0
    obtain ⟨v, e, r⟩ := (Rl.keep k _ l).get q1
    obtain ⟨u, e', r'⟩ := (Rl.keep k _ l2).get q2
    refine ⟨⟨vs, us, v, u, hs, hs2, e, e'⟩, fun y H3 hy => ?_⟩
    obtain ⟨T, z, z2, e1, e2, e3, e4, e5⟩ := hy
    have h4 := e4 vs hs
    have h5 := e5 us hs2
    rw [e] at h4
    rw [e'] at h5
    cases h4
    cases h5
    subst e1 e3
    refine ⟨Ext.new e2, T, _, rfl, upd_same, by show 2 ≤ sizeLine; decide, ?_⟩
    exact ⟨v, [u], rfl, r.ext (Ext.new e2), u, [], rfl, r'.ext (Ext.new e2), rfl⟩
theorem it_zipT {a b : Addr} {vs us : List V} {ds es : List D} (f : SqT K H1 a vs) (f2 : SqT K H1 b us) (l : Rl K H1 ds vs) (l2 : Rl K H1 es us) : ItOk K (RZ.ItzT K a b) ((ds.zip es).map fun p => .tup [p.1, p.2]) H1 := fun i H2 k => by
  have hs := SqT.keep f k
  have hs2 := SqT.keep f2 k
  refine ⟨fun hi => ⟨vs, us, hs, hs2, by rw [l.length, l2.length]; simp at hi; omega⟩, fun d hd => ?_⟩
  rw [List.getElem?_map] at hd
  cases e0 : (ds.zip es)[i]? with
  | none => rw [e0] at hd; cases hd
  | some x =>
    rw [e0] at hd
    simp at hd
    subst hd
    obtain ⟨q1, q2⟩ := List.getElem?_zip_eq_some.mp e0
    obtain ⟨v, e, r⟩ := (Rl.keep k _ l).get q1
    obtain ⟨u, e', r'⟩ := (Rl.keep k _ l2).get q2
    refine ⟨⟨vs, us, v, u, hs, hs2, e, e'⟩, fun y H3 hy => ?_⟩
    obtain ⟨T, z, z2, e1, e2, e3, e4, e5⟩ := hy
    have h4 := e4 vs hs
    have h5 := e5 us hs2
    rw [e] at h4
    rw [e'] at h5
    cases h4
    cases h5
    subst e1 e3
    refine ⟨Ext.new e2, T, _, rfl, upd_same, by show 2 ≤ sizeLine; decide, ?_⟩
    exact ⟨v, [u], rfl, r.ext (Ext.new e2), u, [], rfl, r'.ext (Ext.new e2), rfl⟩
end
/-! ## the dict with the one key None -/
def Itn (d : Addr) (o : Obj) : It := ⟨fun i H => NdP H d o ∧ i < 1, fun i H x H' => H' = H ∧ x = .non, fun i H => NdP H d o ∧ 1 ≤ i⟩
theorem turn_ndc {P : Program} {w : World} {K : PySem.W.Frag} {tg : Expr} {d : Addr} {o : Obj} {es : Array DictEntry} {ep : Nat} (it : Addr) (hod : o.data = .dict es ep) : Turn P w K tg (Itn d o) [it] it (fun i h => h.IsKeyIter it d i 1 ep) where
  mem := by simp
  obj := fun i h st b hb => by
    have e : b = it := by simpa using hb
    subst e
    obtain ⟨oi, e, c, dd⟩ := st
    exact ⟨oi, e, fun v z => by rw [dd] at z; cases z⟩
  keep := fun i h h' st k => st.at fun oi e => k it (by simp) oi e
  item := by
    intro X hP hw hK hc i pins s σ H E I hf st hg
    subst hP hw hK
    obtain ⟨⟨hd, hs, hx, es', ep', en, hdt, hsz, hen, hk⟩, hi⟩ := hg
    obtain ⟨f0, f1, f2, f3, f4, f5⟩ := hf it (by simp)
    have hgd := (I.hok d _ hd).1
    obtain ⟨rfl, rfl⟩ := dict_ep hod hdt
    have hi0 : i = 0 := by omega
    subst hi0
    refine next_key_item st hgd hdt hsz hen fun h' st' sb => ?_
    have I1 : Inv X pins σ H { s with heap := h' } := I.turned (t' := s.toks) (fun b ob hb e => (sb.2 b hb).trans e) f0 f1 f3 f4 f5
    obtain ⟨oi, e, c, dd⟩ := id st'
    exact ⟨en.key, rfl, go_of (s := { s with heap := h' }) e c dd (by decide) ⟨.non, H, I1, hk, ⟨rfl, rfl⟩, st', fun b hb => (hf b hb).1⟩⟩
  done := by
    intro X hP hw hK hc i pins s σ H E I hf st hg
    subst hP hw hK
    obtain ⟨⟨hd, hs, hx, es', ep', en, hdt, hsz, hen, hk⟩, hi⟩ := hg
    obtain ⟨f0, f1, f2, f3, f4, f5⟩ := hf it (by simp)
    have hgd := (I.hok d _ hd).1
    obtain ⟨rfl, rfl⟩ := dict_ep hod hdt
    exact next_key_end (I.ok.hd hc) st hgd hdt hsz hi fun h' eb => ⟨rfl, I.turned (t' := s.toks) (fun b ob hb e => eb b ob hb e) f0 f1 f3 f4 f5⟩
  self := fun A i s Q E st h => by
    refine wpAny_pyIter_slot st.typeIs F.slot_dict_keyiterator_iter (wpAny_call_entry F.slot_dict_keyiterator_iter st.typeIs F.entry_dict_keyiterator_iter ?_ (F.args_dict_keyiterator_iter_1 _))
    show wpAny _ _ (ret (.ref it)) _ _ s
    exact wpAny_pure ⟨_, rfl, "dict_keyiterator", _, st.typeIs, F.slot_dict_keyiterator_next.lookup, h⟩
def iNdc (td : TE) : TI := fun σ H R => td σ H fun x H1 => ∃ d o, x = .ref d ∧ NdP H1 d o ∧ R (Itn d o) H1
theorem pi_ndc {X : Cx} {tg e : Expr} {td : TE} (he : PE X e td) : PI X tg e (iNdc td) := by
  refine ⟨fun pins s σ H R I h => ?_⟩
  refine thn (he.run pins s σ H _ I h) fun u s1 ⟨x, H1, I1, rx, d, o, exx, n, q⟩ => ?_
  subst exx
  obtain rfl : u = Value.ref d := rx
  obtain ⟨hd, hs, hx, es, ep, en, hdt, hsz, hen, hk⟩ := n
  refine iter_keys hs (I1.hok d _ hd).1 hx hdt (pi_one (tk := s1.toks) I1 _ (turn_ndc _ hdt) ⟨_, Heap.get?_push_size _ rfl, rfl, ?_⟩ q)
  rw [hsz] <;> rfl
theorem it_ndc {K : Fr} {H1 : Hp} {d : Addr} {o : Obj} (h : NdP H1 d o) : ItOk K (Itn d o) [.non] H1 := fun i H2 k => by
  have hs : NdP H2 d o := ⟨k _ _ h.1 trivial, h.2⟩
  refine ⟨fun hi => ⟨hs, by simpa using hi⟩, fun x hx => ?_⟩
  have hi : i < 1 := by simpa using (List.getElem?_eq_some_iff.mp hx).1
  have hi0 : i = 0 := by omega
  subst hi0
  cases hx
  refine ⟨⟨hs, hi⟩, fun y H3 hy => ?_⟩
  obtain ⟨e3, ey⟩ := hy
  subst e3 ey
  exact ⟨Ext.refl _, rfl⟩
section
variable {X : Cx} {H0 : Hp} {Z : Zt} {W : WX} {ω : List Sh} {tg e : Expr} {pos : Pos}
def iterF (f : Env → Res D) (ρ : Env) : Res (List D) := (f ρ).bind iterD
theorem post_bad {α : Type} {k : α → Prop} {e : Str → Prop} : ¬ Post k e (.bad : Res α) := fun h => h
/-- a list, a tuple, a dict, a text -/
theorem ix_v {f : Env → Res D} (h : PX X H0 Z W ω e f .fz) : IX X H0 Z W ω tg e (iterF f) := by
  obtain ⟨t, p, s⟩ := h
  refine ⟨_, pi_or2 (pi_or2 (pi_list p) (pi_tup p)) (pi_or2 (pi_keys p) (pi_or2 (pi_str p) (pi_ndc p))), fun ρ σ H Rr sr ps => ?_⟩
  have ps := Post.bind.mp ps
  cases e0 : f ρ with
  | bad => rw [e0] at ps; exact ps.elim
  | ex c => rw [e0] at ps; exact .inl (.inl (s ρ σ H _ sr (by rw [e0]; exact ps)))
  | ok d =>
    rw [e0] at ps
    have ps : Post _ _ (iterD d) := ps
    cases d with
    | lst ds => exact .inl (.inl (s ρ σ H _ sr (by
        rw [e0]
        intro v H1 g
        obtain ⟨a, vs, ev, f, z, l⟩ := g.r
        exact ⟨a, ev, ⟨vs, f.sq⟩, ps _ H1 g.ext (it_list (fun H2 k => SqL.keep f k) l)⟩)))
    | scr ns => exact .inl (.inl (s ρ σ H _ sr (by
        rw [e0]
        intro v H1 g
        obtain ⟨a, ev, c, z⟩ := g.r
        exact ⟨a, ev, ⟨_, c.sq⟩, ps _ H1 g.ext (it_list (vs := ns.map V.int) (fun H2 k => (c.keep k).sq) (ints_R ns))⟩)))
    | tup ds => exact .inl (.inr (s ρ σ H _ sr (by
        rw [e0]
        intro v H1 g
        obtain ⟨a, vs, ev, f, z, l⟩ := g.r
        exact ⟨a, ev, ⟨vs, .of f⟩, ps _ H1 g.ext (it_tup (.of f) l)⟩)))
    | dct ks ds => exact .inr (.inl (s ρ σ H _ sr (by
        rw [e0]
        intro v H1 g
        obtain ⟨a, vs, o, ev, f, z, l⟩ := g.r
        exact ⟨a, o, ev, .inl ⟨_, f, ps _ H1 g.ext (it_keys (by rw [z, l.length]) f)⟩⟩)))
    | str x => exact .inr (.inr (.inl (s ρ σ H _ sr (by
        rw [e0]
        intro v H1 g
        exact ⟨x, g.r, ps _ H1 g.ext it_str⟩))))
    | ndc => exact .inr (.inr (.inr (s ρ σ H _ sr (by
        rw [e0]
        intro v H1 g
        obtain ⟨a, o, ev, n⟩ := g.r
        exact ⟨a, o, ev, n, ps _ H1 g.ext (it_ndc n)⟩))))
    | _ => exact ps.elim

/-- range(n), range(a, b), range(a, b, c) -/
def rng1 (fa : Env → Res (List D)) (ρ : Env) : Res (List D) := (fa ρ).bind fun ds => match ds with
  | [.int j] => if -(2 ^ 62) ≤ j ∧ j < 2 ^ 62 then .ok ((List.range j.toNat).map fun i => .int (0 + (i : Nat))) else .bad
  | _ => .bad
def rng2 (fa : Env → Res (List D)) (ρ : Env) : Res (List D) := (fa ρ).bind fun ds => match ds with
  | [.int i, .int j] => if -(2 ^ 62) ≤ i ∧ i < 2 ^ 62 ∧ -(2 ^ 62) ≤ j ∧ j < 2 ^ 62 then .ok ((List.range (j - i).toNat).map fun k => .int (i + (k : Nat))) else .bad
  | _ => .bad
def rng3 (fa : Env → Res (List D)) (ρ : Env) : Res (List D) := (fa ρ).bind fun ds => match ds with
  | [.int i, .int j, .int c] => if c = -1 ∧ -(2 ^ 62) ≤ i ∧ i < 2 ^ 62 ∧ -(2 ^ 62) ≤ j ∧ j < 2 ^ 62 then .ok ((List.range (i - j).toNat).map fun k => .int (i + (k : Nat) * c)) else .bad
  | _ => .bad
theorem ix_rng1 {a : Expr} {p : Pos} {fa : Env → Res (List D)} (ha : PAX X H0 Z W ω [a] fa) (hg : Gl X "range") (hm : X.mg "range" = none) (hs : starEach [a] X.env = [(false, eval a X.env)] := by rfl) : IX X H0 Z W ω tg (.Call (.Name "range" p) [a] [] pos) (rng1 fa) := by
  obtain ⟨t, pa, s⟩ := ha
  refine ⟨_, pi_range1 hg hm pa hs, fun ρ σ H Rr sr ps => s ρ σ H _ sr ((Post.bind.mp ps).mono (fun ds q vs H1 x l => ?_) fun _ h => h)⟩
  match ds, q, l with
  | [.int j], q, l =>
    obtain ⟨c, q⟩ := Post.ite q
    obtain ⟨v, r, e, h, t⟩ := l
    rw [show v = V.int j from h, show r = [] from t] at e
    exact ⟨j, e, c.1, c.2, q _ H1 x it_rng⟩
theorem ix_rng2 {a b : Expr} {p : Pos} {fa : Env → Res (List D)} (ha : PAX X H0 Z W ω [a, b] fa) (hg : Gl X "range") (hm : X.mg "range" = none) (hs : starEach [a, b] X.env = [(false, eval a X.env), (false, eval b X.env)] := by rfl) (hs2 : starEach [b] X.env = [(false, eval b X.env)] := by rfl) : IX X H0 Z W ω tg (.Call (.Name "range" p) [a, b] [] pos) (rng2 fa) := by
  obtain ⟨t, pa, s⟩ := ha
  refine ⟨_, pi_range2 hg hm pa hs hs2, fun ρ σ H Rr sr ps => s ρ σ H _ sr ((Post.bind.mp ps).mono (fun ds q vs H1 x l => ?_) fun _ h => h)⟩
  match ds, q, l with
  | [.int i, .int j], q, l =>
    obtain ⟨c, q⟩ := Post.ite q
    obtain ⟨v, r, e, h, v2, r2, e2, h2, t⟩ := l
    rw [e2, show v = V.int i from h, show v2 = V.int j from h2, show r2 = [] from t] at e
    exact ⟨i, j, e, c, q _ H1 x it_rng⟩
/-- enumerate(xs), zip(xs, ys) -/
def enF (fa : Env → Res (List D)) (ρ : Env) : Res (List D) := (fa ρ).bind fun ds => match ds with
  | [.lst xs] => .ok (xs.zipIdx.map fun p => .tup [.int (p.2 : Nat), p.1])
  | _ => .bad
def zpF (fa : Env → Res (List D)) (ρ : Env) : Res (List D) := (fa ρ).bind fun ds => match ds with
  | [.lst xs, .lst ys] => .ok ((xs.zip ys).map fun p => .tup [p.1, p.2])
  | [.tup xs, .tup ys] => .ok ((xs.zip ys).map fun p => .tup [p.1, p.2])
  | _ => .bad
theorem ix_enum {a : Expr} {p tpos : Pos} {elts : List Expr} {kk : Nat} {fa : Env → Res (List D)} (ha : PAX X H0 Z W ω [a] fa) (hg : Gl X "enumerate") (hm : X.mg "enumerate" = none) (hs : starEach [a] X.env = [(false, eval a X.env)] := by rfl) : IX X H0 Z W ω (.Tuple elts kk tpos) (.Call (.Name "enumerate" p) [a] [] pos) (enF fa) := by
  obtain ⟨t, pa, s⟩ := ha
  refine ⟨_, pi_enum hg hm pa hs, fun ρ σ H Rr sr ps => s ρ σ H _ sr ((Post.bind.mp ps).mono (fun ds q vs H1 x l => ?_) fun _ h => h)⟩
  match ds, q, l with
  | [.lst xs], q, l =>
    obtain ⟨v, r, e, ⟨b, us, ev, f, z, l⟩, t⟩ := l
    rw [ev, show r = [] from t] at e
    exact ⟨b, us, e, f.sq, q _ H1 x (it_enum f l)⟩
theorem ix_zip {a b : Expr} {p tpos : Pos} {elts : List Expr} {kk : Nat} {fa : Env → Res (List D)} (ha : PAX X H0 Z W ω [a, b] fa) (hg : Gl X "zip") (hm : X.mg "zip" = none) (hs : starEach [a, b] X.env = (false, eval a X.env) :: starEach [b] X.env := by rfl) (hpl : (backTo pos (starEach [b] X.env)).any (·.1) = false := by rfl) : IX X H0 Z W ω (.Tuple elts kk tpos) (.Call (.Name "zip" p) [a, b] [] pos) (zpF fa) := by
  obtain ⟨t, pa, s⟩ := ha
  refine ⟨_, RZ.pi_zipA hg hm pa hs hpl, fun ρ σ H Rr sr ps => s ρ σ H _ sr ((Post.bind.mp ps).mono (fun ds q vs H1 x l => ?_) fun _ h => h)⟩
  match ds, q, l with
  | [.lst xs, .lst ys], q, l =>
    obtain ⟨v, r, e, ⟨b1, us, ev, f, z, l1⟩, v2, r2, e2, ⟨b2, us2, ev2, f2, z2, l2⟩, t⟩ := l
    rw [e2, ev, ev2, show r2 = [] from t] at e
    exact ⟨b1, b2, us, us2, e, .inl ⟨f.sq, f2.sq, q _ H1 x (it_zip f f2 l1 l2)⟩⟩
  | [.tup xs, .tup ys], q, l =>
    obtain ⟨v, r, e, ⟨b1, us, ev, f, z, l1⟩, v2, r2, e2, ⟨b2, us2, ev2, f2, z2, l2⟩, t⟩ := l
    rw [e2, ev, ev2, show r2 = [] from t] at e
    exact ⟨b1, b2, us, us2, e, .inr ⟨.of f, .of f2, q _ H1 x (it_zipT (.of f) (.of f2) l1 l2)⟩⟩
theorem ix_rng3 {a b c : Expr} {p : Pos} {fa : Env → Res (List D)} (ha : PAX X H0 Z W ω [a, b, c] fa) (hg : Gl X "range") (hm : X.mg "range" = none) (hs : starEach [a, b, c] X.env = (false, eval a X.env) :: starEach [b, c] X.env := by rfl) (hpl : (backTo pos (starEach [b, c] X.env)).any (·.1) = false := by rfl) : IX X H0 Z W ω tg (.Call (.Name "range" p) [a, b, c] [] pos) (rng3 fa) := by
  obtain ⟨t, pa, s⟩ := ha
  refine ⟨_, pi_range3 hg hm pa hs hpl, fun ρ σ H Rr sr ps => s ρ σ H _ sr ((Post.bind.mp ps).mono (fun ds q vs H1 x l => ?_) fun _ h => h)⟩
  match ds, q, l with
  | [.int i, .int j, .int k], q, l =>
    obtain ⟨c, q⟩ := Post.ite q
    obtain ⟨v, r, e, h, v2, r2, e2, h2, v3, r3, e3, h3, t⟩ := l
    rw [e2, e3, show v = V.int i from h, show v2 = V.int j from h2, show v3 = V.int k from h3, show r3 = [] from t] at e
    refine ⟨i, j, k, (i - j).toNat, e, ?_, q _ H1 x it_rngC⟩
    obtain ⟨c1, c2, c3, c4, c5⟩ := c
    subst c1
    exact RgC.neg (by omega) (by omega) (by omega) (by omega)

/-! ## comprehensions -/
def noEx {α : Type} : Res α → Res α
  | .ex _ => .bad
  | r => r
def lcM (g : D → Env → Res Env) (tt : Env → Res Bool) (te : Env → Res D) (ρ : Env) : List D → Res (List D)
  | [] => .ok []
  | d :: ds => (noEx (g d ρ)).bind fun ρ1 => (noEx (tt ρ1)).bind fun b =>
      if b = true then (noEx (te ρ1)).bind fun x => (lcM g tt te ρ ds).bind fun r => .ok (x :: r) else lcM g tt te ρ ds
def killI : List Nat → Env → Env
  | [], ρ => ρ
  | i :: is, ρ => (killI is ρ).set i .non
def lcF (fi : Env → Res (List D)) (vs : List Nat) (g : D → Env → Res Env) (tt : Env → Res Bool) (te : Env → Res D) (ρ : Env) : Res D := (fi ρ).bind fun ds => if ds.length ≤ sizeLine then (lcM g tt te (killI vs ρ) ds).bind fun r => .ok (.lst r) else .bad
variable (X H0 Z ω) in
def TTX (ifs : List Expr) (f : Env → Res Bool) : Prop := ∃ t, PTs X ifs t ∧ ∀ ρ σ H Q, SR X.K H0 Z ω ρ σ H → Post (fun b => ∀ H', Ext H H' → Q b H') (fun _ => False) (f ρ) → t σ H Q
def yesR (_ : Env) : Res Bool := .ok true
theorem ttx_nil : TTX X H0 Z ω [] yesR := ⟨_, pts_nil, fun ρ σ H Q sr ps => ps H (Ext.refl H)⟩
theorem noEx_post {α : Type} {k : α → Prop} {e e' : Str → Prop} {m : Res α} (h : Post k e (noEx m)) : Post k e' m := by
  cases m with
  | ok a => exact h
  | ex c => exact h.elim
  | bad => exact h
theorem ttx_one {c : Expr} {f : Env → Res Bool} (h : PTX X H0 Z (fun _ _ _ _ => False) ω c f) : TTX X H0 Z ω [c] (fun ρ => noEx (f ρ)) := by
  obtain ⟨t, p, s⟩ := h
  exact ⟨_, pts_one p, fun ρ σ H Q sr ps => s ρ σ H Q sr (noEx_post ps)⟩
def wipeω : List Sh → List Nat → List Sh
  | ω, [] => ω
  | ω, i :: is => (wipeω ω is).set i .dead
theorem AllS.wipe1 {K : Fr} {H : Hp} : ∀ {ω : List Sh} {ρ : Env} {σ : Sg} {fp : List Addr} (i : Nat), AllS K H ω ρ σ fp → ∃ fp', fp'.Sublist fp ∧ AllS K H (ω.set i .dead) (ρ.set i .non) (σ.set i none) fp'
  | [], [], [], _, _, h => ⟨[], by rw [show _ = [] from h]; exact .slnil, rfl⟩
  | τ :: ω, d :: ρ, s :: σ, _, 0, ⟨f1, f2, e, h, t⟩ => by
    subst e
    exact ⟨f2, List.sublist_append_right f1 f2, [], f2, rfl, .inl ⟨rfl, rfl⟩, t⟩
  | τ :: ω, d :: ρ, s :: σ, _, i + 1, ⟨f1, f2, e, h, t⟩ => by
    subst e
    obtain ⟨fp', sub, t'⟩ := AllS.wipe1 i t
    exact ⟨f1 ++ fp', List.Sublist.append (List.Sublist.refl f1) sub, f1, fp', rfl, h, t'⟩
  | [], [], _ :: _, _, _, h => h.elim
  | [], _ :: _, _, _, _, h => h.elim
  | _ :: _, [], _, _, _, h => h.elim
  | _ :: _, _ :: _, [], _, _, h => h.elim
theorem SR.wipe {K : Fr} {H : Hp} {ω : List Sh} {ρ : Env} {σ : Sg} : ∀ (vs : List Nat), SR K H0 Z ω ρ σ H → SR K H0 Z (wipeω ω vs) (killI vs ρ) (L2.wipe σ vs) H
  | [], h => h
  | i :: is, h => by
    obtain ⟨e, fp, a, n, f⟩ := SR.wipe is h
    obtain ⟨fp', sub, a'⟩ := a.wipe1 i
    exact ⟨e, fp', a', n.sublist sub, fun b hb => f b (sub.subset hb)⟩

theorem wipe_nodup {σ σ' : Sg} {vs : List Nat} (h : L2.wipe σ' vs = L2.wipe σ vs) : L2.wipe σ' vs = L2.wipe σ vs := h
variable (X H0 Z) in
def TCX (vs : List Nat) (ω ω' : List Sh) (tg : Expr) (g : D → Env → Res Env) : Prop := ∃ t, PG X tg t ∧ ∀ d v ρ σ H Q, SR X.K H0 Z ω ρ σ H → R X.K H d v → Post (fun ρ' => ∀ σ', SR X.K H0 Z ω' ρ' σ' H → L2.wipe σ' vs = L2.wipe σ vs → Q σ' H) (fun _ => False) (g d ρ) → t v σ H Q
variable (X H0 Z) in
def TCsX (vs : List Nat) (ω ω' : List Sh) (tgs : List Expr) (g : List D → Env → Res Env) : Prop := ∃ t, PGs X tgs t ∧ ∀ ds us ρ σ H Q, SR X.K H0 Z ω ρ σ H → Rl X.K H ds us → Post (fun ρ' => ∀ σ', SR X.K H0 Z ω' ρ' σ' H → L2.wipe σ' vs = L2.wipe σ vs → Q σ' H) (fun _ => False) (g ds ρ) → t us σ H Q
theorem wipe_comm (σ : Sg) (i : Nat) : ∀ vs : List Nat, (L2.wipe σ vs).set i none = L2.wipe (σ.set i none) vs
  | [] => rfl
  | v :: vs => by
    unfold L2.wipe
    rw [← wipe_comm σ i vs]
    by_cases h : v = i
    · subst h; rfl
    · rw [List.set_comm _ _ h]
theorem wipe_set {σ : Sg} {i : Nat} {v : Option V} : ∀ {vs : List Nat}, i ∈ vs → L2.wipe (σ.set i v) vs = L2.wipe σ vs
  | j :: vs, h => by
    unfold L2.wipe
    by_cases e : i = j
    · subst e
      rw [wipe_comm, wipe_comm, List.set_set]
    · rw [wipe_set (vs := vs) (by simpa [e] using h)]
theorem tc_name (i : Nat) {vs : List Nat} {x : Str} (hN : X.N.Nodup) (hv : i ∈ vs := by decide) (hi : X.N[i]? = some x := by rfl) (hl : i < ω.length := by decide) (hx : Loc X.env.scope x := by first | exact .inl rfl | exact .inr rfl) (hf : X.fn x = true ∨ X.env.scope.names.lookup x = some .local := by first | exact .inl rfl | exact .inr rfl) : TCX X H0 Z vs ω (ω.set i .fz) (.Name x pos) (nmG i) :=
  ⟨_, pg_name hN hi hx hf, fun d v ρ σ H Q sr r ps => ps _ (sr.put hl (Got.fz (Ext.refl H) r)) (wipe_set hv)⟩
theorem tcs_nil {vs : List Nat} : TCsX X H0 Z vs ω ω [] nilG := ⟨_, pgs_nil, fun ds us ρ σ H Q sr r ps => by
  cases ds with
  | nil => exact ⟨r, ps σ sr rfl⟩
  | cons _ _ => exact ps.elim⟩
theorem tcs_cons {vs : List Nat} {e : Expr} {es : List Expr} {ω1 ω2 : List Sh} {g : D → Env → Res Env} {h : List D → Env → Res Env} (h1 : TCX X H0 Z vs ω ω1 e g) (h2 : TCsX X H0 Z vs ω1 ω2 es h) (hs : (assignEach (e :: es) X.env).map (·.2) = assign e X.env :: (assignEach es X.env).map (·.2) := by rfl) : TCsX X H0 Z vs ω ω2 (e :: es) (consG g h) := by
  obtain ⟨t, p, s⟩ := h1
  obtain ⟨t', p', s'⟩ := h2
  refine ⟨_, pgs_cons p p' hs, fun ds us ρ σ H Q sr r ps => ?_⟩
  cases ds with
  | nil => exact ps.elim
  | cons d ds =>
    obtain ⟨v, vr, e, rd, rt⟩ := r
    refine ⟨v, vr, e, s d v ρ σ H _ sr rd ((Post.bind.mp ps).mono (fun ρ' q σ' sr' w => ?_) fun _ h => h)⟩
    exact s' ds vr ρ' σ' H Q sr' rt ((show Post _ _ (h ds ρ') from q).mono (fun ρ'' q σ'' sr'' w' => q σ'' sr'' (w'.trans w)) fun _ h => h)
theorem tc_tup {vs : List Nat} {es : List Expr} {k n : Nat} {ω' : List Sh} {g : List D → Env → Res Env} (hc : X.calm = true) (h : TCsX X H0 Z vs ω ω' es g) (hn : (assignEach es X.env).length = n := by rfl) (hst : (assignEach es X.env).findIdx? (·.1) = none := by rfl) : TCX X H0 Z vs ω ω' (.Tuple es k pos) (tupG n g) := by
  obtain ⟨t, p, s⟩ := h
  refine ⟨_, pg_tup hc p hn hst, fun d v ρ σ H Q sr r ps => ?_⟩
  cases d <;> first | exact (show False from ps).elim | skip
  obtain ⟨a, vs, e, f, z, l⟩ := r
  obtain ⟨c, ps⟩ := Post.ite ps
  exact ⟨a, vs, e, .of f, by rw [l.length]; exact c, s _ vs ρ σ H Q sr l ps⟩
theorem wipe_wipe (σ : Sg) : ∀ vs : List Nat, L2.wipe (L2.wipe σ vs) vs = L2.wipe σ vs
  | [] => rfl
  | v :: vs => by
    show (L2.wipe ((L2.wipe σ vs).set v none) vs).set v none = (L2.wipe σ vs).set v none
    rw [← wipe_comm, wipe_wipe σ vs, List.set_set]
theorem lcM_len {g : D → Env → Res Env} {tt : Env → Res Bool} {te : Env → Res D} {ρ : Env} : ∀ {ds out : List D}, lcM g tt te ρ ds = .ok out → out.length ≤ ds.length := by
  intro ds
  induction ds with
  | nil => intro out h; cases h; simp
  | cons d ds ih =>
    intro out h
    simp only [lcM] at h
    cases e1 : noEx (g d ρ) with
    | ok ρ1 =>
      rw [e1] at h
      simp only [ok_bind] at h
      cases e2 : noEx (tt ρ1) with
      | ok b =>
        rw [e2] at h
        simp only [ok_bind] at h
        cases b with
        | false => exact Nat.le_succ_of_le (ih h)
        | true =>
          rw [if_pos rfl] at h
          cases e3 : noEx (te ρ1) with
          | ok x =>
            rw [e3] at h
            simp only [ok_bind] at h
            cases e4 : lcM g tt te ρ ds with
            | ok r => rw [e4] at h; cases h; simpa using ih e4
            | ex c => rw [e4] at h; cases h
            | bad => rw [e4] at h; cases h
          | ex c => rw [e3] at h; cases h
          | bad => rw [e3] at h; cases h
      | ex c => rw [e2] at h; cases h
      | bad => rw [e2] at h; cases h
    | ex c => rw [e1] at h; cases h
    | bad => rw [e1] at h; cases h
theorem lcM_noex {g : D → Env → Res Env} {tt : Env → Res Bool} {te : Env → Res D} {ρ : Env} : ∀ {ds : List D} {c : Str}, lcM g tt te ρ ds ≠ .ex c := by
  intro ds
  induction ds with
  | nil => intro c h; cases h
  | cons d ds ih =>
    intro c h
    simp only [lcM] at h
    cases e1 : g d ρ with
    | ok ρ1 =>
      rw [e1] at h
      simp only [noEx, ok_bind] at h
      cases e2 : tt ρ1 with
      | ok b =>
        rw [e2] at h
        simp only [ok_bind] at h
        cases b with
        | false => exact ih h
        | true =>
          rw [if_pos rfl] at h
          cases e3 : te ρ1 with
          | ok x =>
            rw [e3] at h
            simp only [ok_bind] at h
            cases e4 : lcM g tt te ρ ds with
            | ok r => rw [e4] at h; cases h
            | ex c => exact ih e4
            | bad => rw [e4] at h; cases h
          | ex c => rw [e3] at h; cases h
          | bad => rw [e3] at h; cases h
      | ex c => rw [e2] at h; cases h
      | bad => rw [e2] at h; cases h
    | ex c => rw [e1] at h; cases h
    | bad => rw [e1] at h; cases h
/-- [elt for tg in e if ..] -/
theorem lc_s {fi : Env → Res (List D)} {vs : List Nat} {wi : TI} {g : D → Env → Res Env} {tt : Env → Res Bool} {te : Env → Res D} {ω1 : List Sh} {tg' : TG} {tt' : TT} {te' : TE}
    (si : ∀ ρ σ H Rr, SR X.K H0 Z ω ρ σ H → Post (fun ds => ∀ J H1, Ext H H1 → ItOk X.K J ds H1 → Rr J H1) (EK X H0 Z W) (fi ρ) → wi σ H Rr)
    (sg : ∀ d v ρ σ H Q, SR X.K H0 Z (wipeω ω vs) ρ σ H → R X.K H d v → Post (fun ρ' => ∀ σ', SR X.K H0 Z ω1 ρ' σ' H → L2.wipe σ' vs = L2.wipe σ vs → Q σ' H) (fun _ => False) (g d ρ) → tg' v σ H Q)
    (st : ∀ ρ σ H Q, SR X.K H0 Z ω1 ρ σ H → Post (fun b => ∀ H', Ext H H' → Q b H') (fun _ => False) (tt ρ) → tt' σ H Q)
    (se : ∀ ρ σ H Q, SR X.K H0 Z ω1 ρ σ H → Post (fun d => ∀ v H', Got X.K H .fz d v H' → Q v H') (fun _ => False) (te ρ) → te' σ H Q) :
    ∀ ρ σ H Q, SR X.K H0 Z ω ρ σ H → Post (fun d => ∀ v H', Got X.K H (.own .fz) d v H' → Q v H') (EK X H0 Z W) (lcF fi vs g tt te ρ) → tLc wi tg' tt' te' vs σ H Q := by
  intro ρ σ H Q sr ps
  refine si ρ σ H _ sr ((Post.bind.mp ps).mono (fun ds q J H1 x it p hp => ?_) fun _ h => h)
  obtain ⟨hz, q⟩ := Post.ite q
  have srw := SR.wipe vs sr
  have kp0 : Ext H1 (upd H1 p (.lst [])) := Ext.new hp
  have big : ∀ {out : List D}, Post (fun d => ∀ v H', Got X.K H (.own .fz) d v H' → Q v H') (EK X H0 Z W) (Res.ok (.lst out)) → ∀ (H2 : Hp) (acc : List V), Ext H1 H2 → H2 p = some (.lst acc) → acc.length ≤ sizeLine → Rl X.K H2 out acc → Q (.ref p) H2 :=
    fun q H2 acc x2 e2 z2 l2 => q (.ref p) H2 ⟨x.trans x2, [p], ⟨_, p, acc, [], rfl, rfl, e2, z2, rfl, All3.of_rl l2⟩, by simpa using (Fre.of hp).back x, by simp⟩
  refine ⟨fun i m H2 => m = ds.length - i ∧ i ≤ ds.length ∧ Ext H1 H2 ∧ ∃ acc out, H2 p = some (.lst acc) ∧ acc.length ≤ i ∧ Rl X.K H2 out acc ∧ Post (fun d => ∀ v H', Got X.K H (.own .fz) d v H' → Q v H') (EK X H0 Z W) ((lcM g tt te (killI vs ρ) (ds.drop i)).bind fun r => .ok (.lst (out ++ r))), ⟨ds.length, by simp, Nat.zero_le _, kp0, [], [], upd_same, Nat.le_refl _, rfl, by simpa using q⟩, ?_⟩
  rintro i m H2 ⟨rfl, hi, x2, acc, out, e2, z2, l2, q2⟩
  obtain ⟨sto, gr⟩ := it i H2 x2.keepF
  by_cases hlt : i < ds.length
  · have hd : ds.drop i = ds[i] :: ds.drop (i + 1) := List.drop_eq_getElem_cons hlt
    obtain ⟨go, yl⟩ := gr ds[i] (List.getElem?_eq_getElem hlt)
    rw [hd] at q2
    refine .inr ⟨go, fun H' => Ext H1 H' ∧ ∃ acc out, H' p = some (.lst acc) ∧ acc.length ≤ i + 1 ∧ Rl X.K H' out acc ∧ Post (fun d => ∀ v H', Got X.K H (.own .fz) d v H' → Q v H') (EK X H0 Z W) ((lcM g tt te (killI vs ρ) (ds.drop (i + 1))).bind fun r => .ok (.lst (out ++ r))), fun H' ⟨a, b⟩ => ⟨ds.length - (i + 1), by omega, rfl, hlt, a, b⟩, fun y H3 hy => ?_⟩
    obtain ⟨x3, r3⟩ := yl y H3 hy
    simp only [lcM] at q2
    refine sg ds[i] y _ _ H3 _ ((((srw.mono x)).mono x2).mono x3) r3 ?_
    cases e4 : g ds[i] (killI vs ρ) with
    | ex c => rw [e4] at q2; exact q2.elim
    | bad => rw [e4] at q2; exact q2.elim
    | ok ρ1 =>
      rw [e4] at q2
      simp only [noEx, ok_bind] at q2
      intro σ4 sr4 w4
      refine ⟨by rw [w4, wipe_wipe], st ρ1 σ4 H3 _ sr4 ?_⟩
      cases e5 : tt ρ1 with
      | ex c => rw [e5] at q2; exact q2.elim
      | bad => rw [e5] at q2; exact q2.elim
      | ok b =>
        rw [e5] at q2
        simp only [ok_bind] at q2
        intro H5 x5
        cases b with
        | false => exact iteF ⟨(x2.trans x3).trans x5, acc, out, x5 _ _ (x3 _ _ e2 (fun ps h => by cases h)) (fun ps h => by cases h), by omega, (l2.ext x3).ext x5, q2⟩
        | true =>
          rw [if_pos rfl] at q2
          refine iteT (se ρ1 σ4 H5 _ (sr4.mono x5) ?_)
          cases e6 : te ρ1 with
          | ex c => rw [e6] at q2; exact q2.elim
          | bad => rw [e6] at q2; exact q2.elim
          | ok d =>
            rw [e6] at q2
            simp only [ok_bind] at q2
            intro v H6 g6
            have e7 : H6 p = some (.lst acc) := g6.ext _ _ (x5 _ _ (x3 _ _ e2 (fun ps h => by cases h)) (fun ps h => by cases h)) (fun ps h => by cases h)
            have k7 : KeepF H6 (upd H6 p (.lst (acc ++ [v]))) := fun b o e f => by
              rw [upd_ne (fun z => by subst z; rw [e7] at e; cases e; exact f)]
              exact e
            refine ⟨acc, e7, by omega, ⟨fun b o e t => ?_, (((x2.tab.trans x3.tab).trans x5.tab).trans g6.ext.tab).trans (TabK.upd e7 trivial)⟩, acc ++ [v], out ++ [d], upd_same, by simp; omega, ?_, ?_⟩
            · rw [upd_ne (fun z => by subst z; rw [hp] at e; cases e)]
              exact g6.ext _ _ (x5 _ _ (x3 _ _ (x2 b o e t) t) t) t
            · exact (Rl.keep k7 _ (((l2.ext x3).ext x5).ext g6.ext)).append (Rl.one (R.keep k7 _ g6.r))
            · cases e8 : lcM g tt te (killI vs ρ) (ds.drop (i + 1)) with
              | ok r => rw [e8] at q2; simpa using q2
              | ex c => exact absurd e8 lcM_noex
              | bad => rw [e8] at q2; exact q2.elim
  · have e : i = ds.length := by omega
    subst e
    rw [List.drop_length] at q2
    refine .inl ⟨sto (Nat.le_refl _), big (out := out) (by simpa [lcM] using q2) H2 acc x2 e2 (by omega) l2⟩
theorem px_lc {e elt : Expr} {ifs : List Expr} {scope : Scope} {own : List (Str × Nat)} {fi : Env → Res (List D)} {g : D → Env → Res Env} {tt : Env → Res Bool} {te : Env → Res D} {ω1 : List Sh} (hc : X.calm = true) (hN : X.N.Nodup) (hi : IX X H0 Z W ω tg e fi) (ok : BlkOk X.N X.env.scope scope own)
    (hg : ∀ (s : Shared) (H : Hp) (C : Addr) (cl : List (Str × Addr)) (fp : List Addr), TCX (X.blk s H scope (compEnvC scope cl C X.env) fp) H0 Z (own.map (·.2)) (wipeω ω (own.map (·.2))) ω1 tg g)
    (ht : ∀ (s : Shared) (H : Hp) (C : Addr) (cl : List (Str × Addr)) (fp : List Addr), TTX (X.blk s H scope (compEnvC scope cl C X.env) fp) H0 Z ω1 ifs tt)
    (he : ∀ (s : Shared) (H : Hp) (C : Addr) (cl : List (Str × Addr)) (fp : List Addr), PX (X.blk s H scope (compEnvC scope cl C X.env) fp) H0 Z (fun _ _ _ _ => False) ω1 elt te .fz)
    (hs : ∀ x, foldedSetIterable e X.env x = pure x := by intro _; rfl) : PX X H0 Z W ω (.ListComp elt [⟨tg, e, ifs, 0⟩] scope pos) (lcF fi (own.map (·.2)) g tt te) (.own .fz) := by
  obtain ⟨wi, pi, si⟩ := hi
  refine ⟨_, pe_lc (g := fun v σ H Q => ∃ d ρ, SR X.K H0 Z (wipeω ω (own.map (·.2))) ρ σ H ∧ R X.K H d v ∧ Post (fun ρ' => ∀ σ', SR X.K H0 Z ω1 ρ' σ' H → L2.wipe σ' (own.map (·.2)) = L2.wipe σ (own.map (·.2)) → Q σ' H) (fun _ => False) (g d ρ))
    (tt := fun σ H Q => ∃ ρ, SR X.K H0 Z ω1 ρ σ H ∧ Post (fun b => ∀ H', Ext H H' → Q b H') (fun _ => False) (tt ρ))
    (te := fun σ H Q => ∃ ρ, SR X.K H0 Z ω1 ρ σ H ∧ Post (fun d => ∀ v H', Got X.K H .fz d v H' → Q v H') (fun _ => False) (te ρ)) hc hN pi ok (fun s H C cl fp => ?_) (fun s H C cl fp => ?_) (fun s H C cl fp => ?_) hs, lc_s (ω1 := ω1) si (fun d v ρ σ H Q sr r ps => ⟨d, ρ, sr, r, ps⟩) (fun ρ σ H Q sr ps => ⟨ρ, sr, ps⟩) fun ρ σ H Q sr ps => ⟨ρ, sr, ps⟩⟩
  · obtain ⟨t, p, st⟩ := hg s H C cl fp
    exact ⟨fun pins s' σ H v u Q I r ⟨d, ρ, sr, rr, ps⟩ => p.run pins s' σ H v u Q I r (st d v ρ σ H Q sr rr ps)⟩
  · obtain ⟨t, p, st⟩ := ht s H C cl fp
    exact ⟨fun pins s' σ H Q I ⟨ρ, sr, ps⟩ => p.run pins s' σ H Q I (st ρ σ H Q sr ps)⟩
  · obtain ⟨t, p, st⟩ := he s H C cl fp
    exact ⟨fun pins s' σ H Q I ⟨ρ, sr, ps⟩ => p.run pins s' σ H Q I (st ρ σ H Q sr (ps.mono (fun _ h => h) fun _ h => h.elim))⟩
end
end Mr

namespace Mr
variable [TabsOf]
open PySem PySem.Spec PyProof.Rows L2
open Res

section
variable {X : Cx} {H0 : Hp} {Z : Zt} {W : WX} {ω ωr : List Sh} {τr : Sh} {pos : Pos}
theorem CallR.or {f : Value} {r r' : List V → Hp → VK → Prop} (h : CallR X f r) (h' : CallR X f r') : CallR X f (fun xs H Q => r xs H Q ∨ r' xs H Q) := fun pins s σ H xs us Q I rv q => q.elim (h pins s σ H xs us Q I rv) (h' pins s σ H xs us Q I rv)

/-! ### displays -/
def tupF (fa : Env → Res (List D)) (ρ : Env) : Res D := (fa ρ).bind fun ds => if ds.length ≤ sizeLine then .ok (.tup ds) else .bad
def lstF (fa : Env → Res (List D)) (ρ : Env) : Res D := (fa ρ).bind fun ds => if ds.length ≤ sizeLine then .ok (.lst ds) else .bad
theorem px_tup {es : List Expr} {x1} {fa : Env → Res (List D)} (h : PAX X H0 Z W ω es fa) : PX X H0 Z W ω (.Tuple es x1 pos) (tupF fa) .fz := by
  obtain ⟨t, p, s⟩ := h
  refine ⟨_, pe_tup p, fun ρ σ H Q sr ps => s ρ σ H _ sr ((Post.bind.mp ps).mono (fun ds q vs H1 x l => ?_) fun _ h => h)⟩
  obtain ⟨c, q⟩ := Post.ite q
  exact ⟨by rw [l.length]; exact c, fun p hp => q _ _ (Got.tup x hp l (by rw [l.length]; exact c))⟩
theorem px_lst {es : List Expr} {fa : Env → Res (List D)} (h : PAX X H0 Z W ω es fa) : PX X H0 Z W ω (.List es pos) (lstF fa) (.own .fz) := by
  obtain ⟨t, p, s⟩ := h
  refine ⟨_, pe_lst p, fun ρ σ H Q sr ps => s ρ σ H _ sr ((Post.bind.mp ps).mono (fun ds q vs H1 x l => ?_) fun _ h => h)⟩
  obtain ⟨c, q⟩ := Post.ite q
  exact ⟨by rw [l.length]; exact c, fun p hp => q _ _ (Got.lst x hp l (by rw [l.length]; exact c))⟩
/-- [], of any shape -/
theorem px_lst0 (τ : Sh) : PX X H0 Z W ω (.List [] pos) (fun _ => .ok (.lst [])) (.own τ) :=
  ⟨_, pe_lst pa_nil, fun ρ σ H Q sr ps => ⟨Nat.zero_le _, fun p hp => ps _ _ ⟨Ext.new hp, [p], ⟨[], p, [], [], rfl, rfl, upd_same, Nat.zero_le _, rfl, rfl, rfl⟩, by simpa using Fre.of hp, by simp⟩⟩⟩
/-- {}, of any shape -/
theorem px_dct0 (τ : Sh) : PX X H0 Z W ω (.Dict [] [] pos) (fun _ => .ok (.dct [] [])) (.ownD τ) :=
  ⟨_, pe_dnewK, fun ρ σ H Q sr ps p hp => ps _ _ ⟨Ext.new hp, [p], ⟨[], [], p, [], [], rfl, rfl, upd_same, rfl, rfl, rfl, rfl⟩, by simpa using Fre.of hp, by simp⟩⟩

/-! ### subscripts -/
def keyOf : D → Option Key
  | .int i => some (.inl i)
  | .str x => some (.inr x)
  | _ => none
def keysOf : List D → Option (List Key)
  | [] => some []
  | d :: ds => match keyOf d, keysOf ds with
    | some k, some ks => some (k :: ks)
    | _, _ => none
def lookK {κ : Type} [DecidableEq κ] : List κ → List D → κ → Option D
  | k' :: ks, d :: ds, k => if k' = k then some d else lookK ks ds k
  | _, _, _ => none
def putK' {κ : Type} [DecidableEq κ] (kvs : List (κ × D)) (k : κ) (d : D) : List (κ × D) := if (kvs.any fun kv => decide (kv.1 = k)) = true then kvs.map (fun kv => if kv.1 = k then (kv.1, d) else kv) else kvs ++ [(k, d)]
def oD : Option D → Res D
  | some d => .ok d
  | none => .bad
def ixD : D → D → Res D
  | .lst ds, .int i => oD (atI ds i)
  | .tup ds, .int i => oD (atI ds i)
  | .scr ns, .int i => oD ((atI ns i).map .int)
  | .str x, .int i => if x.length ≤ sizeLine then oD ((atI x.cps.toList i).map fun c => .str ⟨#[c]⟩) else .bad
  | .dct ks ds, y => match keyOf y with
    | some k => oD (lookK ks ds k)
    | none => .bad
  | .dcT ks ds, .tup ys => match keysOf ys with
    | some k => oD (lookK ks ds k)
    | none => .bad
  | _, _ => .bad
section
variable {K : Fr} {H : Hp}
theorem Rl.atI {ds : List D} {vs : List V} {i : Int} {d : D} (l : Rl K H ds vs) (h : L2.atI ds i = some d) : ∃ v, L2.atI vs i = some v ∧ R K H d v := by
  unfold L2.atI at h ⊢
  rw [l.length]
  cases e : ixN ds.length i with
  | none => rw [e] at h; cases h
  | some j => rw [e] at h; exact l.get h
theorem keyOf_v {y : D} {k : Key} {v : V} (r : R K H y v) (h : keyOf y = some k) : v = kV k := by
  cases y <;> cases h <;> exact r
theorem keysOf_v : ∀ {ys : List D} {k : List Key} {vs : List V}, Rl K H ys vs → keysOf ys = some k → vs = k.map kV
  | [], k, vs, l, h => by cases h; exact l
  | y :: ys, k, vs, ⟨v, r, e, hv, t⟩, h => by
    simp only [keysOf] at h
    cases e1 : keyOf y with
    | none => rw [e1] at h; cases h
    | some a =>
      rw [e1] at h
      cases e2 : keysOf ys with
      | none => rw [e2] at h; cases h
      | some b =>
        rw [e2] at h
        cases h
        rw [e, keyOf_v hv e1, keysOf_v t e2]
        rfl
theorem lookK_v {κ : Type} [DecidableEq κ] : ∀ {ks : List κ} {ds : List D} {vs : List V} {k : κ}, Rl K H ds vs → ks.length = ds.length → match lookK ks ds k with
    | some d => ∃ v, valV (ks.zip vs) k = some v ∧ R K H d v
    | none => valV (ks.zip vs) k = none
  | [], [], vs, k, l, _ => by simp [lookK, valV]
  | k' :: ks, d :: ds, vs, k, ⟨v, r, e, h, t⟩, hl => by
    subst e
    by_cases hk : k' = k
    · subst hk
      simp only [lookK, if_true]
      exact ⟨v, valV_pos rfl, h⟩
    · simp only [lookK, if_neg hk, List.zip_cons_cons]
      rw [valV_neg (show ¬ (k', v).1 = k from hk)]
      exact lookK_v t (by simpa using hl)
  | [], _ :: _, _, _, _, hl => by simp at hl
  | _ :: _, [], _, _, _, hl => by simp at hl
theorem oD_post {o : Option D} {k : D → Prop} {e : Str → Prop} (h : Post k e (oD o)) : ∃ d, o = some d ∧ k d := by
  cases o with
  | none => exact h.elim
  | some d => exact ⟨d, rfl, h⟩
theorem RV.noI {v : V} {i : Int} {d : D} (r : RV K H d v) (e : d = .int i) : v = .int i := by subst e; exact r
end
theorem ixD_ne (x y : D) (c : Str) : ixD x y ≠ .ex c := by
  have o : ∀ o : Option D, oD o ≠ .ex c := fun o h => by cases o <;> cases h
  unfold ixD
  split <;> first | exact o _ | (split <;> first | exact o _ | (intro h; cases h)) | (intro h; cases h)
theorem px_ix {a b : Expr} {f g : Env → Res D} (hu : X.A.units + 1 < cLine) (ha : PVX X H0 Z W ω a f) (hb : PX X H0 Z W ω b g .fz) (hs : PlainIx b := by exact fun _ _ => rfl) (hs2 : NoSl b := by exact fun _ _ => rfl) : PX X H0 Z W ω (.Subscript a b pos) (op2 ixD f g) .fz := by
  obtain ⟨ta, pa, sa⟩ := ha
  obtain ⟨tb, pb, sb⟩ := hb
  refine ⟨_, pe_or2 (pe_ix ix_seq pa pb hs) (pe_dget hu pa pb hs2), fun ρ σ H Q sr ps => ?_⟩
  have seq : (∀ d, f ρ = .ok d → ∀ y, g ρ = .ok y → ∀ v u H1 H2, GotV X.K H d v H1 → Got X.K H1 .fz y u H2 → Post (fun d => ∀ v H', Got X.K H .fz d v H' → Q v H') (fun _ => False) (ixD d y) → rIx X.K v u H2 Q) → tOp (rIx X.K) ta tb σ H Q := fun k => by
    refine sa ρ σ H _ sr ?_
    have ps := Post.bind.mp ps
    cases e1 : f ρ with
    | bad => rw [e1] at ps; exact ps.elim
    | ex c => rw [e1] at ps; exact ps
    | ok d =>
      rw [e1] at ps
      intro v H1 g1
      refine sb ρ σ H1 _ (sr.mono g1.1) ?_
      have ps := Post.bind.mp (show Post _ _ ((g ρ).bind _) from ps)
      cases e2 : g ρ with
      | bad => rw [e2] at ps; exact ps.elim
      | ex c => rw [e2] at ps; exact ps
      | ok y =>
        rw [e2] at ps
        have ps : Post (fun d => ∀ v H', Got X.K H .fz d v H' → Q v H') (EK X H0 Z W) (ixD d y) := ps
        intro u H2 g2
        refine k d e1 y e2 v u H1 H2 g1 g2 ?_
        cases e3 : ixD d y with
        | ok z => rw [e3] at ps; exact ps
        | ex c => exact absurd e3 (ixD_ne _ _ _)
        | bad => rw [e3] at ps; exact ps.elim
  have dic : (∀ d, f ρ = .ok d → ∀ y, g ρ = .ok y → ∀ v u H1 H2, GotV X.K H d v H1 → Got X.K H1 .fz y u H2 → Post (fun d => ∀ v H', Got X.K H .fz d v H' → Q v H') (fun _ => False) (ixD d y) → ∃ a w, v = .ref a ∧ DGet H2 a u (some w) ∧ Q w H2) → tDGet ta tb σ H Q := fun k => by
    refine sa ρ σ H _ sr ?_
    have ps := Post.bind.mp ps
    cases e1 : f ρ with
    | bad => rw [e1] at ps; exact ps.elim
    | ex c => rw [e1] at ps; exact ps
    | ok d =>
      rw [e1] at ps
      intro v H1 g1
      refine sb ρ σ H1 _ (sr.mono g1.1) ?_
      have ps := Post.bind.mp (show Post _ _ ((g ρ).bind _) from ps)
      cases e2 : g ρ with
      | bad => rw [e2] at ps; exact ps.elim
      | ex c => rw [e2] at ps; exact ps
      | ok y =>
        rw [e2] at ps
        have ps : Post (fun d => ∀ v H', Got X.K H .fz d v H' → Q v H') (EK X H0 Z W) (ixD d y) := ps
        intro u H2 g2
        refine k d e1 y e2 v u H1 H2 g1 g2 ?_
        cases e3 : ixD d y with
        | ok z => rw [e3] at ps; exact ps
        | ex c => exact absurd e3 (ixD_ne _ _ _)
        | bad => rw [e3] at ps; exact ps.elim
  have isD : (∃ ks ds, f ρ = .ok (.dct ks ds)) ∨ (∃ ks ds, f ρ = .ok (.dcT ks ds)) ∨ ((∀ ks ds, f ρ ≠ .ok (.dct ks ds)) ∧ ∀ ks ds, f ρ ≠ .ok (.dcT ks ds)) := by
    refine Classical.byCases (fun h : ∃ ks ds, f ρ = .ok (.dct ks ds) => .inl h) fun h1 => ?_
    refine Classical.byCases (fun h : ∃ ks ds, f ρ = .ok (.dcT ks ds) => .inr (.inl h)) fun h2 => ?_
    exact .inr (.inr ⟨fun ks ds e => h1 ⟨ks, ds, e⟩, fun ks ds e => h2 ⟨ks, ds, e⟩⟩)
  rcases isD with ⟨ks, ds, e⟩ | ⟨ks, ds, e⟩ | ⟨n1, n2⟩
  · refine .inr (dic fun d hd y hy v u H1 H2 g1 g2 ps => ?_)
    rw [e] at hd
    cases hd
    simp only [ixD] at ps
    cases ek : keyOf y with
    | none => rw [ek] at ps; exact ps.elim
    | some k =>
      rw [ek] at ps
      obtain ⟨x, ex, q⟩ := oD_post ps
      obtain ⟨a, vs, ev, f, z, l⟩ := g1.2.ext g2.ext
      have hk := lookK_v (k := k) l z
      rw [ex] at hk
      obtain ⟨w, ew, rw'⟩ := hk
      refine ⟨a, w, ev, .inl ⟨_, k, f, keyOf_v g2.r ek, ew.symm⟩, q w H2 (Got.fz (g1.1.trans g2.ext) rw')⟩
  · refine .inr (dic fun d hd y hy v u H1 H2 g1 g2 ps => ?_)
    rw [e] at hd
    cases hd
    cases y <;> first | exact (show False from ps).elim | skip
    rename_i ys
    simp only [ixD] at ps
    cases ek : keysOf ys with
    | none => rw [ek] at ps; exact ps.elim
    | some k =>
      rw [ek] at ps
      obtain ⟨x, ex, q⟩ := oD_post ps
      obtain ⟨a, vs, o, ev, f, z, l⟩ := g1.2.ext g2.ext
      obtain ⟨b, us, eu, fu, zu, lu⟩ := g2.r
      have hk := lookK_v (k := k) l z
      rw [ex] at hk
      obtain ⟨w, ew, rw'⟩ := hk
      have hb : H2 b = some (.tup (k.map kV)) := by rw [← keysOf_v lu ek]; exact fu
      refine ⟨a, w, ev, .inr ⟨_, k, b, .inr ⟨o, f⟩, eu, hb, ew.symm⟩, q w H2 (Got.fz (g1.1.trans g2.ext) rw')⟩
  · refine .inl (seq fun d hd y hy v u H1 H2 g1 g2 ps => ?_)
    cases d <;> first | exact (show False from ps).elim | exact absurd hd (n1 _ _) | exact absurd hd (n2 _ _) | skip
    · cases y <;> first | exact (show False from ps).elim | skip
      simp only [ixD] at ps
      rename_i z i
      obtain ⟨c, ps⟩ := Post.ite ps
      obtain ⟨x, ex, q⟩ := oD_post ps
      cases e4 : L2.atI z.cps.toList i with
      | none => rw [e4] at ex; cases ex
      | some ch =>
        rw [e4] at ex
        cases ex
        exact .inr (.inr ⟨z, i, ch, (g1.2.ext g2.ext), g2.r, c, e4, q _ H2 (Got.fz (g1.1.trans g2.ext) rfl)⟩)
    · cases y <;> first | exact (show False from ps).elim | skip
      rename_i ds i
      obtain ⟨x, ex, q⟩ := oD_post (o := L2.atI ds i) ps
      obtain ⟨a, vs, ev, f, z, l⟩ := g1.2.ext g2.ext
      obtain ⟨w, e3, r⟩ := l.atI ex
      exact .inr (.inl ⟨a, vs, i, w, ev, g2.r, .of f, e3, q _ H2 (Got.fz (g1.1.trans g2.ext) r)⟩)
    · cases y <;> first | exact (show False from ps).elim | skip
      rename_i ds i
      obtain ⟨x, ex, q⟩ := oD_post (o := L2.atI ds i) ps
      obtain ⟨a, vs, ev, f, z, l⟩ := g1.2.ext g2.ext
      obtain ⟨w, e3, r⟩ := l.atI ex
      exact .inl ⟨a, vs, i, w, ev, g2.r, f.sq, e3, q _ H2 (Got.fz (g1.1.trans g2.ext) r)⟩
    · cases y <;> first | exact (show False from ps).elim | skip
      rename_i ns i
      obtain ⟨x, ex, q⟩ := oD_post (o := (L2.atI ns i).map .int) ps
      obtain ⟨a, ev, c, z⟩ := g1.2.ext g2.ext
      cases e4 : L2.atI ns i with
      | none => rw [e4] at ex; cases ex
      | some n =>
        rw [e4] at ex
        cases ex
        have e5 : L2.atI (ns.map V.int) i = some (.int n) := by
          unfold L2.atI at e4 ⊢
          rw [List.length_map]
          cases e6 : ixN ns.length i with
          | none => rw [e6] at e4; cases e4
          | some j =>
            rw [e6] at e4
            show (ns.map V.int)[j]? = _
            rw [List.getElem?_map, show ns[j]? = some n from e4]
            rfl
        exact .inl ⟨a, _, i, _, ev, g2.r, c.sq, e5, q _ H2 (Got.fz (g1.1.trans g2.ext) rfl)⟩
end
end Mr

namespace Mr
variable [TabsOf]
open PySem PySem.Spec PyProof.Rows L2
open Res

/-! ### by data -/
def leP (d e : D) : Bool := PySem.W.dataLe false D.toP d e
def okSort (ds : List D) : Bool := decide (ds.length ≤ sizeLine) && (ds.all D.noD && (ds.all (fun d => ds.all fun e => PySem.W.alike d.toP e.toP) && ((ds.all (fun d => match d.toP with | .tuple (_ :: _) => true | _ => false) || ds.all (fun d => match d.toP with | .none => false | .tuple _ => false | _ => true)) && ds.all fun d => decide (d.toP.depth ≤ 40))))
def itemsD : D → Option (List D)
  | .lst ds => some ds
  | .tup ds => some ds
  | .dct ks _ => some (ks.map kD)
  | _ => none
def sortedD : List D → Res D
  | [d] => match itemsD d with
    | some ds => if okSort ds = true then .ok (.lst (ds.mergeSort leP)) else .bad
    | none => .bad
  | _ => .bad
theorem okSort_alike {ds : List D} (h : okSort ds = true) : PySem.W.AllAlike (ds.map D.toP) := fun d hd e he => by
  obtain ⟨d', hd', rfl⟩ := List.mem_map.mp hd
  obtain ⟨e', he', rfl⟩ := List.mem_map.mp he
  simp only [okSort, Bool.and_eq_true, List.all_eq_true] at h
  exact h.2.2.1 d' hd' e' he'
theorem okSort_able {ds : List D} (h : okSort ds = true) : PySem.W.Sortable (ds.map D.toP) := by
  simp only [okSort, Bool.and_eq_true, Bool.or_eq_true, List.all_eq_true] at h
  rcases h.2.2.2.1 with h | h
  · refine .inl fun d hd => ?_
    obtain ⟨d', hd', rfl⟩ := List.mem_map.mp hd
    have := h d' hd'
    split at this
    · rename_i x r e; exact ⟨x, r, e⟩
    · cases this
  · refine .inr fun d hd => ?_
    obtain ⟨d', hd', rfl⟩ := List.mem_map.mp hd
    have := h d' hd'
    split at this
    · cases this
    · cases this
    · rename_i n1 n2; exact ⟨n1, n2⟩
section
variable {X : Cx} {pins : List (Addr × Obj)} {σ : Sg} {H : Hp} {s : Shared}
/-- an item and its datum -/
def ItR (K : Fr) (H : Hp) (u : Value) (d : D) : Prop := ∃ v, RelV v u ∧ R K H d v
theorem each_of (I : Inv X pins σ H s) : ∀ {ds : List D} {vs : List V} {us : List Value}, Rl X.K H ds vs → Vals vs us → PySem.W.EachIs (ItR X.K H) us ds
  | [], _, us, h, r => by rw [show _ = [] from h] at r; cases r; exact .nil
  | d :: ds, _, us, ⟨v, vr, e, h, t⟩, r => by subst e; cases r with | cons r1 r2 => exact .cons ⟨v, r1, h⟩ (each_of I t r2)
theorem each_back {K : Fr} : ∀ {ds : List D} {us : List Value}, PySem.W.EachIs (ItR K H) us ds → ∃ vs, Vals vs us ∧ Rl K H ds vs
  | _, _, .nil => ⟨[], .nil, rfl⟩
  | _, _, .cons ⟨v, r, h⟩ t => by
    obtain ⟨vs, a, b⟩ := each_back t
    exact ⟨v :: vs, .cons r a, v, vs, rfl, h, b⟩
theorem each_reads (I : Inv X pins σ H s) : ∀ {ds : List D} {us : List Value}, (∀ d ∈ ds, d.noD = true) → PySem.W.EachIs (ItR X.K H) us ds → PySem.W.EachIs (fun v b => ∃ as, Reads s.heap v (D.toP b) as) us ds
  | _, _, _, .nil => .nil
  | _, _, n, .cons ⟨v, r, h⟩ t => .cons (Dp.reads I _ v _ (R.dp _ h (n _ List.mem_cons_self)) r) (each_reads I (fun d hd => n d (List.mem_cons_of_mem _ hd)) t)
theorem sorted_run0 {x : Value} {ds : List D} {Q : VK} (hu : X.A.units + 64 < cLine) (I : Inv X pins σ H s) (hx : argsOk "sorted" ⟨[x], []⟩) (ok : okSort ds = true)
    (hcol : ∀ (E' : Value → Shared → Prop) (R : List Value → Shared → Prop), (∀ (h' : Heap) (tk : Nat) (us : List Value), (∀ b o, s.heap.get? b = some o → h'.get? b = some o) → PySem.W.EachIs (ItR X.K H) us ds → R us { s with heap := h', toks := tk }) → wpAny (model X.prog X.w) X.A.in1 (collect x) R E' s)
    (q : ∀ p vs, H p = none → Rl X.K H (ds.mergeSort leP) vs → Q (.ref p) (upd H p (.lst vs))) : wpAny (model X.prog X.w) X.A (call (.builtin "sorted") [x]) (EP X pins σ Q) X.xe s := by
  have hk := ok
  simp only [okSort, Bool.and_eq_true, List.all_eq_true, decide_eq_true_eq] at hk
  have room : ∀ b, b ∈ ds → X.A.in1.in1.units + (D.toP b).depth < cLine := fun b hb => by
    have h1 := hk.2.2.2.2 b hb
    have h3 : (D.toP b).depth ≤ 40 := by simpa using h1
    have h4 : ∀ u d c : Nat, u + 64 < c → d ≤ 40 → u + 1 + 1 + d < c := fun u d c _ _ => by omega
    exact h4 _ _ _ hu h3
  -- the kind of keys hangs on the heap: the sort is the data's all the same
  refine Calls.call_function_entry PyProof.Rows.kind_sorted PyProof.Rows.plain_sorted PyProof.Rows.entry_sorted hx ?_
  unfold Builtin.«sorted»
  refine wpAny_bind (m := checkCount "sorted" 1 1 _) (wpAny_pure ?_)
  refine wpAny_bind (hcol _ _ fun h' tk us k e => ?_)
  have hlen : us.length = ds.length := e.length
  have hL : us.length ≤ sizeLine := by rw [hlen]; exact hk.1
  have er := each_reads I hk.2.1 e
  have rd : ∀ (h' : Heap), (∀ b o, s.heap.get? b = some o → h'.get? b = some o) → PySem.W.EachIs (fun v b => ∃ as, Reads (PySem.W.sortingHeap (h'.push (seqObj "list" us.toArray 0)) h'.objs.size us) v (D.toP b) as) us ds := fun h' k => er.mono fun v b ⟨as, r⟩ => ⟨as, PyProof.Rows.Reads.keeps (fun b' o z => PySem.W.sortingHeap_old (Nat.ne_of_lt (Heap.lt_size (k _ _ z))) (Heap.get?_push_of_some _ (k _ _ z))) r⟩
  refine wpAny_bind (wpAny_newList ?_ hL)
  have hoL : (h'.push (seqObj "list" us.toArray 0)).get? h'.objs.size = some (seqObj "list" us.toArray 0) := Heap.get?_push_size _ rfl
  show wpAny _ _ _ _ _ { s with heap := h'.push (seqObj "list" us.toArray 0), toks := tk }
  have S := PySem.W.SortsAt.data (prog := X.prog) (w := X.w) (A := X.A.in1.in1) (s := { s with heap := PySem.W.sortingHeap (h'.push (seqObj "list" us.toArray 0)) h'.objs.size us, toks := tk }) (PySem.W.each_map (R := fun v d => ∃ as, Reads (PySem.W.sortingHeap (h'.push (seqObj "list" us.toArray 0)) h'.objs.size us) v d as) D.toP (rd h' k)) (okSort_alike ok) (okSort_able ok) (PySem.W.bound_map room)
  refine wpAny_bind (wpAny_holding (wpAny_call_entry PyProof.Rows.slot_list_sort ⟨_, hoL, rfl⟩ PyProof.Rows.entry_list_sort
    (PySem.W.list_sort_vals (s := { s with heap := h'.push (seqObj "list" us.toArray 0), toks := tk }) hoL S hL ⟨_, rfl, ?_⟩)
    (PyProof.Rows.args_list_sort _)))
  have I1 : Inv X pins σ H { s with heap := h', toks := tk } := I.kept k
  have so := PySem.W.sortVals_data false e (rd h' k) (okSort_alike ok)
  obtain ⟨vs, hv, hr⟩ := each_back so
  obtain ⟨ep, he'⟩ := PyProof.Rows.sortedHeap_at (vs := us) (out := (PySem.W.sortVals (PySem.W.dataKind (PySem.W.sortingHeap (h'.push (seqObj "list" us.toArray 0)) h'.objs.size us) (ds.map D.toP)) false us us).toArray) hoL
  have hvl : vs.length ≤ sizeLine := by
    rw [hr.length, (List.mergeSort_perm ds (PySem.W.dataLe false D.toP)).length_eq]
    exact hk.1
  refine wpAny_pure ⟨_, rfl, .ref h'.objs.size, upd H h'.objs.size (.lst vs), I1.laid (t' := tk) (fun b u z => ?_) (Nat.le_refl _) ⟨hvl, _, ep, hv, he'⟩, rfl, q _ vs (I1.hok.fresh (Nat.le_refl _)) hr⟩
  have hb : b < h'.objs.size := Heap.lt_size z
  rw [PyProof.Rows.sortedHeap_old (Nat.ne_of_lt hb) (by rw [size_push']; exact Nat.lt_succ_of_lt hb)]
  exact Heap.get?_push_of_some _ z
theorem sorted_run {x : Value} {us : List Value} {ds : List D} {Q : VK} (hu : X.A.units + 64 < cLine) (I : Inv X pins σ H s) (hx : argsOk "sorted" ⟨[x], []⟩) (ok : okSort ds = true) (e : PySem.W.EachIs (ItR X.K H) us ds)
    (hcol : ∀ (E' : Value → Shared → Prop) (R : List Value → Shared → Prop), (∀ (h' : Heap) (tk : Nat), (∀ b o, s.heap.get? b = some o → h'.get? b = some o) → R us { s with heap := h', toks := tk }) → wpAny (model X.prog X.w) X.A.in1 (collect x) R E' s)
    (q : ∀ p vs, H p = none → Rl X.K H (ds.mergeSort leP) vs → Q (.ref p) (upd H p (.lst vs))) : wpAny (model X.prog X.w) X.A (call (.builtin "sorted") [x]) (EP X pins σ Q) X.xe s :=
  sorted_run0 hu I hx ok (fun E' R k => hcol E' R fun h' tk hk => k h' tk us hk e) q
def rSortD (K : Fr) : List V → Hp → VK → Prop := fun xs H Q => ∃ x d ds, xs = [x] ∧ RV K H d x ∧ itemsD d = some ds ∧ okSort ds = true ∧ ∀ p vs, H p = none → Rl K H (ds.mergeSort leP) vs → Q (.ref p) (upd H p (.lst vs))
theorem each_keys {K : Fr} {knd : PySem.KeyKind X.prog X.w Key} {vs : List (Key × Value)} : ∀ (l : List Value), l.length = vs.length → (∀ (j : Nat) (v : Value), l[j]? = some v → ∃ k x, vs[j]? = some (k, x) ∧ keyIs k v = true) → PySem.W.EachIs (ItR K H) l ((vs.map (·.1)).map kD) := by
  induction vs with
  | nil => intro l hl _; cases l with | nil => exact .nil | cons _ _ => simp at hl
  | cons p vs ih =>
    intro l hl h
    cases l with
    | nil => simp at hl
    | cons v l =>
      refine .cons ?_ (ih l (by simpa using hl) fun j v e => ?_)
      · obtain ⟨k, x, e1, e2⟩ := h 0 v rfl
        have e1 : p = (k, x) := Option.some.inj e1
        have ep : p.1 = k := by rw [e1]
        show ItR K H v (kD p.1)
        rw [ep]
        refine ⟨kV k, ?_, kD_R⟩
        rcases keyIs_shape e2 with ⟨i, t, ek, ev⟩ | ⟨y, t, ek, ev⟩
        · rw [ek, ev]; exact ⟨t, rfl⟩
        · rw [ek, ev]; exact ⟨t, rfl⟩
      · obtain ⟨k, x, e1, e2⟩ := h (j + 1) v (by simpa using e)
        exact ⟨k, x, by simpa using e1, e2⟩
theorem cr_sortD (hcalm : X.calm = true) (hu : X.A.units + 64 < cLine) : CallR X (.builtin "sorted") (rSortD X.K) := by
  intro pins s σ H xs us Q I r h
  obtain ⟨x, d, ds, rfl, hd, hi, ok, q⟩ := h
  obtain ⟨u, rfl, rx⟩ := vals1 r
  cases d <;> first | (cases hi; done) | skip
  · cases hi
    obtain ⟨a, vs, rfl, f, z, l⟩ := hd
    cases rx
    obtain ⟨its, rv, ⟨o, ho, hc, n, hdat⟩, _⟩ := I.tuple (.of f)
    refine sorted_run hu I (PyProof.Rows.args_sorted1 _) ok (each_of I l rv) (fun E' R k => wpAny_collect_seq a (.inr rfl) ho hc hdat (fun h' hk => by simpa using k h' s.toks hk) (by rw [List.size_toArray, ← rv.length]; exact z)) q
  · cases hi
    obtain ⟨a, vs, rfl, f, z, l⟩ := hd
    cases rx
    obtain ⟨its, rv, ⟨o, n, ho, hc, _, hdat⟩, _⟩ := I.list f.sq
    refine sorted_run hu I (PyProof.Rows.args_sorted1 _) ok (each_of I l rv) (fun E' R k => wpAny_collect_seq a (.inl rfl) ho hc hdat (fun h' hk => by simpa using k h' s.toks hk) (by rw [List.size_toArray, ← rv.length]; exact z)) q
  · cases hi
    rename_i ks es
    obtain ⟨a, vs, rfl, f, z, l⟩ := hd
    cases rx
    obtain ⟨hz, lo, ws, rel, dd⟩ := dk_rd I.hok f
    obtain ⟨ep, hat⟩ := dd.dictAt
    have hkeys : ws.map (·.1) = ks := by
      rw [← rel.keys, List.map_fst_zip (by rw [l.length, z]; exact Nat.le_refl _)]
    have h16 : ws.length ≤ sizeLine := by rw [← rel.length]; exact hz
    -- the keys as they are collected
    refine sorted_run0 hu I (PyProof.Rows.args_sorted1 _) ok (fun E' R k => PySem.W.kdu_collect (A := X.A.in1) (PySem.W.kdl_dict (knd := mixKind X.prog X.w) (kvs := ws) (ep := ep) lo) (I.ok.hd hcalm) hat h16 fun h' tk acc hk hacc => k h' tk acc.toList hk ?_) q
    rw [← hkeys]
    exact each_keys (knd := mixKind X.prog X.w) acc.toList (by rw [Array.length_toList, hacc.1]) fun j v e => hacc.2 j v (by rw [← Array.getElem?_toList]; exact e)
end
end Mr

namespace Mr
variable [TabsOf]
open PySem PySem.Spec PyProof.Rows L2
open Res

section
variable {K : Fr} {H : Hp}
theorem rv1 {d : D} {vs : List V} (l : RVl K H [d] vs) : ∃ v, vs = [v] ∧ RV K H d v := by
  obtain ⟨v, r, e, h, t⟩ := l
  rw [show r = [] from t] at e
  exact ⟨v, e, h⟩
theorem rv2 {d e : D} {vs : List V} (l : RVl K H [d, e] vs) : ∃ v u, vs = [v, u] ∧ RV K H d v ∧ RV K H e u := by
  obtain ⟨v, r, e1, h, v2, r2, e2, h2, t⟩ := l
  rw [e2, show r2 = [] from t] at e1
  exact ⟨v, v2, e1, h, h2⟩
/-- the data behind a scalar answer -/
theorem sc_ok {d : D} {v : V} {Q : VK} (p : ∀ w H', Got K H .fz d w H' → Q w H') (r : R K H d v) : Q v H := p v H (Got.fz (Ext.refl H) r)

/-! ### len -/
def lenD : List D → Res D
  | [.lst ds] => .ok (.int ds.length)
  | [.tup ds] => .ok (.int ds.length)
  | [.scr ns] => .ok (.int ns.length)
  | [.dct ks _] => .ok (.int ks.length)
  | [.str x] => if x.length ≤ sizeLine then .ok (.int x.length) else .bad
  | _ => .bad
def lenR (K : Fr) : List V → Hp → VK → Prop := fun xs H Q => (∃ x n, xs = [x] ∧ LenV K x H n ∧ Q (.int n) H) ∨ ∃ a kvs, xs = [.ref a] ∧ Rd H a (.dK kvs) ∧ Q (.int kvs.length) H
theorem cr_lenR {X : Cx} : CallR X (.builtin "len") (lenR X.K) := CallR.or call_len fun pins s σ H xs us Q I r h => by
  obtain ⟨a, kvs, rfl, ha, q⟩ := h
  obtain ⟨u, rfl, ru⟩ := vals1 r
  cases ru
  exact d_len I ha fun t s' I' => ⟨.int kvs.length, H, I', ⟨t, rfl⟩, q⟩
theorem len_ne (ds : List D) (c : Str) : lenD ds ≠ .ex c := by unfold lenD; split <;> first | (intro h; cases h; done) | (split <;> (intro h; cases h))
theorem len_s : CallS K (lenR K) lenD .fz := by
  intro ds vs H Q l ps
  match ds, ps, l with
  | [d], ps, l =>
    obtain ⟨v, rfl, r⟩ := rv1 l
    cases d <;> first | exact (show False from ps).elim | skip
    · rename_i x
      obtain ⟨c, p⟩ := Post.ite ps
      exact .inl ⟨v, x.length, rfl, by rw [show v = V.str x from r]; exact ⟨c, rfl⟩, sc_ok p rfl⟩
    · obtain ⟨a, us, rfl, f, z, l⟩ := r
      exact .inl ⟨_, us.length, rfl, .inr ⟨us, .of f, rfl⟩, by rw [l.length]; exact sc_ok ps rfl⟩
    · obtain ⟨a, us, rfl, f, z, l⟩ := r
      exact .inl ⟨_, us.length, rfl, .inl ⟨us, f.sq, rfl⟩, by rw [l.length]; exact sc_ok ps rfl⟩
    · rename_i ks es
      obtain ⟨a, us, rfl, f, z, l⟩ := r
      exact .inr ⟨a, _, rfl, f, by rw [List.length_zip, l.length, ← z, Nat.min_self]; exact sc_ok ps rfl⟩
    · rename_i ns
      obtain ⟨a, rfl, f, z⟩ := r
      exact .inl ⟨_, ns.length, rfl, .inl ⟨_, f.sq, by rw [List.length_map]⟩, sc_ok ps rfl⟩
  | [], ps, l => exact (show False from ps).elim
  | _ :: _ :: _, ps, l => exact (by revert ps; simp [lenD, Post])

/-! ### numbers -/
def max2D : List D → Res D
  | [.int i, .int j] => .ok (.int (if j > i then j else i))
  | _ => .bad
def min2D : List D → Res D
  | [.int i, .int j] => .ok (.int (if j < i then j else i))
  | _ => .bad
def absD : List D → Res D
  | [.int i] => .ok (.int (if i < 0 then -i else i))
  | _ => .bad
def intD : List D → Res D
  | [.int i] => .ok (.int i)
  | [.bl k] => .ok (.int (if k then 1 else 0))
  | [.str a] => match PySem.intText? a with
    | some n => if a.length ≤ 640 then .ok (.int n) else .bad
    | none => .bad
  | _ => .bad
def strD : List D → Res D
  | [.int i] => if i.natAbs.log2 < 1920 then .ok (.str (toString i)) else .bad
  | _ => .bad
theorem max2_ne (ds : List D) (c : Str) : max2D ds ≠ .ex c := by unfold max2D; split <;> (intro h; cases h)
theorem min2_ne (ds : List D) (c : Str) : min2D ds ≠ .ex c := by unfold min2D; split <;> (intro h; cases h)
theorem abs_ne (ds : List D) (c : Str) : absD ds ≠ .ex c := by unfold absD; split <;> (intro h; cases h)
theorem int_ne (ds : List D) (c : Str) : intD ds ≠ .ex c := by unfold intD; split <;> (repeat' split) <;> (intro h; cases h)
theorem str_ne (ds : List D) (c : Str) : strD ds ≠ .ex c := by unfold strD; split <;> (repeat' split) <;> (intro h; cases h)
theorem max2_s : CallS K (fun xs H Q => ∃ i j, xs = [.int i, .int j] ∧ Q (.int (if j > i then j else i)) H) max2D .fz := by
  intro ds vs H Q l ps
  unfold max2D at ps
  split at ps
  · obtain ⟨v, u, rfl, r, r2⟩ := rv2 l
    exact ⟨_, _, by rw [show v = V.int _ from r, show u = V.int _ from r2], sc_ok ps rfl⟩
  · exact ps.elim
theorem min2_s : CallS K (fun xs H Q => ∃ i j, xs = [.int i, .int j] ∧ Q (.int (if j < i then j else i)) H) min2D .fz := by
  intro ds vs H Q l ps
  unfold min2D at ps
  split at ps
  · obtain ⟨v, u, rfl, r, r2⟩ := rv2 l
    exact ⟨_, _, by rw [show v = V.int _ from r, show u = V.int _ from r2], sc_ok ps rfl⟩
  · exact ps.elim
theorem abs_s : CallS K (fun xs H Q => ∃ i, xs = [.int i] ∧ Q (.int (if i < 0 then -i else i)) H) absD .fz := by
  intro ds vs H Q l ps
  unfold absD at ps
  split at ps
  · obtain ⟨v, rfl, r⟩ := rv1 l
    exact ⟨_, by rw [show v = V.int _ from r], sc_ok ps rfl⟩
  · exact ps.elim
def intR : List V → Hp → VK → Prop := fun xs H Q => ((∃ i, xs = [.int i] ∧ Q (.int i) H) ∨ ∃ k, xs = [.bl k] ∧ Q (.int (if k then 1 else 0)) H) ∨ ∃ a n, xs = [.str a] ∧ PySem.intText? a = some n ∧ a.length ≤ 640 ∧ Q (.int n) H
theorem cr_intR {X : Cx} : CallR X (.type "int") intR := CallR.or call_int1 call_int_str
theorem int_s : CallS K intR intD .fz := by
  intro ds vs H Q l ps
  unfold intD at ps
  split at ps
  · obtain ⟨v, rfl, r⟩ := rv1 l
    exact .inl (.inl ⟨_, by rw [show v = V.int _ from r], sc_ok ps rfl⟩)
  · obtain ⟨v, rfl, r⟩ := rv1 l
    exact .inl (.inr ⟨_, by rw [show v = V.bl _ from r], sc_ok ps rfl⟩)
  · obtain ⟨v, rfl, r⟩ := rv1 l
    split at ps
    · rename_i e
      obtain ⟨c, p⟩ := Post.ite ps
      exact .inr ⟨_, _, by rw [show v = V.str _ from r], e, c, sc_ok p rfl⟩
    · exact ps.elim
  · exact ps.elim
theorem str_s : CallS K (fun xs H Q => ∃ i : Int, xs = [.int i] ∧ i.natAbs.log2 < 1920 ∧ Q (.str (toString i)) H) strD .fz := by
  intro ds vs H Q l ps
  unfold strD at ps
  split at ps
  · obtain ⟨v, rfl, r⟩ := rv1 l
    obtain ⟨c, p⟩ := Post.ite ps
    exact ⟨_, by rw [show v = V.int _ from r], c, sc_ok p rfl⟩
  · exact ps.elim

/-! ### sums, bools, the greatest -/
def intsOf : List D → Option (List Int)
  | [] => some []
  | .int i :: ds => (intsOf ds).map (i :: ·)
  | _ => none
def boolsOf : List D → Option (List Bool)
  | [] => some []
  | .bl b :: ds => (boolsOf ds).map (b :: ·)
  | _ => none
theorem intsOf_v : ∀ {ds : List D} {vs : List V} {ns : List Int}, Rl K H ds vs → intsOf ds = some ns → vs = ns.map V.int
  | [], _, _, h, e => by cases e; exact h
  | d :: ds, _, ns, ⟨v, r, e1, h, t⟩, e => by
    cases d <;> first | (cases e; done) | skip
    simp only [intsOf] at e
    cases e2 : intsOf ds with
    | none => rw [e2] at e; cases e
    | some ms =>
      rw [e2] at e
      cases e
      rw [e1, show v = V.int _ from h, intsOf_v t e2]
      rfl
theorem boolsOf_v : ∀ {ds : List D} {vs : List V} {ns : List Bool}, Rl K H ds vs → boolsOf ds = some ns → vs = ns.map V.bl
  | [], _, _, h, e => by cases e; exact h
  | d :: ds, _, ns, ⟨v, r, e1, h, t⟩, e => by
    cases d <;> first | (cases e; done) | skip
    simp only [boolsOf] at e
    cases e2 : boolsOf ds with
    | none => rw [e2] at e; cases e
    | some ms =>
      rw [e2] at e
      cases e
      rw [e1, show v = V.bl _ from h, boolsOf_v t e2]
      rfl
def sumD : List D → Res D
  | [.lst ds] => match intsOf ds with
    | some ns => .ok (.int ns.sum)
    | none => .bad
  | _ => .bad
def allD : List D → Res D
  | [.lst ds] => match boolsOf ds with
    | some bs => .ok (.bl (bs.all id))
    | none => .bad
  | _ => .bad
def anyD : List D → Res D
  | [.lst ds] => match boolsOf ds with
    | some bs => .ok (.bl (bs.any id))
    | none => .bad
  | _ => .bad
def maxI : List Int → Int
  | [] => 0
  | [x] => x
  | x :: xs => max x (maxI xs)
def minI : List Int → Int
  | [] => 0
  | [x] => x
  | x :: xs => min x (minI xs)
theorem maxI_is : ∀ {ns : List Int} {m : Int}, m ∈ ns → (∀ y, y ∈ ns → y ≤ m) → m = maxI ns
  | [x], m, h, _ => by simpa [maxI] using h
  | x :: y :: xs, m, h, k => by
    have hm : ∀ ns : List Int, ns ≠ [] → maxI ns ∈ ns ∧ ∀ z ∈ ns, z ≤ maxI ns := by
      intro ns
      induction ns with
      | nil => intro n; exact absurd rfl n
      | cons a as ih =>
        intro _
        cases as with
        | nil => simp [maxI]
        | cons b bs =>
          obtain ⟨h1, h2⟩ := ih (by simp)
          constructor
          · show max a (maxI (b :: bs)) ∈ _
            rcases Int.le_total a (maxI (b :: bs)) with q | q
            · rw [Int.max_eq_right q]; exact List.mem_cons_of_mem _ h1
            · rw [Int.max_eq_left q]; exact List.mem_cons_self
          · intro z hz
            show z ≤ max a (maxI (b :: bs))
            rcases List.mem_cons.mp hz with q | q
            · subst q; exact Int.le_max_left _ _
            · exact Int.le_trans (h2 z q) (Int.le_max_right _ _)
    obtain ⟨h1, h2⟩ := hm (x :: y :: xs) (by simp)
    exact Int.le_antisymm (h2 m h) (k _ h1)
theorem minI_is : ∀ {ns : List Int} {m : Int}, m ∈ ns → (∀ y, y ∈ ns → m ≤ y) → m = minI ns
  | [x], m, h, _ => by simpa [minI] using h
  | x :: y :: xs, m, h, k => by
    have hm : ∀ ns : List Int, ns ≠ [] → minI ns ∈ ns ∧ ∀ z ∈ ns, minI ns ≤ z := by
      intro ns
      induction ns with
      | nil => intro n; exact absurd rfl n
      | cons a as ih =>
        intro _
        cases as with
        | nil => simp [minI]
        | cons b bs =>
          obtain ⟨h1, h2⟩ := ih (by simp)
          constructor
          · show min a (minI (b :: bs)) ∈ _
            rcases Int.le_total a (minI (b :: bs)) with q | q
            · rw [Int.min_eq_left q]; exact List.mem_cons_self
            · rw [Int.min_eq_right q]; exact List.mem_cons_of_mem _ h1
          · intro z hz
            show min a (minI (b :: bs)) ≤ z
            rcases List.mem_cons.mp hz with q | q
            · subst q; exact Int.min_le_left _ _
            · exact Int.le_trans (Int.min_le_right _ _) (h2 z q)
    obtain ⟨h1, h2⟩ := hm (x :: y :: xs) (by simp)
    exact Int.le_antisymm (k _ h1) (h2 m h)
def maxD : List D → Res D
  | [.lst ds] => match intsOf ds with
    | some ns => if 0 < ns.length then .ok (.int (maxI ns)) else .bad
    | none => .bad
  | _ => .bad
def minD : List D → Res D
  | [.lst ds] => match intsOf ds with
    | some ns => if 0 < ns.length then .ok (.int (minI ns)) else .bad
    | none => .bad
  | _ => .bad
theorem sum_ne (ds : List D) (c : Str) : sumD ds ≠ .ex c := by unfold sumD; split <;> (repeat' split) <;> (intro h; cases h)
theorem all_ne (ds : List D) (c : Str) : allD ds ≠ .ex c := by unfold allD; split <;> (repeat' split) <;> (intro h; cases h)
theorem any_ne (ds : List D) (c : Str) : anyD ds ≠ .ex c := by unfold anyD; split <;> (repeat' split) <;> (intro h; cases h)
theorem max_ne (ds : List D) (c : Str) : maxD ds ≠ .ex c := by unfold maxD; split <;> (repeat' split) <;> (intro h; cases h)
theorem min_ne (ds : List D) (c : Str) : minD ds ≠ .ex c := by unfold minD; split <;> (repeat' split) <;> (intro h; cases h)
theorem sum_s : CallS K (rSum K) sumD .fz := by
  intro ds vs H Q l ps
  unfold sumD at ps
  split at ps
  · obtain ⟨v, rfl, a, us, rfl, f, z, l⟩ := rv1 l
    split at ps
    · rename_i e
      have := intsOf_v l e
      subst this
      exact ⟨a, _, rfl, f.sq, sc_ok ps rfl⟩
    · exact ps.elim
  · exact ps.elim
theorem all_s : CallS K (rAll K) allD .fz := by
  intro ds vs H Q l ps
  unfold allD at ps
  split at ps
  · obtain ⟨v, rfl, a, us, rfl, f, z, l⟩ := rv1 l
    split at ps
    · rename_i e
      have := boolsOf_v l e
      subst this
      exact ⟨a, _, rfl, f.sq, sc_ok ps rfl⟩
    · exact ps.elim
  · exact ps.elim
theorem any_s : CallS K (rAny K) anyD .fz := by
  intro ds vs H Q l ps
  unfold anyD at ps
  split at ps
  · obtain ⟨v, rfl, a, us, rfl, f, z, l⟩ := rv1 l
    split at ps
    · rename_i e
      have := boolsOf_v l e
      subst this
      exact ⟨a, _, rfl, f.sq, sc_ok ps rfl⟩
    · exact ps.elim
  · exact ps.elim
theorem max_s : CallS K (rMax K) maxD .fz := by
  intro ds vs H Q l ps
  unfold maxD at ps
  split at ps
  · obtain ⟨v, rfl, a, us, rfl, f, z, l⟩ := rv1 l
    split at ps
    · rename_i e
      have := intsOf_v l e
      subst this
      obtain ⟨c, p⟩ := Post.ite ps
      exact ⟨a, _, rfl, f.sq, c, fun m h1 h2 => by rw [maxI_is h1 h2]; exact sc_ok p rfl⟩
    · exact ps.elim
  · exact ps.elim
theorem min_s : CallS K (rMin K) minD .fz := by
  intro ds vs H Q l ps
  unfold minD at ps
  split at ps
  · obtain ⟨v, rfl, a, us, rfl, f, z, l⟩ := rv1 l
    split at ps
    · rename_i e
      have := intsOf_v l e
      subst this
      obtain ⟨c, p⟩ := Post.ite ps
      exact ⟨a, _, rfl, f.sq, c, fun m h1 h2 => by rw [minI_is h1 h2]; exact sc_ok p rfl⟩
    · exact ps.elim
  · exact ps.elim

/-! ### sorted, list, tuple, dict -/
theorem sorted_ne (ds : List D) (c : Str) : sortedD ds ≠ .ex c := by unfold sortedD; split <;> (repeat' split) <;> (intro h; cases h)
theorem sorted_s : CallS K (rSortD K) sortedD (.own .fz) := by
  intro ds vs H Q l ps
  unfold sortedD at ps
  split at ps
  · obtain ⟨v, rfl, r⟩ := rv1 l
    split at ps
    · rename_i e
      obtain ⟨c, p⟩ := Post.ite ps
      refine ⟨v, _, _, rfl, r, e, c, fun q us hq hl => p _ _ (Got.lst (Ext.refl H) hq hl ?_)⟩
      rw [hl.length, (List.mergeSort_perm _ leP).length_eq]
      simp only [okSort, Bool.and_eq_true, decide_eq_true_eq] at c
      exact c.1
    · exact ps.elim
  · exact ps.elim
def listD : List D → Res D
  | [.lst ds] => .ok (.lst ds)
  | [.tup ds] => .ok (.lst ds)
  | [.dct ks _] => if ks.length ≤ sizeLine then .ok (.lst (ks.map kD)) else .bad
  | _ => .bad
def tupleD : List D → Res D
  | [.lst ds] => .ok (.tup ds)
  | [.tup ds] => .ok (.tup ds)
  | _ => .bad
theorem list_ne (ds : List D) (c : Str) : listD ds ≠ .ex c := by unfold listD; split <;> (repeat' split) <;> (intro h; cases h)
theorem tuple_ne (ds : List D) (c : Str) : tupleD ds ≠ .ex c := by unfold tupleD; split <;> (intro h; cases h)
def listR (K : Fr) : List V → Hp → VK → Prop := fun xs H Q => (∃ p ys, xs = [.ref p] ∧ (SqL K H p ys ∨ SqT K H p ys) ∧ ∀ l, H l = none → Q (.ref l) (upd H l (.lst ys))) ∨ ∃ (a : Addr) (kvs : List (Key × V)), xs = [.ref a] ∧ Rd H a (.dK kvs) ∧ ∀ p, H p = none → Q (.ref p) (upd H p (.lst (kvs.map fun kv => kV kv.1)))
theorem cr_listR {X : Cx} (hc : X.calm = true) : CallR X (.type "list") (listR X.K) := CallR.or call_list_of (call_listD hc)
theorem list_s : CallS K (listR K) listD (.own .fz) := by
  intro ds vs H Q l ps
  unfold listD at ps
  split at ps
  · obtain ⟨v, rfl, a, us, rfl, f, z, l⟩ := rv1 l
    exact .inl ⟨a, us, rfl, .inl f.sq, fun p hp => ps _ _ (Got.lst (Ext.refl H) hp l z)⟩
  · obtain ⟨v, rfl, a, us, rfl, f, z, l⟩ := rv1 l
    exact .inl ⟨a, us, rfl, .inr (.of f), fun p hp => ps _ _ (Got.lst (Ext.refl H) hp l z)⟩
  · rename_i ks es
    obtain ⟨v, rfl, a, us, rfl, f, z, l⟩ := rv1 l
    obtain ⟨c, p⟩ := Post.ite ps
    refine .inr ⟨a, _, rfl, f, fun q hq => ?_⟩
    have e : ((ks.zip us).map fun kv => kV kv.1) = ks.map kV := by
      have : ((ks.zip us).map fun kv => kV kv.1) = ((ks.zip us).map (·.1)).map kV := by rw [List.map_map]; rfl
      rw [this, List.map_fst_zip (by rw [l.length, z]; exact Nat.le_refl _)]
    rw [e]
    exact p _ _ (Got.lst (Ext.refl H) hq (keys_R ks) (by rw [List.length_map]; exact c))
  · exact ps.elim
theorem tuple_s : CallS K (fun xs H Q => ∃ p ys, xs = [.ref p] ∧ ((SqL K H p ys ∧ ∀ l, H l = none → Q (.ref l) (upd H l (.tup ys))) ∨ (SqT K H p ys ∧ Q (.ref p) H))) tupleD .fz := by
  intro ds vs H Q l ps
  unfold tupleD at ps
  split at ps
  · obtain ⟨v, rfl, a, us, rfl, f, z, l⟩ := rv1 l
    exact ⟨a, us, rfl, .inl ⟨f.sq, fun p hp => ps _ _ (Got.tup (Ext.refl H) hp l z)⟩⟩
  · obtain ⟨v, rfl, a, us, rfl, f, z, l⟩ := rv1 l
    exact ⟨a, us, rfl, .inr ⟨.of f, sc_ok ps ⟨a, us, rfl, f, z, l⟩⟩⟩
  · exact ps.elim
def two2 : List D → Option (Key × D)
  | [a, b] => match keyOf a with
    | some k => some (k, b)
    | none => none
  | _ => none
def pairOf : D → Option (Key × D)
  | .tup xs => two2 xs
  | _ => none
def pairsOf : List D → Option (List (Key × D))
  | [] => some []
  | d :: ds => match pairOf d with
    | some p => match pairsOf ds with
      | some r => some (p :: r)
      | none => none
    | none => none
def mergeD (kvs more : List (Key × D)) : List (Key × D) := more.foldl (fun acc kv => putK' acc kv.1 kv.2) kvs
def unz (kvs : List (Key × D)) : D := .dct (kvs.map (·.1)) (kvs.map (·.2))
def dictD : List D → Res D
  | [.lst ds] => match pairsOf ds with
    | some kvs => .ok (unz (mergeD [] kvs))
    | none => .bad
  | [.dct ks es] => .ok (.dct ks es)
  | _ => .bad
theorem dict_ne (ds : List D) (c : Str) : dictD ds ≠ .ex c := by unfold dictD; split <;> (repeat' split) <;> (intro h; cases h)
/-- pairs of values beside pairs of data -/
def KVR (K : Fr) (H : Hp) (kvs : List (Key × D)) (ws : List (Key × V)) : Prop := Paired (fun (p : Key × D) (q : Key × V) => p.1 = q.1 ∧ R K H p.2 q.2) kvs ws
theorem KVR.zip {kvs : List (Key × D)} {ws : List (Key × V)} (h : KVR K H kvs ws) : ws = (kvs.map (·.1)).zip (ws.map (·.2)) ∧ Rl K H (kvs.map (·.2)) (ws.map (·.2)) := by
  unfold KVR at h
  induction h with
  | nil => exact ⟨rfl, rfl⟩
  | @cons p q ps qs h _ ih =>
    refine ⟨?_, q.2, _, rfl, h.2, ih.2⟩
    rw [List.map_cons, List.map_cons, List.zip_cons_cons, ← ih.1, h.1]
theorem KVR.any {kvs : List (Key × D)} {ws : List (Key × V)} {k : Key} (h : KVR K H kvs ws) : (kvs.any fun kv => decide (kv.1 = k)) = ws.any fun kv => decide (kv.1 = k) := by
  unfold KVR at h
  induction h with
  | nil => rfl
  | cons h _ ih => simp [h.1, ih]
theorem KVR.put {kvs : List (Key × D)} {ws : List (Key × V)} {k : Key} {d : D} {v : V} (h : KVR K H kvs ws) (r : R K H d v) : KVR K H (putK' kvs k d) (putK ws k v) := by
  unfold putK' putK
  rw [h.any]
  have hm : KVR K H (kvs.map fun kv => if kv.1 = k then (kv.1, d) else kv) (ws.map fun kv => if kv.1 = k then (kv.1, v) else kv) := by
    unfold KVR at h ⊢
    induction h with
    | nil => exact .nil
    | @cons p q ps qs h _ ih =>
      refine .cons ?_ ih
      dsimp only
      by_cases e : p.1 = k
      · rw [if_pos e, if_pos (h.1 ▸ e)]; exact ⟨h.1, r⟩
      · rw [if_neg e, if_neg (h.1 ▸ e)]; exact h
  have ha : KVR K H (kvs ++ [(k, d)]) (ws ++ [(k, v)]) := by
    unfold KVR at h ⊢
    clear hm
    induction h with
    | nil => exact .cons ⟨rfl, r⟩ .nil
    | cons h _ ih => exact .cons h ih
  split <;> first | exact hm | exact ha
theorem KVR.merge {more : List (Key × D)} {us : List (Key × V)} (h : KVR K H more us) : ∀ {kvs : List (Key × D)} {ws : List (Key × V)}, KVR K H kvs ws → KVR K H (mergeD kvs more) (mergeK ws us) := by
  unfold KVR at h
  induction h with
  | nil => intro _ _ q; exact q
  | @cons p q ps qs h _ ih =>
    intro kvs ws r
    have := r.put (k := p.1) h.2
    rw [show (putK ws p.1 q.2) = putK ws q.1 q.2 by rw [h.1]] at this
    exact ih this
theorem two2_v {xs : List D} {us : List V} {p : Key × D} (l : Rl K H xs us) (e : two2 xs = some p) : ∃ y, us = [kV p.1, y] ∧ R K H p.2 y := by
  unfold two2 at e
  split at e
  · rename_i a b
    obtain ⟨x, xr, e4, hx, y, yr, e5, hy, n⟩ := l
    split at e
    · rename_i k e2
      cases e
      rw [e5, show yr = [] from n, keyOf_v hx e2] at e4
      exact ⟨y, e4, hy⟩
    · cases e
  · cases e
theorem pairOf_v {d : D} {v : V} {p : Key × D} (r : R K H d v) (e : pairOf d = some p) : ∃ a y, v = .ref a ∧ SqT K H a [kV p.1, y] ∧ R K H p.2 y := by
  cases d <;> first | (cases e; done) | skip
  obtain ⟨a, us, ev, f, z, l⟩ := r
  obtain ⟨y, eu, ry⟩ := two2_v l e
  subst eu
  exact ⟨a, y, ev, .of f, ry⟩
theorem pairsOf_v : ∀ {ds : List D} {vs : List V} {kvs : List (Key × D)}, Rl K H ds vs → pairsOf ds = some kvs → ∃ ps ws, vs = ps.map V.ref ∧ KVR K H kvs ws ∧ Paired (fun (p : Addr) (kv : Key × V) => SqT K H p [kV kv.1, kv.2]) ps ws
  | [], _, _, h, e => by cases e; exact ⟨[], [], h, .nil, .nil⟩
  | d :: ds, _, kvs, ⟨v, r, e1, h, t⟩, e => by
    simp only [pairsOf] at e
    cases e2 : pairOf d with
    | none => rw [e2] at e; cases e
    | some p =>
      rw [e2] at e
      dsimp only at e
      cases e3 : pairsOf ds with
      | none => rw [e3] at e; cases e
      | some r' =>
        rw [e3] at e
        cases e
        obtain ⟨ps, ws, ev, kr, pr⟩ := pairsOf_v t e3
        obtain ⟨a, y, ea, sq, ry⟩ := pairOf_v h e2
        exact ⟨a :: ps, (p.1, y) :: ws, by rw [e1, ev, ea]; rfl, .cons ⟨rfl, ry⟩ kr, .cons sq pr⟩
theorem Got.dct {H H1 : Hp} {kvs : List (Key × D)} {ws : List (Key × V)} {p : Addr} (x : Ext H H1) (hp : H1 p = none) (l : KVR K H1 kvs ws) : Got K H (.ownD .fz) (unz kvs) (.ref p) (upd H1 p (.dK ws)) := by
  obtain ⟨e, r⟩ := l.zip
  refine ⟨x.trans (Ext.new hp), [p], ⟨_, _, p, ws.map (·.2), [], rfl, rfl, by rw [upd_same, ← e], by simp, rfl, All3.of_rl (r.ext (Ext.new hp))⟩, by simpa using (Fre.of hp).back x, by simp⟩
def dictR (K : Fr) : List V → Hp → VK → Prop := fun xs H Q => (∃ (a : Addr) (ps : List Addr) (kvs : List (Key × V)), xs = [.ref a] ∧ SqL K H a (ps.map V.ref) ∧ Paired (fun p kv => SqT K H p [kV kv.1, kv.2]) ps kvs ∧
    ∀ p, H p = none → Q (.ref p) (upd H p (.dK (mergeK [] kvs)))) ∨ ∃ (a : Addr) (kvs : List (Key × V)), xs = [.ref a] ∧ Rd H a (.dK kvs) ∧ ∀ p, H p = none → Q (.ref p) (upd H p (.dK kvs))
theorem cr_dictR {X : Cx} (hc : X.calm = true) : CallR X (.type "dict") (dictR X.K) := CallR.or (call_dictP hc) call_dictD
theorem kvr_zip : ∀ {ks : List Key} {es : List D} {us : List V}, ks.length = es.length → Rl K H es us → KVR K H (ks.zip es) (ks.zip us)
  | [], _, us, _, _ => .nil
  | k :: ks, [], us, h, _ => by simp at h
  | k :: ks, e :: es, _, h, ⟨v, r, e1, hv, t⟩ => by subst e1; exact .cons ⟨rfl, hv⟩ (kvr_zip (by simpa using h) t)
theorem dict_s : CallS K (dictR K) dictD (.ownD .fz) := by
  intro ds vs H Q l ps
  unfold dictD at ps
  split at ps
  · obtain ⟨v, rfl, a, us, rfl, f, z, l⟩ := rv1 l
    split at ps
    · rename_i e
      obtain ⟨as, ws, ev, kr, pr⟩ := pairsOf_v l e
      subst ev
      exact .inl ⟨a, as, ws, rfl, f.sq, pr, fun p hp => ps _ _ (Got.dct (Ext.refl H) hp (kr.merge .nil))⟩
    · exact ps.elim
  · rename_i ks es
    obtain ⟨v, rfl, a, us, rfl, f, z, l⟩ := rv1 l
    refine .inr ⟨a, _, rfl, f, fun p hp => ps _ _ ?_⟩
    have := Got.dct (K := K) (Ext.refl H) hp (kvr_zip z l)
    unfold unz at this
    rw [List.map_fst_zip (by rw [z]; exact Nat.le_refl _), List.map_snd_zip (by rw [z]; exact Nat.le_refl _)] at this
    exact this
  · exact ps.elim
end
end Mr

namespace Mr
variable [TabsOf]
open PySem PySem.Spec PyProof.Rows L2
open Res

/-! ## in -/
def inD (x y : D) : Res Bool := match y with
  | .lst ds => if flat x && ds.all flat then .ok (ds.any fun z => eqv z x) else .bad
  | .tup ds => if flat x && ds.all flat then .ok (ds.any fun z => eqv z x) else .bad
  | .ctup ss => if flat x then .ok (ss.any fun z => eqv (.str z) x) else .bad
  | .dct ks _ => match keyOf x with
    | some k => .ok (ks.any fun k' => decide (k' = k))
    | none => .bad
  | .str b => match x with
    | .str a => .ok (!(Builtin.Str.occurrences b a 0 b.length 1).isEmpty)
    | _ => .bad
  | _ => .bad
def inV' (neg : Bool) (x y : D) : Res D := (inD x y).bind fun b => .ok (.bl (if neg then !b else b))
section
variable {K : Fr} {H : Hp}
theorem flat_v {d : D} {v : V} (r : R K H d v) (h : flat d = true) : flatV v = true ∧ (∀ e u, R K H e u → flat e = true → eqV u v = eqv e d) := by
  cases d <;> first | (cases h; done) | skip
  · rw [show v = .non from r]
    refine ⟨rfl, fun e u re fe => ?_⟩
    cases e <;> first | (cases fe; done) | skip
    all_goals first
      | (rw [show u = .non from re]; rfl)
      | (rw [show u = .bl _ from re]; rfl)
      | (rw [show u = .int _ from re]; rfl)
      | (rw [show u = .str _ from re]; rfl)
  · rw [show v = .bl _ from r]
    refine ⟨rfl, fun e u re fe => ?_⟩
    cases e <;> first | (cases fe; done) | skip
    all_goals first
      | (rw [show u = .non from re]; rfl)
      | (rw [show u = .bl _ from re]; rfl)
      | (rw [show u = .int _ from re]; rfl)
      | (rw [show u = .str _ from re]; rfl)
  · rw [show v = .int _ from r]
    refine ⟨rfl, fun e u re fe => ?_⟩
    cases e <;> first | (cases fe; done) | skip
    all_goals first
      | (rw [show u = .non from re]; rfl)
      | (rw [show u = .bl _ from re]; rfl)
      | (rw [show u = .int _ from re]; rfl)
      | (rw [show u = .str _ from re]; rfl)
  · rw [show v = .str _ from r]
    refine ⟨rfl, fun e u re fe => ?_⟩
    cases e <;> first | (cases fe; done) | skip
    all_goals first
      | (rw [show u = .non from re]; rfl)
      | (rw [show u = .bl _ from re]; rfl)
      | (rw [show u = .int _ from re]; rfl)
      | (rw [show u = .str _ from re]; rfl)
theorem flats_v {d : D} {v : V} (r : R K H d v) (h : flat d = true) : ∀ {ds : List D} {vs : List V}, Rl K H ds vs → ds.all flat = true → vs.all flatV = true ∧ inV v vs = ds.any fun z => eqv z d
  | [], _, l, _ => by rw [show _ = [] from l]; exact ⟨rfl, rfl⟩
  | e :: es, _, ⟨u, us, e1, he, t⟩, a => by
    subst e1
    simp only [List.all_cons, Bool.and_eq_true] at a
    obtain ⟨h1, h2⟩ := flats_v r h t a.2
    refine ⟨by simp [h1, (flat_v he a.1).1], ?_⟩
    show (eqV u v || inV v us) = _
    rw [h2, (flat_v r h).2 e u he a.1]
    rfl
theorem strs_R : ∀ ss : List Str, Rl K H (ss.map .str) (ss.map V.str)
  | [] => rfl
  | s :: ss => ⟨_, _, rfl, rfl, strs_R ss⟩
theorem valV_zip {k : Key} : ∀ {ks : List Key} {vs : List V}, ks.length = vs.length → (valV (ks.zip vs) k).isSome = ks.any fun k' => decide (k' = k)
  | [], _, _ => rfl
  | a :: ks, [], h => by simp at h
  | a :: ks, v :: vs, h => by
    by_cases e : a = k
    · subst e
      rw [List.zip_cons_cons, valV_pos (show (a, v).1 = a from rfl)]
      simp
    · rw [List.zip_cons_cons, valV_neg (show ¬ (a, v).1 = k from e), valV_zip (by simpa using h)]
      simp [e]
theorem DGet.of {a : Addr} {y : D} {u : V} {k : Key} {kvs : List (Key × V)} (ry : R K H y u) (e : keyOf y = some k) (f : Rd H a (.dK kvs)) : DGet H a u (valV kvs k) := .inl ⟨kvs, k, f, keyOf_v ry e, rfl⟩
end
section
variable {X : Cx} {H0 : Hp} {Z : Zt} {W : WX} {ω ωr : List Sh} {τr : Sh} {pos : Pos} {a b : Expr} {f g : Env → Res D}
/-- x in y as the layer has it: list, tuple, text -/
def inR (K : Fr) (neg : Bool) : R2 := fun x y H Q => rIn K neg x y H Q ∨ ∃ i j, x = .str i ∧ y = .str j ∧ Q (.bl (if neg then !(!(Builtin.Str.occurrences j i 0 j.length 1).isEmpty) else !(Builtin.Str.occurrences j i 0 j.length 1).isEmpty)) H
theorem op_inR : OpR X (compareOp .In) (inR X.K false) := OpR.or op_in_seq op_in_str
theorem op_ninR : OpR X (compareOp .NotIn) (inR X.K true) := OpR.or op_notIn_seq op_notin_str
theorem inD_noex (x y : D) (c : Str) : inD x y ≠ .ex c := by
  unfold inD
  split <;> (repeat' split) <;> (intro h; cases h)
theorem in_post {x y : D} {neg : Bool} {k : D → Prop} {e : Str → Prop} (h : Post k e (inV' neg x y)) : ∃ b, inD x y = .ok b ∧ k (.bl (if neg then !b else b)) := by
  unfold inV' at h
  cases e1 : inD x y with
  | ok b => rw [e1] at h; exact ⟨b, rfl, h⟩
  | ex c => exact absurd e1 (inD_noex _ _ _)
  | bad => rw [e1] at h; exact h.elim
theorem in_seq {neg : Bool} {x y : D} {u w : V} {H : Hp} {Q : VK} {bb : Bool} (rx : R X.K H x u) (ry : RV X.K H y w) (e : inD x y = .ok bb) (hn : ∀ ks ds, y ≠ .dct ks ds) (q : Q (.bl (if neg then !bb else bb)) H) : inR X.K neg u w H Q := by
  cases y <;> first | (cases e; done) | exact absurd rfl (hn _ _) | skip
  · cases x <;> first | (cases e; done) | skip
    cases e
    exact .inr ⟨_, _, rx, ry, q⟩
  · obtain ⟨a, vs, rfl, f, z, l⟩ := ry
    simp only [inD] at e
    split at e
    · rename_i c
      simp only [Bool.and_eq_true] at c
      cases e
      obtain ⟨h1, h2⟩ := flats_v rx c.1 l c.2
      exact .inl ⟨a, vs, rfl, .inr (.of f), (flat_v rx c.1).1, h1, by rw [h2]; exact q⟩
    · cases e
  · obtain ⟨a, vs, rfl, f, z, l⟩ := ry
    simp only [inD] at e
    split at e
    · rename_i c
      simp only [Bool.and_eq_true] at c
      cases e
      obtain ⟨h1, h2⟩ := flats_v rx c.1 l c.2
      exact .inl ⟨a, vs, rfl, .inl f.sq, (flat_v rx c.1).1, h1, by rw [h2]; exact q⟩
    · cases e
  · rename_i ss
    obtain ⟨a, rfl, f⟩ := ry
    simp only [inD] at e
    split at e
    · rename_i c
      cases e
      obtain ⟨h1, h2⟩ := flats_v rx c (strs_R (K := X.K) (H := H) ss) (by simp [flat])
      exact .inl ⟨a, _, rfl, .inr f, (flat_v rx c).1, h1, by rw [h2, List.any_map]; exact q⟩
    · cases e
theorem in_dct {neg : Bool} {x : D} {ks : List Key} {ds : List D} {u w : V} {H : Hp} {bb : Bool} (rx : R X.K H x u) (ry : RV X.K H (.dct ks ds) w) (e : inD x (.dct ks ds) = .ok bb) : ∃ a o, w = .ref a ∧ DGet H a u o ∧ o.isSome = bb := by
  obtain ⟨a, vs, rfl, f, z, l⟩ := ry
  simp only [inD] at e
  cases e2 : keyOf x with
  | none => rw [e2] at e; cases e
  | some k =>
    rw [e2] at e
    cases e
    exact ⟨a, _, rfl, DGet.of rx e2 f, valV_zip (by rw [l.length, z])⟩
theorem in_go {neg : Bool} {ta tb : TE} {t2 : TE} (h2 : ∀ σ H Q, (ta σ H fun y H1 => tb σ H1 fun x H2 => ∃ a o, x = .ref a ∧ DGet H2 a y o ∧ Q (.bl (if neg then !o.isSome else o.isSome)) H2) → t2 σ H Q)
    (sa : ∀ ρ σ H Q, SR X.K H0 Z ω ρ σ H → Post (fun d => ∀ v H', Got X.K H .fz d v H' → Q v H') (EK X H0 Z W) (f ρ) → ta σ H Q)
    (sb : ∀ ρ σ H Q, SR X.K H0 Z ω ρ σ H → Post (fun d => ∀ v H', GotV X.K H d v H' → Q v H') (EK X H0 Z W) (g ρ) → tb σ H Q) :
    ∀ ρ σ H Q, SR X.K H0 Z ω ρ σ H → Post (fun d => ∀ v H', Got X.K H .fz d v H' → Q v H') (EK X H0 Z W) (op2 (inV' neg) f g ρ) → tOp (inR X.K neg) ta tb σ H Q ∨ t2 σ H Q := by
  intro ρ σ H Q sr ps
  have main : ∀ (C : V → V → Hp → Prop), (∀ x y bb, f ρ = .ok x → g ρ = .ok y → inD x y = .ok bb → ∀ u w H1 H2, Got X.K H .fz x u H1 → GotV X.K H1 y w H2 → (∀ v H', Got X.K H .fz (.bl (if neg then !bb else bb)) v H' → Q v H') → C u w H2) → ta σ H fun u H1 => tb σ H1 fun w H2 => C u w H2 := fun C k => by
    refine sa ρ σ H _ sr ?_
    have ps := Post.bind.mp ps
    cases e1 : f ρ with
    | bad => rw [e1] at ps; exact ps.elim
    | ex c => rw [e1] at ps; exact ps
    | ok x =>
      rw [e1] at ps
      intro u H1 g1
      refine sb ρ σ H1 _ (sr.mono g1.ext) ?_
      have ps := Post.bind.mp (show Post _ _ ((g ρ).bind _) from ps)
      cases e2 : g ρ with
      | bad => rw [e2] at ps; exact ps.elim
      | ex c => rw [e2] at ps; exact ps
      | ok y =>
        rw [e2] at ps
        intro w H2 g2
        obtain ⟨bb, e3, q⟩ := in_post (show Post _ _ (inV' neg x y) from ps)
        exact k x y bb e1 e2 e3 u w H1 H2 g1 g2 q
  refine Classical.byCases (fun h : ∃ ks ds, g ρ = .ok (.dct ks ds) => .inr (h2 _ _ _ (main _ fun x y bb e1 e2 e3 u w H1 H2 g1 g2 q => ?_))) fun h => .inl (main _ fun x y bb e1 e2 e3 u w H1 H2 g1 g2 q => ?_)
  · obtain ⟨ks, ds, e⟩ := h
    rw [e] at e2
    cases e2
    obtain ⟨a, o, ew, dg, es⟩ := in_dct (neg := neg) (g1.r.ext g2.1) g2.2 e3
    refine ⟨a, o, ew, dg, ?_⟩
    rw [es]
    exact q _ H2 (Got.fz (g1.ext.trans g2.1) rfl)
  · exact in_seq (g1.r.ext g2.1) g2.2 e3 (fun ks ds z => h ⟨ks, ds, by rw [e2, z]⟩) (q _ H2 (Got.fz (g1.ext.trans g2.1) rfl))
theorem inV_ne {neg : Bool} (x y : D) (c : Str) : inV' neg x y ≠ .ex c := by
  unfold inV'
  cases e1 : inD x y with
  | ok b => intro h; cases h
  | ex c => exact absurd e1 (inD_noex _ _ _)
  | bad => intro h; cases h
theorem px_in (hu : X.A.units + 1 < cLine) (ha : PX X H0 Z W ω a f .fz) (hb : PVX X H0 Z W ω b g) (hm : behindInMarks .In b = false := by rfl) : PX X H0 Z W ω (.Compare a [.In] [b] pos) (op2 (inV' false) f g) .fz := by
  obtain ⟨ta, pa, sa⟩ := ha
  obtain ⟨tb, pb, sb⟩ := hb
  exact ⟨_, pe_or2 (pe_cmpR op_inR pa pb hm) (pe_cmp (pc_din hu pa pb) hm), in_go (neg := false) (fun σ H Q h => h) sa sb⟩
theorem px_nin (hu : X.A.units + 1 < cLine) (ha : PX X H0 Z W ω a f .fz) (hb : PVX X H0 Z W ω b g) (hm : behindInMarks .NotIn b = false := by rfl) : PX X H0 Z W ω (.Compare a [.NotIn] [b] pos) (op2 (inV' true) f g) .fz := by
  obtain ⟨ta, pa, sa⟩ := ha
  obtain ⟨tb, pb, sb⟩ := hb
  exact ⟨_, pe_or2 (pe_cmpR op_ninR pa pb hm) (pe_cmp (pc_dnotin hu pa pb) hm), in_go (neg := true) (fun σ H Q h => h) sa sb⟩
theorem tst_or {t u : TE} (s : ∀ ρ σ H Q, SR X.K H0 Z ω ρ σ H → Post (fun d => ∀ v H', Got X.K H .fz d v H' → Q v H') (EK X H0 Z W) (f ρ) → t σ H Q ∨ u σ H Q) :
    ∀ ρ σ H Q, SR X.K H0 Z ω ρ σ H → Post (fun b => ∀ H', Ext H H' → Q b H') (EK X H0 Z W) (tst f ρ) → tTest t σ H Q ∨ tTest u σ H Q := fun ρ σ H Q sr ps =>
  s ρ σ H _ sr ((Post.bind.mp ps).mono (fun d q v H' g => by
    cases e : isB d with
    | ok b => rw [e] at q; exact ⟨b, g.r.bl e, q H' g.ext⟩
    | ex c => cases d <;> cases e
    | bad => rw [e] at q; exact q.elim) fun _ h => h)
theorem ptx_in (hu : X.A.units + 1 < cLine) (ha : PX X H0 Z W ω a f .fz) (hb : PVX X H0 Z W ω b g) (hm : behindInMarks .In b = false := by rfl) : PTX X H0 Z W ω (.Compare a [.In] [b] pos) (tst (op2 (inV' false) f g)) := by
  obtain ⟨ta, pa, sa⟩ := ha
  obtain ⟨tb, pb, sb⟩ := hb
  exact ⟨_, pt_or2 (pt_cmpR op_inR pa pb hm) (pt_cmp (pc_din hu pa pb) hm), tst_or (in_go (neg := false) (fun σ H Q h => h) sa sb)⟩
theorem ptx_nin (hu : X.A.units + 1 < cLine) (ha : PX X H0 Z W ω a f .fz) (hb : PVX X H0 Z W ω b g) (hm : behindInMarks .NotIn b = false := by rfl) : PTX X H0 Z W ω (.Compare a [.NotIn] [b] pos) (tst (op2 (inV' true) f g)) := by
  obtain ⟨ta, pa, sa⟩ := ha
  obtain ⟨tb, pb, sb⟩ := hb
  exact ⟨_, pt_or2 (pt_cmpR op_ninR pa pb hm) (pt_cmp (pc_dnotin hu pa pb) hm), tst_or (in_go (neg := true) (fun σ H Q h => h) sa sb)⟩

/-! ## isinstance -/
inductive Ty where | int | bool | str | tuple | list | dict
def Ty.nm : Ty → String
  | .int => "int" | .bool => "bool" | .str => "str" | .tuple => "tuple" | .list => "list" | .dict => "dict"
def isi : Ty → D → Res Bool
  | .int, .int _ => .ok true
  | .int, .bl _ => .ok true
  | .bool, .bl _ => .ok true
  | .str, .str _ => .ok true
  | .tuple, .tup _ => .ok true
  | .tuple, .ctup _ => .bad
  | .list, .lst _ => .ok true
  | .list, .scr _ => .bad
  | .dict, .dct _ _ => .ok true
  | .dict, .ndc => .ok true
  | _, .dcT _ _ => .bad
  | _, .ctup _ => .bad
  | _, .adr _ => .bad
  | _, .scr _ => .bad
  | _, _ => .ok false
def isiF (T : Ty) (f : Env → Res D) (ρ : Env) : Res D := (f ρ).bind fun d => (isi T d).bind fun b => .ok (.bl b)
/-- .. of such a dict, or one of HandS's -/
def TyN (K : Fr) (H : Hp) (v : V) (t : Value) : Prop := TyX K H v t ∨ (t = .type "dict" ∧ ∃ a o, v = .ref a ∧ NdP H a o)
def rIsiN (K : Fr) : List V → Hp → VK → Prop := fun xs H Q => ∃ x c t u b, xs = [x, c] ∧ ClsV c u ∧ TyN K H x t ∧ PySem.W.kitOne K t u = some b ∧ Q (.bl b) H
theorem call_isiN {X : Cx} : CallR X (.builtin "isinstance") (rIsiN X.K) := by
  intro pins s σ H xs us Q I r h
  obtain ⟨x, c, t, u, b, rfl, k, ty, e, q⟩ := h
  rcases ty with ty | ⟨rfl, a, o, rfl, n⟩
  · exact call_isi pins s σ H _ us Q I r ⟨x, c, t, u, b, rfl, k, ty, e, q⟩
  · obtain ⟨u1, u2, rfl, r1, r2⟩ := vals2 r
    have e2 := k.eq r2
    subst e2
    cases (show u1 = Value.ref a from r1)
    exact PySem.W.kia_one PySem.W.kitx_dict I.kIn ⟨o, (I.hok a _ n.1).1, n.2.2.1.1⟩ e (fun z => nomatch z) fun tk => ⟨.bl b, H, I.tok tk, rfl, q⟩
theorem isi_ty {K : Fr} {H : Hp} {T : Ty} {d : D} {v : V} {b : Bool} (r : RV K H d v) (e : isi T d = .ok b) : ∃ t, TyN K H v (.type t) ∧ PySem.W.kitOne K (.type t) (.type T.nm) = some b := by
  cases d with
  | non => rw [show v = .non from r]; exact ⟨"NoneType", .inl (.base .non), by cases T <;> cases e <;> exact kit_ty (by decide +kernel)⟩
  | bl x => rw [show v = .bl x from r]; exact ⟨"bool", .inl (.base (.bl _)), by cases T <;> cases e <;> exact kit_ty (by decide +kernel)⟩
  | int x => rw [show v = .int x from r]; exact ⟨"int", .inl (.base (.int _)), by cases T <;> cases e <;> exact kit_ty (by decide +kernel)⟩
  | str x => rw [show v = .str x from r]; exact ⟨"str", .inl (.base (.str _)), by cases T <;> cases e <;> exact kit_ty (by decide +kernel)⟩
  | tup x =>
    obtain ⟨a, vs, rfl, f, z, l⟩ := r
    exact ⟨"tuple", .inl (.base (.tup f)), by cases T <;> cases e <;> exact kit_ty (by decide +kernel)⟩
  | lst x =>
    obtain ⟨a, vs, rfl, f, z, l⟩ := r
    refine ⟨"list", ?_, by cases T <;> cases e <;> exact kit_ty (by decide +kernel)⟩
    rcases f with f | ⟨o, f⟩
    · exact .inl (.base (.lst f))
    · exact .inl (.base (.frz f))
  | dct x y =>
    obtain ⟨a, vs, rfl, f, z, l⟩ := r
    refine ⟨"dict", ?_, by cases T <;> cases e <;> exact kit_ty (by decide +kernel)⟩
    rcases f with f | ⟨o, f⟩
    · exact .inl (.base (.dK f))
    · exact .inl (.fDict f)
  | dcT x y => cases T <;> cases e
  | scr x => cases T <;> cases e
  | ctup x => cases T <;> cases e
  | adr x => cases T <;> cases e
  | ndc =>
    obtain ⟨a, o, rfl, n⟩ := r
    exact ⟨"dict", .inr ⟨rfl, a, o, rfl, n⟩, by cases T <;> cases e <;> exact kit_ty (by decide +kernel)⟩
theorem px_isi (T : Ty) {x : Str} {p p2 : Pos} {e : Expr} (he : PVX X H0 Z W ω e f) (hx : x = Str.ofString T.nm) (hg : Gl X "isinstance") (hm : X.mg "isinstance" = none) (hg2 : Gl X x) (hm2 : X.mg x = none) (hv2 : bootBuiltins x = some (.type T.nm)) (hn : x ≠ "__name__" := by decide) (hdb : (x == ("__debug__" : Str)) = false := by decide)
    (hs : starEach [e, .Name x p2] X.env = (false, eval e X.env) :: starEach [.Name x p2] X.env := by rfl) (hs2 : starEach [.Name x p2] X.env = (false, eval (.Name x p2) X.env) :: starEach [] X.env := by rfl) (hpl : (backTo pos (starEach [.Name x p2] X.env)).any (·.1) = false := by rfl) :
    PX X H0 Z W ω (.Call (.Name "isinstance" p) [e, .Name x p2] [] pos) (isiF T f) .fz := by
  obtain ⟨t, pe, s⟩ := he
  have p2' : PE X (.Name x p2) (tC (.ty T.nm)) := pe_bltn hg2 hm2 hv2 rfl hn hdb
  refine ⟨_, pe_callB call_isiN hg hm PyProof.Rows.boot_isinstance (pa_cons pe (pa_cons p2' pa_nil hs2) hs) (by decide) (by decide) hs hpl, fun ρ σ H Q sr ps => ?_⟩
  refine s ρ σ H _ sr ((Post.bind.mp ps).mono (fun d q v H1 g => ?_) fun _ h => h)
  cases e1 : isi T d with
  | ok b =>
    rw [e1] at q
    obtain ⟨t, h1, h2⟩ := isi_ty g.2 e1
    exact ⟨v, .ty T.nm, .type t, .type T.nm, b, rfl, .ty _, h1, h2, q _ H1 (Got.fz g.1 rfl)⟩
  | ex c => cases T <;> cases d <;> cases e1
  | bad => rw [e1] at q; exact q.elim
end
end Mr

namespace Mr
variable [TabsOf]
open PySem PySem.Spec PyProof.Rows L2
open Res

section
variable {X : Cx} {H0 : Hp} {Z : Zt} {W : WX} {ω ωr : List Sh} {τr : Sh} {pos : Pos}
/-! ## what is never reached -/
def badV (_ : Env) : Res D := .bad
def badF (_ : Env) : Res Fl := .bad
theorem sx_bad {st : Stmt} {ω' : List Sh} : SX X H0 Z W ω ω' ωr τr st badF := ⟨fun _ _ _ => False, ⟨fun _ _ _ _ _ _ h => h.elim⟩, fun _ _ _ _ _ ps => ps⟩
theorem bx_bad {st : List Stmt} {ω' : List Sh} : BX X H0 Z W ω ω' ωr τr st badF := ⟨fun _ _ _ => False, ⟨fun _ _ _ _ _ _ h => h.elim⟩, fun _ _ _ _ _ ps => ps⟩
theorem px_bad {e : Expr} {τ : Sh} : PX X H0 Z W ω e badV τ := ⟨fun _ _ _ => False, ⟨fun _ _ _ _ _ _ h => h.elim⟩, fun _ _ _ _ _ ps => ps⟩

/-! ## times -/
theorem op_mulI : OpR X (binaryOp .Mult) (rI (fun i j => mulOk i j = true) fun i j => .int (i * j)) := opI fun _ _ _ _ _ _ _ hc q => mul_int q (by
  unfold IntMulOk
  unfold mulOk at hc
  rw [Bool.not_eq_true'] at hc
  rw [hc]
  exact Bool.false_ne_true)
theorem muli_s {K : Fr} : OpS K (rI (fun i j => mulOk i j = true) fun i j => .int (i * j)) (fun d e => match d, e with | .int i, .int j => if mulOk i j = true then .ok (.int (i * j)) else .bad | _, _ => .bad) .fz := ints_s (g := fun i j => if mulOk i j = true then .ok (.int (i * j)) else .bad) (fun _ _ => rfl) (of_ints fun d e n => by cases d <;> cases e <;> first | rfl | exact absurd ⟨rfl, rfl⟩ (n _ _)) fun i j H Q p => by
  obtain ⟨c, p⟩ := Post.ite p
  exact ⟨i, j, rfl, rfl, c, p _ H (Got.fz (Ext.refl H) rfl)⟩
/-- ints -/
def mulI : D → D → Res D
  | .int i, .int j => if mulOk i j = true then .ok (.int (i * j)) else .bad
  | _, _ => .bad
theorem mulI_ne (x y : D) (c : Str) : mulI x y ≠ .ex c := by unfold mulI; split <;> (repeat' split) <;> (intro h; cases h)
theorem mulI_s {K : Fr} : OpS K (rI (fun i j => mulOk i j = true) fun i j => .int (i * j)) mulI .fz := ints_s (g := fun i j => if mulOk i j = true then .ok (.int (i * j)) else .bad) (fun _ _ => rfl) (of_ints fun d e n => by cases d <;> cases e <;> first | rfl | exact absurd ⟨rfl, rfl⟩ (n _ _)) fun i j H Q p => by
  obtain ⟨c, p⟩ := Post.ite p
  exact ⟨i, j, rfl, rfl, c, p _ H (Got.fz (Ext.refl H) rfl)⟩
theorem px_mul {a b : Expr} {f g : Env → Res D} (ha : PVX X H0 Z W ω a f) (hb : PVX X H0 Z W ω b g) : PX X H0 Z W ω (.BinOp a .Mult b pos) (op2 mulI f g) .fz := px_op op_mulI mulI_s mulI_ne ha hb
def mulT : D → D → Res D
  | .tup xs, .int k => if xs ≠ [] ∧ 2 ≤ k ∧ k ≤ 1000 ∧ xs.length ≤ 1000 then .ok (.tup (List.replicate k.toNat xs).flatten) else .bad
  | _, _ => .bad
theorem mulT_ne (x y : D) (c : Str) : mulT x y ≠ .ex c := by unfold mulT; split <;> (repeat' split) <;> (intro h; cases h)
theorem Rl.rep {K : Fr} {H : Hp} {ds : List D} {vs : List V} (l : Rl K H ds vs) : ∀ n : Nat, Rl K H (List.replicate n ds).flatten (List.replicate n vs).flatten
  | 0 => rfl
  | n + 1 => by
    rw [List.replicate_succ, List.replicate_succ, List.flatten_cons, List.flatten_cons]
    exact l.append (Rl.rep l n)
theorem mulT_s {K : Fr} : OpS K (rRepT K) mulT .fz := by
  intro d e v u H Q hd he ps
  cases d <;> cases e <;> first | exact (show False from ps).elim | skip
  rename_i xs k
  obtain ⟨a, vs, rfl, f, z, l⟩ := hd
  have ps : Post _ _ (if xs ≠ [] ∧ 2 ≤ k ∧ k ≤ 1000 ∧ xs.length ≤ 1000 then Res.ok (D.tup (List.replicate k.toNat xs).flatten) else .bad) := ps
  obtain ⟨⟨c1, c2, c3, c4⟩, p⟩ := Post.ite ps
  refine ⟨a, k, vs, rfl, he, .of f, fun z => ?_, c2, c3, by rw [l.length]; exact c4, fun q hq => p _ _ (Got.tup (Ext.refl H) hq (l.rep _) ?_)⟩
  · subst z
    have := l.length
    cases xs with
    | nil => exact c1 rfl
    | cons _ _ => simp at this
  · rw [PyProof.Rows.lm_len_rep_flat, l.length]
    have h1 : k.toNat ≤ 1000 := by omega
    exact Nat.le_trans (Nat.mul_le_mul h1 c4) (by decide)
theorem px_mulT {a b : Expr} {f g : Env → Res D} (ha : PVX X H0 Z W ω a f) (hb : PVX X H0 Z W ω b g) : PX X H0 Z W ω (.BinOp a .Mult b pos) (op2 mulT f g) .fz := px_op op_repT mulT_s mulT_ne ha hb

/-! ## dicts: == and != -/
def hitsD (ls : List Key) (es : List D) : List (Key × D) → Bool
  | [] => true
  | (k, d) :: r => match lookK ls es k with
    | none => false
    | some e => eqv d e && hitsD ls es r
def eqDct : D → D → Option Bool
  | .dct ks ds, .dct ls es => if ds.all shp && es.all shp then some (ks.length == ls.length && hitsD ls es (ks.zip ds)) else none
  | _, _ => none
def eqDD (neg : Bool) (x y : D) : Res D := match eqDct x y with
  | some b => .ok (.bl (if neg then !b else b))
  | none => .bad
theorem eqDD_ne (neg : Bool) (x y : D) (c : Str) : eqDD neg x y ≠ .ex c := by unfold eqDD; split <;> (intro h; cases h)
def rDctEq (K : Fr) (neg : Bool) : R2 := fun x y H Q => ∃ d e b, RV K H d x ∧ RV K H e y ∧ eqDct d e = some b ∧ Q (.bl (if neg then !b else b)) H
theorem shp_dp {d : D} (h : shp d = true) : d.noD = true ∧ SeqAt.shaped d.toP = true := by simpa [shp] using h
theorem hits_D {pins : List (Addr × Obj)} {σ : Sg} {H : Hp} {s : Shared} (I : Inv X pins σ H s) (hu : X.A.in1.units + 64 < cLine) {ls : List Key} {es : List D} {us : List V} {lb : List (Key × Value)} (rl : Rl X.K H es us) (hl : ls.length = es.length) (kb : KV (ls.zip us) lb) (se : es.all shp = true) :
    ∀ {ks : List Key} {ds : List D} {vs : List V} {ka : List (Key × Value)}, ks.length = ds.length → Rl X.K H ds vs → KV (ks.zip vs) ka → ds.all shp = true → PySem.W.KeqHits X.A.in1 s lb ka (hitsD ls es (ks.zip ds))
  | [], _, _, _, _, _, ka, _ => by
    rw [List.zip_nil_left] at ka
    cases ka
    exact .nil
  | k :: ks, [], _, _, h, _, _, _ => by simp at h
  | k :: ks, d :: ds, _, _, h, ⟨v, vr, e1, hv, t⟩, ka, sd => by
    subst e1
    rw [List.zip_cons_cons] at ka ⊢
    unfold KV at ka
    cases ka with
    | @cons p q ps qs c r =>
      obtain ⟨k', w⟩ := q
      obtain ⟨ek, rw'⟩ := c
      have ek : k = k' := ek
      subst ek
      have rw' : RelV v w := rw'
      simp only [List.all_cons, Bool.and_eq_true] at sd
      have hk := lookK_v (k := k) rl hl
      have ro := kb.val k
      unfold hitsD
      cases e2 : lookK ls es k with
      | none =>
        rw [e2] at hk
        have hk : valV (ls.zip us) k = none := hk
        rw [hk] at ro
        refine .miss ?_
        cases e3 : valueAt lb k with
        | none => rfl
        | some y => rw [e3] at ro; exact (show False from ro).elim
      | some e =>
        rw [e2] at hk
        obtain ⟨y, ey, ry⟩ := hk
        rw [ey] at ro
        obtain ⟨z, ez, rz⟩ := ro.some_of
        have me : shp e = true := by
          refine List.all_eq_true.mp se e ?_
          clear ey ro kb rl hl se t h
          revert e2
          induction ls generalizing es with
          | nil => intro h; cases es <;> simp [lookK] at h
          | cons a as ih =>
            cases es with
            | nil => intro h; simp [lookK] at h
            | cons b bs =>
              intro h
              by_cases q : a = k
              · simp [lookK, q] at h; simp [h]
              · simp [lookK, q] at h; exact List.mem_cons_of_mem _ (ih h)
        obtain ⟨n1, s1⟩ := shp_dp sd.1
        obtain ⟨n2, s2⟩ := shp_dp me
        obtain ⟨as, r1⟩ := Dp.reads I _ _ _ (hv.dp _ n1) rw'
        obtain ⟨bs, r2⟩ := Dp.reads I _ _ _ (ry.dp _ n2) rz
        exact .hit ez (PySem.W.keq_at (A := X.A) r1 r2 s1 s2 hu) (hits_D I hu rl hl kb se (by simpa using h) t r sd.2)
theorem rd_ok {pins : List (Addr × Obj)} {σ : Sg} {H : Hp} {s : Shared} {a : Addr} {kvs : List (Key × V)} (I : Inv X pins σ H s) (h : Rd H a (.dK kvs)) : (a == sysModules) = false ∧ ∃ va, KV kvs va ∧ s.heap.DictOf (mixKind X.prog X.w) a va := by
  rcases h with h | ⟨o, h⟩
  · obtain ⟨_, ya, va, ra, da⟩ := (show ObjOk X.prog X.w H s.heap a (.dK kvs) from I.hok a _ h)
    exact ⟨ya, va, ra, da⟩
  · obtain ⟨_, _, ya, va, ra, da⟩ := I.hok a _ h
    exact ⟨ya, va, ra, da⟩
theorem dct_eq (hu : X.A.units + 70 < cLine) {pins : List (Addr × Obj)} {s : Shared} {σ : Sg} {H : Hp} {d e : D} {x y : V} {v u : Value} {b : Bool} (I : Inv X pins σ H s) (rd : RV X.K H d x) (re : RV X.K H e y) (eb : eqDct d e = some b) (rx : RelV x v) (ry : RelV y u) :
    ∃ a1 a2 ka kb r, v = .ref a1 ∧ u = .ref a2 ∧ (a1 == sysModules) = false ∧ (a2 == sysModules) = false ∧ s.heap.DictOf (mixKind X.prog X.w) a1 ka ∧ s.heap.DictOf (mixKind X.prog X.w) a2 kb ∧ PySem.W.KeqHits X.A.in1 s kb ka r ∧ (ka.length == kb.length && r) = b := by
  cases d <;> cases e <;> first | (cases eb; done) | skip
  rename_i ks ds ls es
  simp only [eqDct] at eb
  split at eb
  · rename_i c
    simp only [Bool.and_eq_true] at c
    cases eb
    obtain ⟨a, vs, rfl, f, z, l⟩ := rd
    obtain ⟨a', vs', rfl, f', z', l'⟩ := re
    cases (show v = Value.ref a from rx)
    cases (show u = Value.ref a' from ry)
    obtain ⟨ya, va, ra, da⟩ := rd_ok I f
    obtain ⟨yb, vb, rb, db⟩ := rd_ok I f'
    refine ⟨a, a', va, vb, _, rfl, rfl, ya, yb, da, db, hits_D I (by show X.A.units + 1 + 64 < cLine; omega) l' z' rb c.2 z l ra c.1, ?_⟩
    have e1 : va.length = ks.length := by rw [← ra.length, List.length_zip, l.length, z, Nat.min_self]
    have e2 : vb.length = ls.length := by rw [← rb.length, List.length_zip, l'.length, z', Nat.min_self]
    rw [e1, e2]
  · cases eb
theorem op_eqDct (hu : X.A.units + 70 < cLine) : OpR X (compareOp .Eq) (rDctEq X.K false) := by
  intro pins s σ H x y v u Q I rx ry h
  obtain ⟨d, e, b, rd, re, eb, q⟩ := h
  obtain ⟨a1, a2, ka, kb, r, rfl, rfl, y1, y2, d1, d2, hits, hb⟩ := dct_eq hu I rd re eb rx ry
  refine PySem.W.keq_eq y1 y2 d1 d2 (by omega) (fun _ => hits) ⟨.bl b, H, I, ?_, q⟩
  rw [hb]
  rfl
theorem op_neDct (hu : X.A.units + 70 < cLine) : OpR X (compareOp .NotEq) (rDctEq X.K true) := by
  intro pins s σ H x y v u Q I rx ry h
  obtain ⟨d, e, b, rd, re, eb, q⟩ := h
  obtain ⟨a1, a2, ka, kb, r, rfl, rfl, y1, y2, d1, d2, hits, hb⟩ := dct_eq hu I rd re eb rx ry
  refine PySem.W.keq_ne y1 y2 d1 d2 (by omega) (fun _ => hits) ⟨.bl (!b), H, I, ?_, q⟩
  rw [hb]
  rfl
theorem eqDct_s {K : Fr} (neg : Bool) : OpS K (rDctEq K neg) (eqDD neg) .fz := by
  intro d e v u H Q hd he ps
  unfold eqDD at ps
  split at ps
  · rename_i b eb
    exact ⟨d, e, b, hd, he, eb, ps _ H (Got.fz (Ext.refl H) rfl)⟩
  · exact ps.elim

/-! ## own lists and dicts written to -/
def appF (i : Nat) (f : Env → Res D) (ρ : Env) : Res Fl := (f ρ).bind fun d => match gv ρ i with
  | .lst ds => if ds.length < sizeLine then .ok (.nx (ρ.set i (.lst (ds ++ [d])))) else .bad
  | _ => .bad
theorem gv_is {ρ : Env} {i : Nat} {d : D} (e : ρ[i]? = some d) : gv ρ i = d := by unfold gv; rw [List.getD_eq_getElem?_getD, e]; rfl
theorem sx_app (i : Nat) {τ : Sh} {x : Str} {p apos cpos : Pos} {e : Expr} {f : Env → Res D} (he : PX X H0 Z W ω e f τ) (hN : X.N[i]? = some x := by rfl) (hω : ω[i]? = some (.own τ) := by rfl) (hv : Vis X.env.scope x := by first | exact Or.inl rfl | exact Or.inr (Or.inl rfl) | exact Or.inr (Or.inr rfl)) (hd : (x == ("__debug__" : Str)) = false := by decide)
    (hcd : (x == ("__classdict__" : Str)) = false := by decide)
    (hbase : attributeBase (.Name x p) "append" X.env (eval (.Name x p) X.env) = eval (.Name x p) X.env := by rfl)
    (hfew : ((backTo cpos (starEach [e] X.env)).all (fun x => !x.1) && (backToKw cpos (keywordEach [] X.env)).all (fun x => x.1.isSome)
      && decide ([e].length + ([] : List Keyword).length + (if ([] : List Keyword).isEmpty then 0 else 1) < 30)) = true := by rfl)
    (hline : (apos.endLine == cpos.line) = true := by rfl) (hs : starEach [e] X.env = (false, eval e X.env) :: starEach [] X.env := by rfl) (hplain : (backTo cpos (starEach [] X.env)).any (·.1) = false := by rfl)
    (hsw : swapsWith (.Call (.Attribute (.Name x p) "append" apos) [e] [] cpos) none pos.line X.env = pure false := by rfl) :
    SX X H0 Z W ω ω ωr τr (.Expr (.Call (.Attribute (.Name x p) "append" apos) [e] [] cpos) pos) (appF i f) := by
  obtain ⟨t, pe, s⟩ := he
  refine ⟨_, ps_expr (pe_bm PySem.F.plainAttrs_list PySem.F.slot_list_append PySem.F.type_list_append (fun pins s σ H x vs v us Q I rx rv h => mt_append pins s σ H x vs v us Q I rx rv h) (pe_var hN hv hd hcd) (pa_cons pe pa_nil hs) hbase hfew hline hs hplain) hsw, fun ρ σ H Dn sr ps => ?_⟩
  obtain ⟨d0, s0, f0, e1, e2, sl, nd, fr, go⟩ := sr.focus i hω
  rcases sl with ⟨z, _⟩ | ⟨v0, e3, ro⟩
  · cases z
  subst e3
  obtain ⟨ds, a, vs, fps, ed, ev, eH, hz, efp, al⟩ := ro
  subst ed ev efp
  have eg : gv ρ i = .lst ds := gv_is e1
  refine ⟨.ref a, e2, .inl ⟨rfl, vs, .inl (.inl eH)⟩, ?_⟩
  refine s ρ σ H _ sr ((Post.bind.mp ps).mono (fun d q v H1 g => ?_) fun _ h => h)
  rw [eg] at q
  obtain ⟨c, q⟩ := Post.ite q
  obtain ⟨x1, fpv, rv, frv, ndv⟩ := g
  have eH1 : H1 a = some (.lst vs) := x1 _ _ eH fun ps h => by cases h
  refine ⟨a, vs, v, rfl, rfl, eH1, by rw [al.length]; exact c, ?_⟩
  have k2 : KeepF H1 (upd H1 a (.lst (vs ++ [v]))) := fun b o e f => by
    rw [upd_ne (fun z => by subst z; rw [eH1] at e; cases e; exact f)]
    exact e
  have nd' := List.nodup_cons.mp nd
  have disj : ∀ b ∈ a :: fps, b ∉ fpv := fun b hb hv => by
    obtain ⟨o, eo, po⟩ := RO.open (.own τ) (show RO X.K H (.own τ) (.lst ds) (.ref a) (a :: fps) from ⟨ds, a, vs, fps, rfl, rfl, eH, hz, rfl, al⟩) b hb
    obtain ⟨ps, z⟩ := frv b hv o eo
    exact po.ntbl ps z
  have al1 : All3 (RO X.K H1 τ) ds vs fps := al.mono fun d v f hf r => r.ext x1
  have al2 : All3 (RO X.K (upd H1 a (.lst (vs ++ [v]))) τ) ds vs fps := al1.mono fun d v f hf r => RO.keep k2 τ r fun b hb => upd_ne fun z => nd'.1 (z ▸ hf b hb)
  have rv2 : RO X.K (upd H1 a (.lst (vs ++ [v]))) τ d v fpv := RO.keep k2 τ rv fun b hb => upd_ne fun z => disj a (by simp) (z ▸ hb)
  have sr' := go (upd H1 a (.lst (vs ++ [v]))) (.own τ) (.lst (ds ++ [d])) (some (.ref a)) (a :: (fps ++ fpv)) (x1.keepF.trans k2) (fun b o e nb t => by
      rw [upd_ne fun z => nb (by simp [z])]
      exact x1 b o e t) (x1.tab.trans (TabK.upd eH1 trivial)) (.inr ⟨_, rfl, ds ++ [d], a, vs ++ [v], fps ++ fpv, rfl, rfl, upd_same, by rw [List.length_append, al.length]; exact c, rfl, al2.append ⟨v, [], fpv, [], rfl, by simp, rv2, rfl, rfl⟩⟩)
    (by
      rw [List.nodup_cons]
      refine ⟨fun h => ?_, List.nodup_append.mpr ⟨nd'.2, ndv, fun b hb b' hb' e => disj b (by simp [hb]) (e ▸ hb')⟩⟩
      rcases List.mem_append.mp h with h | h
      · exact nd'.1 h
      · exact disj a (by simp) h) fun b hb => by
    rcases List.mem_cons.mp hb with h | h
    · exact .inl (by simp [h])
    · rcases List.mem_append.mp h with h | h
      · exact .inl (by simp [h])
      · exact .inr (frv b h)
  rw [set_same hω, set_same e2] at sr'
  exact q σ _ (x1.keepF.trans k2) sr'
def dputF (i : Nat) (fk fv : Env → Res D) (ρ : Env) : Res Fl := (fv ρ).bind fun d => (fk ρ).bind fun y => match gv ρ i with
  | .dct ks ds => match keyOf y with
    | some k => if ks.length < sizeLine then .ok (.nx (ρ.set i (unz (putK' (ks.zip ds) k d)))) else .bad
    | none => .bad
  | _ => .bad
theorem sx_dput (i : Nat) {x : Str} {p pos' : Pos} {ek ev : Expr} {fk fv : Env → Res D} (hu : X.A.units + 1 < cLine) (hk : PX X H0 Z W ω ek fk .fz) (he : PX X H0 Z W ω ev fv .fz) (hN : X.N[i]? = some x := by rfl) (hω : ω[i]? = some (.ownD .fz) := by rfl) (hv : Vis X.env.scope x := by first | exact Or.inl rfl | exact Or.inr (Or.inl rfl) | exact Or.inr (Or.inr rfl)) (hd : (x == ("__debug__" : Str)) = false := by decide)
    (hcd : (x == ("__classdict__" : Str)) = false := by decide) (hs : swapsWith ev (some (.Subscript (.Name x p) ek pos')) pos.line X.env = pure false := by rfl) :
    SX X H0 Z W ω ω ωr τr (.Assign [.Subscript (.Name x p) ek pos'] ev pos) (dputF i fk fv) := by
  obtain ⟨tk, pk, sk⟩ := hk
  obtain ⟨tv, pv, sv⟩ := he
  refine ⟨_, ps_dput hu (pe_var hN hv hd hcd) pk pv hs, fun ρ σ H Dn sr ps => ?_⟩
  obtain ⟨d0, s0, f0, e1, e2, sl, nd, fr, go⟩ := sr.focus i hω
  rcases sl with ⟨z, _⟩ | ⟨v0, e3, ro⟩
  · cases z
  subst e3
  obtain ⟨ks, ds, a, vs, fps, ed, ev, eH, hz, efp, al⟩ := ro
  obtain ⟨e4, l⟩ := al.rl
  subst ed ev e4 efp
  have eg : gv ρ i = .dct ks ds := gv_is e1
  refine sv ρ σ H _ sr ((Post.bind.mp ps).mono (fun d q v H1 g => ?_) fun _ h => h)
  refine ⟨.ref a, e2, ?_⟩
  refine sk ρ σ H1 _ (sr.mono g.ext) ((Post.bind.mp q).mono (fun y q u H2 g2 => ?_) fun _ h => h)
  rw [eg] at q
  dsimp only at q
  cases ek : keyOf y with
  | none => rw [ek] at q; exact q.elim
  | some k =>
    rw [ek] at q
    obtain ⟨c, q⟩ := Post.ite q
    have x2 := g.ext.trans g2.ext
    have eH2 : H2 a = some (.dK (ks.zip vs)) := x2 _ _ eH fun ps h => by cases h
    refine ⟨a, upd H2 a (.dK (putK (ks.zip vs) k v)), rfl, .inl ⟨_, k, eH2, keyOf_v g2.r ek, by rw [List.length_zip, l.length, hz, Nat.min_self]; rw [hz] at c; exact c, rfl⟩, ?_⟩
    have k2 : KeepF H2 (upd H2 a (.dK (putK (ks.zip vs) k v))) := fun b o e f => by
      rw [upd_ne (fun z => by subst z; rw [eH2] at e; cases e; exact f)]
      exact e
    have kr := (kvr_zip hz (Rl.keep k2 _ (l.ext x2))).put (k := k) (R.keep k2 _ (g.r.ext g2.ext))
    obtain ⟨ew, rl⟩ := kr.zip
    have sr' := go (upd H2 a (.dK (putK (ks.zip vs) k v))) (.ownD .fz) (unz (putK' (ks.zip ds) k d)) (some (.ref a)) [a] (x2.keepF.trans k2) (fun b o e nb t => by
        rw [upd_ne fun z => nb (by simp [z])]
        exact x2 b o e t) (x2.tab.trans (TabK.upd eH2 trivial)) (.inr ⟨_, rfl, _, _, a, _, [], rfl, rfl, by rw [upd_same, ← ew], by simp, rfl, All3.of_rl rl⟩) (by simp) fun b hb => .inl (by simpa using hb)
    rw [set_same hω, set_same e2] at sr'
    exact q σ _ (x2.keepF.trans k2) sr'

/-! ## a, b = x, y -/
def parF (i j : Nat) (f g : Env → Res D) (ρ : Env) : Res Fl := (f ρ).bind fun a => (g ρ).bind fun b => .ok (.nx ((ρ.set i a).set j b))
def par3F (i j l : Nat) (f g h : Env → Res D) (ρ : Env) : Res Fl := (f ρ).bind fun a => (g ρ).bind fun b => (h ρ).bind fun c => .ok (.nx (((ρ.set i a).set j b).set l c))
theorem sx_par (i j : Nat) {τ1 τ2 : Sh} {x y : Str} {a b : Expr} {f g : Env → Res D} {px py pt : Pos} {kt k2 pt2} (hc : X.calm = true) (hN : X.N.Nodup) (ha : PX X H0 Z W ω a f τ1) (hb : PX X H0 Z W ω b g τ2) (hi : X.N[i]? = some x := by rfl) (hj : X.N[j]? = some y := by rfl) (hij : i ≠ j := by decide)
    (hil : i < ω.length := by decide) (hjl : j < ω.length := by decide) (hx : X.env.scope.names.lookup x = some .local := by rfl) (hy : X.env.scope.names.lookup y = some .local := by rfl)
    (hs1 : starEach [a, b] X.env = (false, eval a X.env) :: starEach [b] X.env := by rfl) (hs2 : starEach [b] X.env = (false, eval b X.env) :: starEach [] X.env := by rfl)
    (hw : swappedStores [.Tuple [.Name x px, .Name y py] kt pt] (.Tuple [a, b] k2 pt2) X.env = pure (some [x, y]) := by rfl)
    (hs : swapsWithSole [.Tuple [.Name x px, .Name y py] kt pt] (.Tuple [a, b] k2 pt2) pos.line X.env = pure false := by rfl) :
    SX X H0 Z W ω ((ω.set i τ1).set j τ2) ωr τr (.Assign [.Tuple [.Name x px, .Name y py] kt pt] (.Tuple [a, b] k2 pt2) pos) (parF i j f g) := by
  obtain ⟨ta, pa, sa⟩ := ha
  obtain ⟨tb, pb, sb⟩ := hb
  refine ⟨_, ps_par hc hN hi hj hij hx hy (pa_cons pa (pa_cons pb pa_nil hs2) hs1) hw hs, fun ρ σ H Dn sr ps => ?_⟩
  refine sa ρ σ H _ sr ((Post.bind.mp ps).mono (fun d q v H1 g1 => ?_) fun _ h => h)
  refine sb ρ σ H1 _ (sr.mono g1.ext) ((Post.bind.mp q).mono (fun e q w H2 g2 => ?_) fun _ h => h)
  exact ⟨v, w, rfl, q _ H2 (g1.ext.keepF.trans g2.ext.keepF) ((sr.put hil g1).put (by simpa using hjl) g2)⟩
theorem sx_par3 (i j l : Nat) {τ1 τ2 τ3 : Sh} {x y z : Str} {a b c : Expr} {f g h : Env → Res D} {px py pz pt : Pos} {kt k2 pt2} (hc : X.calm = true) (hN : X.N.Nodup) (ha : PX X H0 Z W ω a f τ1) (hb : PX X H0 Z W ω b g τ2) (hcc : PX X H0 Z W ω c h τ3) (hi : X.N[i]? = some x := by rfl) (hj : X.N[j]? = some y := by rfl) (hl : X.N[l]? = some z := by rfl) (hij : i ≠ j := by decide) (hil : i ≠ l := by decide) (hjl : j ≠ l := by decide)
    (li : i < ω.length := by decide) (lj : j < ω.length := by decide) (ll : l < ω.length := by decide) (hx : X.env.scope.names.lookup x = some .local := by rfl) (hy : X.env.scope.names.lookup y = some .local := by rfl) (hz : X.env.scope.names.lookup z = some .local := by rfl)
    (hs1 : starEach [a, b, c] X.env = (false, eval a X.env) :: starEach [b, c] X.env := by rfl) (hs2 : starEach [b, c] X.env = (false, eval b X.env) :: starEach [c] X.env := by rfl) (hs3 : starEach [c] X.env = (false, eval c X.env) :: starEach [] X.env := by rfl)
    (hw : swappedStores [.Tuple [.Name x px, .Name y py, .Name z pz] kt pt] (.Tuple [a, b, c] k2 pt2) X.env = pure (some [x, y, z]) := by rfl)
    (hs : swapsWithSole [.Tuple [.Name x px, .Name y py, .Name z pz] kt pt] (.Tuple [a, b, c] k2 pt2) pos.line X.env = pure false := by rfl) :
    SX X H0 Z W ω (((ω.set i τ1).set j τ2).set l τ3) ωr τr (.Assign [.Tuple [.Name x px, .Name y py, .Name z pz] kt pt] (.Tuple [a, b, c] k2 pt2) pos) (par3F i j l f g h) := by
  obtain ⟨ta, pa, sa⟩ := ha
  obtain ⟨tb, pb, sb⟩ := hb
  obtain ⟨tc, pc, sc⟩ := hcc
  refine ⟨_, ps_par3 hc hN hi hj hl hij hil hjl hx hy hz (pa_cons pa (pa_cons pb (pa_cons pc pa_nil hs3) hs2) hs1) hw hs, fun ρ σ H Dn sr ps => ?_⟩
  refine sa ρ σ H _ sr ((Post.bind.mp ps).mono (fun d q v H1 g1 => ?_) fun _ h => h)
  refine sb ρ σ H1 _ (sr.mono g1.ext) ((Post.bind.mp q).mono (fun e q w H2 g2 => ?_) fun _ h => h)
  refine sc ρ σ H2 _ ((sr.mono g1.ext).mono g2.ext) ((Post.bind.mp q).mono (fun e q u H3 g3 => ?_) fun _ h => h)
  exact ⟨v, w, u, rfl, q _ H3 ((g1.ext.keepF.trans g2.ext.keepF).trans g3.ext.keepF) (((sr.put li g1).put (by simpa using lj) g2).put (by simpa using ll) g3)⟩
end
end Mr

namespace Mr
variable [TabsOf]
open PySem PySem.Spec PyProof.Rows L2
open Res

theorem u1 {k : Nat} {A : Around} (r : Room k A) : A.units + 1 < cLine := by have := r.un; omega
theorem u64 {k : Nat} {A : Around} (r : Room k A) : A.units + 64 < cLine := by have := r.un; omega
theorem u70 {k : Nat} {A : Around} (r : Room k A) : A.units + 70 < cLine := by have := r.un; omega
theorem tk_no {X : Cx} : L2N.Takes X (fun _ _ _ _ => False) := fun u s' x => by
  obtain ⟨_, _, _, _, _, _, _, _, _, _, _, _, _, _, _, _, w⟩ := x
  exact w.elim

/-! ## defs as they are known to their callers -/
def Dok (P : Program) (w : World) (K : Fr) (mg : Str → Option Value) (base : Heap) (k : Nat) (x : Str) (ps : List Str) (τ : Sh) (m : List D → Res D) : Prop :=
  ∃ (f : Addr) (fd : FuncData), FnOk P w K mg base (L2N.CX P w) k f fd ps (Prom K mg ps.length τ m) ∧ mg x = some (.ref f) ∧ PySem.W.keepIn K (.ref f) = true ∧ Binds K fd ps []
section
variable {X : Cx} {H0 : Hp} {Z : Zt} {W : WX} {ω ωr : List Sh} {τr : Sh} {pos : Pos}
theorem px_callD {k : Nat} {ps : List Str} {x : Str} {p : Pos} {e : Expr} {es : List Expr} {fa : Env → Res (List D)} {m : List D → Res D} {τ : Sh} (F : Dok X.prog X.w X.K X.mg X.base k x ps τ m) (hr : Room k X.A) (tk : L2N.Takes X W)
    (hg : Gl X x) (ha : PAX X H0 Z W ω (e :: es) fa) (hl : ∀ ρ ds, fa ρ = .ok ds → ds.length = (e :: es).length) (hn : (e :: es).length = ps.length := by rfl) (hdb : (x == ("__debug__" : Str)) = false := by decide) (he : starEach (e :: es) X.env = (false, eval e X.env) :: starEach es X.env := by rfl) (hpl : (backTo pos (starEach es X.env)).any (·.1) = false := by rfl) :
    PX X H0 Z W ω (.Call (.Name x p) (e :: es) [] pos) (callF fa m) τ := by
  obtain ⟨f, fd, F, h1, h2, h3⟩ := F
  exact px_call F hr h1 h2 h3 tk hg hn ha hl hdb he hpl
/-- a module's constant -/
theorem px_giE {x : Str} {i : Int} {pos : Pos} (hg : Gl X x) (hm : ∃ t, X.mg x = some (.int i t)) (hd : (x == ("__debug__" : Str)) = false := by decide) : PX X H0 Z W ω (.Name x pos) (fun _ => .ok (.int i)) .fz := let ⟨_, h⟩ := hm; px_gi hg h hd
theorem px_gsE {x y : Str} {pos : Pos} (hg : Gl X x) (hm : ∃ t, X.mg x = some (.str y t)) (hd : (x == ("__debug__" : Str)) = false := by decide) : PX X H0 Z W ω (.Name x pos) (fun _ => .ok (.str y)) .fz := let ⟨_, h⟩ := hm; px_gs hg h hd

/-! ## == and != on anything told -/
def bothD : D → D → Bool
  | .dct _ _, .dct _ _ => true
  | _, _ => false
def eqA (d e : D) : Res D := if bothD d e = true then eqDD false d e else eqD d e
def neA (d e : D) : Res D := if bothD d e = true then eqDD true d e else neD d e
theorem eqA_ne (x y : D) (c : Str) : eqA x y ≠ .ex c := by unfold eqA; split <;> first | exact eqDD_ne _ _ _ _ | exact eqD_ne _ _ _
theorem neA_ne (x y : D) (c : Str) : neA x y ≠ .ex c := by unfold neA; split <;> first | exact eqDD_ne _ _ _ _ | exact neD_ne _ _ _
theorem eqA_s {K : Fr} : OpS K (fun x y H Q => rEqD K x y H Q ∨ rDctEq K false x y H Q) eqA .fz := by
  intro d e v u H Q hd he ps
  unfold eqA at ps
  split at ps
  · exact .inr (eqDct_s false d e v u H Q hd he ps)
  · exact .inl (eq_s d e v u H Q hd he ps)
theorem neA_s {K : Fr} : OpS K (fun x y H Q => rNeD K x y H Q ∨ rDctEq K true x y H Q) neA .fz := by
  intro d e v u H Q hd he ps
  unfold neA at ps
  split at ps
  · exact .inr (eqDct_s true d e v u H Q hd he ps)
  · exact .inl (ne_s d e v u H Q hd he ps)
theorem op_eqA {k : Nat} (hr : Room k X.A) : OpR X (compareOp .Eq) (fun x y H Q => rEqD X.K x y H Q ∨ rDctEq X.K false x y H Q) := OpR.or (op_eqD (u64 hr)) (op_eqDct (u70 hr))
theorem op_neA {k : Nat} (hr : Room k X.A) : OpR X (compareOp .NotEq) (fun x y H Q => rNeD X.K x y H Q ∨ rDctEq X.K true x y H Q) := OpR.or (op_neD (u64 hr)) (op_neDct (u70 hr))
/-- - e -/
def negF (f : Env → Res D) (ρ : Env) : Res D := (f ρ).bind fun d => match d with
  | .int i => .ok (.int (-i))
  | _ => .bad
theorem px_neg {a : Expr} {f : Env → Res D} (h : PX X H0 Z W ω a f .fz) : PX X H0 Z W ω (.UnaryOp .USub a pos) (negF f) .fz := by
  obtain ⟨t, p, s⟩ := h
  refine ⟨_, pe_un un_neg p, fun ρ σ H Q sr ps => s ρ σ H _ sr ((Post.bind.mp ps).mono (fun d q v H1 g => ?_) fun _ h => h)⟩
  cases d <;> first | exact (show False from q).elim | skip
  exact ⟨_, g.r, q _ H1 (Got.fz g.ext rfl)⟩

/-! ## a, b = x, y where a name is a cell -/
theorem sx_parC (i j : Nat) {τ1 τ2 : Sh} {x y : Str} {a b : Expr} {f g : Env → Res D} {px py pt : Pos} {kt k2 pt2} (hc : X.calm = true) (hN : X.N.Nodup) (ha : PX X H0 Z W ω a f τ1) (hb : PX X H0 Z W ω b g τ2) (hi : X.N[i]? = some x := by rfl) (hj : X.N[j]? = some y := by rfl)
    (hil : i < ω.length := by decide) (hjl : j < ω.length := by decide) (hx : Loc X.env.scope x := by first | exact .inl rfl | exact .inr rfl) (hy : Loc X.env.scope y := by first | exact .inl rfl | exact .inr rfl)
    (fx : X.fn x = true ∨ X.env.scope.names.lookup x = some .local := by first | exact .inl rfl | exact .inr rfl) (fy : X.fn y = true ∨ X.env.scope.names.lookup y = some .local := by first | exact .inl rfl | exact .inr rfl)
    (hs1 : starEach [a, b] X.env = (false, eval a X.env) :: starEach [b] X.env := by rfl) (hs2 : starEach [b] X.env = (false, eval b X.env) :: starEach [] X.env := by rfl)
    (ht1 : (assignEach [.Name x px, .Name y py] X.env).map (·.2) = assign (.Name x px) X.env :: (assignEach [.Name y py] X.env).map (·.2) := by rfl) (ht2 : (assignEach [.Name y py] X.env).map (·.2) = assign (.Name y py) X.env :: (assignEach [] X.env).map (·.2) := by rfl)
    (hn : (assignEach [.Name x px, .Name y py] X.env).length = 2 := by rfl) (hst : (assignEach [.Name x px, .Name y py] X.env).findIdx? (·.1) = none := by rfl)
    (hs : swapsWithSole [.Tuple [.Name x px, .Name y py] kt pt] (.Tuple [a, b] k2 pt2) pos.line X.env = pure false := by rfl) (hw : swappedStores [.Tuple [.Name x px, .Name y py] kt pt] (.Tuple [a, b] k2 pt2) X.env = pure none := by rfl)
    (h1 : (assignEach [.Tuple [.Name x px, .Name y py] kt pt] X.env).map (·.2) = [assign (.Tuple [.Name x px, .Name y py] kt pt) X.env] := by rfl) :
    SX X H0 Z W ω ((ω.set i τ1).set j τ2) ωr τr (.Assign [.Tuple [.Name x px, .Name y py] kt pt] (.Tuple [a, b] k2 pt2) pos) (parF i j f g) := by
  obtain ⟨ta, pa, sa⟩ := ha
  obtain ⟨tb, pb, sb⟩ := hb
  refine ⟨_, ps_asg (pe_tup (pa_cons pa (pa_cons pb pa_nil hs2) hs1)) (pg_tup hc (pgs_cons (pg_name hN hi hx fx) (pgs_cons (pg_name hN hj hy fy) pgs_nil ht2) ht1) hn hst) hs hw h1, fun ρ σ H Dn sr ps => ?_⟩
  refine sa ρ σ H _ sr ((Post.bind.mp ps).mono (fun d q v H1 g1 => ?_) fun _ h => h)
  refine sb ρ σ H1 _ (sr.mono g1.ext) ((Post.bind.mp q).mono (fun e q w H2 g2 => ?_) fun _ h => h)
  refine ⟨by show 2 ≤ sizeLine; decide, fun p hp => ⟨p, [v, w], rfl, .of upd_same, rfl, v, [w], rfl, w, [], rfl, rfl, ?_⟩⟩
  exact q _ _ ((g1.ext.keepF.trans g2.ext.keepF).trans (Ext.new hp).keepF) (((sr.put hil g1).put (by simpa using hjl) g2).mono (Ext.new hp))
theorem sx_par3C (i j l : Nat) {τ1 τ2 τ3 : Sh} {x y z : Str} {a b c : Expr} {f g h : Env → Res D} {px py pz pt : Pos} {kt k2 pt2} (hc : X.calm = true) (hN : X.N.Nodup) (ha : PX X H0 Z W ω a f τ1) (hb : PX X H0 Z W ω b g τ2) (hcc : PX X H0 Z W ω c h τ3) (hi : X.N[i]? = some x := by rfl) (hj : X.N[j]? = some y := by rfl) (hl : X.N[l]? = some z := by rfl)
    (hil : i < ω.length := by decide) (hjl : j < ω.length := by decide) (hll : l < ω.length := by decide) (hx : Loc X.env.scope x := by first | exact .inl rfl | exact .inr rfl) (hy : Loc X.env.scope y := by first | exact .inl rfl | exact .inr rfl) (hz : Loc X.env.scope z := by first | exact .inl rfl | exact .inr rfl)
    (fx : X.fn x = true ∨ X.env.scope.names.lookup x = some .local := by first | exact .inl rfl | exact .inr rfl) (fy : X.fn y = true ∨ X.env.scope.names.lookup y = some .local := by first | exact .inl rfl | exact .inr rfl) (fz : X.fn z = true ∨ X.env.scope.names.lookup z = some .local := by first | exact .inl rfl | exact .inr rfl)
    (hs1 : starEach [a, b, c] X.env = (false, eval a X.env) :: starEach [b, c] X.env := by rfl) (hs2 : starEach [b, c] X.env = (false, eval b X.env) :: starEach [c] X.env := by rfl) (hs3 : starEach [c] X.env = (false, eval c X.env) :: starEach [] X.env := by rfl)
    (ht1 : (assignEach [.Name x px, .Name y py, .Name z pz] X.env).map (·.2) = assign (.Name x px) X.env :: (assignEach [.Name y py, .Name z pz] X.env).map (·.2) := by rfl) (ht2 : (assignEach [.Name y py, .Name z pz] X.env).map (·.2) = assign (.Name y py) X.env :: (assignEach [.Name z pz] X.env).map (·.2) := by rfl)
    (ht3 : (assignEach [.Name z pz] X.env).map (·.2) = assign (.Name z pz) X.env :: (assignEach [] X.env).map (·.2) := by rfl)
    (hn : (assignEach [.Name x px, .Name y py, .Name z pz] X.env).length = 3 := by rfl) (hst : (assignEach [.Name x px, .Name y py, .Name z pz] X.env).findIdx? (·.1) = none := by rfl)
    (hs : swapsWithSole [.Tuple [.Name x px, .Name y py, .Name z pz] kt pt] (.Tuple [a, b, c] k2 pt2) pos.line X.env = pure false := by rfl) (hw : swappedStores [.Tuple [.Name x px, .Name y py, .Name z pz] kt pt] (.Tuple [a, b, c] k2 pt2) X.env = pure none := by rfl)
    (h1 : (assignEach [.Tuple [.Name x px, .Name y py, .Name z pz] kt pt] X.env).map (·.2) = [assign (.Tuple [.Name x px, .Name y py, .Name z pz] kt pt) X.env] := by rfl) :
    SX X H0 Z W ω (((ω.set i τ1).set j τ2).set l τ3) ωr τr (.Assign [.Tuple [.Name x px, .Name y py, .Name z pz] kt pt] (.Tuple [a, b, c] k2 pt2) pos) (par3F i j l f g h) := by
  obtain ⟨ta, pa, sa⟩ := ha
  obtain ⟨tb, pb, sb⟩ := hb
  obtain ⟨tc, pc, sc⟩ := hcc
  refine ⟨_, ps_asg (pe_tup (pa_cons pa (pa_cons pb (pa_cons pc pa_nil hs3) hs2) hs1)) (pg_tup hc (pgs_cons (pg_name hN hi hx fx) (pgs_cons (pg_name hN hj hy fy) (pgs_cons (pg_name hN hl hz fz) pgs_nil ht3) ht2) ht1) hn hst) hs hw h1, fun ρ σ H Dn sr ps => ?_⟩
  refine sa ρ σ H _ sr ((Post.bind.mp ps).mono (fun d q v H1 g1 => ?_) fun _ h => h)
  refine sb ρ σ H1 _ (sr.mono g1.ext) ((Post.bind.mp q).mono (fun e q w H2 g2 => ?_) fun _ h => h)
  refine sc ρ σ H2 _ ((sr.mono g1.ext).mono g2.ext) ((Post.bind.mp q).mono (fun e q u H3 g3 => ?_) fun _ h => h)
  refine ⟨by show 3 ≤ sizeLine; decide, fun p hp => ⟨p, [v, w, u], rfl, .of upd_same, rfl, v, [w, u], rfl, w, [u], rfl, u, [], rfl, rfl, ?_⟩⟩
  exact q _ _ (((g1.ext.keepF.trans g2.ext.keepF).trans g3.ext.keepF).trans (Ext.new hp).keepF) ((((sr.put hil g1).put (by simpa using hjl) g2).put (by simpa using hll) g3).mono (Ext.new hp))

/-! ## builtins in short -/
section
variable {p : Pos} {e : Expr} {es : List Expr} {fa : Env → Res (List D)}
theorem px_len (hg : Gl X "len") (hm : X.mg "len" = none) (ha : PAVX X H0 Z W ω (e :: es) fa) (he : starEach (e :: es) X.env = (false, eval e X.env) :: starEach es X.env := by rfl) (hpl : (backTo pos (starEach es X.env)).any (·.1) = false := by rfl) : PX X H0 Z W ω (.Call (.Name "len" p) (e :: es) [] pos) (callF fa lenD) .fz := px_callB cr_lenR len_s len_ne hg hm PySem.boot_len ha (by decide) (by decide) he hpl
theorem px_max2 (hc : X.calm = true) (hg : Gl X "max") (hm : X.mg "max" = none) (ha : PAVX X H0 Z W ω (e :: es) fa) (he : starEach (e :: es) X.env = (false, eval e X.env) :: starEach es X.env := by rfl) (hpl : (backTo pos (starEach es X.env)).any (·.1) = false := by rfl) : PX X H0 Z W ω (.Call (.Name "max" p) (e :: es) [] pos) (callF fa max2D) .fz := px_callB (call_max2 hc) max2_s max2_ne hg hm PyProof.Rows.boot_max ha (by decide) (by decide) he hpl
theorem px_min2 (hc : X.calm = true) (hg : Gl X "min") (hm : X.mg "min" = none) (ha : PAVX X H0 Z W ω (e :: es) fa) (he : starEach (e :: es) X.env = (false, eval e X.env) :: starEach es X.env := by rfl) (hpl : (backTo pos (starEach es X.env)).any (·.1) = false := by rfl) : PX X H0 Z W ω (.Call (.Name "min" p) (e :: es) [] pos) (callF fa min2D) .fz := px_callB (call_min2 hc) min2_s min2_ne hg hm PyProof.Rows.boot_min ha (by decide) (by decide) he hpl
theorem px_abs (hg : Gl X "abs") (hm : X.mg "abs" = none) (ha : PAVX X H0 Z W ω (e :: es) fa) (he : starEach (e :: es) X.env = (false, eval e X.env) :: starEach es X.env := by rfl) (hpl : (backTo pos (starEach es X.env)).any (·.1) = false := by rfl) : PX X H0 Z W ω (.Call (.Name "abs" p) (e :: es) [] pos) (callF fa absD) .fz := px_callB call_abs abs_s abs_ne hg hm PyProof.Rows.boot_abs ha (by decide) (by decide) he hpl
theorem px_sum (hc : X.calm = true) (hg : Gl X "sum") (hm : X.mg "sum" = none) (ha : PAVX X H0 Z W ω (e :: es) fa) (he : starEach (e :: es) X.env = (false, eval e X.env) :: starEach es X.env := by rfl) (hpl : (backTo pos (starEach es X.env)).any (·.1) = false := by rfl) : PX X H0 Z W ω (.Call (.Name "sum" p) (e :: es) [] pos) (callF fa sumD) .fz := px_callB (cr_sum hc) sum_s sum_ne hg hm PyProof.Rows.boot_sum ha (by decide) (by decide) he hpl
theorem px_all (hc : X.calm = true) (hg : Gl X "all") (hm : X.mg "all" = none) (ha : PAVX X H0 Z W ω (e :: es) fa) (he : starEach (e :: es) X.env = (false, eval e X.env) :: starEach es X.env := by rfl) (hpl : (backTo pos (starEach es X.env)).any (·.1) = false := by rfl) : PX X H0 Z W ω (.Call (.Name "all" p) (e :: es) [] pos) (callF fa allD) .fz := px_callB (cr_all hc) all_s all_ne hg hm PyProof.Rows.boot_all ha (by decide) (by decide) he hpl
theorem px_any (hc : X.calm = true) (hg : Gl X "any") (hm : X.mg "any" = none) (ha : PAVX X H0 Z W ω (e :: es) fa) (he : starEach (e :: es) X.env = (false, eval e X.env) :: starEach es X.env := by rfl) (hpl : (backTo pos (starEach es X.env)).any (·.1) = false := by rfl) : PX X H0 Z W ω (.Call (.Name "any" p) (e :: es) [] pos) (callF fa anyD) .fz := px_callB (cr_any hc) any_s any_ne hg hm PyProof.Rows.boot_any ha (by decide) (by decide) he hpl
theorem px_max (hc : X.calm = true) (hg : Gl X "max") (hm : X.mg "max" = none) (ha : PAVX X H0 Z W ω (e :: es) fa) (he : starEach (e :: es) X.env = (false, eval e X.env) :: starEach es X.env := by rfl) (hpl : (backTo pos (starEach es X.env)).any (·.1) = false := by rfl) : PX X H0 Z W ω (.Call (.Name "max" p) (e :: es) [] pos) (callF fa maxD) .fz := px_callB (cr_max hc) max_s max_ne hg hm PyProof.Rows.boot_max ha (by decide) (by decide) he hpl
theorem px_min (hc : X.calm = true) (hg : Gl X "min") (hm : X.mg "min" = none) (ha : PAVX X H0 Z W ω (e :: es) fa) (he : starEach (e :: es) X.env = (false, eval e X.env) :: starEach es X.env := by rfl) (hpl : (backTo pos (starEach es X.env)).any (·.1) = false := by rfl) : PX X H0 Z W ω (.Call (.Name "min" p) (e :: es) [] pos) (callF fa minD) .fz := px_callB (cr_min hc) min_s min_ne hg hm PyProof.Rows.boot_min ha (by decide) (by decide) he hpl
theorem px_sorted {k : Nat} (hr : Room k X.A) (hc : X.calm = true) (hg : Gl X "sorted") (hm : X.mg "sorted" = none) (ha : PAVX X H0 Z W ω (e :: es) fa) (he : starEach (e :: es) X.env = (false, eval e X.env) :: starEach es X.env := by rfl) (hpl : (backTo pos (starEach es X.env)).any (·.1) = false := by rfl) : PX X H0 Z W ω (.Call (.Name "sorted" p) (e :: es) [] pos) (callF fa sortedD) (.own .fz) := px_callB (cr_sortD hc (u64 hr)) sorted_s sorted_ne hg hm PyProof.Rows.boot_sorted ha (by decide) (by decide) he hpl
theorem px_intc (hg : Gl X "int") (hm : X.mg "int" = none) (ha : PAVX X H0 Z W ω (e :: es) fa) (he : starEach (e :: es) X.env = (false, eval e X.env) :: starEach es X.env := by rfl) (hpl : (backTo pos (starEach es X.env)).any (·.1) = false := by rfl) : PX X H0 Z W ω (.Call (.Name "int" p) (e :: es) [] pos) (callF fa intD) .fz := px_callTy cr_intR int_s int_ne hg hm (by decide +kernel) ha (by decide) (by decide) he hpl
theorem px_strc (hg : Gl X "str") (hm : X.mg "str" = none) (ha : PAVX X H0 Z W ω (e :: es) fa) (he : starEach (e :: es) X.env = (false, eval e X.env) :: starEach es X.env := by rfl) (hpl : (backTo pos (starEach es X.env)).any (·.1) = false := by rfl) : PX X H0 Z W ω (.Call (.Name "str" p) (e :: es) [] pos) (callF fa strD) .fz := px_callTy call_str_int str_s str_ne hg hm (by decide +kernel) ha (by decide) (by decide) he hpl
theorem px_list (hc : X.calm = true) (hg : Gl X "list") (hm : X.mg "list" = none) (ha : PAVX X H0 Z W ω (e :: es) fa) (he : starEach (e :: es) X.env = (false, eval e X.env) :: starEach es X.env := by rfl) (hpl : (backTo pos (starEach es X.env)).any (·.1) = false := by rfl) : PX X H0 Z W ω (.Call (.Name "list" p) (e :: es) [] pos) (callF fa listD) (.own .fz) := px_callTy (cr_listR hc) list_s list_ne hg hm (by decide +kernel) ha (by decide) (by decide) he hpl
theorem px_tuple (hg : Gl X "tuple") (hm : X.mg "tuple" = none) (ha : PAVX X H0 Z W ω (e :: es) fa) (he : starEach (e :: es) X.env = (false, eval e X.env) :: starEach es X.env := by rfl) (hpl : (backTo pos (starEach es X.env)).any (·.1) = false := by rfl) : PX X H0 Z W ω (.Call (.Name "tuple" p) (e :: es) [] pos) (callF fa tupleD) .fz := px_callTy call_tuple_of tuple_s tuple_ne hg hm (by decide +kernel) ha (by decide) (by decide) he hpl
theorem px_dict (hc : X.calm = true) (hg : Gl X "dict") (hm : X.mg "dict" = none) (ha : PAVX X H0 Z W ω (e :: es) fa) (he : starEach (e :: es) X.env = (false, eval e X.env) :: starEach es X.env := by rfl) (hpl : (backTo pos (starEach es X.env)).any (·.1) = false := by rfl) : PX X H0 Z W ω (.Call (.Name "dict" p) (e :: es) [] pos) (callF fa dictD) (.ownD .fz) := px_callTy (cr_dictR hc) dict_s dict_ne hg hm (by decide +kernel) ha (by decide) (by decide) he hpl
end
end
end Mr

namespace Mr
variable [TabsOf]
open PySem PySem.Spec PyProof.Rows L2
open Res
/-! ## a def whose code object is named -/
structure FunC (K : Fr) (x qual : Str) (st : Stmt) (f : Addr) (fd : FuncData) (cdv : Value) : Prop where
  ex : ∃ (oc : Value) (od : Option Addr) (kV doc pm : Value) (an : Option Addr) (ct : Value) (osl : Array (Option Value)),
    fd = PySem.W.fnOf x qual (defArgs st) (defBody st) (defScope st) .none kV doc pm an cdv ct ∧ K.lookup f = some ⟨oc, od, .func fd, osl⟩ ∧ PySem.W.codeIn K cdv qual = true
  kp : PySem.W.keepIn K (.ref f) = true
theorem FunC.fun {K : Fr} {x qual : Str} {st : Stmt} {f : Addr} {fd : FuncData} {cdv : Value} (F : FunC K x qual st f fd cdv) : Fun K x qual st f fd := by
  obtain ⟨oc, od, kV, doc, pm, an, ct, osl, e, l, c⟩ := F.ex
  exact ⟨⟨oc, od, kV, doc, pm, an, cdv, ct, osl, e, l, c⟩, F.kp⟩
theorem Fun.c {K : Fr} {x qual : Str} {st : Stmt} {f : Addr} {fd : FuncData} (F : Fun K x qual st f fd) : ∃ cdv, FunC K x qual st f fd cdv := by
  obtain ⟨oc, od, kV, doc, pm, an, cdv, ct, osl, e, l, c⟩ := F.ex
  exact ⟨cdv, ⟨oc, od, kV, doc, pm, an, ct, osl, e, l, c⟩, F.kp⟩
theorem funC_mk {K : Fr} {x qual : Str} {st : Stmt} {f : Addr} {oc : Value} {od an : Option Addr} {osl : Array (Option Value)} {kV doc pm cdv ct : Value} (l : K.lookup f = some ⟨oc, od, .func (PySem.W.fnOf x qual (defArgs st) (defBody st) (defScope st) .none kV doc pm an cdv ct), osl⟩) (e : PySem.W.codeIn K cdv qual = true) (k : PySem.W.keepIn K (.ref f) = true) :
    FunC K x qual st f (PySem.W.fnOf x qual (defArgs st) (defBody st) (defScope st) .none kV doc pm an cdv ct) cdv := ⟨⟨oc, od, kV, doc, pm, an, ct, osl, rfl, l, e⟩, k⟩
section
variable {P : Program} {w : World} {K : Fr} {mg : Str → Option Value} {base : Heap} {x qual : Str} {st : Stmt} {f : Addr} {fd : FuncData} {N ps : List Str} {k n pad : Nat} {τr : Sh} {ω0 ωr : List Sh} {body : Env → Res Fl} {cdv : Value}
theorem fun_okC (F : FunC K x qual st f fd cdv) (S : FnScope N ps (defScope st)) (hn : n = ps.length) (hpad : pad = N.length - n) (hω : ω0 = List.replicate n .fz ++ List.replicate pad .dead) (hτ : τr ≠ .dead)
    (hbody : ∀ (A : Around) (outer : List PySem.Env) (s : Shared) (H : Hp) (E : XK), Room k (A.deeper (envOfC qual (defScope st) s.heap.objs.size f cdv)) →
      ∃ ω1, BX (cxOf (L2N.CX P w) P w K mg base N qual (defScope st) f cdv A outer s H E) H Z0 (fun cls d _ H' => E cls d H') ω0 ω1 ωr τr (defBody st) body) :
    FnOk P w K mg base (L2N.CX P w) (k + 1) f fd ps (Prom K mg n τr (mir pad τr body)) := by
  obtain ⟨oc, od, kV, doc, pm, an, ct, osl, e, l, c⟩ := F.ex
  subst e
  refine fn_of l c S (fun vs H Q E h => ?_) fun A outer s H vs Q E hr h => ?_
  · obtain ⟨_, ds, e, l, _⟩ := h
    rw [l.length, e, hn]
  · obtain ⟨hTb, ds, e, l, pp⟩ := h
    obtain ⟨ω1, t, pt, st'⟩ := hbody A outer s H E hr
    refine ⟨t, pt, st' (ds ++ List.replicate pad .non) _ H _ ?_ ((Post.bind.mp pp).mono (fun fl q => ?_) fun c q σ' H' C x hC => q C H' ⟨fun b o e t => x b o (fun z => z) e t, fun _ => x.tab⟩ hC)⟩
    · refine ⟨⟨fun b o _ e _ => e, hTb⟩, [], ?_, by simp, by simp⟩
      have hst : L2.start N vs = vs.map some ++ List.replicate pad none := by
        unfold L2.start
        rw [l.length, e, hpad]
      rw [hω, hst, ← e]
      exact slots_start l pad
    · cases fl with
      | nx ρ' =>
        intro σ' H' k' sr'
        unfold finD at q
        obtain ⟨c, q⟩ := Post.ite q
        subst c
        exact q .non H' (Got.fz ⟨fun b o e t => sr'.ext b o (fun z => z) e t, fun _ => sr'.ext.tab⟩ rfl)
      | rt d ρ' =>
        intro v σ' H' sr'
        obtain ⟨ex, fp, al, nd, fr⟩ := sr'
        obtain ⟨f1, f2, e1, sl, _⟩ := al
        subst e1
        rcases sl with ⟨z, e2⟩ | ⟨u, e2, r⟩
        · exact absurd z hτ
        · cases e2
          exact q v H' ⟨⟨fun b o e t => ex b o (fun z => z) e t, fun _ => ex.tab⟩, f1, r, fun a ha => (fr a (by simp [ha])).elim (fun z => z) fun z => z.elim, (List.nodup_append.mp nd).1⟩

/-! ## the law's own promise -/
def SpL (m : List D → Res D) (K : Fr) : Sp := fun vs H Q _ => Tb H ∧ ∃ (a : Addr) (ns : List Int), vs = [.ref a] ∧ SqL K H a (ns.map V.int) ∧ ns.length ≤ sizeLine ∧ m [.scr ns] = .ok (.bl true) ∧ ∀ H', Q (.bl true) H'
theorem law_ok {y : Str} (F : FunC K x qual st f fd cdv) (S : FnScope N [y] (defScope st)) (hpad : pad = N.length - 1) (hω : ω0 = .fz :: List.replicate pad .dead)
    (hbody : ∀ (A : Around) (outer : List PySem.Env) (s : Shared) (H H0 : Hp) (E : XK), Room k (A.deeper (envOfC qual (defScope st) s.heap.objs.size f cdv)) →
      ∃ ω1, BX (cxOf (L2N.CX P w) P w K mg base N qual (defScope st) f cdv A outer s H E) H0 Z0 (fun cls d _ H' => E cls d H') ω0 ω1 ωr .fz (defBody st) body) :
    FnOk P w K mg base (L2N.CX P w) (k + 1) f fd [y] (SpL (mir pad .fz body) K) := by
  obtain ⟨oc, od, kV, doc, pm, an, ct, osl, e, l, c⟩ := F.ex
  subst e
  refine fn_of l c S (fun vs H Q E h => ?_) fun A outer s H vs Q E hr h => ?_
  · obtain ⟨_, a, ns, e, _⟩ := h
    rw [e]; rfl
  · obtain ⟨hTb, a, ns, e, hS, hz, hm, hq⟩ := h
    subst e
    -- the script, locked
    have lock : Fz H fun H1 => CL K H1 a (ns.map V.int) ∧ Tb H1 := by
      rcases hS with (h | h) | h
      · exact .step h trivial fun od => .done ⟨.inl ⟨od, upd_same⟩, TabK.upd h trivial hTb⟩
      · exact .done ⟨.inl h, hTb⟩
      · exact .done ⟨.inr h, hTb⟩
    have go : ∀ H1, (CL K H1 a (ns.map V.int) ∧ Tb H1) → ∃ ω1, BX (cxOf (L2N.CX P w) P w K mg base N qual (defScope st) f cdv A outer s H E) H1 Z0 (fun cls d _ H' => E cls d H') ω0 ω1 ωr .fz (defBody st) body := fun H1 _ => hbody A outer s H H1 E hr
    -- what holds behind each locking
    refine ⟨fun Dn σ H1 => Fz H1 fun H2 => ∃ t, PSs (cxOf (L2N.CX P w) P w K mg base N qual (defScope st) f cdv A outer s H E) (defBody st) t ∧ t Dn σ H2, ⟨fun pins s1 σ H1 Dn I hw => ?_⟩, lock.mono fun H2 ⟨h2, hTb2⟩ => ?_⟩
    · obtain ⟨H2, I2, t, pt, q⟩ := hw.inv I
      exact pt.run pins s1 σ H2 Dn I2 q
    · obtain ⟨ω1, t, pt, st'⟩ := go H2 ⟨h2, hTb2⟩
      refine ⟨t, pt, st' ([.scr ns] ++ List.replicate pad .non) _ H2 _ ?_ ?_⟩
      · refine ⟨⟨fun b o _ e _ => e, hTb2⟩, [], ?_, by simp, by simp⟩
        have hst : L2.start N [V.ref a] = [V.ref a].map some ++ List.replicate pad none := by
          unfold L2.start
          rw [hpad]; rfl
        rw [hω, hst]
        exact slots_start (ds := [.scr ns]) (vs := [.ref a]) ⟨.ref a, [], rfl, ⟨a, rfl, h2, hz⟩, rfl⟩ pad
      · unfold mir at hm
        cases hb : body ([D.scr ns] ++ List.replicate pad D.non) with
        | bad => rw [hb] at hm; cases hm
        | ex c => rw [hb] at hm; cases hm
        | ok fl =>
          rw [hb] at hm
          have hm : finD .fz fl = .ok (.bl true) := hm
          cases fl with
          | nx ρ' => cases hm
          | rt d ρ' =>
            cases hm
            intro v σ' H' sr'
            obtain ⟨ex, fp, al, nd, fr⟩ := sr'
            obtain ⟨f1, f2, e1, sl, _⟩ := al
            rcases sl with ⟨z, e2⟩ | ⟨u, e2, r⟩
            · cases z
            · cases e2
              rw [show v = .bl true from r.2]
              exact hq H'
end
theorem law_sp {m : List D → Res D} {K : Fr} {n : Nat} (hn : n ≤ sizeLine) (math : ∀ ns : List Int, ns.length ≤ n → (∀ z ∈ ns, Builtin.Int.intBits z ≤ 1048576) → m [.scr ns] = .ok (.bl true)) (H : Hp) (a : Addr) (ns : List Int) (hl : ns.length ≤ n) (hb : ∀ z ∈ ns, Builtin.Int.intBits z ≤ 1048576) (hT : Tb H) (hS : SqL K H a (ns.map V.int)) :
    SpL m K [.ref a] H (fun v _ => v = .bl true) fun _ _ _ => False := ⟨hT, a, ns, rfl, hS, Nat.le_trans hl hn, math ns hl hb, fun _ => rfl⟩
/-- no tables -/
theorem tb0 (e : TabsOf.T = []) (H : Hp) : Tb H := fun p hp => by
  rw [e] at hp
  cases hp
theorem law_cx' {P : Program} {w : World} {outer : List PySem.Env} {H : Hp} {s : Shared} {e : Value} {s' : Shared} (h : L2N.CX P w outer H s (fun _ _ _ => False) e s') : False := by
  obtain ⟨_, _, _, _, _, _, _, _, _, _, _, _, z⟩ := h
  exact z
theorem law_cx {P : Program} {w : World} {H : Hp} {s : Shared} {e : Value} {s' : Shared} (h : L2N.CX P w [] H s (fun _ _ _ => False) e s') : False := by
  obtain ⟨_, h⟩ := h
  revert h
  intro h
  exact (by
    repeat (first | (obtain ⟨_, h⟩ := h) | (exact h.elim) | exact h))
end Mr

namespace Mr
/-- where nothing of tables is asked -/
instance (priority := low) tabs0 : TabsOf := ⟨[]⟩

open PySem PySem.Spec PyProof.Rows L2
open Res
section
variable (f g h : Env → Res D) (ρ : Env) (t t' : Env → Res Bool) (s s' : Env → Res Fl) (i : Nat)
/-! the continuations by name: simp does not go into them -/
def op2K (o : D → D → Res D) (g : Env → Res D) (ρ : Env) (x : D) : Res D := (g ρ).bind (o x)
@[simp] theorem op2K_ap (o : D → D → Res D) (x : D) : op2K o g ρ x = (g ρ).bind (o x) := nr rfl
def notK (b : Bool) : Res Bool := .ok (!b)
@[simp] theorem notK_ap (b : Bool) : notK b = .ok (!b) := nr rfl
def andK (t' : Env → Res Bool) (ρ : Env) : Bool → Res Bool | true => t' ρ | false => .ok false
@[simp] theorem andK_t : andK t' ρ true = t' ρ := nr rfl
@[simp] theorem andK_f : andK t' ρ false = .ok false := nr rfl
def orK (t' : Env → Res Bool) (ρ : Env) : Bool → Res Bool | true => .ok true | false => t' ρ
@[simp] theorem orK_t : orK t' ρ true = .ok true := nr rfl
@[simp] theorem orK_f : orK t' ρ false = t' ρ := nr rfl
def andVK (g : Env → Res D) (ρ : Env) : D → Res D | .bl true => g ρ | .bl false => .ok (.bl false) | _ => .bad
@[simp] theorem andVK_t : andVK g ρ (.bl true) = g ρ := nr rfl
@[simp] theorem andVK_f : andVK g ρ (.bl false) = .ok (.bl false) := nr rfl
def orVK (g : Env → Res D) (ρ : Env) : D → Res D | .bl false => g ρ | .bl true => .ok (.bl true) | _ => .bad
@[simp] theorem orVK_t : orVK g ρ (.bl true) = .ok (.bl true) := nr rfl
@[simp] theorem orVK_f : orVK g ρ (.bl false) = g ρ := nr rfl
def notVK : D → Res D | .bl b => .ok (.bl (!b)) | _ => .bad
@[simp] theorem notVK_ap (b : Bool) : notVK (.bl b) = .ok (.bl (!b)) := nr rfl
def ifVK (f g : Env → Res D) (ρ : Env) : Bool → Res D | true => f ρ | false => g ρ
@[simp] theorem ifVK_t : ifVK f g ρ true = f ρ := nr rfl
@[simp] theorem ifVK_f : ifVK f g ρ false = g ρ := nr rfl
def chK3 (o' : D → D → Res D) (h : Env → Res D) (ρ : Env) (y : D) : D → Res D | .bl true => (h ρ).bind (o' y) | .bl false => .ok (.bl false) | _ => .bad
@[simp] theorem chK3_t (o' : D → D → Res D) (y : D) : chK3 o' h ρ y (.bl true) = (h ρ).bind (o' y) := nr rfl
@[simp] theorem chK3_f (o' : D → D → Res D) (y : D) : chK3 o' h ρ y (.bl false) = .ok (.bl false) := nr rfl
def chK2 (o o' : D → D → Res D) (h : Env → Res D) (ρ : Env) (x y : D) : Res D := (o x y).bind (chK3 o' h ρ y)
@[simp] theorem chK2_ap (o o' : D → D → Res D) (x y : D) : chK2 o o' h ρ x y = (o x y).bind (chK3 o' h ρ y) := nr rfl
def chK1 (o o' : D → D → Res D) (g h : Env → Res D) (ρ : Env) (x : D) : Res D := (g ρ).bind (chK2 o o' h ρ x)
@[simp] theorem chK1_ap (o o' : D → D → Res D) (x : D) : chK1 o o' g h ρ x = (g ρ).bind (chK2 o o' h ρ x) := nr rfl
def consK2 (x : D) (xs : List D) : Res (List D) := .ok (x :: xs)
@[simp] theorem consK2_ap (x : D) (xs : List D) : consK2 x xs = .ok (x :: xs) := nr rfl
def consK (l : Env → Res (List D)) (ρ : Env) (x : D) : Res (List D) := (l ρ).bind (consK2 x)
@[simp] theorem consK_ap (l : Env → Res (List D)) (x : D) : consK l ρ x = (l ρ).bind (consK2 x) := nr rfl
def tupK (ds : List D) : Res D := if ds.length ≤ sizeLine then .ok (.tup ds) else .bad
def lstK (ds : List D) : Res D := if ds.length ≤ sizeLine then .ok (.lst ds) else .bad
theorem tupK_ok {ds : List D} (h : ds.length ≤ sizeLine) : tupK ds = .ok (.tup ds) := if_pos h
theorem lstK_ok {ds : List D} (h : ds.length ≤ sizeLine) : lstK ds = .ok (.lst ds) := if_pos h
theorem sz9 {n : Nat} (h : n ≤ 1000000) : n ≤ sizeLine := Nat.le_trans h (by decide)
@[simp] theorem tupK_0 : tupK [] = .ok (.tup []) := tupK_ok (sz9 (by decide))
@[simp] theorem tupK_1 (a : D) : tupK [a] = .ok (.tup [a]) := tupK_ok (sz9 (by simp))
@[simp] theorem tupK_2 (a b : D) : tupK [a, b] = .ok (.tup [a, b]) := tupK_ok (sz9 (by simp))
@[simp] theorem tupK_3 (a b c : D) : tupK [a, b, c] = .ok (.tup [a, b, c]) := tupK_ok (sz9 (by simp))
@[simp] theorem tupK_4 (a b c d : D) : tupK [a, b, c, d] = .ok (.tup [a, b, c, d]) := tupK_ok (sz9 (by simp))
@[simp] theorem tupK_5 (a b c d e : D) : tupK [a, b, c, d, e] = .ok (.tup [a, b, c, d, e]) := tupK_ok (sz9 (by simp))
@[simp] theorem lstK_0 : lstK [] = .ok (.lst []) := lstK_ok (sz9 (by decide))
@[simp] theorem lstK_1 (a : D) : lstK [a] = .ok (.lst [a]) := lstK_ok (sz9 (by simp))
@[simp] theorem lstK_2 (a b : D) : lstK [a, b] = .ok (.lst [a, b]) := lstK_ok (sz9 (by simp))
@[simp] theorem lstK_3 (a b c : D) : lstK [a, b, c] = .ok (.lst [a, b, c]) := lstK_ok (sz9 (by simp))
@[simp] theorem lstK_4 (a b c d : D) : lstK [a, b, c, d] = .ok (.lst [a, b, c, d]) := lstK_ok (sz9 (by simp))
@[simp] theorem lstK_5 (a b c d e : D) : lstK [a, b, c, d, e] = .ok (.lst [a, b, c, d, e]) := lstK_ok (sz9 (by simp))
def blK (b : Bool) : Res D := .ok (.bl b)
@[simp] theorem blK_ap (b : Bool) : blK b = .ok (.bl b) := nr rfl
def isiK (T : Ty) (d : D) : Res D := (isi T d).bind blK
@[simp] theorem isiK_ap (T : Ty) (d : D) : isiK T d = (isi T d).bind blK := nr rfl
def negK : D → Res D | .int i => .ok (.int (-i)) | _ => .bad
@[simp] theorem negK_int (j : Int) : negK (.int j) = .ok (.int (-j)) := nr rfl
def setK (i : Nat) (ρ : Env) (d : D) : Res Fl := .ok (.nx (ρ.set i d))
@[simp] theorem setK_ap (d : D) : setK i ρ d = .ok (.nx (ρ.set i d)) := nr rfl
def exprK (ρ : Env) (_ : D) : Res Fl := .ok (.nx ρ)
@[simp] theorem exprK_ap (d : D) : exprK ρ d = .ok (.nx ρ) := nr rfl
def retK (ω : List Sh) (ρ : Env) (d : D) : Res Fl := .ok (.rt d (killE ω ρ))
@[simp] theorem retK_ap (ω : List Sh) (d : D) : retK ω ρ d = .ok (.rt d (killE ω ρ)) := nr rfl
def ifK (s s' : Env → Res Fl) (ρ : Env) : Bool → Res Fl | true => s ρ | false => s' ρ
@[simp] theorem ifK_t : ifK s s' ρ true = s ρ := nr rfl
@[simp] theorem ifK_f : ifK s s' ρ false = s' ρ := nr rfl
def asgK2 (ρ' : Env) : Res Fl := .ok (.nx ρ')
@[simp] theorem asgK2_ap : asgK2 ρ = .ok (.nx ρ) := nr rfl
def asgK (a : D → Env → Res Env) (ρ : Env) (d : D) : Res Fl := (a d ρ).bind asgK2
@[simp] theorem asgK_ap (a : D → Env → Res Env) (d : D) : asgK a ρ d = (a d ρ).bind asgK2 := nr rfl
def forK (a : D → Env → Res Env) (s : Env → Res Fl) (ρ : Env) (ds : List D) : Res Fl := forM (bodyF a s) ds ρ
@[simp] theorem forK_ap (a : D → Env → Res Env) (ds : List D) : forK a s ρ ds = forM (bodyF a s) ds ρ := nr rfl
def parK2 (i j : Nat) (ρ : Env) (a b : D) : Res Fl := .ok (.nx ((ρ.set i a).set j b))
@[simp] theorem parK2_ap (j : Nat) (a b : D) : parK2 i j ρ a b = .ok (.nx ((ρ.set i a).set j b)) := nr rfl
def parK (i j : Nat) (g : Env → Res D) (ρ : Env) (a : D) : Res Fl := (g ρ).bind (parK2 i j ρ a)
@[simp] theorem parK_ap (j : Nat) (a : D) : parK i j g ρ a = (g ρ).bind (parK2 i j ρ a) := nr rfl
def par3K3 (i j l : Nat) (ρ : Env) (a b c : D) : Res Fl := .ok (.nx (((ρ.set i a).set j b).set l c))
@[simp] theorem par3K3_ap (j l : Nat) (a b c : D) : par3K3 i j l ρ a b c = .ok (.nx (((ρ.set i a).set j b).set l c)) := nr rfl
def par3K2 (i j l : Nat) (h : Env → Res D) (ρ : Env) (a b : D) : Res Fl := (h ρ).bind (par3K3 i j l ρ a b)
@[simp] theorem par3K2_ap (j l : Nat) (a b : D) : par3K2 i j l h ρ a b = (h ρ).bind (par3K3 i j l ρ a b) := nr rfl
def par3K (i j l : Nat) (g h : Env → Res D) (ρ : Env) (a : D) : Res Fl := (g ρ).bind (par3K2 i j l h ρ a)
@[simp] theorem par3K_ap (j l : Nat) (a : D) : par3K i j l g h ρ a = (g ρ).bind (par3K2 i j l h ρ a) := nr rfl
def lstOf (r : List D) : Res D := .ok (.lst r)
@[simp] theorem lstOf_ap (r : List D) : lstOf r = .ok (.lst r) := nr rfl
def lcK (vs : List Nat) (a : D → Env → Res Env) (t : Env → Res Bool) (f : Env → Res D) (ρ : Env) (ds : List D) : Res D := if ds.length ≤ sizeLine then (lcM a t f (killI vs ρ) ds).bind lstOf else .bad
theorem lcK_ok {vs : List Nat} {a : D → Env → Res Env} {t : Env → Res Bool} {f : Env → Res D} {ρ : Env} {ds out : List D} (hl : ds.length ≤ sizeLine) (h : lcM a t f (killI vs ρ) ds = .ok out) : lcK vs a t f ρ ds = .ok (.lst out) := by
  unfold lcK
  rw [if_pos hl, h]
  rfl
@[simp] theorem nv_ap : nv i ρ = .ok (gv ρ i) := nr rfl
@[simp] theorem gv_zero (d : D) : gv (d :: ρ) 0 = d := nr rfl
@[simp] theorem gv_succ (d : D) : gv (d :: ρ) (i + 1) = gv ρ i := nr rfl
@[simp] theorem op2_ap (o : D → D → Res D) : op2 o f g ρ = (f ρ).bind (op2K o g ρ) := nr rfl
@[simp] theorem tst_ap : tst f ρ = (f ρ).bind isB := nr rfl
@[simp] theorem isB_bl (b : Bool) : isB (.bl b) = .ok b := nr rfl
@[simp] theorem notR_ap : notR t ρ = (t ρ).bind notK := nr rfl
@[simp] theorem andR_ap : andR t t' ρ = (t ρ).bind (andK t' ρ) := by unfold andR; congr 1; funext b; cases b <;> rfl
@[simp] theorem orR_ap : orR t t' ρ = (t ρ).bind (orK t' ρ) := by unfold orR; congr 1; funext b; cases b <;> rfl
@[simp] theorem andV_ap : andV f g ρ = (f ρ).bind (andVK g ρ) := by unfold andV; congr 1; funext x; cases x <;> first | rfl | (rename_i b; cases b <;> rfl)
@[simp] theorem orV_ap : orV f g ρ = (f ρ).bind (orVK g ρ) := by unfold orV; congr 1; funext x; cases x <;> first | rfl | (rename_i b; cases b <;> rfl)
@[simp] theorem notV_ap : notV f ρ = (f ρ).bind notVK := by unfold notV; congr 1; funext x; cases x <;> rfl
@[simp] theorem ifV_ap : ifV t f g ρ = (t ρ).bind (ifVK f g ρ) := by unfold ifV; congr 1; funext b; cases b <;> rfl
@[simp] theorem chV_ap (o o' : D → D → Res D) : chV o o' f g h ρ = (f ρ).bind (chK1 o o' g h ρ) := by
  unfold chV; congr 1; funext x; unfold chK1; congr 1; funext y; unfold chK2; congr 1; funext z; cases z <;> first | rfl | (rename_i b; cases b <;> rfl)
@[simp] theorem nilA_ap : nilA ρ = .ok [] := nr rfl
@[simp] theorem consA_ap (l : Env → Res (List D)) : consA f l ρ = (f ρ).bind (consK l ρ) := nr rfl
@[simp] theorem callF_ap (l : Env → Res (List D)) (m : List D → Res D) : callF l m ρ = (l ρ).bind m := nr rfl
@[simp] theorem tupF_ap (l : Env → Res (List D)) : tupF l ρ = (l ρ).bind tupK := nr rfl
@[simp] theorem lstF_ap (l : Env → Res (List D)) : lstF l ρ = (l ρ).bind lstK := nr rfl
@[simp] theorem isiF_ap (T : Ty) : isiF T f ρ = (f ρ).bind (isiK T) := nr rfl
@[simp] theorem negF_ap : negF f ρ = (f ρ).bind negK := by unfold negF; congr 1
@[simp] theorem setF_ap : setF i f ρ = (f ρ).bind (setK i ρ) := nr rfl
@[simp] theorem exprF_ap : exprF f ρ = (f ρ).bind (exprK ρ) := nr rfl
@[simp] theorem retF_ap (ω : List Sh) : retF ω f ρ = (f ρ).bind (retK ω ρ) := nr rfl
@[simp] theorem retN_ap (ω : List Sh) : retN ω ρ = .ok (.rt .non (killE ω ρ)) := nr rfl
@[simp] theorem nxF_ap : nxF ρ = .ok (.nx ρ) := nr rfl
@[simp] theorem badF_ap : badF ρ = .bad := nr rfl
def seqK (s' : Env → Res Fl) : Fl → Res Fl
  | .nx ρ' => s' ρ'
  | .rt d ρ' => .ok (.rt d ρ')
@[simp] theorem seqK_nx : seqK s' (.nx ρ) = s' ρ := nr rfl
@[simp] theorem seqK_rt (d : D) : seqK s' (.rt d ρ) = .ok (.rt d ρ) := nr rfl
@[simp] theorem seqF_ap : seqF s s' ρ = (s ρ).bind (seqK s') := nr rfl
def wkK (ω : List Sh) : Fl → Res Fl
  | .nx ρ' => .ok (.nx (killE ω ρ'))
  | .rt d ρ' => .ok (.rt d ρ')
@[simp] theorem wkK_nx (ω : List Sh) : wkK ω (.nx ρ) = .ok (.nx (killE ω ρ)) := nr rfl
@[simp] theorem wkK_rt (ω : List Sh) (d : D) : wkK ω (.rt d ρ) = .ok (.rt d ρ) := nr rfl
@[simp] theorem wkF_ap (ω : List Sh) : wkF ω s ρ = (s ρ).bind (wkK ω) := nr rfl
@[simp] theorem killE_dead (ω : List Sh) (d : D) : killE (.dead :: ω) (d :: ρ) = .non :: killE ω ρ := nr rfl
@[simp] theorem killE_fz (ω : List Sh) (d : D) : killE (.fz :: ω) (d :: ρ) = d :: killE ω ρ := nr rfl
@[simp] theorem killE_own (ω : List Sh) (τ : Sh) (d : D) : killE (.own τ :: ω) (d :: ρ) = d :: killE ω ρ := nr rfl
@[simp] theorem killE_ownD (ω : List Sh) (τ : Sh) (d : D) : killE (.ownD τ :: ω) (d :: ρ) = d :: killE ω ρ := nr rfl
@[simp] theorem killE_nil : killE [] ρ = ρ := nr rfl
@[simp] theorem ifF_ap : ifF t s s' ρ = (t ρ).bind (ifK s s' ρ) := by unfold ifF; congr 1; funext b; cases b <;> rfl
@[simp] theorem nmG_ap (d : D) : nmG i d ρ = .ok (ρ.set i d) := nr rfl
@[simp] theorem nilG_ap : nilG [] ρ = .ok ρ := nr rfl
@[simp] theorem consG_ap (a : D → Env → Res Env) (b : List D → Env → Res Env) (d : D) (ds : List D) : consG a b (d :: ds) ρ = (a d ρ).bind (b ds) := nr rfl
@[simp] theorem tupG_ap (n : Nat) (a : List D → Env → Res Env) (ds : List D) : tupG n a (.tup ds) ρ = if ds.length = n then a ds ρ else .bad := nr rfl
@[simp] theorem asgF_ap (a : D → Env → Res Env) : asgF f a ρ = (f ρ).bind (asgK a ρ) := nr rfl
@[simp] theorem forF_ap (l : Env → Res (List D)) (a : D → Env → Res Env) : forF l a s ρ = (l ρ).bind (forK a s ρ) := nr rfl
@[simp] theorem bodyF_ap (a : D → Env → Res Env) (d : D) : bodyF a s d ρ = (a d ρ).bind s := nr rfl
@[simp] theorem parF_ap (j : Nat) : parF i j f g ρ = (f ρ).bind (parK i j g ρ) := nr rfl
@[simp] theorem par3F_ap (j l : Nat) : par3F i j l f g h ρ = (f ρ).bind (par3K i j l g h ρ) := nr rfl
def appK (i : Nat) (ρ : Env) (d : D) : D → Res Fl
  | .lst ds => if ds.length < sizeLine then .ok (.nx (ρ.set i (.lst (ds ++ [d])))) else .bad
  | _ => .bad
@[simp] theorem appK_lst (d : D) (ds : List D) : appK i ρ d (.lst ds) = if ds.length < sizeLine then .ok (.nx (ρ.set i (.lst (ds ++ [d])))) else .bad := nr rfl
def appK' (i : Nat) (ρ : Env) (d : D) : Res Fl := appK i ρ d (gv ρ i)
@[simp] theorem appK'_ap (d : D) : appK' i ρ d = appK i ρ d (gv ρ i) := nr rfl
@[simp] theorem appF_ap : appF i f ρ = (f ρ).bind (appK' i ρ) := by
  unfold appF
  cases f ρ with
  | ok d => simp only [ok_bind]; unfold appK' appK; cases gv ρ i <;> rfl
  | ex c => rfl
  | bad => rfl
def dputK (i : Nat) (ρ : Env) (d y : D) : D → Res Fl
  | .dct ks ds => match keyOf y with
    | some k => if ks.length < sizeLine then .ok (.nx (ρ.set i (unz (putK' (ks.zip ds) k d)))) else .bad
    | none => .bad
  | _ => .bad
@[simp] theorem dputK_int (d : D) (n : Int) (ks : List Key) (ds : List D) : dputK i ρ d (.int n) (.dct ks ds) = if ks.length < sizeLine then .ok (.nx (ρ.set i (unz (putK' (ks.zip ds) (.inl n) d)))) else .bad := nr rfl
def dputK2 (i : Nat) (ρ : Env) (d y : D) : Res Fl := dputK i ρ d y (gv ρ i)
@[simp] theorem dputK2_ap (d y : D) : dputK2 i ρ d y = dputK i ρ d y (gv ρ i) := nr rfl
def dputK1 (i : Nat) (f : Env → Res D) (ρ : Env) (d : D) : Res Fl := (f ρ).bind (dputK2 i ρ d)
@[simp] theorem dputK1_ap (d : D) : dputK1 i f ρ d = (f ρ).bind (dputK2 i ρ d) := nr rfl
@[simp] theorem dputF_ap : dputF i f g ρ = (g ρ).bind (dputK1 i f ρ) := by
  unfold dputF
  cases g ρ with
  | ok d =>
    simp only [ok_bind, dputK1]
    cases f ρ with
    | ok y => simp only [ok_bind]; unfold dputK2 dputK; cases gv ρ i <;> rfl
    | ex c => rfl
    | bad => rfl
  | ex c => rfl
  | bad => rfl
@[simp] theorem lcF_ap (l : Env → Res (List D)) (vs : List Nat) (a : D → Env → Res Env) : lcF l vs a t f ρ = (l ρ).bind (lcK vs a t f ρ) := nr rfl
@[simp] theorem killI_nil : killI [] ρ = ρ := nr rfl
@[simp] theorem killI_cons (is : List Nat) : killI (i :: is) ρ = (killI is ρ).set i .non := nr rfl
@[simp] theorem yesR_ap : yesR ρ = .ok true := nr rfl
@[simp] theorem noEx_ok {α : Type} (a : α) : noEx (.ok a) = .ok a := nr rfl
@[simp] theorem iterF_ap : iterF f ρ = (f ρ).bind iterD := nr rfl
@[simp] theorem mir_ap (pad : Nat) (τ : Sh) (ds : List D) : mir pad τ s ds = (s (ds ++ List.replicate pad .non)).bind (finD τ) := nr rfl
@[simp] theorem finD_rt (τ : Sh) (d : D) : finD τ (.rt d ρ) = .ok d := nr rfl
@[simp] theorem finD_nx : finD .fz (.nx ρ) = .ok .non := nr rfl
end
section
variable (i j : Int) (a b : Str) (xs ys : List D)
@[simp] theorem addD_int : addD (.int i) (.int j) = .ok (.int (i + j)) := nr rfl
@[simp] theorem subD_int : subD (.int i) (.int j) = .ok (.int (i - j)) := nr rfl
theorem fdivD_int : fdivD (.int i) (.int j) = if 0 < j ∧ j.natAbs.log2 < 9000 then .ok (.int (i / j)) else .bad := nr rfl
theorem modD_int : modD (.int i) (.int j) = if 0 < j then .ok (.int (i % j)) else .bad := nr rfl
@[simp] theorem powD_int : powD (.int i) (.int j) = if 0 ≤ j ∧ j ≤ 1000000 ∧ i.natAbs < 2 ^ 64 then .ok (.int (i ^ j.toNat)) else .bad := nr rfl
@[simp] theorem ltD_int : ltD (.int i) (.int j) = .ok (.bl (decide (i < j))) := nr rfl
@[simp] theorem leD_int : leD (.int i) (.int j) = .ok (.bl (decide (i ≤ j))) := nr rfl
@[simp] theorem gtD_int : gtD (.int i) (.int j) = .ok (.bl (decide (j < i))) := nr rfl
@[simp] theorem geD_int : geD (.int i) (.int j) = .ok (.bl (decide (j ≤ i))) := nr rfl
@[simp] theorem isD_non (d : D) : isD d .non = .ok (.bl (isN d)) := nr rfl
@[simp] theorem isnD_non (d : D) : isnD d .non = .ok (.bl (!isN d)) := nr rfl
@[simp] theorem isN_non : isN .non = true := nr rfl
@[simp] theorem isN_int : isN (.int i) = false := nr rfl
@[simp] theorem isN_tup : isN (.tup xs) = false := nr rfl
@[simp] theorem ixD_tup : ixD (.tup xs) (.int i) = oD (atI xs i) := nr rfl
@[simp] theorem ixD_lst : ixD (.lst xs) (.int i) = oD (atI xs i) := nr rfl
@[simp] theorem ixD_scr (ns : List Int) : ixD (.scr ns) (.int i) = oD ((atI ns i).map .int) := nr rfl
@[simp] theorem ixD_dct (ks : List Key) : ixD (.dct ks xs) (.int i) = oD (lookK ks xs (.inl i)) := nr rfl
@[simp] theorem oD_some (d : D) : oD (some d) = .ok d := nr rfl
@[simp] theorem lenD_lst : lenD [.lst xs] = .ok (.int xs.length) := nr rfl
@[simp] theorem lenD_tup : lenD [.tup xs] = .ok (.int xs.length) := nr rfl
@[simp] theorem lenD_scr (ns : List Int) : lenD [.scr ns] = .ok (.int ns.length) := nr rfl
@[simp] theorem lenD_dct (ks : List Key) : lenD [.dct ks xs] = .ok (.int ks.length) := nr rfl
@[simp] theorem max2D_int : max2D [.int i, .int j] = .ok (.int (if j > i then j else i)) := nr rfl
@[simp] theorem min2D_int : min2D [.int i, .int j] = .ok (.int (if j < i then j else i)) := nr rfl
@[simp] theorem absD_int : absD [.int i] = .ok (.int (if i < 0 then -i else i)) := nr rfl
theorem bits_lt {i : Int} {a : Nat} (h : i.natAbs < 2 ^ a) : Builtin.Int.intBits i ≤ a := PyProof.Rows.intBits_le h
theorem mulOk_r {i j : Int} (h : j.natAbs < 2 ^ 64) : mulOk i j = true := by
  have h1 : Builtin.Int.intBits j ≤ 64 := bits_lt h
  have h2 : decide (Builtin.Int.intBits j > shortFactorBits) = false := decide_eq_false (by rw [show shortFactorBits = 64 from rfl]; omega)
  unfold mulOk
  rw [h2]
  simp
theorem mulOk_l {i j : Int} (h : i.natAbs < 2 ^ 64) : mulOk i j = true := by
  have h1 : Builtin.Int.intBits i ≤ 64 := bits_lt h
  have h2 : decide (Builtin.Int.intBits i > shortFactorBits) = false := decide_eq_false (by rw [show shortFactorBits = 64 from rfl]; omega)
  unfold mulOk
  rw [h2]
  simp
theorem mulOk_b {i j : Int} {a b : Nat} (ha : i.natAbs < 2 ^ a) (hb : j.natAbs < 2 ^ b) (h : a + b ≤ 134217728) : mulOk i j = true := by
  have := (mulx_ok ha hb h).ok
  unfold IntMulOk at this
  unfold mulOk
  rw [Bool.not_eq_true', Bool.eq_false_iff]
  exact this
theorem mulI_int {i j : Int} (h : mulOk i j = true) : mulI (.int i) (.int j) = .ok (.int (i * j)) := by
  exact if_pos h
end
/-! ## loops -/
theorem forM_same {b : D → Env → Res Fl} {ρ : Env} : ∀ {ds : List D}, (∀ d ∈ ds, b d ρ = .ok (.nx ρ)) → forM b ds ρ = .ok (.nx ρ)
  | [], _ => rfl
  | d :: ds, h => by
    show (b d ρ).bind _ = _
    rw [h d (by simp)]
    exact forM_same fun e he => h e (by simp [he])
theorem forM_inv {b : D → Env → Res Fl} {I : Nat → Env → Prop} : ∀ {ds : List D} {k : Nat} {ρ : Env}, (∀ i d ρ, ds[i]? = some d → I (k + i) ρ → ∃ ρ', b d ρ = .ok (.nx ρ') ∧ I (k + i + 1) ρ') → I k ρ → ∃ ρ', forM b ds ρ = .ok (.nx ρ') ∧ I (k + ds.length) ρ'
  | [], k, ρ, _, h => ⟨ρ, rfl, h⟩
  | d :: ds, k, ρ, st, h => by
    obtain ⟨ρ', e, h'⟩ := st 0 d ρ rfl h
    obtain ⟨ρ2, e2, h2⟩ := forM_inv (b := b) (I := I) (ds := ds) (k := k + 1) (ρ := ρ') (fun i d' ρ'' hd hI => by
      have := st (i + 1) d' ρ'' (by simpa using hd) (by rw [show k + (i + 1) = k + 1 + i by omega]; exact hI)
      rw [show k + (i + 1) + 1 = k + 1 + i + 1 by omega] at this
      exact this) h'
    refine ⟨ρ2, ?_, by rw [show k + (d :: ds).length = k + 1 + ds.length by simp; omega]; exact h2⟩
    show (b d ρ).bind _ = _
    rw [e]
    exact e2
/-- a comprehension whose every item is told -/
theorem lcM_all {g : D → Env → Res Env} {te : Env → Res D} {ρ : Env} {h : D → D} : ∀ {ds : List D}, (∀ d ∈ ds, ∃ ρ1, g d ρ = .ok ρ1 ∧ te ρ1 = .ok (h d)) → lcM g yesR te ρ ds = .ok (ds.map h)
  | [], _ => rfl
  | d :: ds, k => by
    obtain ⟨ρ1, e1, e2⟩ := k d (by simp)
    have ih := lcM_all (g := g) (te := te) (ρ := ρ) (h := h) (ds := ds) fun e he => k e (by simp [he])
    simp [lcM, e1, e2, ih]
theorem lcM_if {g : D → Env → Res Env} {tt : Env → Res Bool} {te : Env → Res D} {ρ : Env} {p : D → Bool} {h : D → D} : ∀ {ds : List D}, (∀ d ∈ ds, ∃ ρ1, g d ρ = .ok ρ1 ∧ tt ρ1 = .ok (p d) ∧ (p d = true → te ρ1 = .ok (h d))) → lcM g tt te ρ ds = .ok ((ds.filter p).map h)
  | [], _ => rfl
  | d :: ds, k => by
    obtain ⟨ρ1, e1, e2, e3⟩ := k d (by simp)
    have ih := lcM_if (g := g) (tt := tt) (te := te) (ρ := ρ) (p := p) (h := h) (ds := ds) fun e he => k e (by simp [he])
    cases hp : p d with
    | true => simp [lcM, e1, e2, e3 hp, ih, hp]
    | false => simp [lcM, e1, e2, ih, hp]
end Mr

namespace Mr

open PySem PySem.Spec PyProof.Rows L2
open Res
/-! ## data of little depth -/
/-- scalars; n storeys of lists and tuples of them -/
def lv : Nat → D → Bool
  | _, .non => true
  | _, .bl _ => true
  | _, .int _ => true
  | _, .str x => PyData.strOk x
  | 0, _ => false
  | n + 1, .tup ds => ds.all (lv n)
  | n + 1, .lst ds => ds.all (lv n)
  | _ + 1, .scr _ => true
  | _ + 1, _ => false
section
variable (n : Nat) (ds : List D)
@[simp] theorem lv_non : lv n .non = true := by cases n <;> exact nr (by simp [lv])
@[simp] theorem lv_bl (b : Bool) : lv n (.bl b) = true := by cases n <;> exact nr (by simp [lv])
@[simp] theorem lv_int (i : Int) : lv n (.int i) = true := by cases n <;> exact nr (by simp [lv])
@[simp] theorem lv_str (x : Str) : lv n (.str x) = PyData.strOk x := by cases n <;> exact nr (by simp [lv])
@[simp] theorem lv_tup : lv (n + 1) (.tup ds) = ds.all (lv n) := by simp [lv]
@[simp] theorem lv_lst : lv (n + 1) (.lst ds) = ds.all (lv n) := by simp [lv]
@[simp] theorem lv_scr (ns : List Int) : lv (n + 1) (.scr ns) = true := by simp [lv]
end
theorem ints_lay : ∀ ns : List Int, PyData.canLayAll0 (ns.map .int) = true ∧ PyData.depthAll (ns.map .int) = 0
  | [] => ⟨rfl, rfl⟩
  | n :: ns => by
    obtain ⟨a, b⟩ := ints_lay ns
    constructor
    · simp [PyData.canLayAll0, PyData.canLay0, a]
    · simp [PyData.depthAll, PyData.depth, b]
theorem lv_sh : ∀ (n : Nat) (d : D), lv n d = true → d.noD = true ∧ d.toP.canLay0 = true ∧ d.toP.depth ≤ n := by
  have all : ∀ n, (∀ d : D, lv n d = true → d.noD = true ∧ d.toP.canLay0 = true ∧ d.toP.depth ≤ n) → ∀ ds : List D, ds.all (lv n) = true → D.noDl ds = true ∧ PyData.canLayAll0 (D.toPl ds) = true ∧ PyData.depthAll (D.toPl ds) ≤ n := by
    intro n ih ds
    induction ds with
    | nil => intro _; exact ⟨rfl, rfl, Nat.zero_le _⟩
    | cons d ds k =>
      intro h
      simp only [List.all_cons, Bool.and_eq_true] at h
      obtain ⟨a1, a2, a3⟩ := ih d h.1
      obtain ⟨b1, b2, b3⟩ := k h.2
      refine ⟨by simp [D.noDl, a1, b1], by simp [D.toPl, PyData.canLayAll0, a2, b2], ?_⟩
      simp only [D.toPl, PyData.depthAll]
      omega
  intro n
  induction n with
  | zero =>
    intro d h
    cases d <;> simp [lv] at h <;> simp [D.noD, D.toP, PyData.canLay0, PyData.depth, h]
  | succ n ih =>
    intro d h
    cases d with
    | tup ds =>
      obtain ⟨a, b, c⟩ := all n ih ds (by simpa using h)
      exact ⟨by simpa [D.noD] using a, by simpa [D.toP, PyData.canLay0] using b, by simp only [D.toP, PyData.depth]; omega⟩
    | lst ds =>
      obtain ⟨a, b, c⟩ := all n ih ds (by simpa using h)
      exact ⟨by simpa [D.noD] using a, by simpa [D.toP, PyData.canLay0] using b, by simp only [D.toP, PyData.depth]; omega⟩
    | scr ns =>
      obtain ⟨a, b⟩ := ints_lay ns
      exact ⟨rfl, by simpa [D.toP, PyData.canLay0] using a, by simp only [D.toP, PyData.depth]; omega⟩
    | non => simp [D.noD, D.toP, PyData.canLay0, PyData.depth]
    | bl _ => simp [D.noD, D.toP, PyData.canLay0, PyData.depth]
    | int _ => simp [D.noD, D.toP, PyData.canLay0, PyData.depth]
    | str x => simp [lv] at h; simp [D.noD, D.toP, PyData.canLay0, PyData.depth, h]
    | dct _ _ => simp [lv] at h
    | dcT _ _ => simp [lv] at h
    | ndc => simp [lv] at h
    | ctup _ => simp [lv] at h
    | adr _ => simp [lv] at h
theorem shp_lv {d : D} (n : Nat) (hn : n ≤ 60) (h : lv n d = true) : shp d = true := by
  obtain ⟨a, b, c⟩ := lv_sh n d h
  simp only [shp, a, Bool.true_and, SeqAt.shaped, b, decide_eq_true_eq]
  omega
theorem eqvp_ints : ∀ ns : List Int, PyData.eqvAll (ns.map .int) (ns.map .int) = true
  | [] => rfl
  | n :: ns => by simp [PyData.eqvAll, PyData.eqv, eqvp_ints ns]
theorem eqvp_strs : ∀ ns : List Str, PyData.eqvAll (ns.map .str) (ns.map .str) = true
  | [] => rfl
  | n :: ns => by simp [PyData.eqvAll, PyData.eqv, eqvp_strs ns]
mutual
theorem eqv_self' : ∀ d : D, d.noD = true → PyData.eqv d.toP d.toP = true
  | .non, _ => by simp [D.toP, PyData.eqv]
  | .bl _, _ => by simp [D.toP, PyData.eqv]
  | .int _, _ => by simp [D.toP, PyData.eqv]
  | .str _, _ => by simp [D.toP, PyData.eqv]
  | .tup ds, h => by simpa [D.toP, PyData.eqv] using eqvl_self ds (by simpa [D.noD] using h)
  | .lst ds, h => by simpa [D.toP, PyData.eqv] using eqvl_self ds (by simpa [D.noD] using h)
  | .scr ns, _ => by
    simp only [D.toP, PyData.eqv]
    exact eqvp_ints ns
  | .ctup ns, _ => by
    simp only [D.toP, PyData.eqv]
    exact eqvp_strs ns
  | .dct _ _, h => by simp [D.noD] at h
  | .dcT _ _, h => by simp [D.noD] at h
  | .ndc, h => by simp [D.noD] at h
  | .adr _, h => by simp [D.noD] at h
theorem eqvl_self : ∀ ds : List D, D.noDl ds = true → PyData.eqvAll (D.toPl ds) (D.toPl ds) = true
  | [], _ => by simp [D.toPl, PyData.eqvAll]
  | d :: ds, h => by
    simp only [D.noDl, Bool.and_eq_true] at h
    simp [D.toPl, PyData.eqvAll, eqv_self' d h.1, eqvl_self ds h.2]
end
theorem eqv_self {d : D} (h : shp d = true) : eqv d d = true := eqv_self' d (shp_dp h).1
/-- == and != of what is the same -/
theorem notBoth {d e : D} (h : shp d = true) : bothD d e = false := by
  cases d <;> first | rfl | (simp [shp, D.noD] at h)
theorem eqA_same {d : D} (n : Nat) (hn : n ≤ 60) (h : lv n d = true) : eqA d d = .ok (.bl true) := by
  have s := shp_lv n hn h
  unfold eqA
  rw [notBoth s]
  simp [eqD, s, eqv_self s]
theorem neA_same {d : D} (n : Nat) (hn : n ≤ 60) (h : lv n d = true) : neA d d = .ok (.bl false) := by
  have s := shp_lv n hn h
  unfold neA
  rw [notBoth s]
  simp [neD, s, eqv_self s]
theorem eqA_sh {d e : D} (n : Nat) (hn : n ≤ 60) (h : lv n d = true) (h' : lv n e = true) : eqA d e = .ok (.bl (eqv d e)) := by
  have s := shp_lv n hn h
  have s' := shp_lv n hn h'
  unfold eqA
  rw [notBoth s]
  simp [eqD, s, s']
theorem neA_sh {d e : D} (n : Nat) (hn : n ≤ 60) (h : lv n d = true) (h' : lv n e = true) : neA d e = .ok (.bl (!eqv d e)) := by
  have s := shp_lv n hn h
  have s' := shp_lv n hn h'
  unfold neA
  rw [notBoth s]
  simp [neD, s, s']
section
variable (i j : Int) (a b : Str) (xs ys : List D)
@[simp] theorem eqA_int : eqA (.int i) (.int j) = .ok (.bl (decide (i = j))) := by
  rw [eqA_sh 0 (by decide) (by simp) (by simp)]
  simp [eqv, D.toP, PyData.eqv, BEq.beq]
@[simp] theorem neA_int : neA (.int i) (.int j) = .ok (.bl (!decide (i = j))) := by
  rw [neA_sh 0 (by decide) (by simp) (by simp)]
  simp [eqv, D.toP, PyData.eqv, BEq.beq]
theorem eqA_str (ha : PyData.strOk a = true) (hb : PyData.strOk b = true) : eqA (.str a) (.str b) = .ok (.bl (decide (a = b))) := by
  rw [eqA_sh 0 (by decide) (by simpa using ha) (by simpa using hb)]
  simp only [eqv, D.toP, PyData.eqv]
  by_cases h : a = b
  · subst h; simp
  · simp [h]
end
theorem eqvl_ints : ∀ ns ms : List Int, PyData.eqvAll (ns.map .int) (ms.map .int) = decide (ns = ms)
  | [], [] => rfl
  | [], _ :: _ => rfl
  | _ :: _, [] => rfl
  | n :: ns, m :: ms => by
    simp only [List.map_cons, PyData.eqvAll, PyData.eqv, eqvl_ints ns ms]
    by_cases h : n = m <;> by_cases h2 : ns = ms <;> simp [h, h2]
theorem toPl_ints : ∀ ns : List Int, D.toPl (ns.map .int) = ns.map .int
  | [] => rfl
  | n :: ns => by simp [D.toPl, D.toP, toPl_ints ns]
theorem eqA_ints (ns ms : List Int) : eqA (.lst (ns.map .int)) (.lst (ms.map .int)) = .ok (.bl (decide (ns = ms))) := by
  rw [eqA_sh 1 (by decide) (by simp) (by simp)]
  simp [eqv, D.toP, PyData.eqv, toPl_ints, eqvl_ints]
theorem neA_ints (ns ms : List Int) : neA (.lst (ns.map .int)) (.lst (ms.map .int)) = .ok (.bl (!decide (ns = ms))) := by
  rw [neA_sh 1 (by decide) (by simp) (by simp)]
  simp [eqv, D.toP, PyData.eqv, toPl_ints, eqvl_ints]
theorem eqA_nil {xs : List D} (n : Nat) (hn : n ≤ 60) (h : lv n (.lst xs) = true) : eqA (.lst xs) (.lst []) = .ok (.bl xs.isEmpty) := by
  cases n with
  | zero => simp [lv] at h
  | succ n =>
    rw [eqA_sh (n + 1) hn h (by simp)]
    cases xs <;> simp [eqv, D.toP, D.toPl, PyData.eqv, PyData.eqvAll]
theorem neA_nil {xs : List D} (n : Nat) (hn : n ≤ 60) (h : lv n (.lst xs) = true) : neA (.lst xs) (.lst []) = .ok (.bl (!xs.isEmpty)) := by
  cases n with
  | zero => simp [lv] at h
  | succ n =>
    rw [neA_sh (n + 1) hn h (by simp)]
    cases xs <;> simp [eqv, D.toP, D.toPl, PyData.eqv, PyData.eqvAll]
theorem eqA_scr (ns : List Int) : eqA (.scr ns) (.lst []) = .ok (.bl (decide (ns = []))) := by
  rw [eqA_sh 1 (by decide) (by simp) (by simp)]
  cases ns <;> simp [eqv, D.toP, D.toPl, PyData.eqv, PyData.eqvAll]
/-! ## lists of bools, of ints -/
theorem boolsOf_map : ∀ bs : List Bool, boolsOf (bs.map .bl) = some bs
  | [] => rfl
  | b :: bs => by simp [boolsOf, boolsOf_map bs]
theorem intsOf_map : ∀ bs : List Int, intsOf (bs.map .int) = some bs
  | [] => rfl
  | b :: bs => by simp [intsOf, intsOf_map bs]
theorem allD_map (bs : List Bool) : allD [.lst (bs.map .bl)] = .ok (.bl (bs.all id)) := by simp [allD, boolsOf_map]
theorem anyD_map (bs : List Bool) : anyD [.lst (bs.map .bl)] = .ok (.bl (bs.any id)) := by simp [anyD, boolsOf_map]
theorem sumD_map (bs : List Int) : sumD [.lst (bs.map .int)] = .ok (.int bs.sum) := by simp [sumD, intsOf_map]
theorem maxD_map (bs : List Int) (h : bs ≠ []) : maxD [.lst (bs.map .int)] = .ok (.int (maxI bs)) := by simp [maxD, intsOf_map, List.length_pos_iff.mpr h]
/-! ## sorted ints -/
theorem leP_int (a b : Int) : leP (.int a) (.int b) = decide (a ≤ b) := by
  simp [leP, PySem.W.dataLe, PySem.W.sortLe, D.toP, PySem.W.keyToks, PyProof.Rows.listOrd, PyProof.Rows.itemOrd, PyProof.Rows.lexLt, PyProof.Rows.itemLt]
  by_cases h : a ≤ b
  · simp [h]
  · simp [h]; omega
def srt (ns : List Int) : List Int := ns.mergeSort (fun a b => decide (a ≤ b))
theorem srt_perm (ns : List Int) : (srt ns).Perm ns := List.mergeSort_perm _ _
theorem srt_sorted (ns : List Int) : (srt ns).Pairwise (· ≤ ·) := by
  have := List.pairwise_mergeSort (le := fun a b : Int => decide (a ≤ b)) (fun a b c h1 h2 => by simp at *; omega) (fun a b => by simp; omega) ns
  exact this.imp fun h => by simpa using h
theorem srt_len (ns : List Int) : (srt ns).length = ns.length := (srt_perm ns).length_eq
theorem sorted_unique : ∀ {xs ys : List Int}, xs.Perm ys → xs.Pairwise (· ≤ ·) → ys.Pairwise (· ≤ ·) → xs = ys  
  | [], ys, p, _, _ => (List.nil_perm.mp p).symm
  | x :: xs, [], p, _, _ => absurd p.length_eq (by simp)
  | x :: xs, y :: ys, p, h1, h2 => by
    have a := List.pairwise_cons.mp h1
    have b := List.pairwise_cons.mp h2
    have e : x = y := by
      have hx : x ∈ y :: ys := p.subset (by simp)
      have hy : y ∈ x :: xs := p.symm.subset (by simp)
      rcases List.mem_cons.mp hx with q | q
      · exact q
      · rcases List.mem_cons.mp hy with r | r
        · exact r.symm
        · exact Int.le_antisymm (a.1 y r) (b.1 x q)
    subst e
    rw [sorted_unique (List.Perm.cons_inv p) a.2 b.2]
theorem srt_of {ns ms : List Int} (p : ms.Perm ns) (h : ms.Pairwise (· ≤ ·)) : srt ns = ms := sorted_unique ((srt_perm ns).trans p.symm) (srt_sorted ns) h
theorem okSort_ints (ns : List Int) (h : ns.length ≤ sizeLine) : okSort (ns.map .int) = true := by
  simp [okSort, h, D.noD, D.toP, PySem.W.alike, PyData.depth]
theorem sort_ints (ns : List Int) : (ns.map D.int).mergeSort leP = (srt ns).map .int := by
  unfold srt
  exact (List.map_mergeSort (fun a _ b _ => (leP_int a b).symm)).symm
theorem sortedD_lst (ns : List Int) (h : ns.length ≤ sizeLine) : sortedD [.lst (ns.map .int)] = .ok (.lst ((srt ns).map .int)) := by
  simp [sortedD, itemsD, okSort_ints ns h, sort_ints]
theorem sortedD_tup (ns : List Int) (h : ns.length ≤ sizeLine) : sortedD [.tup (ns.map .int)] = .ok (.lst ((srt ns).map .int)) := by
  simp [sortedD, itemsD, okSort_ints ns h, sort_ints]
theorem sortedD_dct (ns : List Int) (ds : List D) (h : ns.length ≤ sizeLine) : sortedD [.dct (ns.map .inl) ds] = .ok (.lst ((srt ns).map .int)) := by
  have : (ns.map (Sum.inl : Int → Key)).map kD = ns.map .int := by rw [List.map_map]; rfl
  simp only [sortedD, itemsD, this, okSort_ints ns h, sort_ints, if_pos]
/-! ## isinstance -/
section
variable (i : Int) (b : Bool) (x : Str) (ds : List D) (ks : List Key)
@[simp] theorem isi_ii : isi .int (.int i) = .ok true := nr rfl
@[simp] theorem isi_ib : isi .int (.bl b) = .ok true := nr rfl
@[simp] theorem isi_is : isi .int (.str x) = .ok false := nr rfl
@[simp] theorem isi_in : isi .int .non = .ok false := nr rfl
@[simp] theorem isi_it : isi .int (.tup ds) = .ok false := nr rfl
@[simp] theorem isi_il : isi .int (.lst ds) = .ok false := nr rfl
@[simp] theorem isi_bi : isi .bool (.int i) = .ok false := nr rfl
@[simp] theorem isi_bb : isi .bool (.bl b) = .ok true := nr rfl
@[simp] theorem isi_ss : isi .str (.str x) = .ok true := nr rfl
@[simp] theorem isi_tt : isi .tuple (.tup ds) = .ok true := nr rfl
@[simp] theorem isi_ll : isi .list (.lst ds) = .ok true := nr rfl
@[simp] theorem isi_dd : isi .dict (.dct ks ds) = .ok true := nr rfl
@[simp] theorem isi_lt : isi .list (.tup ds) = .ok false := nr rfl
@[simp] theorem isi_tl : isi .tuple (.lst ds) = .ok false := nr rfl
end
/-! ## subscripts -/
theorem atI_n {α : Type} {xs : List α} {i : Nat} {x : α} (h : xs[i]? = some x) : atI xs (i : Int) = some x := atI_nat h
@[simp] theorem atI_0 {α : Type} (x : α) (xs : List α) : atI (x :: xs) 0 = some x := atI_n (i := 0) rfl
@[simp] theorem atI_1 {α : Type} (x y : α) (xs : List α) : atI (x :: y :: xs) 1 = some y := atI_n (i := 1) rfl
@[simp] theorem atI_2 {α : Type} (x y z : α) (xs : List α) : atI (x :: y :: z :: xs) 2 = some z := atI_n (i := 2) rfl
@[simp] theorem atI_3 {α : Type} (x y z w : α) (xs : List α) : atI (x :: y :: z :: w :: xs) 3 = some w := atI_n (i := 3) rfl
@[simp] theorem atI_4 {α : Type} (x y z w v : α) (xs : List α) : atI (x :: y :: z :: w :: v :: xs) 4 = some v := atI_n (i := 4) rfl
theorem atI_mod {α : Type} {xs : List α} {i : Int} (h0 : 0 ≤ i) (h : i < xs.length) : ∃ x, atI xs i = some x ∧ x ∈ xs := by
  obtain ⟨n, rfl⟩ := Int.eq_ofNat_of_zero_le h0
  have hn : n < xs.length := by omega
  exact ⟨xs[n], atI_n (List.getElem?_eq_getElem hn), List.getElem_mem hn⟩
/-! ## numbers -/
@[simp] theorem mod_ok {i j : Int} (h : 0 < j) : modD (.int i) (.int j) = .ok (.int (i % j)) := if_pos h
@[simp] theorem fdiv_ok {i j : Int} (h : 0 < j) (h2 : j.natAbs < 2 ^ 128) : fdivD (.int i) (.int j) = .ok (.int (i / j)) := if_pos ⟨h, by
  have : j.natAbs.log2 < 128 := (Nat.log2_lt (by omega)).mpr h2
  omega⟩
/-! ## comprehensions, dict() of pairs -/
theorem lcM_gen {α : Type} {g : D → Env → Res Env} {te : Env → Res D} {ρ : Env} (k : α → D) (h : α → D) : ∀ (xs : List α), (∀ x ∈ xs, ∃ ρ1, g (k x) ρ = .ok ρ1 ∧ te ρ1 = .ok (h x)) → lcM g yesR te ρ (xs.map k) = .ok (xs.map h)
  | [], _ => rfl
  | x :: xs, q => by
    obtain ⟨ρ1, e1, e2⟩ := q x (by simp)
    have ih := lcM_gen k h xs fun y hy => q y (by simp [hy])
    simp [lcM, e1, e2, ih]
theorem mergeD_nodup : ∀ {more acc : List (Key × D)}, ((acc ++ more).map (·.1)).Nodup → mergeD acc more = acc ++ more
  | [], acc, _ => by simp [mergeD]
  | (k, d) :: more, acc, n => by
    have h : (acc.any fun kv => decide (kv.1 = k)) = false := by
      rw [List.any_eq_false]
      intro kv hk
      simp only [decide_eq_true_eq]
      intro e
      rw [List.map_append, List.nodup_append] at n
      exact n.2.2 kv.1 (List.mem_map.mpr ⟨kv, hk, rfl⟩) k (by simp) e
    show mergeD (putK' acc k d) more = _
    unfold putK'
    rw [h, if_neg (by decide), mergeD_nodup (by simpa using n)]
    simp
theorem pairsOf_gen {α : Type} (k : α → Int) (f : α → D) : ∀ (xs : List α), Mr.pairsOf (xs.map fun x => .tup [.int (k x), f x]) = some (xs.map fun x => (.inl (k x), f x))
  | [] => rfl
  | x :: xs => by simp [Mr.pairsOf, pairOf, two2, keyOf, pairsOf_gen k f xs]
theorem dictD_gen {α : Type} (k : α → Int) (f : α → D) (xs : List α) (n : (xs.map k).Nodup) : dictD [.lst (xs.map fun x => .tup [.int (k x), f x])] = .ok (.dct (xs.map fun x => .inl (k x)) (xs.map f)) := by
  simp only [dictD, pairsOf_gen]
  rw [mergeD_nodup]
  · simp [unz]
    try rfl
  · simp only [List.nil_append, List.map_map]
    have : ((fun x : Key × D => x.1) ∘ fun x => (Sum.inl (k x), f x)) = (Sum.inl ∘ k) := rfl
    rw [this, ← List.map_map]
    exact List.Pairwise.map _ (fun a b h e => h (by simpa using e)) n
/-! ## dicts by ints -/
def dm (kvs : List (Int × D)) : D := .dct (kvs.map fun x => .inl x.1) (kvs.map (·.2))
theorem dm_gen {α : Type} (k : α → Int) (f : α → D) (xs : List α) : dm (xs.map fun x => (k x, f x)) = .dct (xs.map fun x => .inl (k x)) (xs.map f) := by
  simp [dm, Function.comp_def]
theorem lookK_mem : ∀ {kvs : List (Int × D)} {k : Int} {d : D}, (kvs.map (·.1)).Nodup → (k, d) ∈ kvs → lookK (kvs.map fun x => (.inl x.1 : Key)) (kvs.map (·.2)) (.inl k) = some d
  | y :: kvs, k, d, n, h => by
    simp only [List.map_cons, List.nodup_cons] at n
    rcases List.mem_cons.mp h with e | e
    · subst e; simp [lookK]
    · have hne : ¬ y.1 = k := fun z => n.1 (z ▸ List.mem_map.mpr ⟨(k, d), e, rfl⟩)
      simp only [List.map_cons, lookK]
      rw [if_neg (by simpa using hne)]
      exact lookK_mem n.2 e
theorem ix_dm {kvs : List (Int × D)} {k : Int} {d : D} (n : (kvs.map (·.1)).Nodup) (h : (k, d) ∈ kvs) : ixD (dm kvs) (.int k) = .ok d := by
  simp only [dm, ixD_dct, lookK_mem n h, oD_some]
theorem ix_last {kvs : List (Int × D)} {k : Int} {d : D} (n : (kvs.map (·.1)).Nodup) (h : k ∉ kvs.map (·.1)) : ixD (dm (kvs ++ [(k, d)])) (.int k) = .ok d := by
  refine ix_dm ?_ (by simp)
  rw [List.map_append, List.nodup_append]
  exact ⟨n, by simp, fun a ha b hb e => h (by rw [List.map_singleton, List.mem_singleton] at hb; have hb : b = k := hb; rw [← hb, ← e]; exact ha)⟩
theorem iter_dm (kvs : List (Int × D)) : iterD (dm kvs) = .ok (kvs.map fun x => .int x.1) := by
  simp only [dm, iterD, List.map_map]
  rfl
theorem zip_dm (kvs : List (Int × D)) : (kvs.map fun x => (.inl x.1 : Key)).zip (kvs.map (·.2)) = kvs.map fun x => (.inl x.1, x.2) := by
  induction kvs with
  | nil => rfl
  | cons a r ih => simp [ih]
theorem any_dm {kvs : List (Int × D)} {k : Int} (h : k ∉ kvs.map (·.1)) : ((kvs.map fun x => ((.inl x.1 : Key), x.2)).any fun kv => decide (kv.1 = .inl k)) = false := by
  rw [List.any_eq_false]
  intro kv hk
  obtain ⟨x, hx, rfl⟩ := List.mem_map.mp hk
  simp only [decide_eq_true_eq]
  intro e
  exact h (List.mem_map.mpr ⟨x, hx, by simpa using e⟩)
theorem dput_new {i : Nat} {ρ : Env} {d : D} {kvs : List (Int × D)} {k : Int} (h : k ∉ kvs.map (·.1)) (hl : kvs.length < 1000000) : dputK i ρ d (.int k) (dm kvs) = .ok (.nx (ρ.set i (dm (kvs ++ [(k, d)])))) := by
  unfold dm
  rw [dputK_int, if_pos (by rw [List.length_map]; exact Nat.lt_of_lt_of_le hl (by decide)), zip_dm]
  unfold putK'
  rw [any_dm h, if_neg (by decide)]
  simp [unz]
  try rfl
theorem dput_last {i : Nat} {ρ : Env} {d d0 : D} {kvs : List (Int × D)} {k : Int} (h : k ∉ kvs.map (·.1)) (hl : kvs.length + 1 < 1000000) : dputK i ρ d (.int k) (dm (kvs ++ [(k, d0)])) = .ok (.nx (ρ.set i (dm (kvs ++ [(k, d)])))) := by
  unfold dm
  rw [dputK_int, if_pos (by rw [List.length_map, List.length_append, List.length_singleton]; exact Nat.lt_of_lt_of_le hl (by decide)), zip_dm]
  unfold putK'
  have ha : ((List.map (fun x : Int × D => ((Sum.inl x.1 : Key), x.2)) (kvs ++ [(k, d0)])).any fun kv => decide (kv.1 = .inl k)) = true := by simp
  rw [ha, if_pos rfl]
  have hm : (List.map (fun x : Int × D => ((Sum.inl x.1 : Key), x.2)) kvs).map (fun kv => if kv.1 = .inl k then (kv.1, d) else kv) = List.map (fun x : Int × D => ((Sum.inl x.1 : Key), x.2)) kvs := by
    rw [List.map_map]
    refine List.map_congr_left fun x hx => ?_
    have : ¬ x.1 = k := fun e => h (List.mem_map.mpr ⟨x, hx, e⟩)
    simp [this]
  rw [List.map_append, List.map_append, hm]
  simp [unz]
  try rfl
theorem hits_self {kvs : List (Int × D)} (n : (kvs.map (·.1)).Nodup) (hs : ∀ x ∈ kvs, shp x.2 = true) : ∀ ys : List (Int × D), (∀ y ∈ ys, y ∈ kvs) → hitsD (kvs.map fun x => .inl x.1) (kvs.map (·.2)) (ys.map fun x => (.inl x.1, x.2)) = true
  | [], _ => rfl
  | y :: ys, h => by
    have hy := h y (by simp)
    simp only [List.map_cons, hitsD, lookK_mem n hy, eqv_self (hs y hy), Bool.true_and]
    exact hits_self n hs ys fun z hz => h z (by simp [hz])
theorem eqDct_self {kvs : List (Int × D)} (n : (kvs.map (·.1)).Nodup) (hs : ∀ x ∈ kvs, shp x.2 = true) : eqDct (dm kvs) (dm kvs) = some true := by
  have ha : (kvs.map (·.2)).all shp = true := by
    rw [List.all_eq_true]
    intro d hd
    obtain ⟨x, hx, rfl⟩ := List.mem_map.mp hd
    exact hs x hx
  simp only [eqDct, dm, ha, Bool.and_self, if_true, zip_dm, hits_self n hs kvs (fun _ h => h), beq_self_eq_true]
theorem neA_dm {kvs : List (Int × D)} (n : (kvs.map (·.1)).Nodup) (hs : ∀ x ∈ kvs, shp x.2 = true) : neA (dm kvs) (dm kvs) = .ok (.bl false) := by
  unfold neA
  rw [show bothD (dm kvs) (dm kvs) = true from rfl, if_pos rfl]
  simp [eqDD, eqDct_self n hs]
theorem eqA_dm {kvs : List (Int × D)} (n : (kvs.map (·.1)).Nodup) (hs : ∀ x ∈ kvs, shp x.2 = true) : eqA (dm kvs) (dm kvs) = .ok (.bl true) := by
  unfold eqA
  rw [show bothD (dm kvs) (dm kvs) = true from rfl, if_pos rfl]
  simp [eqDD, eqDct_self n hs]
theorem in_ints (i : Int) (ns : List Int) : inD (.int i) (.lst (ns.map .int)) = .ok (decide (i ∈ ns)) := by
  have h : (ns.map D.int).all flat = true := by simp [flat]
  have e : (ns.map D.int).any (fun z => eqv z (.int i)) = decide (i ∈ ns) := by
    induction ns with
    | nil => rfl
    | cons n ns ih =>
      simp only [List.map_cons, List.any_cons, ih (by simp [flat])]
      have : eqv (.int n) (.int i) = decide (n = i) := by simp [eqv, D.toP, PyData.eqv, BEq.beq]
      rw [this]
      by_cases q : n = i
      · subst q; simp
      · have q' : ¬ i = n := fun z => q z.symm
        simp [q, q']
  simp only [inD, show flat (.int i) = true from rfl, h, Bool.and_self, if_true, e]
theorem inV_ints (neg : Bool) (i : Int) (ns : List Int) : inV' neg (.int i) (.lst (ns.map .int)) = .ok (.bl (if neg then !decide (i ∈ ns) else decide (i ∈ ns))) := by
  simp [inV', in_ints]
/-! ## range -/
theorem forM_append {b : D → Env → Res Fl} : ∀ {ds es : List D} {ρ : Env}, forM b (ds ++ es) ρ = (forM b ds ρ).bind (seqK (forM b es))
  | [], es, ρ => rfl
  | d :: ds, es, ρ => by
    show (b d ρ).bind _ = ((b d ρ).bind _).bind _
    cases b d ρ with
    | ok fl =>
      cases fl with
      | nx ρ' => exact forM_append (ds := ds) (es := es) (ρ := ρ')
      | rt _ _ => rfl
    | ex c => rfl
    | bad => rfl
theorem forM_one {b : D → Env → Res Fl} {d : D} {ρ : Env} : forM b [d] ρ = b d ρ := by
  show (b d ρ).bind _ = _
  cases b d ρ with
  | ok fl => cases fl <;> rfl
  | ex c => rfl
  | bad => rfl
def rngK1 : List D → Res (List D)
  | [.int j] => if -(2 ^ 62) ≤ j ∧ j < 2 ^ 62 then .ok ((List.range j.toNat).map fun i => .int (0 + (i : Nat))) else .bad
  | _ => .bad
def rngK2 : List D → Res (List D)
  | [.int i, .int j] => if -(2 ^ 62) ≤ i ∧ i < 2 ^ 62 ∧ -(2 ^ 62) ≤ j ∧ j < 2 ^ 62 then .ok ((List.range (j - i).toNat).map fun k => .int (i + (k : Nat))) else .bad
  | _ => .bad
def rngK3 : List D → Res (List D)
  | [.int i, .int j, .int c] => if c = -1 ∧ -(2 ^ 62) ≤ i ∧ i < 2 ^ 62 ∧ -(2 ^ 62) ≤ j ∧ j < 2 ^ 62 then .ok ((List.range (i - j).toNat).map fun k => .int (i + (k : Nat) * c)) else .bad
  | _ => .bad
@[simp] theorem rng1_ap (fa : Env → Res (List D)) (ρ : Env) : rng1 fa ρ = (fa ρ).bind rngK1 := by unfold rng1 rngK1; rfl
@[simp] theorem rng2_ap (fa : Env → Res (List D)) (ρ : Env) : rng2 fa ρ = (fa ρ).bind rngK2 := by unfold rng2 rngK2; rfl
@[simp] theorem rng3_ap (fa : Env → Res (List D)) (ρ : Env) : rng3 fa ρ = (fa ρ).bind rngK3 := by unfold rng3 rngK3; rfl
/-- the ints from i, n of them -/
def upI (i : Int) (n : Nat) : List Int := (List.range n).map fun k => i + (k : Nat)
theorem upI_at {i : Int} {n k : Nat} {x : Int} (h : (upI i n)[k]? = some x) : x = i + k ∧ k < n := by
  unfold upI at h
  rw [List.getElem?_map] at h
  by_cases q : k < n
  · rw [List.getElem?_range q] at h
    cases h
    exact ⟨rfl, q⟩
  · rw [List.getElem?_eq_none (by simpa using q)] at h
    cases h
theorem upI_len (i : Int) (n : Nat) : (upI i n).length = n := by simp [upI]
theorem upI_succ (i : Int) (n : Nat) : upI i (n + 1) = upI i n ++ [i + n] := by simp [upI, List.range_succ]
theorem upI_mem {i : Int} {n : Nat} {x : Int} : x ∈ upI i n ↔ i ≤ x ∧ x < i + n := by
  unfold upI
  rw [List.mem_map]
  constructor
  · rintro ⟨k, hk, rfl⟩
    have := List.mem_range.mp hk
    omega
  · rintro ⟨h1, h2⟩
    exact ⟨(x - i).toNat, List.mem_range.mpr (by omega), by omega⟩
theorem upI_lt (i : Int) : ∀ n, (upI i n).Pairwise (· < ·)
  | 0 => by simp [upI]
  | n + 1 => by
    rw [upI_succ, List.pairwise_append]
    refine ⟨upI_lt i n, by simp, fun x hx y hy => ?_⟩
    rw [List.mem_singleton] at hy
    have := (upI_mem.mp hx).2
    omega
theorem upI_nodup (i : Int) (n : Nat) : (upI i n).Nodup := (upI_lt i n).imp fun h => Int.ne_of_lt h
theorem upI_le (i : Int) (n : Nat) : (upI i n).Pairwise (· ≤ ·) := (upI_lt i n).imp fun h => Int.le_of_lt h
theorem rngK1_ok {j : Int} (h2 : j < 2 ^ 62) (h1 : -(2 ^ 62) ≤ j) : rngK1 [.int j] = .ok ((upI 0 j.toNat).map .int) := by
  refine (if_pos ⟨h1, h2⟩).trans ?_
  simp [upI]
theorem rngK2_ok {i j : Int} (h1 : -(2 ^ 62) ≤ i ∧ i < 2 ^ 62) (h2 : -(2 ^ 62) ≤ j ∧ j < 2 ^ 62) : rngK2 [.int i, .int j] = .ok ((upI i (j - i).toNat).map .int) := by
  refine (if_pos ⟨h1.1, h1.2, h2.1, h2.2⟩).trans ?_
  simp [upI]
theorem sum_const {c : Int} : ∀ {l : List Int}, (∀ y ∈ l, y = c) → l.sum = l.length * c
  | [], _ => by simp
  | y :: l, h => by
    rw [List.sum_cons, sum_const (fun z hz => h z (by simp [hz])), h y (by simp), List.length_cons, Int.natCast_add, Int.add_mul]
    omega
end Mr

namespace Mr
variable [TabsOf]
open PySem PySem.Spec PyProof.Rows L2
open Res
section
variable {X : Cx} {H0 : Hp} {Z : Zt} {W : WX} {ω ωr : List Sh} {τr : Sh} {pos : Pos}
/-! ## slices -/
abbrev Part := Option Int
variable (X H0 Z W ω) in
def POX (e : Option Expr) (f : Env → Res Part) : Prop := ∃ t, PO X e t ∧ ∀ ρ σ H Q, SR X.K H0 Z ω ρ σ H → Post (fun o => ∀ H', Ext H H' → Q o H') (EK X H0 Z W) (f ρ) → t σ H Q
def nonB (_ : Env) : Res Part := .ok none
def partD : D → Res Part
  | .int i => .ok (some i)
  | _ => .bad
def someB (f : Env → Res D) (ρ : Env) : Res Part := (f ρ).bind partD
theorem sp_none : POX X H0 Z W ω none nonB := ⟨_, po_none, fun ρ σ H Q sr ps => ps H (Ext.refl H)⟩
theorem sp_some {e : Expr} {f : Env → Res D} (h : PX X H0 Z W ω e f .fz) : POX X H0 Z W ω (some e) (someB f) := by
  obtain ⟨t, p, s⟩ := h
  refine ⟨_, po_some p, fun ρ σ H Q sr ps => s ρ σ H _ sr ((Post.bind.mp ps).mono (fun d q v H1 g => ?_) fun _ h => h)⟩
  cases d <;> first | exact (show False from q).elim | skip
  exact ⟨_, g.r, q H1 g.ext⟩
def cutL {α : Type} (xs : List α) (lo hi : Part) : List α := (xs.drop (HT.sIx xs.length 0 lo)).take (HT.sIx xs.length xs.length hi - HT.sIx xs.length 0 lo)
theorem cutL_len {α : Type} (xs : List α) (lo hi : Part) : (cutL xs lo hi).length ≤ xs.length := by
  unfold cutL
  rw [List.length_take, List.length_drop]
  omega
theorem cutL_all {α : Type} {xs : List α} {lo hi : Part} (h1 : HT.sIx xs.length 0 lo = 0) (h2 : HT.sIx xs.length xs.length hi = xs.length) : cutL xs lo hi = xs := by
  unfold cutL
  rw [h1, h2]
  simp
def slK (x : D) (lo hi : Part) : Res D := match x with
  | .lst xs => .ok (.lst (cutL xs lo hi))
  | .tup xs => .ok (.tup (cutL xs lo hi))
  | .str z => if z.length ≤ sizeLine then .ok (.str (cutS z lo hi)) else .bad
  | _ => .bad
theorem slK_ne (x : D) (lo hi : Part) (c : Str) : slK x lo hi ≠ .ex c := by unfold slK; split <;> (repeat' split) <;> (intro h; cases h)
def slF (f : Env → Res D) (g h : Env → Res Part) (ρ : Env) : Res D := (f ρ).bind fun x => (g ρ).bind fun lo => (h ρ).bind fun hi => slK x lo hi
theorem Rl.cut {K : Fr} {H : Hp} {ds : List D} {vs : List V} (l : Rl K H ds vs) (lo hi : Part) : Rl K H (cutL ds lo hi) (cutV vs lo hi) := by
  unfold cutL cutV
  rw [l.length]
  exact (l.drop _).take _
def rSlc (K : Fr) : V → Part → Part → Hp → VK → Prop := fun x lo hi H Q => (rSlL K x lo hi H Q ∨ rSlA K x lo hi H Q) ∨ rSlS x lo hi H Q
theorem sl_any : SlR X (rSlc X.K) := SlR.or (SlR.or sl_list sl_tupA) sl_str
def OpSl (K : Fr) (τ : Sh) (k : D → Part → Part → Res D) : Prop := ∀ (d : D) (v : V) (lo hi : Part) (H : Hp) (Q : VK), RV K H d v → Post (fun x => ∀ w H', Got K H τ x w H' → Q w H') (fun _ => False) (k d lo hi) → rSlc K v lo hi H Q
/-- a text's or a tuple's part -/
def slT (x : D) (lo hi : Part) : Res D := match x with
  | .tup xs => .ok (.tup (cutL xs lo hi))
  | .str z => if z.length ≤ sizeLine then .ok (.str (cutS z lo hi)) else .bad
  | _ => .bad
theorem slT_s {K : Fr} : OpSl K .fz slT := by
  intro d v lo hi H Q r ps
  cases d <;> first | exact (show False from ps).elim | skip
  · rename_i z
    obtain ⟨c, p⟩ := Post.ite ps
    exact .inr ⟨z, r, c, p _ H (Got.fz (Ext.refl H) rfl)⟩
  · rename_i ds
    obtain ⟨a, vs, rfl, f, z, l⟩ := r
    have e := l.length
    refine .inl (.inr ⟨a, vs, rfl, .of f, fun hw => ?_, fun _ p hp => ps _ _ (Got.tup (Ext.refl H) hp (l.cut lo hi) (Nat.le_trans (cutV_length vs lo hi) z))⟩)
    rw [e] at hw
    have := ps (.ref a) H (Got.fz (Ext.refl H) (by rw [cutL_all hw.1 hw.2]; exact ⟨a, vs, rfl, f, z, l⟩))
    exact this
/-- a list's part -/
def slL (x : D) (lo hi : Part) : Res D := match x with
  | .lst xs => .ok (.lst (cutL xs lo hi))
  | _ => .bad
theorem slL_s {K : Fr} : OpSl K (.own .fz) slL := by
  intro d v lo hi H Q r ps
  cases d <;> first | exact (show False from ps).elim | skip
  obtain ⟨a, vs, rfl, f, z, l⟩ := r
  exact .inl (.inl ⟨a, vs, rfl, f.sq, fun p hp => ps _ _ (Got.lst (Ext.refl H) hp (l.cut lo hi) (Nat.le_trans (cutV_length vs lo hi) z))⟩)
theorem px_sl1 {τ : Sh} {k : D → Part → Part → Res D} (hs : OpSl X.K τ k) (ne : ∀ x lo hi c, k x lo hi ≠ .ex c) {e : Expr} {lo hi : Option Expr} {f : Env → Res D} {g h : Env → Res Part} {p2 : Pos} (he : PVX X H0 Z W ω e f) (hl : POX X H0 Z W ω lo g) (hu : POX X H0 Z W ω hi h) :
    PX X H0 Z W ω (.Subscript e (.Slice lo hi none p2) pos) (fun ρ => (f ρ).bind fun x => (g ρ).bind fun lo => (h ρ).bind fun hi => k x lo hi) τ := by
  obtain ⟨t, p, s⟩ := he
  obtain ⟨tl, pl, sl⟩ := hl
  obtain ⟨tu, pu, su⟩ := hu
  refine ⟨_, pe_slice sl_any p pl pu, fun ρ σ H Q sr ps => ?_⟩
  refine s ρ σ H _ sr ((Post.bind.mp ps).mono (fun d q v H1 g1 => ?_) fun _ h => h)
  refine sl ρ σ H1 _ (sr.mono g1.1) ((Post.bind.mp q).mono (fun o1 q H2 x2 => ?_) fun _ h => h)
  refine su ρ σ H2 _ ((sr.mono g1.1).mono x2) ((Post.bind.mp q).mono (fun o2 q H3 x3 => ?_) fun _ h => h)
  refine hs d v o1 o2 H3 Q ((g1.2.ext x2).ext x3) ?_
  cases e : k d o1 o2 with
  | ok z => rw [e] at q; exact fun w H' g3 => q w H' (((g3.from x3).from x2).from g1.1)
  | ex c => exact absurd e (ne _ _ _ c)
  | bad => rw [e] at q; exact q
theorem slT_ne (x : D) (lo hi : Part) (c : Str) : slT x lo hi ≠ .ex c := by unfold slT; split <;> (repeat' split) <;> (intro h; cases h)
theorem slL_ne (x : D) (lo hi : Part) (c : Str) : slL x lo hi ≠ .ex c := by unfold slL; split <;> (intro h; cases h)
/-- any of them, frozen -/
theorem px_slice {e : Expr} {lo hi : Option Expr} {f : Env → Res D} {g h : Env → Res Part} {p2 : Pos} (he : PVX X H0 Z W ω e f) (hl : POX X H0 Z W ω lo g) (hu : POX X H0 Z W ω hi h) :
    PX X H0 Z W ω (.Subscript e (.Slice lo hi none p2) pos) (slF f g h) .fz := by
  obtain ⟨t1, p1, s1⟩ := (px_sl1 (pos := pos) (p2 := p2) slL_s slL_ne he hl hu).freeze
  obtain ⟨t2, p2', s2⟩ := px_sl1 (pos := pos) (p2 := p2) slT_s slT_ne he hl hu
  refine ⟨_, pe_or2 p1 p2', fun ρ σ H Q sr ps => ?_⟩
  have ps := Post.bind.mp ps
  cases e1 : f ρ with
  | ex c => rw [e1] at ps; exact .inl (s1 ρ σ H Q sr (by dsimp only; rw [e1]; exact ps))
  | bad => rw [e1] at ps; exact ps.elim
  | ok d =>
    rw [e1] at ps
    have ps := Post.bind.mp (show Post _ _ ((g ρ).bind _) from ps)
    cases e2 : g ρ with
    | ex c => rw [e2] at ps; exact .inl (s1 ρ σ H Q sr (by dsimp only; rw [e1]; simp only [ok_bind]; rw [e2]; exact ps))
    | bad => rw [e2] at ps; exact ps.elim
    | ok o1 =>
      rw [e2] at ps
      have ps := Post.bind.mp (show Post _ _ ((h ρ).bind _) from ps)
      cases e3 : h ρ with
      | ex c => rw [e3] at ps; exact .inl (s1 ρ σ H Q sr (by dsimp only; rw [e1]; simp only [ok_bind]; rw [e2]; simp only [ok_bind]; rw [e3]; exact ps))
      | bad => rw [e3] at ps; exact ps.elim
      | ok o2 =>
        rw [e3] at ps
        have ps : Post (fun d => ∀ v H', Got X.K H .fz d v H' → Q v H') (EK X H0 Z W) (slK d o1 o2) := ps
        cases d <;> first
          | exact (show False from ps).elim
          | exact .inl (s1 ρ σ H Q sr (by dsimp only; rw [e1]; simp only [ok_bind]; rw [e2]; simp only [ok_bind]; rw [e3]; exact ps))
          | exact .inr (s2 ρ σ H Q sr (by dsimp only; rw [e1]; simp only [ok_bind]; rw [e2]; simp only [ok_bind]; rw [e3]; exact ps))
/-- xs[::-1] -/
def revD : D → Res D
  | .lst xs => .ok (.lst xs.reverse)
  | _ => .bad
def revF (f : Env → Res D) (ρ : Env) : Res D := (f ρ).bind revD
theorem px_rev {e : Expr} {f : Env → Res D} {k : Nat} {p1 p2 p3 : Pos} (he : PVX X H0 Z W ω e f) : PX X H0 Z W ω (.Subscript e (.Slice none none (some (.UnaryOp .USub (.Constant (.int 1) k p1) p2)) p3) pos) (revF f) (.own .fz) := by
  obtain ⟨t, p, s⟩ := he
  refine ⟨_, pe_revL p, fun ρ σ H Q sr ps => s ρ σ H _ sr ((Post.bind.mp ps).mono (fun d q v H1 g => ?_) fun _ h => h)⟩
  cases d <;> first | exact (show False from q).elim | skip
  obtain ⟨a, vs, rfl, f, z, l⟩ := g.2
  exact ⟨a, vs, rfl, f.sq, fun p hp => q _ _ (Got.lst g.1 hp l.reverse (by rw [List.length_reverse]; exact z))⟩

/-! ## x or y, of ints and None -/
def orNK (g : Env → Res D) (ρ : Env) : D → Res D
  | .non => g ρ
  | .int i => if i = 0 then g ρ else .ok (.int i)
  | _ => .bad
def orN (f g : Env → Res D) (ρ : Env) : Res D := (f ρ).bind (orNK g ρ)
theorem px_orN {a b : Expr} {rest : List Expr} {f g : Env → Res D} (ha : PX X H0 Z W ω a f .fz) (hb : PX X H0 Z W ω (.BoolOp .Or (b :: rest) pos) g .fz) : PX X H0 Z W ω (.BoolOp .Or (a :: b :: rest) pos) (orN f g) .fz := by
  obtain ⟨ta, pa, sa⟩ := ha
  obtain ⟨tb, pb, sb⟩ := hb
  refine ⟨_, pe_orT pa pb, fun ρ σ H Q sr ps => sa ρ σ H _ sr ((Post.bind.mp ps).mono (fun d q v H1 g1 => ?_) fun _ h => h)⟩
  cases d <;> first | exact (show False from q).elim | skip
  · have e : v = .non := g1.r
    subst e
    exact ⟨false, rfl, iteF (sb ρ σ H1 Q (sr.mono g1.ext) ((show Post _ _ (g ρ) from q).mono (fun b q w H2 y => q w H2 (y.from g1.ext)) fun _ h => h))⟩
  · rename_i i
    have e : v = .int i := g1.r
    subst e
    by_cases hi : i = 0
    · subst hi
      exact ⟨false, rfl, iteF (sb ρ σ H1 Q (sr.mono g1.ext) ((show Post _ _ (g ρ) from q).mono (fun b q w H2 y => q w H2 (y.from g1.ext)) fun _ h => h))⟩
    · have q : Post _ _ (if i = 0 then g ρ else .ok (.int i)) := q
      rw [if_neg hi] at q
      exact ⟨true, by show true = (i != 0); simp [hi], iteT (q _ H1 (Got.fz g1.ext rfl))⟩

/-! ## {k: v, ..} -/
variable (X H0 Z W ω) in
def PPX (pos : Pos) (ks : List (Option Expr)) (vs : List Expr) (f : Env → Res (List (Key × D))) : Prop := ∃ t, PPs X pos ks vs t ∧ ∀ ρ σ H Q, SR X.K H0 Z ω ρ σ H → Post (fun kvs => ∀ ws H', Ext H H' → KVR X.K H' kvs ws → Q (ws.map fun kv => (kV kv.1, kv.2)) H') (EK X H0 Z W) (f ρ) → tPairs t σ H Q
def nilP (_ : Env) : Res (List (Key × D)) := .ok []
def consPK3 (y d : D) (r : List (Key × D)) : Res (List (Key × D)) := match keyOf y with
  | some k => .ok ((k, d) :: r)
  | none => .bad
def consPK2 (g : Env → Res (List (Key × D))) (ρ : Env) (y d : D) : Res (List (Key × D)) := (g ρ).bind (consPK3 y d)
def consPK1 (fv : Env → Res D) (g : Env → Res (List (Key × D))) (ρ : Env) (y : D) : Res (List (Key × D)) := (fv ρ).bind (consPK2 g ρ y)
def consP (fk fv : Env → Res D) (g : Env → Res (List (Key × D))) (ρ : Env) : Res (List (Key × D)) := (fk ρ).bind (consPK1 fv g ρ)
theorem KVR.ext {K : Fr} {H H' : Hp} {kvs : List (Key × D)} {ws : List (Key × V)} (h : KVR K H kvs ws) (x : Ext H H') : KVR K H' kvs ws := by
  unfold KVR at h ⊢
  induction h with
  | nil => exact .nil
  | cons h _ ih => exact .cons ⟨h.1, h.2.ext x⟩ ih
theorem KVR.keep {K : Fr} {H H' : Hp} {kvs : List (Key × D)} {ws : List (Key × V)} (h : KVR K H kvs ws) (x : KeepF H H') : KVR K H' kvs ws := by
  unfold KVR at h ⊢
  induction h with
  | nil => exact .nil
  | cons h _ ih => exact .cons ⟨h.1, R.keep x _ h.2⟩ ih
theorem ppx_nil : PPX X H0 Z W ω pos [] [] nilP := ⟨_, pps_nil, fun ρ σ H Q sr ps => ps [] H (Ext.refl H) .nil⟩
theorem ppx_cons {k v : Expr} {ks : List (Option Expr)} {vs : List Expr} {fk fv : Env → Res D} {g : Env → Res (List (Key × D))} (hk : PX X H0 Z W ω k fk .fz) (hv : PX X H0 Z W ω v fv .fz) (hr : PPX X H0 Z W ω pos ks vs g) : PPX X H0 Z W ω pos (some k :: ks) (v :: vs) (consP fk fv g) := by
  obtain ⟨tk, pk, sk⟩ := hk
  obtain ⟨tv, pv, sv⟩ := hv
  obtain ⟨tr, pr, sr'⟩ := hr
  refine ⟨_, pps_cons pk pv pr, fun ρ σ H Q sr ps => ?_⟩
  refine sk ρ σ H _ sr ((Post.bind.mp ps).mono (fun y q u H1 g1 => ?_) fun _ h => h)
  refine sv ρ σ H1 _ (sr.mono g1.ext) ((Post.bind.mp q).mono (fun d q v H2 g2 => ?_) fun _ h => h)
  refine sr' ρ σ H2 _ ((sr.mono g1.ext).mono g2.ext) ((Post.bind.mp q).mono (fun r q ws H3 x3 kr => ?_) fun _ h => h)
  unfold consPK3 at q
  cases ek : keyOf y with
  | none => rw [ek] at q; exact q.elim
  | some k =>
    rw [ek] at q
    have eu := keyOf_v g1.r ek
    subst eu
    exact q ((k, v) :: ws) H3 ((g1.ext.trans g2.ext).trans x3) (.cons ⟨rfl, g2.r.ext x3⟩ kr)
def dspK (kvs : List (Key × D)) : Res D := .ok (unz (mergeD [] kvs))
def dspF (f : Env → Res (List (Key × D))) (ρ : Env) : Res D := (f ρ).bind dspK
theorem len_pairs {K : Fr} {H : Hp} {kvs : List (Key × D)} {ws : List (Key × V)} (h : KVR K H kvs ws) : ws.length = kvs.length := by
  unfold KVR at h
  induction h with
  | nil => rfl
  | cons _ _ ih => simp [ih]
theorem px_dsp {ks : List (Option Expr)} {vs : List Expr} {f : Env → Res (List (Key × D))} (h : PPX X H0 Z W ω pos ks vs f) (hlen : ∀ ρ kvs, f ρ = .ok kvs → kvs.length ≤ 15) (hall : ks.all (·.isSome) = true := by rfl) (hl : ks.length = vs.length := by rfl) (h0 : ks ≠ [] := by simp) (h15 : ks.length ≤ 15 := by decide) :
    PX X H0 Z W ω (.Dict ks vs pos) (dspF f) (.ownD .fz) := by
  obtain ⟨t, p, s⟩ := h
  refine ⟨_, pe_disp p hall hl h0 h15, fun ρ σ H Q sr ps q hq => ?_⟩
  have x0 : Ext H (upd H q (.dK [])) := Ext.new hq
  have ps := Post.bind.mp ps
  refine s ρ σ _ _ (sr.mono x0) ?_
  cases e : f ρ with
  | bad => rw [e] at ps; exact ps
  | ex c => rw [e] at ps; exact ps
  | ok kvs =>
    rw [e] at ps
    intro ws H2 x2 kr
    have e2 : H2 q = some (.dK []) := x2 _ _ upd_same fun ps h => by cases h
    refine ⟨e2, ws, rfl, by rw [len_pairs kr]; exact hlen ρ kvs e, ?_⟩
    have k3 : KeepF H2 (upd H2 q (.dK (mergeK [] ws))) := fun b o e f => by
      rw [upd_ne (fun z => by subst z; rw [e2] at e; cases e; exact f)]
      exact e
    have kr3 : KVR X.K (upd H2 q (.dK (mergeK [] ws))) (mergeD [] kvs) (mergeK [] ws) := by
      exact KVR.keep (kr.merge .nil) k3
    obtain ⟨ew, rl⟩ := kr3.zip
    refine ps (.ref q) _ ⟨⟨fun b o e nt => ?_, (x0.tab.trans x2.tab).trans (TabK.upd e2 trivial)⟩, [q], ⟨_, _, q, _, [], rfl, rfl, by rw [upd_same, ← ew], by simp, rfl, All3.of_rl rl⟩, by simpa using Fre.of hq, by simp⟩
    rw [upd_ne (ne_of_none e hq)]
    exact x2 _ _ (x0 _ _ e nt) nt
theorem len_nilP (ρ : Env) (kvs : List (Key × D)) (h : nilP ρ = .ok kvs) : kvs.length ≤ 0 := by cases h; exact Nat.le_refl _
theorem len_consP {fk fv : Env → Res D} {g : Env → Res (List (Key × D))} {n : Nat} (hg : ∀ ρ kvs, g ρ = .ok kvs → kvs.length ≤ n) (ρ : Env) (kvs : List (Key × D)) (h : consP fk fv g ρ = .ok kvs) : kvs.length ≤ n + 1 := by
  unfold consP at h
  cases e1 : fk ρ with
  | ok y =>
    rw [e1, ok_bind, consPK1] at h
    cases e2 : fv ρ with
    | ok d =>
      rw [e2, ok_bind, consPK2] at h
      cases e3 : g ρ with
      | ok r =>
        rw [e3, ok_bind, consPK3] at h
        split at h
        · cases h; simpa using hg ρ r e3
        · cases h
      | ex c => rw [e3] at h; cases h
      | bad => rw [e3] at h; cases h
    | ex c => rw [e2] at h; cases h
    | bad => rw [e2] at h; cases h
  | ex c => rw [e1] at h; cases h
  | bad => rw [e1] at h; cases h

/-! ## simp -/
variable (ρ : Env) (f : Env → Res D) (g h : Env → Res Part)
@[simp] theorem nonB_ap : nonB ρ = .ok none := nr rfl
@[simp] theorem partD_int (i : Int) : partD (.int i) = .ok (some i) := nr rfl
@[simp] theorem someB_ap : someB f ρ = (f ρ).bind partD := nr rfl
def slK2 (h : Env → Res Part) (ρ : Env) (x : D) (lo : Part) : Res D := (h ρ).bind (slK x lo)
def slK1 (g h : Env → Res Part) (ρ : Env) (x : D) : Res D := (g ρ).bind (slK2 h ρ x)
@[simp] theorem slF_ap : slF f g h ρ = (f ρ).bind (slK1 g h ρ) := nr rfl
@[simp] theorem slK1_ap (x : D) : slK1 g h ρ x = (g ρ).bind (slK2 h ρ x) := nr rfl
@[simp] theorem slK2_ap (x : D) (lo : Part) : slK2 h ρ x lo = (h ρ).bind (slK x lo) := nr rfl
@[simp] theorem slK_tup (xs : List D) (lo hi : Part) : slK (.tup xs) lo hi = .ok (.tup (cutL xs lo hi)) := nr rfl
@[simp] theorem slK_lst (xs : List D) (lo hi : Part) : slK (.lst xs) lo hi = .ok (.lst (cutL xs lo hi)) := nr rfl
@[simp] theorem revF_ap : revF f ρ = (f ρ).bind revD := nr rfl
@[simp] theorem revD_lst (xs : List D) : revD (.lst xs) = .ok (.lst xs.reverse) := nr rfl
variable (f' : Env → Res D)
@[simp] theorem orN_ap : orN f f' ρ = (f ρ).bind (orNK f' ρ) := nr rfl
@[simp] theorem orNK_non : orNK f' ρ .non = f' ρ := nr rfl
@[simp] theorem orNK_int (i : Int) : orNK f' ρ (.int i) = if i = 0 then f' ρ else .ok (.int i) := nr rfl
variable (p : Env → Res (List (Key × D)))
@[simp] theorem nilP_ap : nilP ρ = .ok [] := nr rfl
@[simp] theorem consP_ap : consP f f' p ρ = (f ρ).bind (consPK1 f' p ρ) := nr rfl
@[simp] theorem consPK1_ap (y : D) : consPK1 f' p ρ y = (f' ρ).bind (consPK2 p ρ y) := nr rfl
@[simp] theorem consPK2_ap (y d : D) : consPK2 p ρ y d = (p ρ).bind (consPK3 y d) := nr rfl
@[simp] theorem consPK3_int (i : Int) (d : D) (r : List (Key × D)) : consPK3 (.int i) d r = .ok ((.inl i, d) :: r) := nr rfl
@[simp] theorem consPK3_str (i : Str) (d : D) (r : List (Key × D)) : consPK3 (.str i) d r = .ok ((.inr i, d) :: r) := nr rfl
@[simp] theorem dspF_ap : dspF p ρ = (p ρ).bind dspK := nr rfl
@[simp] theorem dspK_ap (kvs : List (Key × D)) : dspK kvs = .ok (unz (mergeD [] kvs)) := nr rfl
end
end Mr

namespace Mr

open PySem PySem.Spec PyProof.Rows L2
open Res
@[simp] theorem atI_5 {α : Type} (x y z w v u : α) (xs : List α) : atI (x :: y :: z :: w :: v :: u :: xs) 5 = some u := atI_n (i := 5) rfl
@[simp] theorem atI_6 {α : Type} (x y z w v u t : α) (xs : List α) : atI (x :: y :: z :: w :: v :: u :: t :: xs) 6 = some t := atI_n (i := 6) rfl
@[simp] theorem tupK_6 (a b c d e f : D) : tupK [a, b, c, d, e, f] = .ok (.tup [a, b, c, d, e, f]) := tupK_ok (sz9 (by simp))
@[simp] theorem lstK_6 (a b c d e f : D) : lstK [a, b, c, d, e, f] = .ok (.lst [a, b, c, d, e, f]) := lstK_ok (sz9 (by simp))
@[simp] theorem lstK_7 (a b c d e f g : D) : lstK [a, b, c, d, e, f, g] = .ok (.lst [a, b, c, d, e, f, g]) := lstK_ok (sz9 (by simp))
@[simp] theorem lstK_8 (a b c d e f g h : D) : lstK [a, b, c, d, e, f, g, h] = .ok (.lst [a, b, c, d, e, f, g, h]) := lstK_ok (sz9 (by simp))
@[simp] theorem lstK_9 (a b c d e f g h i : D) : lstK [a, b, c, d, e, f, g, h, i] = .ok (.lst [a, b, c, d, e, f, g, h, i]) := lstK_ok (sz9 (by simp))
/-! ## a key put, old or new -/
def ups {β : Type} (kvs : List (Int × β)) (k : Int) (b : β) : List (Int × β) := if k ∈ kvs.map (·.1) then kvs.map (fun x => if x.1 = k then (k, b) else x) else kvs ++ [(k, b)]
section
variable {β : Type} {kvs : List (Int × β)} {k : Int} {b : β}
theorem ups_keys : (ups kvs k b).map (·.1) = if k ∈ kvs.map (·.1) then kvs.map (·.1) else kvs.map (·.1) ++ [k] := by
  unfold ups
  split
  · rw [List.map_map]
    refine List.map_congr_left fun x _ => ?_
    show (if x.1 = k then (k, b) else x).1 = x.1
    split
    · rename_i h; exact h.symm
    · rfl
  · simp
theorem ups_nodup (n : (kvs.map (·.1)).Nodup) : ((ups kvs k b).map (·.1)).Nodup := by
  rw [ups_keys]
  split
  · exact n
  · rename_i h
    rw [List.nodup_append]
    exact ⟨n, by simp, fun a ha c hc e => h (by rw [List.mem_singleton] at hc; rw [← hc, ← e]; exact ha)⟩
theorem ups_len : (ups kvs k b).length ≤ kvs.length + 1 := by
  unfold ups
  split <;> simp
theorem ups_all {P : Int × β → Prop} (h : ∀ x ∈ kvs, P x) (hb : P (k, b)) : ∀ x ∈ ups kvs k b, P x := by
  intro x hx
  unfold ups at hx
  split at hx
  · obtain ⟨y, hy, rfl⟩ := List.mem_map.mp hx
    split
    · exact hb
    · exact h y hy
  · rcases List.mem_append.mp hx with hx | hx
    · exact h x hx
    · rw [List.mem_singleton] at hx; subst hx; exact hb
theorem ups_map {γ : Type} (f : β → γ) : (ups kvs k b).map (fun x => (x.1, f x.2)) = ups (kvs.map fun x => (x.1, f x.2)) k (f b) := by
  have e : (kvs.map fun x => (x.1, f x.2)).map (·.1) = kvs.map (·.1) := by simp
  unfold ups
  rw [e]
  split
  · rw [List.map_map, List.map_map]
    refine List.map_congr_left fun x _ => ?_
    show ((if x.1 = k then (k, b) else x).1, f (if x.1 = k then (k, b) else x).2) = (if x.1 = k then (k, f b) else (x.1, f x.2))
    split <;> rfl
  · simp
end
theorem dput_ups {i : Nat} {ρ : Env} {d : D} {kvs : List (Int × D)} {k : Int} (hl : kvs.length < 1000000) : dputK i ρ d (.int k) (dm kvs) = .ok (.nx (ρ.set i (dm (ups kvs k d)))) := by
  by_cases h : k ∈ kvs.map (·.1)
  · unfold dm
    rw [dputK_int, if_pos (by rw [List.length_map]; exact Nat.lt_of_lt_of_le hl (by decide)), zip_dm]
    unfold putK'
    have ha : ((kvs.map fun x => ((.inl x.1 : Key), x.2)).any fun kv => decide (kv.1 = .inl k)) = true := by
      rw [List.any_eq_true]
      obtain ⟨x, hx, e⟩ := List.mem_map.mp h
      exact ⟨_, List.mem_map.mpr ⟨x, hx, rfl⟩, by simp [e]⟩
    rw [ha, if_pos rfl]
    unfold ups
    rw [if_pos h]
    have hm : (kvs.map fun x => ((.inl x.1 : Key), x.2)).map (fun kv => if kv.1 = .inl k then (kv.1, d) else kv) = (kvs.map fun x => if x.1 = k then (k, d) else x).map fun x => ((.inl x.1 : Key), x.2) := by
      rw [List.map_map, List.map_map]
      refine List.map_congr_left fun x _ => ?_
      by_cases q : x.1 = k
      · simp [q]
      · simp [q]
    rw [hm]
    simp [unz]
    try rfl
  · rw [dput_new h hl]
    unfold ups
    rw [if_neg h]
/-! ## dicts alike in another order -/
theorem eqDct_perm {kvs lvs : List (Int × D)} (p : kvs.Perm lvs) (n : (kvs.map (·.1)).Nodup) (hs : ∀ x ∈ kvs, shp x.2 = true) : eqDct (dm kvs) (dm lvs) = some true := by
  have n' : (lvs.map (·.1)).Nodup := (p.map (·.1)).nodup_iff.mp n
  have hs' : ∀ x ∈ lvs, shp x.2 = true := fun x hx => hs x (p.symm.subset hx)
  have all : ∀ zs : List (Int × D), (∀ x ∈ zs, shp x.2 = true) → (zs.map (·.2)).all shp = true := fun zs h => by
    rw [List.all_eq_true]
    intro d hd
    obtain ⟨x, hx, rfl⟩ := List.mem_map.mp hd
    exact h x hx
  have hl : kvs.length = lvs.length := p.length_eq
  have hh := hits_self n' hs' kvs fun y hy => p.subset hy
  simp only [eqDct, dm, all kvs hs, all lvs hs', Bool.and_self, if_true, zip_dm, hh, List.length_map, hl, beq_self_eq_true]
theorem neA_perm {kvs lvs : List (Int × D)} (p : kvs.Perm lvs) (n : (kvs.map (·.1)).Nodup) (hs : ∀ x ∈ kvs, shp x.2 = true) : neA (dm kvs) (dm lvs) = .ok (.bl false) := by
  unfold neA
  rw [show bothD (dm kvs) (dm lvs) = true from rfl, if_pos rfl]
  simp [eqDD, eqDct_perm p n hs]
theorem eqA_perm {kvs lvs : List (Int × D)} (p : kvs.Perm lvs) (n : (kvs.map (·.1)).Nodup) (hs : ∀ x ∈ kvs, shp x.2 = true) : eqA (dm kvs) (dm lvs) = .ok (.bl true) := by
  unfold eqA
  rw [show bothD (dm kvs) (dm lvs) = true from rfl, if_pos rfl]
  simp [eqDD, eqDct_perm p n hs]
@[simp] theorem neA_bl (a b : Bool) : neA (.bl a) (.bl b) = .ok (.bl (a != b)) := by
  rw [neA_sh 0 (by decide) (by simp) (by simp)]
  simp [eqv, D.toP, PyData.eqv]
  cases a <;> cases b <;> rfl
@[simp] theorem eqA_bl (a b : Bool) : eqA (.bl a) (.bl b) = .ok (.bl (a == b)) := by
  rw [eqA_sh 0 (by decide) (by simp) (by simp)]
  simp [eqv, D.toP, PyData.eqv]
@[simp] theorem tupleD_lst (xs : List D) : tupleD [.lst xs] = .ok (.tup xs) := nr rfl
@[simp] theorem tupleD_tup (xs : List D) : tupleD [.tup xs] = .ok (.tup xs) := nr rfl
@[simp] theorem listD_tup (xs : List D) : listD [.tup xs] = .ok (.lst xs) := nr rfl
@[simp] theorem listD_lst (xs : List D) : listD [.lst xs] = .ok (.lst xs) := nr rfl
theorem addD_lst {xs ys : List D} (h : xs.length + ys.length ≤ 1000000) : addD (.lst xs) (.lst ys) = .ok (.lst (xs ++ ys)) := if_pos (sz9 h)
theorem addD_tup {xs ys : List D} (h : xs.length + ys.length ≤ 1000000) : addD (.tup xs) (.tup ys) = .ok (.tup (xs ++ ys)) := if_pos (sz9 h)
/-! ## a list sorted, told by its order -/
theorem exists_sorted {β : Type} (hs : List (Int × β)) : ∃ hs' : List (Int × β), hs'.Perm hs ∧ (hs'.map (·.1)).Pairwise (· ≤ ·) := by
  refine ⟨hs.mergeSort (fun a b => decide (a.1 ≤ b.1)), List.mergeSort_perm _ _, ?_⟩
  have := List.pairwise_mergeSort (le := fun a b : Int × β => decide (a.1 ≤ b.1)) (fun a b c h1 h2 => by simp at *; omega) (fun a b => by simp; omega) hs
  exact List.Pairwise.map _ (fun a b h => by simpa using h) this
/-! ## the greatest -/
theorem maxI_ge : ∀ {ns : List Int} {x : Int}, x ∈ ns → x ≤ maxI ns
  | [a], x, h => by simp at h; simp [maxI, h]
  | a :: b :: r, x, h => by
    show x ≤ max a (maxI (b :: r))
    rcases List.mem_cons.mp h with e | e
    · subst e; exact Int.le_max_left _ _
    · exact Int.le_trans (maxI_ge e) (Int.le_max_right _ _)
/-! ## cut -/
theorem cutL_from {α : Type} (xs : List α) (n : Nat) : cutL xs (some (n : Int)) none = xs.drop n := by
  unfold cutL
  rw [HT.sIx_nat, HT.sIx_none]
  by_cases h : n ≤ xs.length
  · rw [Nat.min_eq_left h, List.take_of_length_le (by rw [List.length_drop]; exact Nat.le_refl _)]
  · rw [Nat.min_eq_right (by omega), List.drop_eq_nil_of_le (by omega), List.drop_eq_nil_of_le (by omega)]
    simp
theorem cutL_to {α : Type} (xs : List α) (n : Nat) : cutL xs none (some (n : Int)) = xs.take n := by
  unfold cutL
  rw [HT.sIx_none, HT.sIx_nat, List.drop_zero, Nat.sub_zero]
  by_cases h : n ≤ xs.length
  · rw [Nat.min_eq_left h]
  · rw [Nat.min_eq_right (by omega), List.take_of_length_le (Nat.le_refl _), List.take_of_length_le (by omega)]
end Mr

namespace Mr
variable [TabsOf]
open PySem PySem.Spec PyProof.Rows L2
open Res
/-! ## a loop that turns at least once: names of its body are known behind it -/
def forW (ω : List Sh) (b : D → Env → Res Fl) : List D → Env → Res Fl
  | [], ρ => .ok (.nx ρ)
  | d :: ds, ρ => (b d (killE ω ρ)).bind fun fl => match fl with
    | .nx ρ' => forW ω b ds ρ'
    | .rt d ρ' => .ok (.rt d ρ')
def forF1 (ω : List Sh) (fi : Env → Res (List D)) (g : D → Env → Res Env) (b : Env → Res Fl) (ρ : Env) : Res Fl := (fi ρ).bind fun ds => if ds = [] then .bad else forW ω (bodyF g b) ds ρ
section
variable {X : Cx} {H0 : Hp} {Z : Zt} {W : WX} {ω ωr : List Sh} {τr : Sh} {pos : Pos}
theorem sx_for1 {tg e : Expr} {body : List Stmt} {fi : Env → Res (List D)} {g : D → Env → Res Env} {ω1 ω2 : List Sh} {b : Env → Res Fl} (hp : PassesOwn (model X.prog X.w) X.A X.env X.xe) (hc : X.calm = true) (hi : IX X H0 Z W ω tg e fi) (hg : TGX X H0 Z ω ω1 tg g) (hb : BX X H0 Z W ω1 ω2 ωr τr body b) (ng : ∀ d ρ c, g d ρ ≠ .ex c) (hw : wkB ω2 ω = true := by rfl) (hw0 : wkB ω ω = true := by rfl)
    (hs : ∀ x, foldedSetIterable e X.env x = pure x := by intro _; rfl) : SX X H0 Z W ω ω2 ωr τr (.For tg e body [] pos) (forF1 ω fi g b) := by
  obtain ⟨wi, pi, si⟩ := hi
  obtain ⟨tg', pg, sg⟩ := hg
  obtain ⟨tb, pb, sb⟩ := hb
  refine ⟨_, ps_for hp hc pi pg pb hs, fun ρ σ H Dn sr ps => ?_⟩
  refine si ρ σ H _ sr ((Post.bind.mp ps).mono (fun ds q J H1 x it => ?_) fun _ h => h)
  obtain ⟨hne, q⟩ : ds ≠ [] ∧ Post (FK X H0 Z ω2 ωr τr H Dn) (EK X H0 Z W) (forW ω (bodyF g b) ds ρ) := by
    by_cases h : ds = []
    · rw [if_pos h] at q; exact q.elim
    · rw [if_neg h] at q; exact ⟨h, q⟩
  have hpos : 0 < ds.length := List.length_pos_iff.mpr hne
  refine ⟨fun i m σ H2 => m = ds.length - i ∧ i ≤ ds.length ∧ KeepF H1 H2 ∧ ∃ ρ, ((i = 0 ∧ SR X.K H0 Z ω ρ σ H2) ∨ (0 < i ∧ SR X.K H0 Z ω2 ρ σ H2)) ∧ Post (FK X H0 Z ω2 ωr τr H Dn) (EK X H0 Z W) (forW ω (bodyF g b) (ds.drop i) ρ), ⟨ds.length, by simp, Nat.zero_le _, KeepF.refl H1, ρ, .inl ⟨rfl, sr.mono x⟩, by simpa using q⟩, ?_⟩
  rintro i m σ2 H2 ⟨rfl, hi, k, ρ2, sr2, q2⟩
  obtain ⟨st, gr⟩ := it i H2 k
  by_cases hlt : i < ds.length
  · have hd : ds.drop i = ds[i] :: ds.drop (i + 1) := List.drop_eq_getElem_cons hlt
    obtain ⟨go, yl⟩ := gr ds[i] (List.getElem?_eq_getElem hlt)
    rw [hd] at q2
    have srk : SR X.K H0 Z ω (killE ω ρ2) σ2 H2 := sr2.elim (fun z => z.2.wk hw0) fun z => z.2.wk hw
    refine .inr ⟨go, fun σ' H' => KeepF H1 H' ∧ ∃ ρ, SR X.K H0 Z ω2 ρ σ' H' ∧ Post (FK X H0 Z ω2 ωr τr H Dn) (EK X H0 Z W) (forW ω (bodyF g b) (ds.drop (i + 1)) ρ), fun σ' H' ⟨k', ρ', sr', q'⟩ => ⟨ds.length - (i + 1), by omega, rfl, hlt, k', ρ', .inr ⟨Nat.succ_pos _, sr'⟩, q'⟩, fun y H3 hy => ?_⟩
    obtain ⟨x3, r3⟩ := yl y H3 hy
    have q3 := Post.bind.mp (show Post _ _ ((bodyF g b ds[i] (killE ω ρ2)).bind _) from q2)
    refine sg ds[i] y (killE ω ρ2) σ2 H3 _ (srk.mono x3) r3 ?_
    cases eg : g ds[i] (killE ω ρ2) with
    | ex c => exact absurd eg (ng _ _ c)
    | bad => rw [bodyF, eg] at q3; exact q3.elim
    | ok ρ3 =>
      rw [bodyF, eg] at q3
      intro σ3 sr3
      refine sb ρ3 σ3 H3 _ sr3 ((show Post _ _ (b ρ3) from q3).mono (fun fl r => ?_) fun _ h => h)
      cases fl with
      | nx ρ4 => exact fun σ4 H4 k4 sr4 => ⟨(k.trans x3.keepF).trans k4, ρ4, sr4, r⟩
      | rt d ρ4 => exact r
  · have e : i = ds.length := by omega
    subst e
    rw [List.drop_length] at q2
    rcases sr2 with z | z
    · omega
    · exact .inl ⟨st (Nat.le_refl _), q2 σ2 H2 (x.keepF.trans k) z.2⟩
end
end Mr

namespace Mh
open PySem PySem.Spec PyProof.Rows L2 HotX L2H
/-! ## where an exception is handled: the end of a list's iterator -/
section
variable {P : Program} {w : World} {A : Around} {E : Value → Shared → Prop} {s : Shared}
theorem nextEnd {it l x1 : Addr} {i : Nat} {items : Array Value} {Q : Option Value → Shared → Prop} (hot : HotAt A x1 s.heap) (ni : x1 ≠ it) (a1 : s.heap.IsListIter it l i) (a2 : s.heap.IsList l items) (a3 : items[i]? = none)
    (q : ∀ g, (∀ b o, b ≠ it → s.heap.get? b = some o → g.get? b = some o) → Q none { s with heap := g }) : wpAny (model P w) A (pyNext (.ref it)) Q E s := by
  obtain ⟨o, g1, g2, g3⟩ := id a1
  obtain ⟨ol, g4, _, nl, g5⟩ := a2
  obtain ⟨k1, o1, vs1, k2, k3, k4⟩ := hot
  unfold pyNext
  refine wpAny_bind (wpAny_attempt (wpAny_callSpecial?_slot (name := Str.ofString "__next__") a1.typeIs slot_listiter_next (wpAny_call_entry slot_listiter_next a1.typeIs entry_listiter_next ?body (args_listiter_next _))))
  show wpAny _ _ (field (.ref it) 0 >>= _) _ _ _
  refine wpAny_bind (wpAny_field g1 g3 (x := .ref l) rfl ?f0)
  show wpAny _ _ (ite ((Value.ref l == Value.none) = true) _ _) _ _ _
  rw [if_neg (by exact Bool.false_ne_true : ¬ (Value.ref l == Value.none) = true)]
  show wpAny _ _ (field (.ref it) 1 >>= _) _ _ _
  refine wpAny_bind (wpAny_field g1 g3 (x := .int i 0) rfl ?f1)
  show wpAny _ _ (seqItems? (.ref l) >>= _) _ _ _
  refine wpAny_bind (wpAny_seqItems g4 g5 ?f2)
  simp only [a3, Int.toNat_natCast]
  refine wpAny_bind (wpAny_rule (wpAny_bind (wpAny_setField g1 g3 (by simp) ?f3)))
  show wpAny _ _ (newExc (.type "StopIteration") [] >>= _) _ _ _
  refine wpAny_bind ?f4
  simp only [newTuple, newExc]
  refine wpAny_bind (wpAny_newObj_type ?f5 (by size_fits))
  refine wpAny_bind (m := firstArgMember _ _) (wpAny_of_eq (a := Value.none) (by first | (simp only [firstArgMember]; rfl) | rfl) ?f6)
  refine wpAny_newObj_type ?f7 (by size_fits)
  have kk := (Heap.get?_update_other s.heap (Obj.mapFields fun z => z.setIfInBounds 0 Value.none) (Ne.symm ni)).trans k2
  refine raiseNew_hot ⟨k1, o1, vs1, Heap.get?_push_of_some _ (Heap.get?_push_of_some _ kk), k3, k4⟩ (Nat.ne_of_lt (Heap.lt_size (Heap.get?_push_of_some _ kk))) (Heap.get?_push_size _ rfl) rfl (by first | (simp; done) | (simp; omega) | (simp only [Array.size_append]; simp; omega)) ?f8
  refine wpAny_bind (wpAny_isInstance (T := "StopIteration") (b := true) ⟨_, Heap.get?_update_self _ (Heap.get?_push_size _ rfl) rfl, rfl⟩ isSubtype_stop ?f9)
  refine wpAny_pure (q _ fun b u nb e => ?_)
  have e' := (Heap.get?_update_other s.heap (Obj.mapFields fun z => z.setIfInBounds 0 Value.none) (Ne.symm nb)).trans e
  rw [Heap.get?_update_other _ _ (Nat.ne_of_gt (Heap.lt_size (Heap.get?_push_of_some _ e')))]
  exact Heap.get?_push_of_some _ (Heap.get?_push_of_some _ e')
/-- the walk over a list there -/
theorem walksHot {x1 it l : Addr} {oe : Obj} {vs : Array Value} (kh : A.handled = some (.ref x1)) (kd : oe.data = .fields vs) (kc : vs[2]? = some .none) (ni : x1 ≠ it) (nl : l ≠ it) (items : Array Value) :
    Walks P w A it [it, l, x1] [it] items.size (fun i v => items[i]? = some v) (fun i h => h.IsListIter it l i ∧ h.IsList l items ∧ h.get? x1 = some oe) where
  sub := fun b hb => by
    rw [List.mem_singleton] at hb
    rw [hb]
    exact List.mem_cons_self
  frame := fun i h h' ⟨⟨o, p1, p2, p3⟩, ⟨u, q1, q2, n, q3⟩, r⟩ k =>
    ⟨⟨o, k it (by simp) _ p1, p2, p3⟩, ⟨u, k l (by simp) _ q1, q2, n, q3⟩, k x1 (by simp) _ r⟩
  item := fun i s Q E hi ⟨p, q, r⟩ go => by
    refine wpAny_pyNext_list_item p q (Array.getElem?_eq_getElem hi) fun h' p' sb => ?_
    have keep : ∀ b u, b ≠ it → s.heap.get? b = some u → h'.get? b = some u := fun b u nb e => (sb.2 b nb).trans e
    obtain ⟨u, q1, q2, n, q3⟩ := q
    exact go _ _ s.toks (Array.getElem?_eq_getElem hi) ⟨p', ⟨u, keep l u nl q1, q2, n, q3⟩, keep x1 _ ni r⟩ fun b u nb e => keep b u (fun z => nb (by simp [z])) e
  done := fun s Q E ⟨p, q, r⟩ go => nextEnd (x1 := x1) ⟨kh, oe, vs, r, kd, kc⟩ ni p q (by simp) fun g k => go g s.toks fun b u nb e => k b u (fun z => nb (by simp [z])) e
  self := fun i s Q E ⟨p, _, _⟩ go => wpAny_pyIter_listiter p go
end
section
variable {X : Cx}
theorem sumHot (hot : HotC X) : CallR X (.builtin "sum") (rSum X.K) := by
  intro pins s σ H xs us Q I rel h
  obtain ⟨a, ns, rfl, hs, q⟩ := h
  obtain ⟨its, rv, hl, _⟩ := I.list hs
  rw [Vals.ref1 rel]
  obtain ⟨x1, kh, oe, vs, k1, k2, k3⟩ := hot.at I
  have hi := rv.ints
  obtain ⟨ps, e⟩ := hi.allInts.items
  have hn : numsOf (intItems ps).toList = ns := by rw [← e]; exact hi.numsOf
  rw [nums_intItems] at hn
  have hL : s.heap.IsList a (intItems ps) := by rw [← e]; exact hl.isList
  have la : a < s.heap.objs.size := let ⟨_, z, _⟩ := hL; Heap.lt_size z
  have lx : x1 < s.heap.objs.size := Heap.lt_size k1
  refine call_sum_walkG (wpAny_pyIter_list hL ?_)
  refine ⟨_, _, _, _, _, _, numAt ps, rfl, walksHot (A := X.A.in1) (it := s.heap.objs.size) (l := a) kh k2 k3 (Nat.ne_of_lt lx) (Nat.ne_of_lt la) (intItems ps), ⟨⟨_, Heap.get?_push_size _ rfl, rfl, rfl⟩, hL.push _, Heap.get?_push_of_some _ k1⟩, fun b hb => ?_, fun _ _ => intItems_at, fun h' tk t' hk => ?_⟩
  · show b < (s.heap.push _).objs.size
    rw [Heap.size_push]
    rcases List.mem_cons.mp hb with z | z
    · rw [z]; exact Nat.lt_succ_self _
    · rcases List.mem_cons.mp z with z | z
      · rw [z]; exact Nat.lt_succ_of_lt la
      · rw [List.mem_singleton] at z; rw [z]; exact Nat.lt_succ_of_lt lx
  · have ee : preSum (numAt ps) (intItems ps).size = ns.sum := by
      have : (intItems ps).size = ps.size := by simp [intItems]
      rw [this, preSum_eq, List.take_of_length_le (by simp), hn]
    rw [ee]
    exact ⟨.int _, H, I.kept fun b o z => hk b o (fun m => by
      rw [List.mem_singleton] at m
      exact absurd (m ▸ Heap.lt_size z) (Nat.lt_irrefl _)) (Heap.get?_push_of_some _ z), ⟨_, rfl⟩, q⟩
theorem flagsVals : ∀ {bs : List Bool} {zs : List Value}, Paired (fun v y => ∃ b t, v = Value.bool b ∧ y = Value.int (if b = true then 1 else 0) t) (bs.map Value.bool) zs → Vals (bs.map fun b => V.int (if b = true then 1 else 0)) zs
  | [], _, r => by rw [List.map_nil] at r; cases r; exact .nil
  | b :: bs, _, r => by
    rw [List.map_cons] at r
    cases r with
    | cons h1 h2 =>
      obtain ⟨b', t, e1, e2⟩ := h1
      cases e1
      subst e2
      exact .cons ⟨t, rfl⟩ (flagsVals h2)
theorem stands {w : World} {P : Program} {H : Hp} {h : Heap} {a : Addr} {o : HO} (x : ObjOk P w H h a o) : ∃ u, h.get? a = some u := by
  cases o with
  | lst _ => exact let ⟨_, _, _, _, e⟩ := x; ⟨_, e⟩
  | tup _ => exact let ⟨_, _, _, q⟩ := x; let ⟨u, e, _⟩ := q; ⟨u, e⟩
  | dK _ => exact let ⟨_, _, _, _, u, _, _, e, _⟩ := x; ⟨u, e⟩
  | dT _ => exact let ⟨_, _, _, _, u, _, _, e, _⟩ := x; ⟨u, e⟩
  | set _ _ => exact let ⟨u, _, _, _, e, _⟩ := x; ⟨u, e⟩
  | ins _ _ _ => exact let ⟨_, _, _, e, _⟩ := x; ⟨_, e⟩
  | own _ => exact let ⟨_, e⟩ := x; ⟨_, e⟩
  | xd _ => exact let ⟨_, ⟨u, _, _, e, _⟩, _⟩ := x; ⟨u, e⟩
  | rng _ _ => exact let ⟨_, _, _, e⟩ := x; ⟨_, e⟩
  | frz _ _ => exact let ⟨e, _⟩ := x; ⟨_, e⟩
  | tbl _ => exact ⟨_, x⟩
  | met _ _ => exact ⟨_, x⟩
  | ext _ => exact let ⟨_, e, _⟩ := x; e
/-- [int(x) for x in flags], flags a list of True and False -/
def tFlags (K : PySem.W.Frag) (te : TE) : TE := fun σ H Q => te σ H fun v H1 => ∃ (a : Addr) (bs : List Bool), v = .ref a ∧ SqL K H1 a (bs.map V.bl) ∧ bs.length ≤ sizeLine ∧ ∀ p, H1 p = none → Q (.ref p) (upd H1 p (.lst (bs.map fun b => V.int (if b then 1 else 0))))
theorem boolsAre {bs : List Bool} : ∀ {us : List Value}, Vals (bs.map V.bl) us → us = bs.map Value.bool := by
  induction bs with
  | nil => intro us r; cases r; rfl
  | cons b bs ih =>
    intro us r
    cases r with
    | cons r1 r2 => rw [ih r2, show _ = Value.bool b from r1]; rfl
theorem pe_flags (hot : HotC X) {x : Str} {px q1 q2 q3 pos : Pos} {iter : Expr} {te : TE} {scope : Scope} (he : PE X iter te) (hm : X.mg "int" = none)
    (n1 : ∀ y ∈ scope.names, y.2 ≠ .free) (n2 : ∀ y ∈ scope.names, y.2 ≠ .cell) (n3 : scope.kind = .function) (n4 : ∀ y ∈ scope.names, y.2 = .local → scope.names.lookup y.1 = some .local) (n5 : scope.names.lookup x = some .local) (n6 : scope.names.lookup ("int" : Str) = some NameKind.globalImplicit) (n7 : (x == ("__debug__" : Str)) = false)
    (hs : ∀ x, foldedSetIterable iter X.env x = pure x := by intro _; rfl) :
    PE X (.ListComp (.Call (.Name "int" q1) [.Name x q2] [] q3) [⟨.Name x px, iter, [], 0⟩] scope pos) (tFlags X.K te) := by
  refine ⟨fun pins s σ H Q I h => ?_⟩
  refine wpAny_ListComp_walk (fun _ => true) (fun v y => ∃ b t, v = Value.bool b ∧ y = Value.int (if b = true then 1 else 0) t) n1 n2 n3 n4 n5 (thn (he.run pins s σ H _ I h) fun v s1 ⟨u, H1, I1, rv, a, bs, e, hq, hz, q⟩ => ?_) hs
  subst e
  cases rv
  obtain ⟨its, rr, hl, _⟩ := I1.list hq
  have ei := boolsAre rr
  subst ei
  obtain ⟨x1, kh, oe, vs, k1, k2, k3⟩ := hot.at I1
  have hL : s1.heap.IsList a (bs.map Value.bool).toArray := hl.isList
  have la : a < s1.heap.objs.size := let ⟨_, z, _⟩ := hL; Heap.lt_size z
  have lx : x1 < s1.heap.objs.size := Heap.lt_size k1
  refine wpAny_pyIter_list hL ?_
  refine ⟨_, _, _, _, _, _, rfl, walksHot (A := X.A) (it := s1.heap.objs.size) (l := a) kh k2 k3 (Nat.ne_of_lt lx) (Nat.ne_of_lt la) (bs.map Value.bool).toArray, by simpa using hz, ⟨⟨_, Heap.get?_push_size _ rfl, rfl, rfl⟩, hL.push _, Heap.get?_push_of_some _ k1⟩, fun b hb => ?_, ?_, fun D h' tk ys ws hD hDl hDp hlen hP hF hk => ?_⟩
  · show b < (s1.heap.push _).objs.size
    rw [Heap.size_push]
    rcases List.mem_cons.mp hb with z | z
    · rw [z]; exact Nat.lt_succ_self _
    · rcases List.mem_cons.mp z with z | z
      · rw [z]; exact Nat.lt_succ_of_lt la
      · rw [List.mem_singleton] at z; rw [z]; exact Nat.lt_succ_of_lt lx
  · refine ⟨fun C i v s3 m3 E' hv hn hm3 hk htk => ?_, fun C i v s3 m3 E' hv _ hn hm3 hk htk => ?_⟩
    · exact wpAny_pure ⟨rfl, s3.heap, s3.toks, rfl, fun _ _ z => z⟩
    · obtain ⟨b, rfl⟩ : ∃ b, v = Value.bool b := by
        simp only [List.getElem?_toArray, List.getElem?_map] at hv
        cases hb : bs[i]? with
        | none => rw [hb] at hv; cases hv
        | some b => rw [hb] at hv; cases hv; exact ⟨b, rfl⟩
      have up : ∀ b o, X.base.get? b = some o → s3.heap.get? b = some o := fun b o z => by
        have z1 := I1.bk b o z
        refine hk b o (fun m => ?_) (Heap.get?_push_of_some _ z1)
        rw [List.mem_singleton] at m
        exact absurd (m ▸ Heap.lt_size z1) (Nat.lt_irrefl _)
      obtain ⟨mb, b1, b2⟩ := I1.mod.blt
      refine Call_ (Calls.Name_function_global n3 n6 (Calls.loadGlobal_builtin (mg := X.mg) (mb := mb) (by show s3.heap.Ns X.env.globals X.mg; rw [I1.ok.glob]; exact I1.mod.glob.keeps up) hm (by show s3.heap.Ns X.env.builtins mb; rw [I1.ok.blt]; exact b1.keeps up) ((b2 "int" (by decide)).trans (by decide +kernel : bootBuiltins "int" = some (.type "int"))) ?_))
      refine PyProof.Rows.callWith_type1 (Calls.spliced_cons (wpAny_Name (wpAny_loadName_local n3 n5 hn hm3 ?_) n7)) rfl rfl
      exact Calls.spliced_nil (call_int_bool ⟨⟨b, _, rfl, rfl⟩, s3.heap, _, rfl, fun _ _ z => z⟩)
  · have up : ∀ b o, s1.heap.get? b = some o → h'.get? b = some o := fun b o z => hk b o (fun m => by
      rw [List.mem_singleton] at m
      exact absurd (m ▸ Heap.lt_size z) (Nat.lt_irrefl _)) (Heap.get?_push_of_some _ z)
    have hD1 : s1.heap.get? D = none := by
      cases z : s1.heap.get? D with
      | none => rfl
      | some o => rw [Heap.get?_push_of_some _ z] at hD; cases hD
    have hDn : H1 D = none := by
      cases z : H1 D with
      | none => rfl
      | some o =>
        obtain ⟨u, z2⟩ := stands (I1.hok D o z)
        rw [hD1] at z2
        cases z2
    have ew : ws = bs.map Value.bool := by
      apply List.ext_getElem?
      intro j
      by_cases hj : j < ws.length
      · have := hP j ws[j] (List.getElem?_eq_getElem hj)
        rw [List.getElem?_toArray] at this
        rw [List.getElem?_eq_getElem hj, this]
      · rw [List.getElem?_eq_none (by omega), List.getElem?_eq_none (by simp at hlen ⊢; omega)]
    subst ew
    have hv : Vals (bs.map fun b => V.int (if b = true then 1 else 0)) ys.toList := by
      rw [List.filter_eq_self.mpr (fun _ _ => rfl)] at hF
      exact flagsVals hF
    obtain ⟨od, z1, z2, n, z3⟩ := hDl
    obtain ⟨nn, z4⟩ := hDp
    have J : Inv X pins σ (upd H1 D (.lst (bs.map fun b => V.int (if b = true then 1 else 0)))) { s1 with heap := h', toks := tk } := Inv.laidN (o := .lst (bs.map fun b => V.int (if b = true then 1 else 0))) (t' := tk) I1 up hD1 hDn ⟨by simpa using hz, ys.toList, nn, hv, by simpa using z4⟩
    exact ⟨.ref D, _, J, rfl, q D hDn⟩
end
end Mh

namespace Mh
open PySem PySem.Spec PyProof.Rows L2 HotX L2H
/-! ## a def that is called while an exception is handled: its promise may speak of that exception -/
structure FnW (P : Program) (w : World) (K : PySem.W.Frag) (mg : Str → Option Value) (base : Heap) (CX : CXT) (k : Nat) (f : Addr) (fd : FuncData) (ps : List Str) (sp : Addr × Obj → Sp) : Prop where
  len : ∀ p vs H Q E, sp p vs H Q E → vs.length = ps.length
  run : ∀ (A : Around) (outer : List Env) (s : Shared) (H : Hp) (args : Args) (us : List Value) (vs : List V) (Q : VK) (E : XK) (p : Addr × Obj), RoomH k A → Hot1 A p → PinOk outer H s p → Env0 P w K mg base A outer s H → BindsTo s fd args (ps.zip us) → Vals vs us →
    sp p vs H Q E → codeAny (model P w) A (.call (.ref f) args) (CR CX outer P w H s Q E) s
theorem fnW_of {CX : CXT} {P : Program} {w : World} {K : PySem.W.Frag} {mg : Str → Option Value} {base : Heap} {k : Nat} {f : Addr} {x : Str} {st : Stmt} {fd : FuncData} {N ps : List Str} {sp : Addr × Obj → Sp} (F : Fun K x x st f fd) (S : FnScope N ps (defScope st))
    (hlen : ∀ p vs H Q E, sp p vs H Q E → vs.length = ps.length)
    (hb : ∀ (cdv : Value) (A : Around) (outer : List Env) (s : Shared) (H : Hp) (vs : List V) (Q : VK) (E : XK) (p : Addr × Obj), Hot1 A p → RoomH k (A.deeper (envOfC x (defScope st) s.heap.objs.size f cdv)) → sp p vs H Q E →
      ∃ t, PSs (cxH CX P w K mg base N x (defScope st) f cdv A outer s H E p) (defBody st) t ∧ t { nx := fun _ H' => Q .non H', rt := Q } (L2.start N vs) H) : FnW P w K mg base CX (k + 1) f fd ps sp := by
  obtain ⟨oc, od, kV, doc, pm, an, cdv, ct, osl, rfl, lk, hcd⟩ := F.ex
  refine ⟨hlen, fun A outer s H args us vs Q E p room hot pin ev bd rel wish => ?_⟩
  have len := hlen _ _ _ _ _ wish
  have old : ∀ b o, base.get? b = some o → s.heap.get? b = some o := fun b o z => (ev.bs b o z).1
  have kx : K.In s.heap := ev.mod.kin.keeps old
  have locals : ∀ y ∈ ps.zip us, (defScope st).names.lookup y.1 = some .local ∨ ((defScope st).names.lookup y.1 = some .cell ∧ ((cellsFrom (s.heap.objs.size + 1) (defScope st).names []).lookup y.1).isSome = true) := by
    rintro ⟨n, v⟩ hy
    exact (S.par n (List.of_mem_zip hy).1).imp (fun z => z) fun z => ⟨z, PySem.W.cellsFrom_some _ _ _ (.inl z)⟩
  refine codeAny_call_function room.depth (kx _ _ lk) rfl S.co S.gen rfl (PySem.W.codeRec_of kx hcd) (bd _ _ _ _ (wpAny_newFunctionEnv_cells S.kind locals fun env he s1 made => ?_))
  subst he
  refine ⟨(ev.mod.nolimit.keeps old).keeps made.toInCall.keep, codeAny_func ?_⟩
  obtain ⟨t, ht, go⟩ := hb cdv A outer s H vs Q E p hot (room.deeper _) wish
  have J : Inv (cxH CX P w K mg base N x (defScope st) f cdv A outer s H E p) [] (L2.start N vs) H s1 := inv_startH S pin ev len rel made
  refine wpAny_mono (ht.run [] s1 _ H _ J go) (fun fl s' z => ?_) fun _ _ z => z
  have out : ∀ {σ' : L2.St} {H' : Hp} {v : V} {u : Value}, Inv (cxH CX P w K mg base N x (defScope st) f cdv A outer s H E p) [] σ' H' s' → RelV v u → Q v H' → CE outer P w H s Q u s' := fun {_ H' v _} I' r' q' => ⟨v, H', I'.os, I'.bare, I'.base, I'.hok, r', q'⟩
  match fl, z with
  | .ret u, ⟨v, σ', H', I', r', q'⟩ => exact out I' r' q'
  | .next, ⟨σ', H', I', q'⟩ => exact out (v := .non) (u := .none) I' rfl q'
  | .brk, ⟨_, _, _, q'⟩ => exact q'.elim
  | .cont, ⟨_, _, _, q'⟩ => exact q'.elim
section
variable {X : Cx}
theorem pe_callW {CX : CXT} {k : Nat} {f : Addr} {fd : FuncData} {ps : List Str} {sp : Addr × Obj → Sp} {E : XK} {x : Str} {q pos : Pos} {e : Expr} {es : List Expr} {t : TA} {p : Addr × Obj} (F : FnW X.prog X.w X.K X.mg X.base CX k f fd ps sp) (hr : RoomH k X.A) (hot : Hot1 X.A p) (hp : p ∈ X.pn) (hg : Gl X x) (hm : X.mg x = some (.ref f)) (hk : PySem.W.keepIn X.K (.ref f) = true)
    (hb : L2.Binds X.K fd ps []) (hx : Passes CX X E) (ha : PA X (e :: es) t) (hdb : (x == ("__debug__" : Str)) = false := by decide) (he : starEach (e :: es) X.env = (false, eval e X.env) :: starEach es X.env := by rfl) (hpl : (backTo pos (starEach es X.env)).any (·.1) = false := by rfl) :
    PE X (.Call (.Name x q) (e :: es) [] pos) (fun σ H Q => t σ H fun vs H1 => sp p vs H1 Q E) := by
  refine ⟨fun pins s σ H Q I h => ?_⟩
  refine wpAny_Call_Name_kw (ld_glob I hg hm ?_ hdb)
  refine PySem.W.callWith_K (h₀ := X.base) I.ok.mod.kin hk (thn (ha.run pos pins s σ H _ I h) fun us s1 ⟨vs, H1, I1, r, wish⟩ => ⟨I1.kIn, ?go⟩) he hpl
  have hl : us.length = ps.length := r.length.symm.trans (F.len _ _ _ _ _ wish)
  have bd := hb s1 us I1.kIn (by rw [List.append_nil]; exact hl)
  rw [List.append_nil] at bd
  have P1 := I1.pin p (List.mem_append_left _ hp)
  refine wpAny_call (codeAny_mono (F.run X.A X.stack s1 H1 ⟨us, []⟩ us vs Q E p hr hot ⟨P1.1, P1.2.1, fun m => (List.mem_cons.mp (I1.stkSub p.1 m)).elim P1.2.2.1 P1.2.2.2.1, P1.2.2.2.2⟩ I1.env0 bd r wish) fun res s2 z => ?_)
  match res, z with
  | .error u, z => exact hx pins σ H1 s1 u s2 I1 z
  | .ok (.ret u), z => exact I1.after z
  | .ok .next, z => exact z.elim
  | .ok .brk, z => exact z.elim
  | .ok .cont, z => exact z.elim
/-- isinstance(e, C) of the exception that is handled -/
theorem isHot {a D : Addr} {oe : Obj} (C : ExcC X.K D) (hz : Zc (.ref D) none oe) (hf : ∃ vs, oe.data = .fields vs) (hp : (a, oe) ∈ X.pn) : CallR X (.builtin "isinstance") (rIsE X.K D a) := by
  intro pins s σ H xs us Q I rel h
  obtain ⟨c, cv, b, rfl, hcv, e, q⟩ := h
  match us, rel with
  | [_, u2], .cons rx (.cons rt .nil) =>
    cases rx
    cases hcv _ rt
    obtain ⟨g, _⟩ := I.pin (a, oe) (List.mem_append_left _ hp)
    obtain ⟨vs, hv⟩ := hf
    have J : PySem.W.InstAt s.heap a oe D none := by
      obtain ⟨c1, d1, dat, sl⟩ := oe
      obtain ⟨h1, h2⟩ := hz
      cases h1
      cases h2
      cases hv
      exact ⟨g, rfl, rfl, trivial⟩
    refine PySem.W.kia_one (PySem.W.handS_kitx_exc C.hg C.hk C.hs C.hd C.ha C.hn C.ht C.hm) I.kIn J e (fun z => nomatch z) fun tk => ?_
    exact ⟨.bl b, H, I.kept (t' := tk) fun _ _ z => z, rfl, q⟩
end
end Mh

namespace Mh
open PySem PySem.Spec PyProof.Rows L2 HotX L2H LamX Mr
open Mr.Res
variable [TabsOf]
/-! ## a lambda's body under L2N -/
/-- the body's context -/
abbrev lamN (X : Cx) (A : Around) (outer : List PySem.Env) (s : Shared) (H : Hp) (E : XK) (scope : Scope) (f c' : Addr) : Cx :=
  (lamCx X A outer s H E scope f c').tr [] fun e s' => wpAny (model X.prog X.w) (A.deeper (lamEnv X scope s.heap.objs.size f c')) (leaving (lamEnv X scope s.heap.objs.size f c') e) (fun _ s'' => L2N.CX X.prog X.w outer H s E e s'') (fun e' s'' => L2N.CX X.prog X.w outer H s E e' s'') s'
theorem lamN_takes {X : Cx} {A : Around} {outer : List PySem.Env} {s : Shared} {H : Hp} {E : XK} {scope : Scope} {f c' : Addr} : L2N.Takes (lamN X A outer s H E scope f c') (fun cls d _ H' => E cls d H') :=
  L2N.takes_of (by rfl) (by rfl) (by rfl) (by rfl)
section
variable {X : Cx} {pins : List (Addr × Obj)} {σ : L2.St} {H : Hp} {s : Shared}
/-- the context of the def that gets the lambda -/
abbrev getX (X : Cx) (Ng : List Str) (qg : Str) (sg : Scope) (g : Addr) (cdg : Value) (s : Shared) (H : Hp) (E : XK) : Cx := cxOf (L2N.CX X.prog X.w) X.prog X.w X.K X.mg X.base Ng qg sg g cdg X.A X.stack s H E
/-- the lambda, called by the def that got it in its first slot -/
theorem deed_ok {Eg E : XK} {Ng : List Str} {qg a : Str} {sg : Scope} {g f c' : Addr} {cdg pm ctv : Value} {params : Arguments} {body : Expr} {scope : Scope} {k : Nat} {pn : List (Addr × Obj)} {xe : Value → Shared → Prop} {W : WX} {tb : TE} {p1 p2 : Pos}
    (I : Inv X pins σ H s) (L : LamS X.env.scope scope) (hf : s.heap.get? f = some (PySem.W.kla_obj "<lambda>" (X.env.qual ++ "<lambda>") params body scope (cloFrom X.env.cells scope.names []) pm c' ctv)) (hfn : H f = none) (hfr : f ∉ frs X.stack)
    (hbind : bindArgs (PySem.W.kla_fn "<lambda>" (X.env.qual ++ "<lambda>") params body scope (cloFrom X.env.cells scope.names []) pm (.ref c') ctv) ⟨[], []⟩ = pure [])
    (tk : L2N.Takes ((getX X Ng qg sg g cdg s H Eg).tr pn xe) W) (hW : ∀ cls d σ' H', E cls d H' → W cls d σ' H') (hr : Room (k + 1) (X.A.deeper (envOfC qg sg s.heap.objs.size g cdg)))
    (hbody : ∀ (A : Around) (outer : List PySem.Env) (s : Shared) (H : Hp), Room k (A.deeper (lamEnv X scope s.heap.objs.size f c')) → PE (lamN X A outer s H E scope f c') body tb)
    (hN : Ng[0]? = some a) (hv : Vis sg a) (hd : (a == ("__debug__" : Str)) = false) (hcd : (a == ("__classdict__" : Str)) = false) :
    PE ((getX X Ng qg sg g cdg s H Eg).tr pn xe) (.Call (.Name a p1) [] [] p2) (fun σZ HZ Q => σZ[0]? = some (some (.ref f)) ∧ HZ c' = some (CodeO c' (X.env.qual ++ "<lambda>")) ∧ tb σ HZ Q) := by
  constructor
  intro pz sZ σZ HZ Q IZ ⟨h0, hc, ht⟩
  have ld := (pe_var (X := (getX X Ng qg sg g cdg s H Eg).tr pn xe) (pos := p1) (i := 0) hN hv hd hcd).run pz sZ σZ HZ (fun v H1 => v = .ref f ∧ H1 = HZ) IZ ⟨.ref f, h0, rfl, rfl⟩
  refine wpAny_Call_Name_kw (thn ld fun u s1 hu => ?_)
  obtain ⟨v, H1, I1, ru, rfl, rfl⟩ := hu
  cases (show u = Value.ref f from ru)
  have hf1 := I1.base.keep f _ hf hfn hfr (fun z => nomatch (show f ∈ ([] : List Addr) from z))
  obtain ⟨⟨oc, vs, t, ho, hod, hov⟩, _⟩ := I1.hok c' _ hc
  refine PySem.W.callWith_F0 ⟨_, _, _, _, hf1⟩ (wpAny_call (codeAny_mono (R := CR (L2N.CX X.prog X.w) (envOfC qg sg s.heap.objs.size g cdg :: X.stack) X.prog X.w H1 s1 Q E) (PySem.W.kla_callFunE hr.depth hf1 rfl L.co L.gen rfl ⟨c', oc, vs, t, rfl, ho, hod, hov⟩ ?run) fun r s' hq => ?_))
  case run =>
    rw [List.append_nil, hbind]
    refine wpAny_pure (wpAny_newFunctionEnv (fun y hy => (L.own y hy).2) (fun y hy => nomatch hy) (fun h₁ hns hsb => ⟨I1.nolimit.fresh _ hsb, ?_⟩) L.kind)
    have J := lam_start2 (E := E) (f := f) (c' := c') (tk := s1.toks + 0) I L I1.env0 hr.hd I1.base hns fun b o e => hsb.extBut b o (Nat.ne_of_lt (Heap.lt_size e)) (Heap.get?_push_of_some _ e)
    have J2 : Inv (lamN X (X.A.deeper (envOfC qg sg s.heap.objs.size g cdg)) (envOfC qg sg s.heap.objs.size g cdg :: X.stack) s1 H1 E scope f c') [] σ H1 _ := J.toTry _
    refine PySem.W.kla_codeExpr (wpAny_mono ((hbody _ _ s1 H1 (hr.deeper _)).run [] _ _ H1 Q J2 ht) (fun v s' hq => ?_) fun e s' hq => hq)
    obtain ⟨w', H', J', rv, q⟩ := hq
    exact ⟨w', H', J'.os, J'.bare, J'.base, J'.hok, rv, q⟩
  match r, hq with
  | .error e, hq => exact L2N.passes_call tk hW pz σZ H1 s1 e s' I1 hq
  | .ok (.ret u), hq => exact I1.after hq
  | .ok .next, hq => exact hq.elim
  | .ok .brk, hq => exact hq.elim
  | .ok .cont, hq => exact hq.elim
end
/-! ## told -/
/-- what is known of the class at C, whose word is nm -/
structure WordC (K : Fr) (mg : Str → Option Value) (CS : Addr) (WT : Addr → Str → Prop) (c : Str) : Prop where
  at_ : ∀ C, mg c = some (.ref C) → WT C c ∧ PySem.W.exmOne K (.ref C) (.ref CS) = some true
/-- the promise of the def that names the class of the handled exception -/
def spW (WT : Addr → Str → Prop) : (Addr × Obj) → Sp := fun p vs H Q _ => ∃ (C : Addr) (nm : Str), Zc (.ref C) none p.2 ∧ (∃ us, p.2.data = .fields us) ∧ WT C nm ∧ vs = [.ref p.1] ∧ Tb H ∧ ∀ H', Ext H H' → Q (.str nm) H'
/-- what told makes of the deed's reading -/
def ToldE (K : Fr) (CS : Addr) (WT : Addr → Str → Prop) (Q : VK) : XK := fun cls d H' => ∃ (C : Addr) (nm : Str), cls = .ref C ∧ d = none ∧ WT C nm ∧ PySem.W.exmOne K (.ref C) (.ref CS) = some true ∧ Tb H' ∧ ∀ H'', Ext H' H'' → Q (.str nm) H''
section
variable {X : Cx}
theorem told_suite {k : Nat} {fw : Addr} {fdw : FuncData} {WT : Addr → Str → Prop} {Y : Cx} {nw n : Str} {pw : Str} {a : Addr} {oe : Obj} {cls : Value} {d : Option Addr} {pn : List (Addr × Obj)} {p1 p2 p3 p4 : Pos}
    (F : FnW Y.prog Y.w Y.K Y.mg Y.base (L2N.CX Y.prog Y.w) k fw fdw [pw] (spW WT)) (hr : RoomH k Y.A) (hg : Gl Y nw) (hm : Y.mg nw = some (.ref fw)) (hk : PySem.W.keepIn Y.K (.ref fw) = true) (hb : L2.Binds Y.K fdw [pw] []) (hdb : (nw == ("__debug__" : Str)) = false)
    (hN : Y.N[1]? = some n) (hNl : Y.N.length = 2) (hv : Vis Y.env.scope n) (hd : (n == ("__debug__" : Str)) = false) (hcd : (n == ("__classdict__" : Str)) = false) (hz : L2N.Zn cls d oe) (hf : ∃ vs, oe.data = .fields vs) :
    PSs (Y.suite a ((a, oe) :: pn)) [.Return (some (.Call (.Name nw p1) [.Name n p2] [] p3)) p4]
      (fun D σ H => ∃ (C : Addr) (nm : Str), cls = .ref C ∧ d = none ∧ WT C nm ∧ Tb H ∧ (σ.length = 2 → σ[1]? = some (some (.ref a))) ∧ ∀ H', Ext H H' → D.rt (.str nm) H') := by
  constructor
  intro pins s σ H D I ⟨C, nm, e1, e2, hw, hT, hs, hq⟩
  subst e1 e2
  have len : σ.length = 2 := I.len.trans hNl
  have hot : Hot1 (Y.suite a ((a, oe) :: pn)).A (a, oe) := ⟨rfl, by
    obtain ⟨vs, e⟩ := hf
    exact ⟨vs, e, hz.2.2 vs e⟩⟩
  have hv1 := pe_var (X := Y.suite a ((a, oe) :: pn)) (pos := p2) (i := 1) hN hv hd hcd
  have hc := pe_callW (X := Y.suite a ((a, oe) :: pn)) (E := fun _ _ _ => False) (q := p1) (pos := p3) F ⟨hr.dp, hr.un⟩ hot List.mem_cons_self hg hm hk hb (fun _ _ _ _ _ _ _ z => (Mr.law_cx' z).elim) (pa_cons hv1 pa_nil (by rfl)) hdb (by rfl) (by rfl)
  exact (pss_one (ps_ret (pos := p4) hc)).run pins s σ H D I ⟨.ref a, hs len, ⟨C, nm, hz.zc, hf, hw, rfl, hT, hq⟩⟩
end
end Mh

namespace Mh
open PySem PySem.Spec PyProof.Rows L2 HotX L2H LamX Mr
open Mr.Res
variable [TabsOf]
/-! ## told(lambda: deed) as an expression -/
def toldF (names : List Str) (f : Mr.Env → Res D) (ρ : Mr.Env) : Res D := match f ρ with
  | .ok d => .ok d
  | .ex c => if c ∈ names then .ok (.str c) else .bad
  | .bad => .bad
/-- only what stands still is seen from a lambda -/
def deadF : Sh → Sh
  | .fz => .fz
  | _ => .dead
theorem AllS.dead {K : Fr} {H : Hp} : ∀ {ω : List Sh} {ρ : Mr.Env} {σ : Sg} {fp : List Addr}, AllS K H ω ρ σ fp → AllS K H (ω.map deadF) ρ σ []
  | [], [], [], _, _ => rfl
  | τ :: ω, d :: ρ, s :: σ, _, ⟨f1, f2, e, h, t⟩ => by
    refine ⟨[], [], rfl, ?_, AllS.dead t⟩
    cases τ with
    | fz =>
      rcases h with ⟨z, _⟩ | ⟨v, e, r⟩
      · cases z
      · exact .inr ⟨v, e, rfl, r.2⟩
    | _ => exact .inl ⟨rfl, rfl⟩
  | [], [], _ :: _, _, h => h.elim
  | [], _ :: _, _, _, h => h.elim
  | _ :: _, [], _, _, h => h.elim
  | _ :: _, _ :: _, [], _, h => h.elim
theorem SR.deed {K : Fr} {H0 H H1 : Hp} {Z : Zt} {ω : List Sh} {ρ : Mr.Env} {σ : Sg} (sr : SR K H0 Z ω ρ σ H) (x : Ext H H1) (t : Tb H1) : SR K H1 Z0 (ω.map deadF) ρ σ H1 := by
  obtain ⟨_, fp, al, _, _⟩ := sr
  exact ⟨⟨fun b o _ e _ => e, t⟩, [], AllS.keep x.keepF (AllS.dead al) (by simp), by simp, by simp⟩
/-- the deed's reading -/
def tDeed (K : Fr) (mg : Str → Option Value) (ω : List Sh) (f : Mr.Env → Res D) (E : XK) : TE := fun σ H Q => ∃ ρ, SR K H Z0 ω ρ σ H ∧
  Post (fun d => ∀ v H', Got K H .fz d v H' → Q v H') (fun c => ∀ H' C, ExtZ Z0 H H' → mg c = some (.ref C) → E (.ref C) none H') (f ρ)
theorem pe_deed {X : Cx} {ω : List Sh} {body : Expr} {f : Mr.Env → Res D} {E : XK} (h : ∀ H0, PX X H0 Z0 (fun cls d _ H' => E cls d H') ω body f .fz) : PE X body (tDeed X.K X.mg ω f E) := by
  constructor
  intro pins s σ H Q I ⟨ρ, sr, pp⟩
  obtain ⟨t, pt, st⟩ := h H
  exact pt.run pins s σ H Q I (st ρ σ H Q sr (pp.mono (fun _ z => z) fun c q σ' H' C x hC => q H' C x hC))
section
variable {X : Cx}
theorem pe_told {x a n nw he pw : Str} {g c Pt CS fw : Addr} {k : Nat} {pg : Arguments} {sg : Scope} {dV kV doc pm cdv ct oc : Value} {an od : Option Addr} {osl : Array (Option Value)} {fdw : FuncData} {WT : Addr → Str → Prop}
    {params : Arguments} {body : Expr} {scope : Scope} {ω : List Sh} {f : Mr.Env → Res D} {p lpos pos p1 p2 p3 p4 p5 p6 p7 p8 p9 p10 : Pos}
    (hg : Gl X x) (hm : X.mg x = some (.ref g)) (hk : PySem.W.keepIn X.K (.ref g) = true)
    (lk : X.K.lookup g = some ⟨oc, od, .func (PySem.W.fnOf x x pg [.Try [.Return (some (.Call (.Name a p1) [] [] p2)) p3] [.ExceptHandler (some (.Name he p4)) (some n) [.Return (some (.Call (.Name nw p5) [.Name n p6] [] p7)) p8] p9] [] [] p10] sg dV kV doc pm an cdv ct), osl⟩)
    (hcg : PySem.W.codeIn X.K cdv x = true) (hb : L2.Binds X.K (PySem.W.fnOf x x pg [.Try [.Return (some (.Call (.Name a p1) [] [] p2)) p3] [.ExceptHandler (some (.Name he p4)) (some n) [.Return (some (.Call (.Name nw p5) [.Name n p6] [] p7)) p8] p9] [] [] p10] sg dV kV doc pm an cdv ct) [a] [])
    (Sg : FnScope [a, n] [a] sg) (hva : Vis sg a) (hvn : sg.names.lookup n = some .local)
    (hge : sg.names.lookup he = some .globalImplicit) (hme : X.mg he = some (.ref CS)) (hgw : sg.names.lookup nw = some .globalImplicit) (hmw : X.mg nw = some (.ref fw)) (hkw : PySem.W.keepIn X.K (.ref fw) = true) (hbw : L2.Binds X.K fdw [pw] [])
    (Fw : FnW X.prog X.w X.K X.mg X.base (L2N.CX X.prog X.w) k fw fdw [pw] (spW WT))
    (TB : TabB X.base X.mg c Pt) (hcode : X.env.code = .ref c) (hmT : (Pt, X.env.qual ++ "<lambda>") ∈ TabsOf.T) (hu : ∀ p ∈ TabsOf.T, p.1 = Pt → p.2 = X.env.qual ++ "<lambda>") (hr : Room (k + 2) X.A) (L : LamS X.env.scope scope) (hdef : defaultsOf params X.env = ([], []))
    (hbind : ∀ (q : Str) (cl : List (Str × Addr)) (pm cv ctv : Value), bindArgs (PySem.W.kla_fn "<lambda>" q params body scope cl pm cv ctv) ⟨[], []⟩ = pure [])
    (hbody : ∀ (A : Around) (outer : List PySem.Env) (s : Shared) (H : Hp) (E : XK) (fl c' : Addr) (H0 : Hp), Room k (A.deeper (lamEnv X scope s.heap.objs.size fl c')) → PX (lamN X A outer s H E scope fl c') H0 Z0 (fun cls d _ H' => E cls d H') ω body f .fz)
    (hdx : (x == ("__debug__" : Str)) = false := by decide) (hda : (a == ("__debug__" : Str)) = false := by decide) (hca : (a == ("__classdict__" : Str)) = false := by decide) (hdn : (n == ("__debug__" : Str)) = false := by decide) (hcn : (n == ("__classdict__" : Str)) = false := by decide)
    (hde : (he == ("__debug__" : Str)) = false := by decide) (hdw : (nw == ("__debug__" : Str)) = false := by decide) :
    PE X (.Call (.Name x p) [.Lambda params body scope lpos] [] pos) (fun σ H Q => Tb H ∧ ∀ H1, ExtN H H1 → Tb H1 → tDeed X.K X.mg ω f (ToldE X.K CS WT Q) σ H1 Q) := by
  constructor
  intro pins s σ H Q I ⟨hT, h⟩
  refine wpAny_Call_Name_kw (ld_glob I hg hm (PySem.W.callWith_K (h₀ := X.base) I.ok.mod.kin hk ?_ (by rfl) (by rfl)) hdx)
  show wpAny _ _ (spliced ((false, eval (.Lambda params body scope lpos) X.env) :: backTo pos (starEach [] X.env))) _ _ s
  refine Calls.spliced_cons (lam_make2 I TB hcode hmT hu hT hdef (L.has I.ok) fun fl c' pm' ctv H1 s' I1 eN T1 hf hfn hfr hco => Calls.spliced_nil ⟨I1.kIn, ?_⟩)
  -- the def that gets the lambda
  have rc : codeAny (model X.prog X.w) X.A (.call (.ref g) ⟨[.ref fl], []⟩) (CR (L2N.CX X.prog X.w) X.stack X.prog X.w H1 s' Q (fun _ _ _ => False)) s' := by
    refine run_ofS (N := [a, n]) (ps := [a]) (us := [.ref fl]) (vs := [.ref fl]) lk hcg Sg hr I1.env0 (hb s' [.ref fl] I1.kIn rfl) (.cons rfl .nil) rfl fun hr' => ?_
    have nm : Names (getX X [a, n] x sg g cdv s' H1 (fun _ _ _ => False)) he (.ref CS) := ⟨hge, hde, .inl hme⟩
    have t0 : L2N.Takes (getX X [a, n] x sg g cdv s' H1 (fun _ _ _ => False)) (fun _ _ _ _ => False) := fun _ _ z => by
      obtain ⟨_, _, _, _, _, _, _, _, _, _, _, _, _, _, _, _, z⟩ := z
      exact z.elim
    refine ⟨_, pss_one (L2N.ps_try_as (X := getX X [a, n] x sg g cdv s' H1 (fun _ _ _ => False)) (i := 1) (n := n) (c := .ref CS)
      (tb := fun W D σZ HZ => ∃ Ech : XK, (∀ cls d σ' H', Ech cls d H' → W cls d σ' H') ∧ σZ[0]? = some (some (.ref fl)) ∧ HZ c' = some (CodeO c' (X.env.qual ++ "<lambda>")) ∧ tDeed X.K X.mg ω f Ech σ HZ D.rt)
      (by rfl) (by rfl) Sg.nd rfl (by show sg.names.lookup n = _; exact hvn) nm t0 (fun W pn xe tk _ => ?_) (fun b oe cls d pn hz hfd => told_suite (Y := getX X [a, n] x sg g cdv s' H1 (fun _ _ _ => False)) Fw (roomH_of (hr'.mono (Nat.le_succ k))) hgw hmw hkw hbw hdw rfl rfl (.inl hvn) hdn hcn hz hfd)), ?_⟩
    · constructor
      intro pz sz σz Hz Dz Iz ⟨Ech, hW, h1, h2, h3⟩
      have hd := deed_ok (p1 := p1) (p2 := p2) (tb := tDeed X.K X.mg ω f Ech) I1 L hf hfn hfr (hbind _ _ _ _ _) tk hW hr' (fun A outer s H hr2 => pe_deed fun H0 => hbody A outer s H Ech fl c' H0 hr2) rfl hva hda hca
      exact (pss_one (ps_ret (pos := p3) hd)).run pz sz σz Hz Dz Iz ⟨h1, h2, h3⟩
    · refine ⟨ToldE X.K CS WT Q, fun cls d σ' H' z => ?_, rfl, hco, h H1 eN T1⟩
      obtain ⟨C, nmC, e1, e2, hw, hx, ht, hq⟩ := z
      subst e1 e2
      refine ⟨true, hx, fun _ b _ => ⟨C, nmC, rfl, rfl, hw, ht, fun hl => ?_, hq⟩, fun z => by cases z⟩
      rw [List.length_set] at hl
      rw [List.getElem?_set_self (by omega)]
  refine wpAny_call (codeAny_mono rc fun r s2 hq => ?_)
  match r, hq with
  | .error e, hq => exact (Mr.law_cx' hq).elim
  | .ok (.ret u), hq => exact I1.after hq
  | .ok .next, hq => exact hq.elim
  | .ok .brk, hq => exact hq.elim
  | .ok .cont, hq => exact hq.elim
end
/-- the reading of told -/
theorem told_s {X : Cx} {H0 : Hp} {Z : Zt} {W : WX} {ω : List Sh} {CS : Addr} {WT : Addr → Str → Prop} {names : List Str} {f : Mr.Env → Res D}
    (hn : ∀ c ∈ names, ∀ C, X.mg c = some (.ref C) → WT C c ∧ PySem.W.exmOne X.K (.ref C) (.ref CS) = some true) :
    ∀ ρ σ H Q, SR X.K H0 Z ω ρ σ H → Post (fun d => ∀ v H', Got X.K H .fz d v H' → Q v H') (EK X H0 Z W) (toldF names f ρ) →
      (Tb H ∧ ∀ H1, ExtN H H1 → Tb H1 → tDeed X.K X.mg (ω.map deadF) f (ToldE X.K CS WT Q) σ H1 Q) := by
  intro ρ σ H Q sr pp
  refine ⟨sr.ext.tab, fun H1 eN t1 => ?_⟩
  have x1 : Ext H H1 := ⟨eN, fun _ => t1⟩
  refine ⟨ρ, SR.deed sr x1 t1, ?_⟩
  unfold toldF at pp
  cases e : f ρ with
  | bad => rw [e] at pp; exact pp
  | ok d => rw [e] at pp; exact fun v H' g => pp v H' (g.from x1)
  | ex c =>
    rw [e] at pp
    by_cases hc : c ∈ names
    · have pp : Post (fun d => ∀ v H', Got X.K H .fz d v H' → Q v H') (EK X H0 Z W) (if c ∈ names then Res.ok (D.str c) else .bad) := pp
      rw [if_pos hc] at pp
      intro H' C x2 hC
      obtain ⟨hw, hx⟩ := hn c hc C hC
      refine ⟨C, c, rfl, rfl, hw, hx, x2.tab, fun H'' x3 => ?_⟩
      have x12 : Ext H1 H' := ⟨fun b o e t => x2 b o (fun z => z) e t, fun _ => x2.tab⟩
      exact pp (.str c) H'' (Got.fz ((x1.trans x12).trans x3) rfl)
    · have pp : Post (fun d => ∀ v H', Got X.K H .fz d v H' → Q v H') (EK X H0 Z W) (if c ∈ names then Res.ok (D.str c) else .bad) := pp
      rw [if_neg hc] at pp
      exact pp.elim
end Mh

namespace Mh
open PySem PySem.Spec PyProof.Rows L2 HotX L2H LamX Mr
open Mr.Res
/-! ## the def that names the class: rules where an exception is handled -/
def isEF (a : Addr) (b : Bool) (f : Mr.Env → Res D) (ρ : Mr.Env) : Res D := (f ρ).bind fun d => match d with
  | .adr a' => if a' = a then .ok (.bl b) else .bad
  | _ => .bad
variable [TabsOf]
section
variable {X : Cx} {H0 : Hp} {Z : Zt} {W : WX} {ω : List Sh} {f : Mr.Env → Res D} {pos : Pos}
theorem px_isG {p : Addr × Obj} {C : Addr} {y : Str} {c : V} {cv : Value} {b : Bool} {q p2 : Pos} {e : Expr} (hp : p ∈ X.pn) (hC : ExcC X.K C) (hz : Zc (.ref C) none p.2) (hf : ∃ vs, p.2.data = .fields vs) (he : PX X H0 Z W ω e f .fz) (hg : Gl X "isinstance") (hm : X.mg "isinstance" = none)
    (py : PE X (.Name y p2) (tC c)) (hcv : ∀ u, RelV c u → u = cv) (hk : PySem.W.kitOne X.K (.ref C) cv = some b)
    (hs : starEach [e, .Name y p2] X.env = (false, eval e X.env) :: starEach [.Name y p2] X.env := by rfl) (hs2 : starEach [.Name y p2] X.env = (false, eval (.Name y p2) X.env) :: starEach [] X.env := by rfl) (hpl : (backTo pos (starEach [.Name y p2] X.env)).any (·.1) = false := by rfl) :
    PX X H0 Z W ω (.Call (.Name "isinstance" q) [e, .Name y p2] [] pos) (isEF p.1 b f) .fz := by
  obtain ⟨t, pe, s⟩ := he
  refine ⟨_, pe_callB (isHot (a := p.1) (oe := p.2) hC hz hf hp) hg hm PyProof.Rows.boot_isinstance (pa_cons pe (pa_cons py pa_nil hs2) hs) (by decide) (by decide) hs hpl, fun ρ σ H Q sr ps => ?_⟩
  refine s ρ σ H _ sr ((Post.bind.mp ps).mono (fun d q v H1 g => ?_) fun _ h => h)
  cases d <;> first | exact q.elim | skip
  rename_i a'
  by_cases ha : a' = p.1
  · subst ha
    have q : Post (fun d => ∀ v H', Got X.K H .fz d v H' → Q v H') (EK X H0 Z W) (if p.1 = p.1 then Res.ok (D.bl b) else .bad) := q
    rw [if_pos rfl] at q
    exact ⟨c, cv, b, by rw [show v = .ref p.1 from g.r], hcv, hk, q (.bl b) H1 (Got.fz g.ext rfl)⟩
  · have q : Post (fun d => ∀ v H', Got X.K H .fz d v H' → Q v H') (EK X H0 Z W) (if a' = p.1 then Res.ok (D.bl b) else .bad) := q
    rw [if_neg ha] at q
    exact q.elim
theorem px_sumH (hc : HotC X) {p : Pos} {e : Expr} {es : List Expr} {fa : Mr.Env → Res (List D)} (hg : Gl X "sum") (hm : X.mg "sum" = none) (ha : PAVX X H0 Z W ω (e :: es) fa) (he : starEach (e :: es) X.env = (false, eval e X.env) :: starEach es X.env := by rfl) (hpl : (backTo pos (starEach es X.env)).any (·.1) = false := by rfl) :
    PX X H0 Z W ω (.Call (.Name "sum" p) (e :: es) [] pos) (callF fa sumD) .fz := px_callB (sumHot hc) sum_s sum_ne hg hm PyProof.Rows.boot_sum ha (by decide) (by decide) he hpl
/-- a list of bools -/
def allBl : List D → Option (List Bool)
  | [] => some []
  | .bl b :: ds => (allBl ds).map (b :: ·)
  | _ :: _ => none
theorem allBl_of : ∀ {ds : List D} {bs : List Bool}, allBl ds = some bs → ds = bs.map D.bl
  | [], bs, h => by cases h; rfl
  | .bl b :: ds, bs, h => by
    unfold allBl at h
    cases e : allBl ds with
    | none => rw [e] at h; cases h
    | some xs => rw [e] at h; cases h; rw [allBl_of e]; rfl
theorem rl_bl {K : Fr} {H : Hp} : ∀ {bs : List Bool} {vs : List V}, Rl K H (bs.map D.bl) vs → vs = bs.map V.bl
  | [], _, h => h
  | b :: bs, _, ⟨v, r, e, h, t⟩ => by
    subst e
    rw [rl_bl t, show v = .bl b from h]; rfl
theorem rl_int {K : Fr} {H : Hp} : ∀ (is : List Int), Rl K H (is.map D.int) (is.map V.int)
  | [] => rfl
  | i :: is => ⟨_, _, rfl, rfl, rl_int is⟩
/-- [int(x) for x in flags] -/
def flgF (f : Mr.Env → Res D) (ρ : Mr.Env) : Res D := (f ρ).bind fun d => match d with
  | .lst ds => (match allBl ds with
    | some bs => .ok (.lst (bs.map fun b => .int (if b then 1 else 0)))
    | none => .bad)
  | _ => .bad
theorem px_flags (hot : HotC X) {x : Str} {px q1 q2 q3 : Pos} {iter : Expr} {scope : Scope} (he : PVX X H0 Z W ω iter f) (hm : X.mg "int" = none)
    (n1 : ∀ y ∈ scope.names, y.2 ≠ .free := by decide) (n2 : ∀ y ∈ scope.names, y.2 ≠ .cell := by decide) (n3 : scope.kind = .function := by rfl) (n4 : ∀ y ∈ scope.names, y.2 = .local → scope.names.lookup y.1 = some .local := by decide) (n5 : scope.names.lookup x = some .local := by rfl) (n6 : scope.names.lookup ("int" : Str) = some NameKind.globalImplicit := by rfl) (n7 : (x == ("__debug__" : Str)) = false := by decide)
    (hs : ∀ x, foldedSetIterable iter X.env x = pure x := by intro _; rfl) :
    PX X H0 Z W ω (.ListComp (.Call (.Name "int" q1) [.Name x q2] [] q3) [⟨.Name x px, iter, [], 0⟩] scope pos) (flgF f) (.own .fz) := by
  obtain ⟨t, pe, s⟩ := he
  refine ⟨_, pe_flags hot pe hm n1 n2 n3 n4 n5 n6 n7 hs, fun ρ σ H Q sr ps => ?_⟩
  refine s ρ σ H _ sr ((Post.bind.mp ps).mono (fun d q v H1 g => ?_) fun _ h => h)
  cases d <;> first | exact q.elim | skip
  rename_i ds
  cases e : allBl ds with
  | none =>
    have q : Post (fun d => ∀ v H', Got X.K H (.own .fz) d v H' → Q v H') (EK X H0 Z W) (match allBl ds with | some bs => Res.ok (D.lst (bs.map fun b => D.int (if b then 1 else 0))) | none => .bad) := q
    rw [e] at q
    exact q.elim
  | some bs =>
    have q2 : Post (fun d => ∀ v H', Got X.K H (.own .fz) d v H' → Q v H') (EK X H0 Z W) (match allBl ds with | some bs => Res.ok (D.lst (bs.map fun b => D.int (if b then 1 else 0))) | none => .bad) := q
    rw [e] at q2
    have ed := allBl_of e
    subst ed
    obtain ⟨x1, a, vs, ev, fl, hz, rl⟩ := g
    have eb := rl_bl rl
    subst eb
    refine ⟨a, bs, ev, fl.sq, by simpa using hz, fun p hp => q2 _ _ ?_⟩
    have r2 : Rl X.K H1 (bs.map fun b => D.int (if b then 1 else 0)) (bs.map fun b => V.int (if b then 1 else 0)) := by
      have := rl_int (K := X.K) (H := H1) (bs.map fun b => if b then (1 : Int) else 0)
      simpa [List.map_map, Function.comp_def] using this
    exact Got.lst x1 hp r2 (by simpa using hz)
/-- xs.index(b), of a list of bools -/
def asL : D → Res (List D)
  | .lst ds => .ok ds
  | _ => .bad
def idxL (ds : List D) (y : D) : Res D := match y with
  | .bl b => (match allBl ds with
    | some bs => if bs.findIdx (· == b) < bs.length then .ok (.int (bs.findIdx (· == b) : Nat)) else .bad
    | none => .bad)
  | _ => .bad
def idxF (f g : Mr.Env → Res D) (ρ : Mr.Env) : Res D := (f ρ).bind fun d => (asL d).bind fun ds => (g ρ).bind fun y => idxL ds y
theorem idxL_ok {ds : List D} {y : D} {k : D → Prop} {e : Str → Prop} (h : Post k e (idxL ds y)) : ∃ (b : Bool) (bs : List Bool), y = .bl b ∧ ds = bs.map D.bl ∧ bs.findIdx (· == b) < bs.length ∧ k (.int (bs.findIdx (· == b) : Nat)) := by
  cases y <;> first | exact h.elim | skip
  rename_i b
  cases e1 : allBl ds with
  | none => unfold idxL at h; simp only [e1] at h; exact h.elim
  | some bs =>
    unfold idxL at h
    simp only [e1] at h
    by_cases hc : bs.findIdx (· == b) < bs.length
    · rw [if_pos hc] at h
      exact ⟨b, bs, rfl, allBl_of e1, hc, h⟩
    · rw [if_neg hc] at h
      exact h.elim
theorem px_index {a b : Expr} {g : Mr.Env → Res D} {apos cpos : Pos} (ha : PVX X H0 Z W ω a f) (hb : PX X H0 Z W ω b g .fz)
    (hbase : attributeBase a "index" X.env (eval a X.env) = eval a X.env := by rfl)
    (hfew : ((backTo cpos (starEach [b] X.env)).all (fun x => !x.1) && (backToKw cpos (keywordEach [] X.env)).all (fun x => x.1.isSome)
      && decide ([b].length + ([] : List Keyword).length + (if ([] : List Keyword).isEmpty then 0 else 1) < 30)) = true := by rfl)
    (hline : (apos.endLine == cpos.line) = true := by rfl) (hs : starEach [b] X.env = (false, eval b X.env) :: starEach [] X.env := by rfl) (hplain : (backTo cpos (starEach [] X.env)).any (·.1) = false := by rfl) :
    PX X H0 Z W ω (.Call (.Attribute a "index" apos) [b] [] cpos) (idxF f g) .fz := by
  obtain ⟨ta, pa, sa⟩ := ha
  obtain ⟨tb, pb, sb⟩ := hb
  refine ⟨_, pe_bm PySem.F.plainAttrs_list PySem.F.slot_list_index PySem.F.type_list_index mt_index pa (pa_cons pb pa_nil hs) hbase hfew hline hs hplain, fun ρ σ H Q sr ps => ?_⟩
  refine sa ρ σ H _ sr ((Post.bind.mp ps).mono (fun d q v H1 g1 => ?_) fun _ h => h)
  cases d <;> first | exact q.elim | skip
  rename_i ds
  obtain ⟨x1, a0, vs, ev, fl, hz, rl⟩ := g1
  subst ev
  refine ⟨.inl ⟨rfl, _, fl.sq⟩, ?_⟩
  refine sb ρ σ H1 _ (sr.mono x1) ((Post.bind.mp (show Post _ _ ((g ρ).bind fun y => idxL ds y) from q)).mono (fun y q v2 H2 g2 => ?_) fun _ h => h)
  obtain ⟨b0, bs, ey, ed, hlt, q9⟩ := idxL_ok q
  subst ey ed
  have eb := rl_bl rl
  subst eb
  have e2 : v2 = .bl b0 := g2.r
  subst e2
  refine ⟨a0, bs.map V.bl, .bl b0, bs.findIdx (· == b0), .bl b0, rfl, rfl, (fl.ext g2.ext).sq, rfl, by simp [flatV], ?_, ?_, fun m z hm hz => ?_, q9 _ H2 (Got.fz (x1.trans g2.ext) rfl)⟩
  · rw [List.getElem?_map, List.getElem?_eq_getElem hlt]
    have := List.findIdx_getElem (w := hlt)
    simp at this
    simp [this]
  · simp [eqV]
  · rw [List.getElem?_map] at hz
    have hml : m < bs.length := Nat.lt_trans hm hlt
    rw [List.getElem?_eq_getElem hml] at hz
    cases hz
    have := List.not_of_lt_findIdx hm
    simp at this
    simp [eqV, this]
end
end Mh

namespace Mh
open PySem PySem.Spec PyProof.Rows L2 HotX L2H LamX Mr
open Mr.Res
variable [TabsOf]
section
variable {P : Program} {w : World} {K : PySem.W.Frag} {mg : Str → Option Value} {base : Heap}
theorem uH {k : Nat} {A : Around} (r : RoomH k A) : A.units + 1 < cLine := by have := r.un; omega
theorem uH64 {k : Nat} {A : Around} (r : RoomH k A) : A.units + 64 < cLine := by have := r.un; omega
theorem uH70 {k : Nat} {A : Around} (r : RoomH k A) : A.units + 70 < cLine := by have := r.un; omega
theorem op_neH {X : Cx} {k : Nat} (hr : RoomH k X.A) : OpR X (compareOp .NotEq) (fun x y H Q => rNeD X.K x y H Q ∨ rDctEq X.K true x y H Q) := OpR.or (op_neD (uH64 hr)) (op_neDct (uH70 hr))
/-- the def that names the class of the handled exception -/
theorem word_ok {WT : Addr → Str → Prop} {x y qual : Str} {st : Stmt} {f : Addr} {fd : FuncData} {N : List Str} {k pad : Nat} {ω0 ωr : List Sh} (F : Fun K x qual st f fd) (S : FnScope N [y] (defScope st)) (hF : x = qual) (hpad : pad = N.length - 1) (hω : ω0 = .fz :: List.replicate pad .dead)
    (hbody : ∀ (cdv : Value) (A : Around) (outer : List PySem.Env) (s : Shared) (H : Hp) (E : XK) (p : Addr × Obj) (C : Addr) (nm : Str), Zc (.ref C) none p.2 → (∃ us, p.2.data = .fields us) → WT C nm → HotC (cxH (L2N.CX P w) P w K mg base N x (defScope st) f cdv A outer s H E p) → RoomH k (A.deeper (envOfC x (defScope st) s.heap.objs.size f cdv)) →
      ∃ ω1 body, BX (cxH (L2N.CX P w) P w K mg base N x (defScope st) f cdv A outer s H E p) H Z0 (fun cls d _ H' => E cls d H') ω0 ω1 ωr .fz (defBody st) body ∧ ∃ ρ', body ([.adr p.1] ++ List.replicate pad .non) = .ok (.rt (.str nm) ρ')) :
    FnW P w K mg base (L2N.CX P w) (k + 1) f fd [y] (spW WT) := by
  subst hF
  refine fnW_of F S (fun p vs H Q E h => ?_) fun cdv A outer s H vs Q E p hot room h => ?_
  · obtain ⟨C, nm, _, _, _, e, _⟩ := h
    rw [e]; rfl
  · obtain ⟨C, nm, hz, hf, hw, e, hT, hq⟩ := h
    subst e
    obtain ⟨ω1, body, ⟨t, pt, st'⟩, ρ', eb⟩ := hbody cdv A outer s H E p C nm hz hf hw ⟨p, hot, List.mem_singleton.mpr rfl⟩ room
    refine ⟨t, pt, st' ([.adr p.1] ++ List.replicate pad .non) _ H _ ?_ ?_⟩
    · refine ⟨⟨fun b o _ e _ => e, hT⟩, [], ?_, by simp, by simp⟩
      have hst : L2.start N [V.ref p.1] = [V.ref p.1].map some ++ List.replicate pad none := by
        unfold L2.start
        rw [hpad]; rfl
      rw [hω, hst]
      exact slots_start (ds := [.adr p.1]) (vs := [.ref p.1]) ⟨.ref p.1, [], rfl, rfl, rfl⟩ pad
    · rw [eb]
      intro v σ' H' sr'
      obtain ⟨ex, fp, al, nd, fr⟩ := sr'
      obtain ⟨f1, f2, e1, sl, _⟩ := al
      rcases sl with ⟨z, e2⟩ | ⟨u, e2, r⟩
      · cases z
      · cases e2
        rw [show v = .str nm from r.2]
        exact hq H' ⟨fun b o e t => ex b o (fun z => z) e t, fun _ => ex.tab⟩
end
end Mh

namespace Mh
open PySem PySem.Spec PyProof.Rows L2 HotX L2H LamX Mr
open Mr.Res
variable [TabsOf]
/-- told, in short -/
def ToldOk (P : Program) (w : World) (K : PySem.W.Frag) (mg : Str → Option Value) (base : Heap) (k : Nat) (x : Str) (names : List Str) : Prop :=
  ∀ (X : Cx) (H0 : Hp) (Z : Zt) (W : WX) (ω : List Sh) (c Pt : Addr) (params : Arguments) (body : Expr) (scope : Scope) (f : Mr.Env → Res D) (p lpos pos : Pos), X.prog = P → X.w = w → X.K = K → X.mg = mg → X.base = base → Gl X x →
    TabB base mg c Pt → X.env.code = .ref c → (Pt, X.env.qual ++ "<lambda>") ∈ TabsOf.T → (∀ p ∈ TabsOf.T, p.1 = Pt → p.2 = X.env.qual ++ "<lambda>") → Room (k + 2) X.A → LamS X.env.scope scope → defaultsOf params X.env = ([], []) →
    (∀ (q : Str) (cl : List (Str × Addr)) (pm cv ctv : Value), bindArgs (PySem.W.kla_fn "<lambda>" q params body scope cl pm cv ctv) ⟨[], []⟩ = pure []) →
    (∀ (A : Around) (outer : List PySem.Env) (s : Shared) (H : Hp) (E : XK) (fl c' : Addr) (H0 : Hp), Room k (A.deeper (lamEnv X scope s.heap.objs.size fl c')) → PX (lamN X A outer s H E scope fl c') H0 Z0 (fun cls d _ H' => E cls d H') (ω.map deadF) body f .fz) →
    PX X H0 Z W ω (.Call (.Name x p) [.Lambda params body scope lpos] [] pos) (toldF names f) .fz
theorem told_ok {P : Program} {w : World} {K : PySem.W.Frag} {mg : Str → Option Value} {base : Heap} {k : Nat} {x a n nw he pw : Str} {st : Stmt} {g CS fw : Addr} {fd fdw : FuncData} {WT : Addr → Str → Prop} {names : List Str} {p1 p2 p3 p4 p5 p6 p7 p8 p9 p10 : Pos}
    (F : Fun K x x st g fd) (hm : mg x = some (.ref g)) (hst : defBody st = [.Try [.Return (some (.Call (.Name a p1) [] [] p2)) p3] [.ExceptHandler (some (.Name he p4)) (some n) [.Return (some (.Call (.Name nw p5) [.Name n p6] [] p7)) p8] p9] [] [] p10])
    (Sg : FnScope [a, n] [a] (defScope st)) (hb : L2.Binds K fd [a] []) (hva : Vis (defScope st) a) (hvn : (defScope st).names.lookup n = some .local) (hge : (defScope st).names.lookup he = some .globalImplicit) (hme : mg he = some (.ref CS)) (hgw : (defScope st).names.lookup nw = some .globalImplicit) (hmw : mg nw = some (.ref fw)) (hkw : PySem.W.keepIn K (.ref fw) = true) (hbw : L2.Binds K fdw [pw] [])
    (Fw : FnW P w K mg base (L2N.CX P w) k fw fdw [pw] (spW WT)) (hn : ∀ c ∈ names, ∀ C, mg c = some (.ref C) → WT C c ∧ PySem.W.exmOne K (.ref C) (.ref CS) = some true)
    (hdx : (x == ("__debug__" : Str)) = false := by decide) (hda : (a == ("__debug__" : Str)) = false := by decide) (hca : (a == ("__classdict__" : Str)) = false := by decide) (hdn : (n == ("__debug__" : Str)) = false := by decide) (hcn : (n == ("__classdict__" : Str)) = false := by decide)
    (hde : (he == ("__debug__" : Str)) = false := by decide) (hdw : (nw == ("__debug__" : Str)) = false := by decide) : ToldOk P w K mg base k x names := by
  intro X H0 Z W ω c Pt params body scope f p lpos pos h1 h2 h3 h4 h5 hg TB hcode hmT hu hr L hdef hbind hbody
  subst h1 h2 h3 h4 h5
  obtain ⟨oc, od, kV, doc, pm, an, cdv, ct, osl, rfl, lk, hcd⟩ := F.ex
  rw [hst] at lk hb
  exact ⟨_, pe_told (ω := ω.map deadF) hg hm F.kp lk hcd hb Sg hva hvn hge hme hgw hmw hkw hbw Fw TB hcode hmT hu hr L hdef hbind hbody hdx hda hca hdn hcn hde hdw, told_s hn⟩
end Mh

namespace Mh
open PySem PySem.Spec PyProof.Rows L2 LamX
/-! ## the end of a law some of whose defs hold lambdas -/
/-- the code table of every def of the text is empty -/
def Fresh (q : Program) (K : PySem.W.Frag) (mg : Str → Option Value) (h : Heap) : Prop := ∀ (x : Str) (g : Addr), ((recsOf q).any fun e => e.name == x) = true → mg x = some (.ref g) → OwnTab K g h
theorem walk_fresh {l : PySem.W.OpenLaw} {n k : Nat} {q : Program} {loose : List Str} {XP : (Str → Option Value) → Heap → Prop} {YP : World → Heap → Prop} {d : DefRec} {K : Params → PySem.W.Frag} {x : Str}
    (hn : l.most = some n) (hn2 : n ≤ sizeLine) (hdf : d.params.defaults = []) (hr : Room k callerA) (hY : ∀ (w : World) (h : Heap), YP w h → (K w.params).In h)
    (F : ∀ (w : World) (mg : Str → Option Value) (fa : Addr) (h : Heap), YP w h → (K w.params).In h → h.Ns mainGlobals mg → mg d.name = some (.ref fa) → Fresh q (K w.params) mg h → LawAtS l w (K w.params) (L2N.CX l.prog w) k n x mg fa h) :
    PySem.W.WalkO q loose XP YP l.row.toRowW d [] (fun f vs => PySem.call f vs) := by
  refine Att.attach_callB hn hdf fun w s₀ s₁ mg mb fa o pm cd doc a vs ns G Y ho hd hcd hmg hobj hints hlen hbits hg => ?_
  have inK := hY w _ Y
  have fresh : Fresh q (K w.params) mg s₁.heap := fun y g hy hmy c P ob fd e dd fs sl e1 e2 e3 e4 e5 => by
    obtain ⟨r, hr1, hr2⟩ := List.any_eq_true.mp hy
    have hr2 : r.name = y := beq_iff_eq.mp hr2
    obtain ⟨_, _, _, _, _, t1, t2, t3, t4, _, t6⟩ := G.T.tab r hr1
    rw [hr2, hmy] at t1
    cases t1
    rw [inK _ _ e1] at t2
    cases t2
    rw [e2] at t3
    cases t3
    rw [e3] at t4
    cases t4
    obtain ⟨⟨_, _, u1, _, u3, u4⟩, hP⟩ := t6
    rw [inK _ _ e4] at u1
    cases u1
    cases u3
    rw [e5] at u4
    cases u4
    exact hP
  obtain ⟨fd, cs, sp, z1, z2, z3, z4, z5, z6⟩ := F w mg fa _ Y inK G.T.g hmg fresh
  exact law_callTs inK G.T.g G.T.b G.T.builtins G.T.nolimit hg z1 z2 z3 G.T.bmain hobj hints (Nat.le_trans hlen hn2) hr z6 z4 (fun H h1 h2 => z5 H a ns hlen hbits h1 h2) fun H e s' z => Mr.law_cx z
/-- the tables stand empty -/
theorem tb_of [Mr.TabsOf] {cs : List (Addr × Addr)} {H : Hp} (h : ∀ p ∈ cs, H p.2 = some (.tbl #[])) (e : ∀ t ∈ Mr.TabsOf.T, ∃ p ∈ cs, p.2 = t.1) : Mr.Tb H := fun t ht => by
  obtain ⟨p, hp, e⟩ := e t ht
  exact TabS.nil (by rw [← e]; exact h p hp)
end Mh

namespace Mh
open PySem PySem.Spec PyProof.Rows L2 HotX L2H LamX Mr
open Mr.Res
/-! ## the program's own errors -/
/-- the class that x names stands on ValueError and may be raised -/
structure ExnC (K : PySem.W.Frag) (mg : Str → Option Value) (x : Str) (C : Addr) : Prop where
  g : mg x = some (.ref C)
  q : PySem.W.excIn K C [.type "ValueError", .type "Exception", .type "BaseException", .type "object"] "ValueError.__new__" = true
  k : PySem.W.keepIn K (.ref C) = true
  s : PySem.W.subIn K (.ref C) (.type "BaseException") = some true
  t : PySem.W.typeIn K (.ref C) = some (.type "type")
def Exn (K : PySem.W.Frag) (mg : Str → Option Value) (x : Str) : Prop := ∃ C, ExnC K mg x C
theorem FnW.mono {P : Program} {w : World} {K : PySem.W.Frag} {mg : Str → Option Value} {base : Heap} {CX : CXT} {j k : Nat} {f : Addr} {fd : FuncData} {ps : List Str} {sp : Addr × Obj → Sp} (F : FnW P w K mg base CX j f fd ps sp) (h : j ≤ k) : FnW P w K mg base CX k f fd ps sp :=
  ⟨F.len, fun A outer s H args us vs Q E p r => F.run A outer s H args us vs Q E p (r.mono h)⟩
variable [TabsOf]
section
variable {X : Cx} {H0 : Hp} {Z : Zt} {W : WX} {ω ω' ωr : List Sh} {τr : Sh} {p p2 pos pos' : Pos}
theorem sx_rz {x m : Str} {j : Nat} (e : Exn X.K X.mg x) (hc : X.calm = true) (tk : L2N.Takes X W) (hg : Gl X x) (hdb : (x == ("__debug__" : Str)) = false := by decide) :
    SX X H0 Z W ω ω' ωr τr (.Raise (some (.Call (.Name x p) [.Constant (.str m) j p2] [] pos)) none pos') (raF x) :=
  let ⟨_, e⟩ := e
  sx_raise hc tk PySem.F.excBase_ValueError e.q e.g e.k (raises_own e.s e.t) hg hdb
end
end Mh

namespace Mh
open PySem PySem.Spec PyProof.Rows L2 HotX L2H LamX Mr
open Mr.Res
/-- the classes that the word names, C one of them, its word nm -/
structure WTp (K : PySem.W.Frag) (mg : Str → Option Value) (names : List Str) (C : Addr) (nm : Str) : Prop where
  mem : nm ∈ names
  exc : ExcC K C
  is : ∀ y ∈ names, ∃ D, mg y = some (.ref D) ∧ PySem.W.kitOne K (.ref C) (.ref D) = some (decide (y = nm))
  ve : PySem.W.kitOne K (.ref C) (.type "ValueError") = some true
variable [TabsOf]
section
variable {X : Cx} {H0 : Hp} {Z : Zt} {W : WX} {ω : List Sh} {f : Mr.Env → Res D} {pos : Pos}
/-- isinstance(e, Y), Y one of the classes -/
theorem px_isK {names : List Str} {p : Addr × Obj} {C : Addr} {nm y : Str} {q p2 : Pos} {e : Expr} (hp : p ∈ X.pn) (hz : Zc (.ref C) none p.2) (hf : ∃ vs, p.2.data = .fields vs) (hw : WTp X.K X.mg names C nm) (he : PX X H0 Z W ω e f .fz) (hg : Gl X "isinstance") (hm : X.mg "isinstance" = none) (hg2 : Gl X y) (hy : y ∈ names) (hd : (y == ("__debug__" : Str)) = false := by decide)
    (hs : starEach [e, .Name y p2] X.env = (false, eval e X.env) :: starEach [.Name y p2] X.env := by rfl) (hs2 : starEach [.Name y p2] X.env = (false, eval (.Name y p2) X.env) :: starEach [] X.env := by rfl) (hpl : (backTo pos (starEach [.Name y p2] X.env)).any (·.1) = false := by rfl) :
    PX X H0 Z W ω (.Call (.Name "isinstance" q) [e, .Name y p2] [] pos) (isEF p.1 (decide (y = nm)) f) .fz :=
  let ⟨D, e1, e2⟩ := hw.is y hy
  px_isG (c := .ref D) hp hw.exc hz hf he hg hm (pe_glob hg2 e1 rfl hd) (fun _ z => z) e2 hs hs2 hpl
/-- isinstance(e, ValueError) -/
theorem px_isV {names : List Str} {p : Addr × Obj} {C : Addr} {nm : Str} {q p2 : Pos} {e : Expr} (hp : p ∈ X.pn) (hz : Zc (.ref C) none p.2) (hf : ∃ vs, p.2.data = .fields vs) (hw : WTp X.K X.mg names C nm) (he : PX X H0 Z W ω e f .fz) (hg : Gl X "isinstance") (hm : X.mg "isinstance" = none) (hg2 : Gl X "ValueError") (hm2 : X.mg "ValueError" = none)
    (hs : starEach [e, .Name "ValueError" p2] X.env = (false, eval e X.env) :: starEach [.Name "ValueError" p2] X.env := by rfl) (hs2 : starEach [.Name "ValueError" p2] X.env = (false, eval (.Name "ValueError" p2) X.env) :: starEach [] X.env := by rfl) (hpl : (backTo pos (starEach [.Name "ValueError" p2] X.env)).any (·.1) = false := by rfl) :
    PX X H0 Z W ω (.Call (.Name "isinstance" q) [e, .Name "ValueError" p2] [] pos) (isEF p.1 true f) .fz :=
  px_isG (c := .ty "ValueError") hp hw.exc hz hf he hg hm (pe_bltn (u := .type "ValueError") hg2 hm2 (by decide +kernel) rfl) (fun _ z => z) hw.ve hs hs2 hpl
/-- told, applied -/
theorem px_told {P : Program} {w : World} {K : PySem.W.Frag} {mg : Str → Option Value} {base : Heap} {k : Nat} {x : Str} {names : List Str} {c Pt : Addr} {params : Arguments} {body : Expr} {scope : Scope} {p lpos pos : Pos} (h : ToldOk P w K mg base k x names) (TB : TabB base mg c Pt) (mT : (Pt, X.env.qual ++ "<lambda>") ∈ TabsOf.T) (uT : ∀ p ∈ TabsOf.T, p.1 = Pt → p.2 = X.env.qual ++ "<lambda>")
    (hr : Room (k + 2) X.A) (L : lamSB X.env.scope scope = true) (hbody : ∀ (A : Around) (outer : List PySem.Env) (s : Shared) (H : Hp) (E : XK) (fl c' : Addr) (H0 : Hp), Room k (A.deeper (lamEnv X scope s.heap.objs.size fl c')) → PX (lamN X A outer s H E scope fl c') H0 Z0 (fun cls d _ H' => E cls d H') (ω.map deadF) body f .fz)
    (hP : X.prog = P := by rfl) (hw : X.w = w := by rfl) (hK : X.K = K := by rfl) (hmg : X.mg = mg := by rfl) (hba : X.base = base := by rfl) (hg : Gl X x := by rfl) (hcode : X.env.code = .ref c := by rfl) (hdef : defaultsOf params X.env = ([], []) := by rfl)
    (hbind : ∀ (q : Str) (cl : List (Str × Addr)) (pm cv ctv : Value), bindArgs (PySem.W.kla_fn "<lambda>" q params body scope cl pm cv ctv) ⟨[], []⟩ = pure [] := by intro _ _ _ _ _; rfl) :
    PX X H0 Z W ω (.Call (.Name x p) [.Lambda params body scope lpos] [] pos) (toldF names f) .fz :=
  h X H0 Z W ω c Pt params body scope f p lpos pos hP hw hK hmg hba hg TB hcode mT uT hr (lamS_by L) hdef hbind hbody
end
end Mh

namespace Mh
open PySem PySem.Spec PyProof.Rows L2 HotX L2H LamX Mr
open Mr.Res
/-! ## simp for the word's body, told -/
section
variable (f g : Mr.Env → Res D) (ρ : Mr.Env) (a : Addr) (b : Bool)
theorem isEF_nv {i : Nat} (h : gv ρ i = .adr a) : isEF a b (nv i) ρ = .ok (.bl b) := by
  unfold isEF
  rw [nv_ap, h]
  exact if_pos rfl
def flgK : D → Res D
  | .lst ds => (match allBl ds with
    | some bs => .ok (.lst (bs.map fun b => .int (if b then 1 else 0)))
    | none => .bad)
  | _ => .bad
theorem flgF_ap : flgF f ρ = (f ρ).bind flgK := nr rfl
theorem allBl_map (bs : List Bool) : allBl (bs.map .bl) = some bs := by
  induction bs with
  | nil => rfl
  | cons b bs ih => simp [allBl, ih]
theorem flgK_bl (bs : List Bool) : flgK (.lst (bs.map .bl)) = .ok (.lst ((bs.map fun b => if b then (1 : Int) else 0).map .int)) := by
  simp [flgK, allBl_map]
def idxK (g : Mr.Env → Res D) (ρ : Mr.Env) (d : D) : Res D := (asL d).bind fun ds => (g ρ).bind fun y => idxL ds y
theorem idxF_ap : idxF f g ρ = (f ρ).bind (idxK g ρ) := nr rfl
def toldK (names : List Str) : Res D → Res D
  | .ok d => .ok d
  | .ex c => if c ∈ names then .ok (.str c) else .bad
  | .bad => .bad
@[simp] theorem toldF_ap {names : List Str} : toldF names f ρ = toldK names (f ρ) := by
  unfold toldF toldK
  cases f ρ <;> rfl
@[simp] theorem toldK_ok {names : List Str} {d : D} : toldK names (.ok d) = .ok d := nr rfl
theorem toldK_ex {names : List Str} {c : Str} (hc : c ∈ names) : toldK names (.ex c) = .ok (.str c) := if_pos hc
end

variable [TabsOf]
section
variable {X : Cx} {H0 : Hp} {Z : Zt} {W : WX} {ω : List Sh} {f : Mr.Env → Res D}
/-- told, applied, the maker's name told -/
theorem px_toldQ {P : Program} {w : World} {K : PySem.W.Frag} {mg : Str → Option Value} {base : Heap} {k : Nat} {x q : Str} {names : List Str} {c Pt : Addr} {params : Arguments} {body : Expr} {scope : Scope} {p lpos pos : Pos} (h : ToldOk P w K mg base k x names) (TB : TabB base mg c Pt) (mT : (Pt, q ++ "<lambda>") ∈ TabsOf.T) (uT : ∀ p ∈ TabsOf.T, p.1 = Pt → p.2 = q ++ "<lambda>")
    (hr : Room (k + 2) X.A) (hq : X.env.qual = q) (L : lamSB X.env.scope scope = true) (hbody : ∀ (A : Around) (outer : List PySem.Env) (s : Shared) (H : Hp) (E : XK) (fl c' : Addr) (H0 : Hp), Room k (A.deeper (lamEnv X scope s.heap.objs.size fl c')) → PX (lamN X A outer s H E scope fl c') H0 Z0 (fun cls d _ H' => E cls d H') (ω.map deadF) body f .fz)
    (hP : X.prog = P := by rfl) (hw : X.w = w := by rfl) (hK : X.K = K := by rfl) (hmg : X.mg = mg := by rfl) (hba : X.base = base := by rfl) (hg : Gl X x := by rfl) (hcode : X.env.code = .ref c := by rfl) (hdef : defaultsOf params X.env = ([], []) := by rfl)
    (hbind : ∀ (q : Str) (cl : List (Str × Addr)) (pm cv ctv : Value), bindArgs (PySem.W.kla_fn "<lambda>" q params body scope cl pm cv ctv) ⟨[], []⟩ = pure [] := by intro _ _ _ _ _; rfl) :
    PX X H0 Z W ω (.Call (.Name x p) [.Lambda params body scope lpos] [] pos) (toldF names f) .fz := by
  subst hq
  exact px_told h TB mT uT hr L hbody hP hw hK hmg hba hg hcode hdef hbind
end
/-- membership told by a list of cases -/
theorem fa_nil {α : Type} {P : α → Prop} : ∀ y ∈ ([] : List α), P y := fun _ h => by cases h
theorem fa_cons {α : Type} {P : α → Prop} {a : α} {l : List α} (h : P a) (t : ∀ y ∈ l, P y) : ∀ y ∈ a :: l, P y := fun y hy => by
  rcases List.mem_cons.mp hy with e | e
  · subst e; exact h
  · exact t y e
end Mh

namespace Mr
variable [TabsOf]
open PySem PySem.Spec PyProof.Rows L2
open Res
/-! ## expressions that change own slots -/
section
variable {K : Fr} {H H' H0 : Hp} {Z : Zt}
theorem SR.tail {ω : List Sh} {ρ : Env} {σ : Sg} {τ : Sh} {d : D} {s : Option V} (h : SR K H0 Z (τ :: ω) (d :: ρ) (s :: σ) H) : SR K H0 Z ω ρ σ H := by
  obtain ⟨e, fp, ⟨f1, f2, e1, sl, al⟩, nd, fr⟩ := h
  subst e1
  exact ⟨e, f2, al, (List.nodup_append.mp nd).2.1, fun a ha => fr a (List.mem_append_right _ ha)⟩
theorem SR.head {ω : List Sh} {ρ : Env} {σ : Sg} {d : D} {v : V} (h : SR K H0 Z (.fz :: ω) (d :: ρ) (some v :: σ) H) : R K H d v := by
  obtain ⟨e, fp, ⟨f1, f2, e1, sl, al⟩, nd, fr⟩ := h
  rcases sl with ⟨z, _⟩ | ⟨u, e2, r⟩
  · cases z
  · cases e2; exact r.2
/-- the value ahead of the slots goes into a slot -/
theorem SR.into {ω : List Sh} {ρ : Env} {σ : Sg} {τ : Sh} {d : D} {s : Option V} {i : Nat} (hi : i < ω.length) (h : SR K H0 Z (τ :: ω) (d :: ρ) (s :: σ) H) : SR K H0 Z (ω.set i τ) (ρ.set i d) (σ.set i s) H := by
  obtain ⟨e, fp, ⟨f1, f2, e1, sl, al⟩, nd, fr⟩ := h
  subst e1
  obtain ⟨d0, s0, A, f, B, q1, q2, q3, _, go⟩ := al.focus i (List.getElem?_eq_getElem hi)
  subst q3
  refine ⟨e, A ++ (f1 ++ B), go H τ d s f1 (KeepF.refl H) (fun _ _ => rfl) sl, ?_, fun a ha => fr a ?_⟩
  · have n1 := List.nodup_append.mp nd
    have n2 := List.nodup_append.mp n1.2.1
    have n3 := List.nodup_append.mp n2.2.1
    rw [List.nodup_append]
    refine ⟨n2.1, List.nodup_append.mpr ⟨n1.1, n3.2.1, fun a ha b hb => n1.2.2 a ha b (by simp [hb])⟩, fun a ha b hb e => ?_⟩
    subst e
    rcases List.mem_append.mp hb with hb | hb
    · exact n1.2.2 a hb a (by simp [ha]) rfl
    · exact n2.2.2 a ha a (by simp [hb]) rfl
  · rcases List.mem_append.mp ha with ha | ha
    · simp [ha]
    · rcases List.mem_append.mp ha with ha | ha <;> simp [ha]
theorem SR.keepHead {ω : List Sh} {ρ : Env} {σ : Sg} {d : D} {v : V} (h : SR K H0 Z ω ρ σ H) (r : R K H d v) : SR K H0 Z (.fz :: ω) (d :: ρ) (some v :: σ) H := h.cons (Got.fz (Ext.refl H) r)
end
section
variable (X : Cx) (H0 : Hp) (Z : Zt) (W : WX) (ω : List Sh)
def PEX (e : Expr) (f : Env → Res (D × Env)) (τ : Sh) : Prop := ∃ t, PE X e t ∧ ∀ ρ σ H Q, SR X.K H0 Z ω ρ σ H → Post (fun p => ∀ v H', KeepF H H' → SR X.K H0 Z (τ :: ω) (p.1 :: p.2) (some v :: σ) H' → Q v H') (EK X H0 Z W) (f ρ) → t σ H Q
def PAE (es : List Expr) (f : Env → Res (List D × Env)) : Prop := ∃ t, PA X es t ∧ ∀ ρ σ H Q, SR X.K H0 Z ω ρ σ H → Post (fun p => ∀ vs H', KeepF H H' → SR X.K H0 Z ω p.2 σ H' → Rl X.K H' p.1 vs → Q vs H') (EK X H0 Z W) (f ρ) → t σ H Q
end
section
variable {X : Cx} {H0 : Hp} {Z : Zt} {W : WX} {ω ωr : List Sh} {τr : Sh} {pos : Pos}
def puE (f : Env → Res D) (ρ : Env) : Res (D × Env) := (f ρ).bind fun d => .ok (d, ρ)
theorem pex_of {e : Expr} {f : Env → Res D} {τ : Sh} (h : PX X H0 Z W ω e f τ) : PEX X H0 Z W ω e (puE f) τ := by
  obtain ⟨t, p, s⟩ := h
  exact ⟨t, p, fun ρ σ H Q sr ps => s ρ σ H Q sr ((Post.bind.mp ps).mono (fun d q v H' g => q v H' g.ext.keepF (sr.cons g)) fun _ h => h)⟩
theorem PEX.freeze {e : Expr} {f : Env → Res (D × Env)} {τ : Sh} (h : PEX X H0 Z W ω e f τ) (hτ : τ ≠ .dead := by decide) : PEX X H0 Z W ω e f .fz := by
  obtain ⟨t, p, s⟩ := h
  refine ⟨_, pe_fz p, fun ρ σ H Q sr ps => s ρ σ H _ sr (ps.mono (fun d q v H' k sr' => ?_) fun _ h => h)⟩
  exact (sr'.fz (X := X) 0 rfl hτ).mono fun H2 ⟨k2, sr2⟩ => q v H2 (k.trans k2) sr2
/-! ### statements -/
def setE (i : Nat) (f : Env → Res (D × Env)) (ρ : Env) : Res Fl := (f ρ).bind fun p => .ok (.nx (p.2.set i p.1))
theorem sx_setE (i : Nat) {x : Str} {e : Expr} {f : Env → Res (D × Env)} {τ : Sh} {pos' : Pos} (hN : X.N.Nodup) (he : PEX X H0 Z W ω e f τ) (hi : X.N[i]? = some x := by rfl) (hl : i < ω.length := by decide) (hx : Loc X.env.scope x := by first | exact .inl rfl | exact .inr rfl)
    (hs : swapsWith e (some (.Name x pos')) pos.line X.env = pure false := by rfl) (hf : X.fn x = true ∨ X.env.scope.names.lookup x = some .local := by first | exact .inl rfl | exact .inr rfl) :
    SX X H0 Z W ω (ω.set i τ) ωr τr (.Assign [.Name x pos'] e pos) (setE i f) := by
  obtain ⟨t, p, s⟩ := he
  refine ⟨_, ps_set hN hi hx p hs hf, fun ρ σ H Dn sr ps => ?_⟩
  exact s ρ σ H _ sr ((Post.bind.mp ps).mono (fun d q v H1 k sr' => q _ H1 k (sr'.into hl)) fun _ h => h)
def exprE (f : Env → Res (D × Env)) (ρ : Env) : Res Fl := (f ρ).bind fun p => .ok (.nx p.2)
theorem sx_exprE {e : Expr} {f : Env → Res (D × Env)} {τ : Sh} (he : PEX X H0 Z W ω e f τ) (hs : swapsWith e none pos.line X.env = pure false := by rfl) : SX X H0 Z W ω ω ωr τr (.Expr e pos) (exprE f) := by
  obtain ⟨t, p, s⟩ := he
  refine ⟨_, ps_expr p hs, fun ρ σ H Dn sr ps => ?_⟩
  exact s ρ σ H _ sr ((Post.bind.mp ps).mono (fun d q v H1 k sr' => q _ H1 k sr'.tail) fun _ h => h)
def retE (ωr : List Sh) (f : Env → Res (D × Env)) (ρ : Env) : Res Fl := (f ρ).bind fun p => .ok (.rt p.1 (killE ωr p.2))
theorem sx_retE {e : Expr} {f : Env → Res (D × Env)} (he : PEX X H0 Z W ω e f τr) (hw : wkB ω ωr = true := by rfl) (hτ : τr ≠ .dead := by decide) {ω' : List Sh} : SX X H0 Z W ω ω' ωr τr (.Return (some e) pos) (retE ωr f) := by
  obtain ⟨t, p, s⟩ := he
  refine ⟨_, ps_ret p, fun ρ σ H Dn sr ps => ?_⟩
  refine s ρ σ H _ sr ((Post.bind.mp ps).mono (fun d q v H1 k sr' => q v σ H1 ?_) fun _ h => h)
  have := sr'.wk (ω' := τr :: ωr) (by simp only [wkB, hw, Bool.and_true, decide_true, Bool.or_true])
  rw [show killE (τr :: ωr) (d.1 :: d.2) = d.1 :: killE ωr d.2 by simp only [killE, if_neg hτ]] at this
  exact this
/-- target = value -/
def asgE (f : Env → Res (D × Env)) (g : D → Env → Res Env) (ρ : Env) : Res Fl := (f ρ).bind fun p => (g p.1 p.2).bind fun ρ' => .ok (.nx ρ')
theorem sx_asgE {tg e : Expr} {f : Env → Res (D × Env)} {g : D → Env → Res Env} {ω' : List Sh} (he : PEX X H0 Z W ω e f .fz) (hg : TGX X H0 Z ω ω' tg g) (ng : ∀ d ρ c, g d ρ ≠ .ex c) (hs : swapsWithSole [tg] e pos.line X.env = pure false := by rfl) (hw : swappedStores [tg] e X.env = pure none := by rfl)
    (h1 : (assignEach [tg] X.env).map (·.2) = [assign tg X.env] := by rfl) : SX X H0 Z W ω ω' ωr τr (.Assign [tg] e pos) (asgE f g) := by
  obtain ⟨t, p, s⟩ := he
  obtain ⟨t', p', s'⟩ := hg
  refine ⟨_, ps_asg p p' hs hw h1, fun ρ σ H Dn sr ps => ?_⟩
  refine s ρ σ H _ sr ((Post.bind.mp ps).mono (fun d q v H1 k gt => ?_) fun _ h => h)
  refine s' d.1 v d.2 σ H1 _ gt.tail gt.head ?_
  cases e2 : g d.1 d.2 with
  | ok ρ' => rw [e2] at q; exact fun σ' sr' => q σ' H1 k sr'
  | ex c => exact absurd e2 (ng _ _ c)
  | bad => rw [e2] at q; exact q.elim
/-! ### argument lists, tuples, lists -/
def consE (f : Env → Res (D × Env)) (g : Env → Res (List D × Env)) (ρ : Env) : Res (List D × Env) := (f ρ).bind fun p => (g p.2).bind fun r => .ok (p.1 :: r.1, r.2)
def nilE (ρ : Env) : Res (List D × Env) := .ok ([], ρ)
theorem pae_nil : PAE X H0 Z W ω [] nilE := ⟨_, pa_nil, fun ρ σ H Q sr ps => ps [] H (KeepF.refl H) sr rfl⟩
theorem pae_cons {a : Expr} {es : List Expr} {f : Env → Res (D × Env)} {g : Env → Res (List D × Env)} (ha : PEX X H0 Z W ω a f .fz) (hb : PAE X H0 Z W ω es g) (hs : starEach (a :: es) X.env = (false, eval a X.env) :: starEach es X.env := by rfl) : PAE X H0 Z W ω (a :: es) (consE f g) := by
  obtain ⟨ta, pa, sa⟩ := ha
  obtain ⟨tb, pb, sb⟩ := hb
  refine ⟨_, pa_cons pa pb hs, fun ρ σ H Q sr ps => ?_⟩
  refine sa ρ σ H _ sr ((Post.bind.mp ps).mono (fun p q v H1 k1 sr1 => ?_) fun _ h => h)
  exact sb p.2 σ H1 _ sr1.tail ((Post.bind.mp q).mono (fun r q vs H2 k2 sr2 rl => q (v :: vs) H2 (k1.trans k2) sr2 ⟨v, vs, rfl, R.keep k2 _ sr1.head, rl⟩) fun _ h => h)
def tupE (f : Env → Res (List D × Env)) (ρ : Env) : Res (D × Env) := (f ρ).bind fun p => if p.1.length ≤ sizeLine then .ok (.tup p.1, p.2) else .bad
theorem pex_tup {es : List Expr} {x1} {f : Env → Res (List D × Env)} (h : PAE X H0 Z W ω es f) : PEX X H0 Z W ω (.Tuple es x1 pos) (tupE f) .fz := by
  obtain ⟨t, p, s⟩ := h
  refine ⟨_, pe_tup p, fun ρ σ H Q sr ps => s ρ σ H _ sr ((Post.bind.mp ps).mono (fun ds q vs H1 k sr1 l => ?_) fun _ h => h)⟩
  obtain ⟨c, q⟩ := Post.ite q
  exact ⟨by rw [l.length]; exact c, fun p hp => q _ _ (k.trans (Ext.new hp).keepF) (sr1.cons (Got.tup (Ext.refl H1) hp l (by rw [l.length]; exact c)))⟩
/-- xs + ys of lists -/
def catE (f : Env → Res D) (g : Env → Res (D × Env)) (ρ : Env) : Res (D × Env) := (f ρ).bind fun x => (g ρ).bind fun p => (catD x p.1).bind fun z => .ok (z, p.2)
theorem pex_cat {a b : Expr} {f : Env → Res D} {g : Env → Res (D × Env)} (ha : PX X H0 Z W ω a f .fz) (hb : PEX X H0 Z W ω b g .fz) : PEX X H0 Z W ω (.BinOp a .Add b pos) (catE f g) (.own .fz) := by
  obtain ⟨ta, pa, sa⟩ := ha
  obtain ⟨tb, pb, sb⟩ := hb
  refine ⟨_, pe_op op_catL pa pb, fun ρ σ H Q sr ps => ?_⟩
  refine sa ρ σ H _ sr ((Post.bind.mp ps).mono (fun x q v H1 g1 => ?_) fun _ h => h)
  refine sb ρ σ H1 _ (sr.mono g1.ext) ((Post.bind.mp q).mono (fun p q v2 H2 k2 sr2 => ?_) fun _ h => h)
  refine cat_s x p.1 v v2 H2 Q (R.keep k2 _ g1.r).v sr2.head.v ?_
  cases e : catD x p.1 with
  | ok z => rw [e] at q; exact fun w H' g3 => q w H' ((g1.ext.keepF.trans k2).trans g3.ext.keepF) (sr2.tail.cons g3)
  | ex c => exact absurd e (catD_ne _ _ c)
  | bad => rw [e] at q; exact q
/-! ### own lists written to, as values -/
theorem keepF_upd {H : Hp} {a : Addr} {u o : HO} (e : H a = some u) (n : ¬ isF u) : KeepF H (upd H a o) := fun b x e' f => by
  by_cases hb : b = a
  · subst hb; rw [e] at e'; cases e'; exact absurd f n
  · rw [upd_ne hb]; exact e'
/-- the own list (of things that stand) at slot i is rewritten -/
theorem SR.rewrite {K : Fr} {H0 H : Hp} {ρ : Env} {σ : Sg} {i : Nat} (sr : SR K H0 Z ω ρ σ H) (hω : ω[i]? = some (.own .fz)) :
    ∃ ds a vs, gv ρ i = .lst ds ∧ σ[i]? = some (some (.ref a)) ∧ H a = some (.lst vs) ∧ vs.length ≤ sizeLine ∧ Rl K H ds vs ∧
      ∀ (H1 : Hp) (ds' : List D) (vs' : List V), H1 a = some (.lst vs) → Ext H H1 → vs'.length ≤ sizeLine → Rl K H1 ds' vs' → KeepF H (upd H1 a (.lst vs')) ∧ SR K H0 Z ω (ρ.set i (.lst ds')) σ (upd H1 a (.lst vs')) := by
  obtain ⟨d0, s0, f0, e1, e2, sl, nd, fr, go⟩ := sr.focus i hω
  rcases sl with ⟨z, _⟩ | ⟨v0, e3, ro⟩
  · cases z
  subst e3
  obtain ⟨ds, a, vs, fps, ed, ev, eH, hz, efp, al⟩ := ro
  obtain ⟨e4, l⟩ := al.rl
  subst ed ev e4 efp
  refine ⟨ds, a, vs, gv_is e1, e2, eH, hz, l, fun H1 ds' vs' eH1 x1 hz' l' => ?_⟩
  have k2 : KeepF H1 (upd H1 a (.lst vs')) := keepF_upd eH1 fun h => h
  refine ⟨x1.keepF.trans k2, ?_⟩
  have sr' := go (upd H1 a (.lst vs')) (.own .fz) (.lst ds') (some (.ref a)) [a] (x1.keepF.trans k2) (fun b o e nb t => by
      rw [upd_ne fun z => nb (by simp [z])]
      exact x1 b o e t) (x1.tab.trans (TabK.upd eH1 trivial)) (.inr ⟨_, rfl, ds', a, vs', [], rfl, rfl, upd_same, hz', rfl, All3.of_rl (Rl.keep k2 _ l')⟩) (by simp) fun b hb => .inl (by simpa using hb)
  rw [set_same hω, set_same e2] at sr'
  exact sr'
/-- xs.pop() -/
def popK (i : Nat) (ρ : Env) : D → Res (D × Env)
  | .lst ds => match ds.getLast? with
    | some d => .ok (d, ρ.set i (.lst ds.dropLast))
    | none => .bad
  | _ => .bad
def popE (i : Nat) (ρ : Env) : Res (D × Env) := popK i ρ (gv ρ i)
theorem Rl.dropLast {K : Fr} {H : Hp} {ds : List D} {vs : List V} (l : Rl K H ds vs) : Rl K H ds.dropLast vs.dropLast := by
  rw [List.dropLast_eq_take, List.dropLast_eq_take, l.length]
  exact l.take _
theorem Rl.eraseIdx {K : Fr} {H : Hp} : ∀ {ds : List D} {vs : List V} (i : Nat), Rl K H ds vs → Rl K H (ds.eraseIdx i) (vs.eraseIdx i)
  | [], _, _, h => by rw [show _ = [] from h]; rfl
  | d :: ds, _, 0, ⟨v, r, e, h, t⟩ => by subst e; exact t
  | d :: ds, _, i + 1, ⟨v, r, e, h, t⟩ => by subst e; exact ⟨v, r.eraseIdx i, rfl, h, Rl.eraseIdx i t⟩
theorem pex_pop (i : Nat) {x : Str} {p apos cpos : Pos} (hN : X.N[i]? = some x := by rfl) (hω : ω[i]? = some (.own .fz) := by rfl) (hv : Vis X.env.scope x := by first | exact Or.inl rfl | exact Or.inr (Or.inl rfl) | exact Or.inr (Or.inr rfl)) (hd : (x == ("__debug__" : Str)) = false := by decide)
    (hcd : (x == ("__classdict__" : Str)) = false := by decide) (hbase : attributeBase (.Name x p) "pop" X.env (eval (.Name x p) X.env) = eval (.Name x p) X.env := by rfl) (hline : (apos.endLine == cpos.line) = true := by rfl) :
    PEX X H0 Z W ω (.Call (.Attribute (.Name x p) "pop" apos) [] [] cpos) (popE i) .fz := by
  refine ⟨_, pe_bm0 PySem.F.plainAttrs_list PySem.F.slot_list_pop PySem.F.type_list_pop mt_pop (pe_var hN hv hd hcd) hbase hline, fun ρ σ H Q sr ps => ?_⟩
  obtain ⟨ds, a, vs, eg, e2, eH, hz, l, go⟩ := sr.rewrite hω
  refine ⟨.ref a, e2, .inl ⟨rfl, vs, .inl (.inl eH)⟩, ?_⟩
  unfold popE at ps
  rw [eg] at ps
  unfold popK at ps
  dsimp only at ps
  cases el : ds.getLast? with
  | none => rw [el] at ps; exact ps.elim
  | some d =>
    rw [el] at ps
    rw [List.getLast?_eq_getElem?] at el
    obtain ⟨v, ev, rv⟩ := l.get el
    obtain ⟨k2, sr2⟩ := go H ds.dropLast vs.dropLast eH (Ext.refl H) (by rw [List.length_dropLast]; omega) l.dropLast
    exact ⟨a, vs, v, rfl, rfl, eH, by rw [l.length]; exact ev, ps v _ k2 (sr2.keepHead (R.keep k2 _ rv))⟩
/-- xs.pop(i) -/
def popAtK (i : Nat) (ρ : Env) (y : D) : D → Res (D × Env)
  | .lst ds => match y with
    | .int j => if -(2 ^ 63) ≤ j ∧ j < 2 ^ 63 then (match seqIndex? j ds.length with
      | some k => (match ds[k]? with
        | some d => .ok (d, ρ.set i (.lst (ds.eraseIdx k)))
        | none => .bad)
      | none => .bad) else .bad
    | _ => .bad
  | _ => .bad
def popAtK2 (i : Nat) (ρ : Env) (y : D) : Res (D × Env) := popAtK i ρ y (gv ρ i)
def popAtE (i : Nat) (f : Env → Res D) (ρ : Env) : Res (D × Env) := (f ρ).bind (popAtK2 i ρ)
theorem pex_popAt (i : Nat) {x : Str} {e : Expr} {f : Env → Res D} {p apos cpos : Pos} (he : PX X H0 Z W ω e f .fz) (hN : X.N[i]? = some x := by rfl) (hω : ω[i]? = some (.own .fz) := by rfl) (hv : Vis X.env.scope x := by first | exact Or.inl rfl | exact Or.inr (Or.inl rfl) | exact Or.inr (Or.inr rfl)) (hd : (x == ("__debug__" : Str)) = false := by decide)
    (hcd : (x == ("__classdict__" : Str)) = false := by decide) (hbase : attributeBase (.Name x p) "pop" X.env (eval (.Name x p) X.env) = eval (.Name x p) X.env := by rfl)
    (hfew : ((backTo cpos (starEach [e] X.env)).all (fun x => !x.1) && (backToKw cpos (keywordEach [] X.env)).all (fun x => x.1.isSome)
      && decide ([e].length + ([] : List Keyword).length + (if ([] : List Keyword).isEmpty then 0 else 1) < 30)) = true := by rfl)
    (hline : (apos.endLine == cpos.line) = true := by rfl) (hs : starEach [e] X.env = (false, eval e X.env) :: starEach [] X.env := by rfl) (hplain : (backTo cpos (starEach [] X.env)).any (·.1) = false := by rfl) :
    PEX X H0 Z W ω (.Call (.Attribute (.Name x p) "pop" apos) [e] [] cpos) (popAtE i f) .fz := by
  obtain ⟨t, pe, s⟩ := he
  refine ⟨_, pe_bm PySem.F.plainAttrs_list PySem.F.slot_list_pop PySem.F.type_list_pop mt_popAt (pe_var hN hv hd hcd) (pa_cons pe pa_nil hs) hbase hfew hline hs hplain, fun ρ σ H Q sr ps => ?_⟩
  obtain ⟨ds, a, vs, eg, e2, eH, hz, l, go⟩ := sr.rewrite hω
  refine ⟨.ref a, e2, .inl ⟨rfl, vs, .inl (.inl eH)⟩, ?_⟩
  refine s ρ σ H _ sr ((Post.bind.mp ps).mono (fun y q v H1 g => ?_) fun _ h => h)
  unfold popAtK2 at q
  rw [eg] at q
  cases y <;> first | exact q.elim | skip
  rename_i j
  unfold popAtK at q
  dsimp only at q
  obtain ⟨c, q⟩ := Post.ite q
  cases ek : seqIndex? j ds.length with
  | none => rw [ek] at q; exact q.elim
  | some k =>
    rw [ek] at q
    dsimp only at q
    cases ed : ds[k]? with
    | none => rw [ed] at q; exact q.elim
    | some d =>
      rw [ed] at q
      have eH1 := g.ext _ _ eH fun ps h => by cases h
      obtain ⟨v', ev, rv⟩ := (l.ext g.ext).get ed
      obtain ⟨k2, sr2⟩ := go H1 (ds.eraseIdx k) (vs.eraseIdx k) eH1 g.ext (by have := len_erase vs k; omega) ((l.ext g.ext).eraseIdx k)
      refine ⟨a, vs, j, k, v', rfl, by rw [show v = V.int j from g.r], eH1, c.1, c.2, by rw [l.length]; exact ek, ev, q v' _ k2 (sr2.keepHead (R.keep ?_ _ rv))⟩
      exact keepF_upd eH1 fun h => h
/-- xs.remove(k), ints -/
def remK (i : Nat) (ρ : Env) (y : D) : D → Res (D × Env)
  | .lst ds => match y, intsOf ds with
    | .int k, some ns => if k ∈ ns then .ok (.non, ρ.set i (.lst ((ns.erase k).map .int))) else .bad
    | _, _ => .bad
  | _ => .bad
def remK2 (i : Nat) (ρ : Env) (y : D) : Res (D × Env) := remK i ρ y (gv ρ i)
def remE (i : Nat) (f : Env → Res D) (ρ : Env) : Res (D × Env) := (f ρ).bind (remK2 i ρ)
theorem pex_rem (i : Nat) {x : Str} {e : Expr} {f : Env → Res D} {p apos cpos : Pos} (he : PX X H0 Z W ω e f .fz) (hN : X.N[i]? = some x := by rfl) (hω : ω[i]? = some (.own .fz) := by rfl) (hv : Vis X.env.scope x := by first | exact Or.inl rfl | exact Or.inr (Or.inl rfl) | exact Or.inr (Or.inr rfl)) (hd : (x == ("__debug__" : Str)) = false := by decide)
    (hcd : (x == ("__classdict__" : Str)) = false := by decide) (hbase : attributeBase (.Name x p) "remove" X.env (eval (.Name x p) X.env) = eval (.Name x p) X.env := by rfl)
    (hfew : ((backTo cpos (starEach [e] X.env)).all (fun x => !x.1) && (backToKw cpos (keywordEach [] X.env)).all (fun x => x.1.isSome)
      && decide ([e].length + ([] : List Keyword).length + (if ([] : List Keyword).isEmpty then 0 else 1) < 30)) = true := by rfl)
    (hline : (apos.endLine == cpos.line) = true := by rfl) (hs : starEach [e] X.env = (false, eval e X.env) :: starEach [] X.env := by rfl) (hplain : (backTo cpos (starEach [] X.env)).any (·.1) = false := by rfl) :
    PEX X H0 Z W ω (.Call (.Attribute (.Name x p) "remove" apos) [e] [] cpos) (remE i f) .fz := by
  obtain ⟨t, pe, s⟩ := he
  refine ⟨_, pe_bm PySem.F.plainAttrs_list PySem.F.slot_list_remove PySem.F.type_list_remove mt_remove (pe_var hN hv hd hcd) (pa_cons pe pa_nil hs) hbase hfew hline hs hplain, fun ρ σ H Q sr ps => ?_⟩
  obtain ⟨ds, a, vs, eg, e2, eH, hz, l, go⟩ := sr.rewrite hω
  refine ⟨.ref a, e2, .inl ⟨rfl, vs, .inl (.inl eH)⟩, ?_⟩
  refine s ρ σ H _ sr ((Post.bind.mp ps).mono (fun y q v H1 g => ?_) fun _ h => h)
  unfold remK2 at q
  rw [eg] at q
  cases y <;> first | exact q.elim | skip
  rename_i k
  unfold remK at q
  dsimp only at q
  cases ei : intsOf ds with
  | none => rw [ei] at q; exact q.elim
  | some ns =>
    rw [ei] at q
    dsimp only at q
    obtain ⟨c, q⟩ := Post.ite q
    have ev := intsOf_v l ei
    subst ev
    have eH1 := g.ext _ _ eH fun ps h => by cases h
    obtain ⟨j, hj, hlt, hno⟩ : ∃ j, ns[j]? = some k ∧ ns.erase k = ns.eraseIdx j ∧ ∀ m : Nat, m < j → ns[m]? ≠ some k := by
      have hlt : ns.idxOf k < ns.length := List.idxOf_lt_length_iff.mpr c
      refine ⟨ns.idxOf k, ?_, List.erase_eq_eraseIdx_of_idxOf rfl, fun m hm e => ?_⟩
      · rw [List.getElem?_eq_getElem hlt, List.getElem_idxOf]
      · have := List.not_of_lt_findIdx (p := (· == k)) (xs := ns) hm
        obtain ⟨h1, h2⟩ := List.getElem?_eq_some_iff.mp e
        simp [h2] at this
    obtain ⟨k2, sr2⟩ := go H1 ((ns.erase k).map .int) ((ns.erase k).map V.int) eH1 g.ext (by have := List.length_erase_le (a := k) (l := ns); simp at hz ⊢; omega) (ints_R _)
    refine ⟨a, ns, k, j, rfl, by rw [show v = V.int k from g.r], eH1, hj, hno, ?_⟩
    rw [← hlt]
    exact q .non _ k2 (sr2.keepHead rfl)
/-- xs.extend(ys), ys new -/
def extK2 (i : Nat) (ρ : Env) (y : D) : D → Res (D × Env)
  | .lst ds => match y with
    | .lst es => if ds.length + es.length ≤ sizeLine then .ok (.non, ρ.set i (.lst (ds ++ es))) else .bad
    | _ => .bad
  | _ => .bad
def extK (i : Nat) (ρ : Env) (y : D) : Res (D × Env) := extK2 i ρ y (gv ρ i)
def extE (i : Nat) (f : Env → Res D) (ρ : Env) : Res (D × Env) := (f ρ).bind (extK i ρ)
theorem pex_ext (i : Nat) {x : Str} {e : Expr} {f : Env → Res D} {p apos cpos : Pos} (he : PX X H0 Z W ω e f (.own .fz)) (hN : X.N[i]? = some x := by rfl) (hω : ω[i]? = some (.own .fz) := by rfl) (hv : Vis X.env.scope x := by first | exact Or.inl rfl | exact Or.inr (Or.inl rfl) | exact Or.inr (Or.inr rfl)) (hd : (x == ("__debug__" : Str)) = false := by decide)
    (hcd : (x == ("__classdict__" : Str)) = false := by decide) (hbase : attributeBase (.Name x p) "extend" X.env (eval (.Name x p) X.env) = eval (.Name x p) X.env := by rfl)
    (hfew : ((backTo cpos (starEach [e] X.env)).all (fun x => !x.1) && (backToKw cpos (keywordEach [] X.env)).all (fun x => x.1.isSome)
      && decide ([e].length + ([] : List Keyword).length + (if ([] : List Keyword).isEmpty then 0 else 1) < 30)) = true := by rfl)
    (hline : (apos.endLine == cpos.line) = true := by rfl) (hs : starEach [e] X.env = (false, eval e X.env) :: starEach [] X.env := by rfl) (hplain : (backTo cpos (starEach [] X.env)).any (·.1) = false := by rfl) :
    PEX X H0 Z W ω (.Call (.Attribute (.Name x p) "extend" apos) [e] [] cpos) (extE i f) .fz := by
  obtain ⟨t, pe, s⟩ := he
  refine ⟨_, pe_bm PySem.F.plainAttrs_list PySem.F.slot_list_extend PySem.F.type_list_extend mt_extend (pe_var hN hv hd hcd) (pa_cons pe pa_nil hs) hbase hfew hline hs hplain, fun ρ σ H Q sr ps => ?_⟩
  obtain ⟨ds, a, vs, eg, e2, eH, hz, l, go⟩ := sr.rewrite hω
  refine ⟨.ref a, e2, .inl ⟨rfl, vs, .inl (.inl eH)⟩, ?_⟩
  refine s ρ σ H _ sr ((Post.bind.mp ps).mono (fun y q v H1 g => ?_) fun _ h => h)
  unfold extK at q
  rw [eg] at q
  obtain ⟨x1, fpv, ⟨es, b, us, fps, ed, ev, eb, zb, ef, al⟩, frv, ndv⟩ := g
  obtain ⟨e4, l2⟩ := al.rl
  subst ed ev e4
  unfold extK2 at q
  dsimp only at q
  obtain ⟨c, q⟩ := Post.ite q
  have eH1 := x1 _ _ eH fun ps h => by cases h
  have hle : vs.length + us.length ≤ sizeLine := by rw [l.length, l2.length]; exact c
  obtain ⟨k2, sr2⟩ := go H1 (ds ++ es) (vs ++ us) eH1 x1 (by rw [List.length_append]; exact hle) ((l.ext x1).append l2)
  exact ⟨a, b, vs, us, rfl, rfl, eH1, eb, hle, q .non _ k2 (sr2.keepHead rfl)⟩
/-- xs.append(e), e changes own slots -/
def appEK2 (i : Nat) (d : D) (ρ : Env) : D → Res (D × Env)
  | .lst ds => if ds.length < sizeLine then .ok (.non, ρ.set i (.lst (ds ++ [d]))) else .bad
  | _ => .bad
def appEK (i : Nat) (p : D × Env) : Res (D × Env) := appEK2 i p.1 p.2 (gv p.2 i)
def appE (i : Nat) (f : Env → Res (D × Env)) (ρ : Env) : Res (D × Env) := (f ρ).bind (appEK i)
theorem pex_app (i : Nat) {x : Str} {e : Expr} {f : Env → Res (D × Env)} {p apos cpos : Pos} (he : PEX X H0 Z W ω e f .fz) (hN : X.N[i]? = some x := by rfl) (hω : ω[i]? = some (.own .fz) := by rfl) (hv : Vis X.env.scope x := by first | exact Or.inl rfl | exact Or.inr (Or.inl rfl) | exact Or.inr (Or.inr rfl)) (hd : (x == ("__debug__" : Str)) = false := by decide)
    (hcd : (x == ("__classdict__" : Str)) = false := by decide) (hbase : attributeBase (.Name x p) "append" X.env (eval (.Name x p) X.env) = eval (.Name x p) X.env := by rfl)
    (hfew : ((backTo cpos (starEach [e] X.env)).all (fun x => !x.1) && (backToKw cpos (keywordEach [] X.env)).all (fun x => x.1.isSome)
      && decide ([e].length + ([] : List Keyword).length + (if ([] : List Keyword).isEmpty then 0 else 1) < 30)) = true := by rfl)
    (hline : (apos.endLine == cpos.line) = true := by rfl) (hs : starEach [e] X.env = (false, eval e X.env) :: starEach [] X.env := by rfl) (hplain : (backTo cpos (starEach [] X.env)).any (·.1) = false := by rfl) :
    PEX X H0 Z W ω (.Call (.Attribute (.Name x p) "append" apos) [e] [] cpos) (appE i f) .fz := by
  obtain ⟨t, pe, s⟩ := he
  refine ⟨_, pe_bm PySem.F.plainAttrs_list PySem.F.slot_list_append PySem.F.type_list_append mt_append (pe_var hN hv hd hcd) (pa_cons pe pa_nil hs) hbase hfew hline hs hplain, fun ρ σ H Q sr ps => ?_⟩
  obtain ⟨ds0, a0, vs0, _, e2, eH0, _, _, _⟩ := sr.rewrite hω
  refine ⟨.ref a0, e2, .inl ⟨rfl, vs0, .inl (.inl eH0)⟩, ?_⟩
  refine s ρ σ H _ sr ((Post.bind.mp ps).mono (fun y q v H1 k1 sr1 => ?_) fun _ h => h)
  obtain ⟨ds, a, vs, eg, e3, eH, hz, l, go⟩ := sr1.tail.rewrite hω
  rw [e2] at e3
  cases e3
  unfold appEK at q
  rw [eg] at q
  unfold appEK2 at q
  dsimp only at q
  obtain ⟨c, q⟩ := Post.ite q
  obtain ⟨k2, sr2⟩ := go H1 (ds ++ [y.1]) (vs ++ [v]) eH (Ext.refl H1) (by rw [List.length_append, l.length]; exact c) (l.append (Rl.one sr1.head))
  exact ⟨a0, vs, v, rfl, rfl, eH, by rw [l.length]; exact c, q .non _ (k1.trans k2) (sr2.keepHead rfl)⟩
end
/-! ### simp -/
section
variable (f : Env → Res D) (g : Env → Res (D × Env)) (h : Env → Res (List D × Env)) (ρ : Env) (i : Nat) (d y : D) (ds : List D)
def puK (ρ : Env) (d : D) : Res (D × Env) := .ok (d, ρ)
@[simp] theorem puE_ap : puE f ρ = (f ρ).bind (puK ρ) := nr rfl
@[simp] theorem puK_ap : puK ρ d = .ok (d, ρ) := nr rfl
def setEK (i : Nat) (p : D × Env) : Res Fl := .ok (.nx (p.2.set i p.1))
@[simp] theorem setE_ap : setE i g ρ = (g ρ).bind (setEK i) := nr rfl
@[simp] theorem setEK_ap : setEK i (d, ρ) = .ok (.nx (ρ.set i d)) := nr rfl
def exprEK (p : D × Env) : Res Fl := .ok (.nx p.2)
@[simp] theorem exprE_ap : exprE g ρ = (g ρ).bind exprEK := nr rfl
@[simp] theorem exprEK_ap : exprEK (d, ρ) = .ok (.nx ρ) := nr rfl
def retEK (ω : List Sh) (p : D × Env) : Res Fl := .ok (.rt p.1 (killE ω p.2))
@[simp] theorem retE_ap (ω : List Sh) : retE ω g ρ = (g ρ).bind (retEK ω) := nr rfl
@[simp] theorem retEK_ap (ω : List Sh) : retEK ω (d, ρ) = .ok (.rt d (killE ω ρ)) := nr rfl
def asgEK (a : D → Env → Res Env) (p : D × Env) : Res Fl := (a p.1 p.2).bind asgK2
@[simp] theorem asgE_ap (a : D → Env → Res Env) : asgE g a ρ = (g ρ).bind (asgEK a) := nr rfl
@[simp] theorem asgEK_ap (a : D → Env → Res Env) : asgEK a (d, ρ) = (a d ρ).bind asgK2 := nr rfl
def consEK2 (d : D) (r : List D × Env) : Res (List D × Env) := .ok (d :: r.1, r.2)
def consEK (h : Env → Res (List D × Env)) (p : D × Env) : Res (List D × Env) := (h p.2).bind (consEK2 p.1)
@[simp] theorem consE_ap : consE g h ρ = (g ρ).bind (consEK h) := nr rfl
@[simp] theorem consEK_ap : consEK h (d, ρ) = (h ρ).bind (consEK2 d) := nr rfl
@[simp] theorem consEK2_ap : consEK2 d (ds, ρ) = .ok (d :: ds, ρ) := nr rfl
@[simp] theorem nilE_ap : nilE ρ = .ok ([], ρ) := nr rfl
def tupEK (p : List D × Env) : Res (D × Env) := if p.1.length ≤ sizeLine then .ok (.tup p.1, p.2) else .bad
@[simp] theorem tupE_ap : tupE h ρ = (h ρ).bind tupEK := nr rfl
theorem tupEK_ok (hl : ds.length ≤ 1000) : tupEK (ds, ρ) = .ok (.tup ds, ρ) := if_pos (sz9 (by show ds.length ≤ _; omega))
@[simp] theorem tupEK_2 (a b : D) : tupEK ([a, b], ρ) = .ok (.tup [a, b], ρ) := tupEK_ok _ _ (by simp)
@[simp] theorem tupEK_3 (a b c : D) : tupEK ([a, b, c], ρ) = .ok (.tup [a, b, c], ρ) := tupEK_ok _ _ (by simp)
@[simp] theorem tupEK_4 (a b c e : D) : tupEK ([a, b, c, e], ρ) = .ok (.tup [a, b, c, e], ρ) := tupEK_ok _ _ (by simp)
def catEK2 (ρ : Env) (z : D) : Res (D × Env) := .ok (z, ρ)
def catEK1 (x : D) (p : D × Env) : Res (D × Env) := (catD x p.1).bind (catEK2 p.2)
def catEK (g : Env → Res (D × Env)) (ρ : Env) (x : D) : Res (D × Env) := (g ρ).bind (catEK1 x)
@[simp] theorem catE_ap : catE f g ρ = (f ρ).bind (catEK g ρ) := nr rfl
@[simp] theorem catEK_ap : catEK g ρ d = (g ρ).bind (catEK1 d) := nr rfl
@[simp] theorem catEK1_ap : catEK1 y (d, ρ) = (catD y d).bind (catEK2 ρ) := nr rfl
@[simp] theorem catEK2_ap : catEK2 ρ d = .ok (d, ρ) := nr rfl
theorem catD_lst {xs ys : List D} (h : xs.length + ys.length ≤ 1000000) : catD (.lst xs) (.lst ys) = .ok (.lst (xs ++ ys)) := if_pos (sz9 h)
@[simp] theorem popE_ap : popE i ρ = popK i ρ (gv ρ i) := nr rfl
theorem popK_app : popK i ρ (.lst (ds ++ [d])) = .ok (d, ρ.set i (.lst ds)) := by
  unfold popK
  simp
@[simp] theorem popAtE_ap : popAtE i f ρ = (f ρ).bind (popAtK2 i ρ) := nr rfl
@[simp] theorem popAtK2_ap : popAtK2 i ρ d = popAtK i ρ d (gv ρ i) := nr rfl
theorem popAtK_ok {k : Nat} (h : ds[k]? = some d) (hk : k < 2 ^ 62) : popAtK i ρ (.int k) (.lst ds) = .ok (d, ρ.set i (.lst (ds.eraseIdx k))) := by
  have hl : k < ds.length := (List.getElem?_eq_some_iff.mp h).1
  unfold popAtK
  dsimp only
  rw [if_pos (by omega)]
  have e : seqIndex? (k : Int) ds.length = some k := by
    unfold seqIndex?
    have h0 : ¬ ((k : Int) < 0) := by omega
    simp [h0, hl]
  rw [e]
  dsimp only
  rw [h]
@[simp] theorem remE_ap : remE i f ρ = (f ρ).bind (remK2 i ρ) := nr rfl
@[simp] theorem remK2_ap : remK2 i ρ d = remK i ρ d (gv ρ i) := nr rfl
theorem remK_ok {k : Int} {ns : List Int} (h : k ∈ ns) : remK i ρ (.int k) (.lst (ns.map .int)) = .ok (.non, ρ.set i (.lst ((ns.erase k).map .int))) := by
  unfold remK
  simp [intsOf_map, h]
@[simp] theorem extE_ap : extE i f ρ = (f ρ).bind (extK i ρ) := nr rfl
@[simp] theorem extK_ap : extK i ρ d = extK2 i ρ d (gv ρ i) := nr rfl
theorem extK2_ok {es : List D} (h : ds.length + es.length ≤ 1000000) : extK2 i ρ (.lst es) (.lst ds) = .ok (.non, ρ.set i (.lst (ds ++ es))) := by
  exact if_pos (sz9 h)
@[simp] theorem appE_ap : appE i g ρ = (g ρ).bind (appEK i) := nr rfl
@[simp] theorem appEK_ap : appEK i (d, ρ) = appEK2 i d ρ (gv ρ i) := nr rfl
theorem appEK2_ok (h : ds.length < 1000000) : appEK2 i d ρ (.lst ds) = .ok (.non, ρ.set i (.lst (ds ++ [d]))) := by
  exact if_pos (Nat.lt_of_lt_of_le h (by decide))
end
end Mr

namespace Mr
variable [TabsOf]
open PySem PySem.Spec PyProof.Rows L2
open Res
/-! ## xs * n -/
def mulL : D → D → Res D
  | .lst xs, .int k => if 0 ≤ k ∧ k < 2 ^ 63 ∧ xs.length * k.toNat ≤ sizeLine then .ok (.lst (List.replicate k.toNat xs).flatten) else .bad
  | _, _ => .bad
theorem mulL_ne (x y : D) (c : Str) : mulL x y ≠ .ex c := by unfold mulL; split <;> (repeat' split) <;> (intro h; cases h)
section
variable {X : Cx} {pins : List (Addr × Obj)} {σ : Sg} {H : Hp} {s : Shared}
def rRepL : R2 := fun x y H Q => ∃ l k xs, x = .ref l ∧ y = .int k ∧ FLO H l xs ∧ -(2 ^ 63) ≤ k ∧ k < 2 ^ 63 ∧ xs.length * k.toNat ≤ sizeLine ∧ ∀ p, H p = none → Q (.ref p) (upd H p (.lst (List.replicate k.toNat xs).flatten))
theorem op_repL : OpR X (binaryOp .Mult) rRepL := by
  intro pins s σ H x y v u Q I rx ry h
  obtain ⟨l, k, xs, rfl, rfl, hH, h1, h2, hz, q⟩ := h
  cases rx
  obtain ⟨t, rfl⟩ := ry
  obtain ⟨z, its, n, r, hl, e⟩ := lstO I hH
  have hlen : its.toArray.size * k.toNat ≤ sizeLine := by rw [List.size_toArray, ← hl]; exact hz
  have hcap : ¬ its.toArray.size * k.toNat > (2 ^ 63 - 1) / 8 := by
    have : (sizeLine : Nat) ≤ (2 ^ 63 - 1) / 8 := by decide
    omega
  have hfit : ¬ (!Builtin.List.listFitsIndex k) = true := by
    rw [fitsIndex_both h1 h2]
    exact Bool.false_ne_true
  have hlong : ¬ Builtin.List.listTooLong (its.toArray.size * k.toNat) = true := by
    rw [notLongL hlen]
    exact Bool.false_ne_true
  have hnew : List.foldl (fun x1 x2 => x1 ++ x2) #[] (List.replicate (if its.toArray.isEmpty = true then 0 else k.toNat) its.toArray) = (List.replicate k.toNat its).flatten.toArray := by
    have f0 : ∀ m : Nat, List.foldl (fun x1 x2 => x1 ++ x2) #[] (List.replicate m its.toArray) = (List.replicate m its).flatten.toArray := fun m => by
      have := foldl_rep its m []
      rw [List.nil_append] at this
      exact this
    rw [f0]
    cases its with
    | nil => simp
    | cons a r' => rw [if_neg (by simp)]
  refine wpAny_binaryOp_repeat_ref (T := "list") (U := "int") (by decide) ⟨_, e, rfl⟩ (fun s' => typeIs_int s' k t) noFill_list_mul PySem.F.fills_int_mul PySem.F.slot_int_rmul repeat_list PySem.F.slot_int_index.lookup
    (call_meets PySem.F.slot_int_rmul (typeIs_int s k t) PySem.F.entry_int_rmul (PySem.F.args_int_rmul_2 _ _) (int___rmul___int_list k t l its.toArray n)
      ⟨e, rfl, ⟨_, e, rfl⟩, call_meets PySem.F.slot_list_mul ⟨_, e, rfl⟩ PySem.F.entry_list_mul (PySem.F.args_list_mul_2 _ _) (AutoListH.list___mul___list_int_3 l its.toArray n k t hfit hcap hlong) ⟨e, ?_⟩⟩)
  rw [hnew]
  exact ⟨.ref _, _, I.lnew (t' := s.toks) (r.rep k.toNat) (by rw [PyProof.Rows.lm_len_rep_flat, Nat.mul_comm]; exact hz), rfl, q _ I.fresh⟩
end
theorem mulL_s {K : Fr} : OpS K rRepL mulL (.own .fz) := by
  intro d e v u H Q hd he ps
  cases d <;> cases e <;> first | exact (show False from ps).elim | skip
  rename_i xs k
  obtain ⟨a, vs, rfl, f, z, l⟩ := hd
  have ps : Post _ _ (if 0 ≤ k ∧ k < 2 ^ 63 ∧ xs.length * k.toNat ≤ sizeLine then Res.ok (D.lst (List.replicate k.toNat xs).flatten) else .bad) := ps
  obtain ⟨⟨c1, c2, c3⟩, p⟩ := Post.ite ps
  have hl : vs.length * k.toNat ≤ sizeLine := by rw [l.length]; exact c3
  exact ⟨a, k, vs, rfl, he, f, by omega, c2, hl, fun q hq => p _ _ (Got.lst (Ext.refl H) hq (l.rep _) (by rw [PyProof.Rows.lm_len_rep_flat, Nat.mul_comm]; exact hl))⟩
section
variable {X : Cx} {H0 : Hp} {Z : Zt} {W : WX} {ω ωr : List Sh} {τr : Sh} {pos : Pos}
theorem px_mulL {a b : Expr} {f g : Env → Res D} (ha : PVX X H0 Z W ω a f) (hb : PVX X H0 Z W ω b g) : PX X H0 Z W ω (.BinOp a .Mult b pos) (op2 mulL f g) (.own .fz) := px_op op_repL mulL_s mulL_ne ha hb
/-! ## x = [.. for ..] where the comprehension's frame is swapped -/
theorem sx_setLc (i : Nat) {y : Str} {py : Pos} {tg e elt : Expr} {ifs : List Expr} {scope : Scope} {own : List (Str × Nat)} {spos : Pos} {fi : Env → Res (List D)} {g : D → Env → Res Env} {tt : Env → Res Bool} {te : Env → Res D} {ω1 : List Sh} (hc : X.calm = true) (hN : X.N.Nodup) (hi : IX X H0 Z W ω tg e fi) (ok : BlkOk X.N X.env.scope scope own)
    (hg : ∀ (s : Shared) (H : Hp) (C : Addr) (cl : List (Str × Addr)) (fp : List Addr), TCX (X.blk s H scope (compEnvC scope cl C X.env) fp) H0 Z (own.map (·.2)) (wipeω ω (own.map (·.2))) ω1 tg g)
    (ht : ∀ (s : Shared) (H : Hp) (C : Addr) (cl : List (Str × Addr)) (fp : List Addr), TTX (X.blk s H scope (compEnvC scope cl C X.env) fp) H0 Z ω1 ifs tt)
    (he : ∀ (s : Shared) (H : Hp) (C : Addr) (cl : List (Str × Addr)) (fp : List Addr), PX (X.blk s H scope (compEnvC scope cl C X.env) fp) H0 Z (fun _ _ _ _ => False) ω1 elt te .fz)
    (hy : X.N[i]? = some y := by rfl) (hl : i < ω.length := by decide) (hyl : X.env.scope.names.lookup y = some .local := by rfl) (hsw : swapsWith (.ListComp elt [⟨tg, e, ifs, 0⟩] scope pos) (some (.Name y py)) spos.line X.env = pure true := by rfl)
    (hs : ∀ x, foldedSetIterable e X.env x = pure x := by intro _; rfl) : SX X H0 Z W ω (ω.set i (.own .fz)) ωr τr (.Assign [.Name y py] (.ListComp elt [⟨tg, e, ifs, 0⟩] scope pos) spos) (setF i (lcF fi (own.map (·.2)) g tt te)) := by
  obtain ⟨wi, pi, si⟩ := hi
  refine ⟨_, ps_setLc (g := fun v σ H Q => ∃ d ρ, SR X.K H0 Z (wipeω ω (own.map (·.2))) ρ σ H ∧ R X.K H d v ∧ Post (fun ρ' => ∀ σ', SR X.K H0 Z ω1 ρ' σ' H → L2.wipe σ' (own.map (·.2)) = L2.wipe σ (own.map (·.2)) → Q σ' H) (fun _ => False) (g d ρ))
    (tt := fun σ H Q => ∃ ρ, SR X.K H0 Z ω1 ρ σ H ∧ Post (fun b => ∀ H', Ext H H' → Q b H') (fun _ => False) (tt ρ))
    (te := fun σ H Q => ∃ ρ, SR X.K H0 Z ω1 ρ σ H ∧ Post (fun d => ∀ v H', Got X.K H .fz d v H' → Q v H') (fun _ => False) (te ρ)) hc hN hy hyl hsw pi ok (fun s H C cl fp => ?_) (fun s H C cl fp => ?_) (fun s H C cl fp => ?_) hs, fun ρ σ H Dn sr ps => lc_s (W := W) (ω1 := ω1) (fi := fi) (g := g) (tt := tt) (te := te) si (fun d v ρ σ H Q sr r ps => ⟨d, ρ, sr, r, ps⟩) (fun ρ σ H Q sr ps => ⟨ρ, sr, ps⟩) (fun ρ σ H Q sr ps => ⟨ρ, sr, ps⟩) ρ σ H _ sr ((Post.bind.mp ps).mono (fun d q v H1 g => q _ H1 g.ext.keepF (sr.put hl g)) fun _ h => h)⟩
  · obtain ⟨t, p, st⟩ := hg s H C cl fp
    exact ⟨fun pins s' σ H v u Q I r ⟨d, ρ, sr, rr, ps⟩ => p.run pins s' σ H v u Q I r (st d v ρ σ H Q sr rr ps)⟩
  · obtain ⟨t, p, st⟩ := ht s H C cl fp
    exact ⟨fun pins s' σ H Q I ⟨ρ, sr, ps⟩ => p.run pins s' σ H Q I (st ρ σ H Q sr ps)⟩
  · obtain ⟨t, p, st⟩ := he s H C cl fp
    exact ⟨fun pins s' σ H Q I ⟨ρ, sr, ps⟩ => p.run pins s' σ H Q I (st ρ σ H Q sr (ps.mono (fun _ h => h) fun _ h => h.elim))⟩
/-- .. locked at once -/
theorem sx_fzb (i : Nat) {τ : Sh} {st : Stmt} {f : Env → Res Fl} {ω' : List Sh} (h : SX X H0 Z W ω ω' ωr τr st f) (hi : ω'[i]? = some τ := by rfl) (hd : τ ≠ .dead := by decide) : SX X H0 Z W ω (ω'.set i .fz) ωr τr st f := by
  obtain ⟨t, p, s⟩ := h
  refine ⟨fun D σ H => t { D with nx := fun σ' H' => Fz H' fun H2 => D.nx σ' H2 } σ H, ⟨fun pins s1 σ H D I hw => ?_⟩, fun ρ σ H Dn sr ps => s ρ σ H _ sr (ps.mono (fun fl q => ?_) fun _ h => h)⟩
  · refine wpAny_mono (p.run pins s1 σ H _ I hw) (fun fl s' z => ?_) fun _ _ z => z
    cases fl with
    | next => obtain ⟨σ', H', I', q⟩ := z; obtain ⟨H2, I2, q2⟩ := q.inv I'; exact ⟨σ', H2, I2, q2⟩
    | brk => exact z
    | cont => exact z
    | ret u => exact z
  · cases fl with
    | nx ρ' => exact fun σ' H' k sr' => (sr'.fz (X := X) i hi hd).mono fun H2 ⟨k2, sr2⟩ => q σ' H2 (k.trans k2) sr2
    | rt d ρ' => exact q
/-! ## loops that turn at least once, in plain words -/
def forK1 (ω : List Sh) (g : D → Env → Res Env) (b : Env → Res Fl) (ρ : Env) (ds : List D) : Res Fl := if ds = [] then .bad else forW ω (bodyF g b) ds ρ
@[simp] theorem forF1_ap (ω : List Sh) (fi : Env → Res (List D)) (g : D → Env → Res Env) (b : Env → Res Fl) (ρ : Env) : forF1 ω fi g b ρ = (fi ρ).bind (forK1 ω g b ρ) := nr rfl
theorem forW_same {ω : List Sh} {b : D → Env → Res Fl} {s0 : Env} {Q : Env → Prop} : ∀ {ds : List D} {ρ : Env}, killE ω ρ = s0 → (∀ d ∈ ds, ∃ ρ', b d s0 = .ok (.nx ρ') ∧ killE ω ρ' = s0 ∧ Q ρ') → ds ≠ [] → ∃ ρ', forW ω b ds ρ = .ok (.nx ρ') ∧ Q ρ'
  | [], _, _, _, n => absurd rfl n
  | d :: ds, ρ, hk, st, _ => by
    obtain ⟨ρ', e, k', q⟩ := st d (by simp)
    show ∃ ρ2, (b d (killE ω ρ)).bind _ = _ ∧ _
    rw [hk, e]
    simp only [ok_bind]
    by_cases hd : ds = []
    · subst hd
      exact ⟨ρ', rfl, q⟩
    · exact forW_same k' (fun d' h' => st d' (by simp [h'])) hd
theorem forK1_same {ω : List Sh} {g : D → Env → Res Env} {b : Env → Res Fl} {s0 : Env} {Q : Env → Prop} {ds : List D} {ρ : Env} (hk : killE ω ρ = s0) (st : ∀ d ∈ ds, ∃ ρ', bodyF g b d s0 = .ok (.nx ρ') ∧ killE ω ρ' = s0 ∧ Q ρ') (n : ds ≠ []) : ∃ ρ', forK1 ω g b ρ ds = .ok (.nx ρ') ∧ Q ρ' := by
  obtain ⟨ρ', e, q⟩ := forW_same hk st n
  exact ⟨ρ', (if_neg n).trans e, q⟩
theorem unz_1 (k : Key) (d : D) : unz (mergeD [] [(k, d)]) = .dct [k] [d] := nr rfl
/-! ## a comprehension's test by name -/
def noR (f : Env → Res Bool) (ρ : Env) : Res Bool := noEx (f ρ)
theorem ttx_oneR {c : Expr} {f : Env → Res Bool} (h : PTX X H0 Z (fun _ _ _ _ => False) ω c f) : TTX X H0 Z ω [c] (noR f) := ttx_one h
@[simp] theorem noR_ap (f : Env → Res Bool) (ρ : Env) : noR f ρ = noEx (f ρ) := nr rfl
end
end Mr

namespace SN
open PySem PySem.Spec PyProof.Rows SS
/-- the first ones of the alike -/
def nb {α : Type} [DecidableEq α] (l : List α) : List α := l.foldl (fun a x => if x ∈ a then a else a ++ [x]) []
section
variable {α : Type} [DecidableEq α]
theorem nb_snoc0 (l : List α) (x : α) : nb (l ++ [x]) = if x ∈ nb l then nb l else nb l ++ [x] := by
  unfold nb
  rw [List.foldl_append]
  rfl
theorem nb_mem (l : List α) : ∀ x, x ∈ nb l ↔ x ∈ l := by
  generalize hn : l.length = n
  induction n generalizing l with
  | zero =>
    intro x
    rw [List.length_eq_zero_iff.mp hn]
    simp [nb]
  | succ n ih =>
    intro x
    have hne : l ≠ [] := fun e => by rw [e] at hn; cases hn
    obtain ⟨l', y, rfl⟩ := List.eq_nil_or_concat l |>.resolve_left hne
    simp only [List.concat_eq_append] at *
    have h' := ih l' (by simpa using hn)
    rw [nb_snoc0]
    split
    · rename_i hy
      rw [h' x, List.mem_append, List.mem_singleton]
      exact ⟨.inl, fun z => z.elim id fun e => e ▸ (h' y).mp hy⟩
    · simp [h' x]
theorem nb_snoc (l : List α) (x : α) : nb (l ++ [x]) = if x ∈ l then nb l else nb l ++ [x] := by
  rw [nb_snoc0]
  by_cases h : x ∈ l
  · rw [if_pos h, if_pos ((nb_mem l x).mpr h)]
  · rw [if_neg h, if_neg fun z => h ((nb_mem l x).mp z)]
theorem nb_le (l : List α) : (nb l).length ≤ l.length := by
  generalize hn : l.length = n
  induction n generalizing l with
  | zero =>
    rw [List.length_eq_zero_iff.mp hn]
    simp [nb]
  | succ n ih =>
    have hne : l ≠ [] := fun e => by rw [e] at hn; cases hn
    obtain ⟨l', y, rfl⟩ := List.eq_nil_or_concat l |>.resolve_left hne
    simp only [List.concat_eq_append] at *
    have h' := ih l' (by simpa using hn)
    rw [nb_snoc]
    split
    · omega
    · rw [List.length_append]; simp; omega
theorem nb_self {l : List α} (h : l.Nodup) : nb l = l := by
  generalize hn : l.length = n
  induction n generalizing l with
  | zero =>
    rw [List.length_eq_zero_iff.mp hn]
    rfl
  | succ n ih =>
    have hne : l ≠ [] := fun e => by rw [e] at hn; cases hn
    obtain ⟨l', y, rfl⟩ := List.eq_nil_or_concat l |>.resolve_left hne
    simp only [List.concat_eq_append] at *
    rw [List.nodup_append] at h
    have h' := ih h.1 (by simpa using hn)
    rw [nb_snoc, h', if_neg fun z => h.2.2 y z y (by simp) rfl]
theorem nb_nodup (l : List α) : (nb l).Nodup := by
  generalize hn : l.length = n
  induction n generalizing l with
  | zero =>
    rw [List.length_eq_zero_iff.mp hn]
    simp [nb]
  | succ n ih =>
    have hne : l ≠ [] := fun e => by rw [e] at hn; cases hn
    obtain ⟨l', y, rfl⟩ := List.eq_nil_or_concat l |>.resolve_left hne
    simp only [List.concat_eq_append] at *
    have h' := ih l' (by simpa using hn)
    rw [nb_snoc]
    split
    · exact h'
    · rename_i hy
      rw [List.nodup_append]
      exact ⟨h', by simp, fun a ha b hb e => hy (by rw [List.mem_singleton] at hb; rw [← hb, ← e]; exact (nb_mem l' a).mp ha)⟩
end
section
variable {prog : Program} {w : World} {A : Around} {R : Result → Shared → Prop} {I : Addr} {fp wr : List Addr} {G : Array GenState → Array GenState → Prop} {n : Nat} {P : Nat → Value → Prop} {St : Nat → Shared → Prop}
theorem loopKs (W : WalksS prog w A.in1 I fp wr G n P St) (S : Addr) (hSd : S ∉ fp) (xs : List Str) (hsz : xs.length = n) (hn1 : n + 2 < scanBound)
    (hvl : ∀ i v, P i v → ∃ t, v = .str (xs.getD i Str.empty) t) :
    ∀ (k i : Nat) (s : Shared), n - i = k → i ≤ n → St i s →
      s.heap.SetOf (PySem.strKind prog w) S (fun k' => (xs.take i).any (· == k')) (nb (xs.take i)).length →
      (∀ s', Moved (S :: wr) G s s' → s'.heap.SetOf (PySem.strKind prog w) S (fun k' => (xs.take n).any (· == k')) (nb (xs.take n)).length → R (.ok (.ret .none)) s') →
      codeAny (model prog w) A (.builtin "set.update.loop" ⟨[.ref S, .ref I], []⟩) R s := by
  have hSx : S ∉ wr := fun h => hSd (W.sub _ h)
  have hsu : ∀ b ∈ wr, b ∈ S :: wr := fun b hb => List.mem_cons_of_mem _ hb
  intro k
  induction k with
  | zero =>
    intro i s hk hi hst hS hR
    have hin : i = n := by omega
    subst hin
    refine codeAny_builtin PyProof.Rows.F.entry_set_update_loop ?_
    rw [Around.under_plainId PyProof.Rows.F.plain_set_update_loop _]
    show wpAny _ A.in1 (pyNext (.ref I) >>= _) _ _ s
    refine wpAny_bind (W.done s _ _ hst fun s' hm => ?_)
    show wpAny _ A.in1 (ret Value.none) _ _ s'
    exact wpAny_pure (hR s' (hm.mono hsu) (by
      obtain ⟨o, es, ep, t, ho, rest⟩ := hS
      exact ⟨o, es, ep, t, hm.heap S _ hSx ho, rest⟩))
  | succ k ih =>
    intro i s hk hi hst hS hR
    have hl0 : i < n := by omega
    refine codeAny_builtin PyProof.Rows.F.entry_set_update_loop ?_
    rw [Around.under_plainId PyProof.Rows.F.plain_set_update_loop _]
    show wpAny _ A.in1 (pyNext (.ref I) >>= _) _ _ s
    refine wpAny_bind (W.item i s _ _ hl0 hst fun v s' hP hst1 hm => ?_)
    obtain ⟨t, rfl⟩ := hvl i v hP
    have hT1 : s'.heap.SetOf (PySem.strKind prog w) S (fun k' => (xs.take i).any (· == k')) (nb (xs.take i)).length := by
      obtain ⟨o, es, ep, tb, ho, rest⟩ := hS
      exact ⟨o, es, ep, tb, hm.heap S _ hSx ho, rest⟩
    show wpAny _ A.in1 (holding [Value.str (xs.getD i Str.empty) t] (setAdd S (.str (xs.getD i Str.empty) t)) >>= _) _ _ s'
    refine wpAny_bind (wpAny_holding ?_)
    unfold setAdd
    refine wpAny_holding ?_
    refine wpAny_bind ((PySem.strKind prog w).pyHash (k := xs.getD i Str.empty) (strKind_is _ _ _ _) ?_)
    refine wpAny_setAddHashed_of (knd := PySem.strKind prog w) (s := { s' with toks := s'.toks + 1 }) (strKind_is _ _ _ _) rfl hT1 (by have := nb_le (xs.take i); rw [List.length_take] at this; omega) fun h' hss hT2 => ?_
    have hSi : h'.SetOf (PySem.strKind prog w) S (fun k' => (xs.take (i + 1)).any (· == k')) (nb (xs.take (i + 1))).length := by
      have hix : i < xs.length := by omega
      have et : xs.take (i + 1) = xs.take i ++ [xs.getD i Str.empty] := by
        rw [List.take_add_one, List.getElem?_eq_getElem hix, List.getD_eq_getElem?_getD, List.getElem?_eq_getElem hix]
        rfl
      refine SetOf_congr hT2 (fun k' => ?_) ?_
      · rw [et, List.any_append]
        congr 1
        show decide _ = (_ == _ || false)
        rw [Bool.or_false]
        by_cases q : k' = xs.getD i Str.empty
        · rw [q]; simp
        · have q2 : ¬ xs.getD i Str.empty = k' := fun z => q z.symm
          rw [beq_eq_false_iff_ne.mpr q2]
          simpa using q
      · rw [et, nb_snoc]
        by_cases q : xs.getD i Str.empty ∈ xs.take i
        · have : ((xs.take i).any (· == xs.getD i Str.empty)) = true := List.any_eq_true.mpr ⟨_, q, by simp⟩
          rw [if_pos q, if_pos this]
        · have : ¬ ((xs.take i).any (· == xs.getD i Str.empty)) = true := fun z => by
            obtain ⟨y, h1, h2⟩ := List.any_eq_true.mp z
            rw [beq_iff_eq] at h2
            exact q (h2 ▸ h1)
          rw [if_neg q, if_neg this, List.length_append]
          rfl
    refine wpAny_pure ⟨plainId_quiet PyProof.Rows.F.plain_set_update_loop _, ih (i + 1) _ (by omega) hl0 (W.frame _ s' _ _ hst1 (Nat.le_succ _) fun b hb o e => ?_) hSi fun s2x hm2 hT3 => ?_⟩
    · rw [hss.2 b (fun h : b = S => hSd (by rw [← h]; exact hb))]; exact e
    · refine hR s2x (Moved.trans W.gtrans ((hm.mono hsu).then_heap (Nat.le_succ _) fun b o hb e => ?_) hm2) hT3
      rw [hss.2 b (fun h : b = S => hb (by rw [h]; exact List.mem_cons_self))]; exact e
end

section
variable {prog : Program} {w : World} {A : Around} {E : Value → Shared → Prop} {s : Shared}
set_option maxHeartbeats 3200000 in
theorem call_set_listN {l : Addr} {its : Array Value} {xs : List Str} {Q : Value → Shared → Prop}
    (hh : A.handled = none) (hl : s.heap.IsList l its) (hi : PyProof.Rows.StrsAre its.toList xs) (hn1 : xs.length + 2 < scanBound)
    (h : ∀ (h' : Heap) (tk : Nat), h'.SetOf (PySem.strKind prog w) s.heap.objs.size (fun k' => (xs.take its.size).any (· == k')) (nb (xs.take its.size)).length →
      (∀ b o, b < s.heap.objs.size → s.heap.get? b = some o → h'.get? b = some o) → Q (.ref s.heap.objs.size) { s with heap := h', toks := tk }) :
    wpAny (model prog w) A (call (.type "set") [.ref l]) Q E s := by
  obtain ⟨c, tl, hmr⟩ := PySem.F.called_set.mro
  have hmd := PySem.F.called_set.made
  have hsu := PySem.F.called_set.sub
  refine wpAny_call (codeAny_of_tree ?_)
  show wpAny _ _ (callAny (.type "set") _) _ _ _
  refine wpAny_pure ⟨Code.quiet_builtin _ (by decide +kernel), codeAny_builtin PySem.F.entry_type_call ?_⟩
  rw [Around.under_plain (weight_type_call_type "set" [.ref l] []) rfl]
  have h1 := PySem.F.called_set.notType
  have h2 := PySem.F.called_set.canCreate
  have hc7 := PySem.F.typeCall_set_1 (.ref l)
  repeat (any_goals (first | assumption | wp_step))

  refine codeAny_mono (code_set_new_1 (.ref l) (E := E) (Q₁ := fun obj s₁ => ∃ le : Bool, obj = .ref s.heap.objs.size ∧ s₁ = { s with heap := s.heap.push { cls := .type "set", dict := none, data := .set #[] 0 (.fresh 0 0 le) } }) fun le => ⟨le, rfl, rfl⟩) fun r s₁ hr => ?_
  cases r with
  | error e => exact hr
  | ok fl =>
    cases fl with
    | ret obj =>
      obtain ⟨le, rfl, rfl⟩ := hr
      have hS : (s.heap.push { cls := .type "set", dict := none, data := .set #[] 0 (.fresh 0 0 le) }).get? s.heap.objs.size = some { cls := .type "set", dict := none, data := .set #[] 0 (.fresh 0 0 le) } := Heap.get?_push_size _ rfl
      have hT : Shared.TypeIs { s with heap := s.heap.push { cls := .type "set", dict := none, data := .set #[] 0 (.fresh 0 0 le) } } (.ref s.heap.objs.size) "set" := ⟨_, hS, rfl⟩
      have hli := PySem.F.called_set.init.lookup
      have hbi := PySem.F.called_set.init.bind (.ref s.heap.objs.size)
      repeat (any_goals (first | assumption | wp_step))

      refine codeAny_mono (codeAny_call_builtin (R := wants (fun r s₂ => r = .none ∧ ∃ h' tk, s₂ = { s with heap := h', toks := tk } ∧
          h'.SetOf (PySem.strKind prog w) s.heap.objs.size (fun k' => (xs.take its.size).any (· == k')) (nb (xs.take its.size)).length ∧
          (∀ b o, b < s.heap.objs.size → s.heap.get? b = some o → h'.get? b = some o)) E) PySem.F.called_set.init.plain PySem.F.entry_set_init (check_set_init_1 hT ?_)) fun r₂ s₂ hr₂ => ?_
      · obtain ⟨ol, ho6, hcl, nl, hdl⟩ := hl
        obtain ⟨cl1, od1, da1, sl1⟩ := ol
        simp only at hcl hdl
        subst hcl; subst hdl
        have ho7 : (s.heap.push { cls := .type "set", dict := none, data := .set #[] 0 (.fresh 0 0 le) }).get? l = some { cls := .type "list", dict := od1, data := .seq its nl, slots := sl1 } := Heap.get?_push_of_some _ ho6
        have hq1 := PySem.F.sub_list_set
        have hq2 := PySem.F.sub_list_frozenset
        have hne : (Value.type "list" == Value.type "dict") = false := by decide
        have hl1 : (s.heap.push { cls := .type "set", dict := none, data := .set #[] 0 (.fresh 0 0 le) }).IsList l its := ⟨_, ho7, rfl, nl, rfl⟩
        unfold Builtin.«set.__init__» noKeywords Builtin.Frozenset.updateFrom
        generalize hPI : pyIter = PI
        wp_walk
        subst hPI

        refine wpAny_pyIter_list hl1 ?_
        refine wpAny_bind (wpAny_runValue ?_)
        have hl7 : l < s.heap.objs.size := Heap.lt_size ho6
        have hh7 : A.in1.in1.in1.handled = none := by simp [hh]
        have hnI : l ≠ (s.heap.push { cls := .type "set", dict := none, data := .set #[] 0 (.fresh 0 0 le) }).objs.size := by
          rw [Heap.size_push]; exact Nat.ne_of_lt (Nat.lt_succ_of_lt hl7)
        have hSd : s.heap.objs.size ∉ [(s.heap.push { cls := .type "set", dict := none, data := .set #[] 0 (.fresh 0 0 le) }).objs.size, l] := by
          rw [Heap.size_push]; simp only [List.mem_cons, List.mem_singleton, List.not_mem_nil, or_false, not_or]
          exact ⟨Nat.ne_of_lt (Nat.lt_succ_self _), Nat.ne_of_gt hl7⟩
        have hsz : xs.length = its.size := by rw [← StrsAre.len_eq hi, Array.length_toList]
        have hvl : ∀ (i : Nat) (v : Value), its[i]? = some v → ∃ t, v = .str (xs.getD i Str.empty) t := fun i v hv => strs_at hi i v (by rw [Array.getElem?_toList]; exact hv)
        refine loopKs ((Walks.list hh7 _ l hnI its).toS) s.heap.objs.size
          hSd xs hsz (by rw [← hsz]; exact hn1) hvl (its.size - 0) 0 _ (by omega) (Nat.zero_le _)
          ⟨⟨_, Heap.get?_push_size _ rfl, rfl, rfl⟩, (hl1.push _)⟩ ?hS0 ?hR
        case hS0 =>
          have hg7 : ((s.heap.push { cls := .type "set", dict := none, data := .set #[] 0 (.fresh 0 0 le) }).push { cls := .type "list_iterator", data := .fields #[.ref l, .int 0 0] }).get? s.heap.objs.size
              = some { cls := .type "set", dict := none, data := .set #[] 0 (.fresh 0 0 le) } := Heap.get?_push_of_some _ hS
          exact PyProof.Rows.SetOf_congr ((PyProof.Rows.setObjOf_fresh (knd := PySem.strKind prog w) le).setOf hg7 (by unfold scanBound; omega)) (fun _ => rfl) rfl
        case hR =>
          intro s' hm hT1
          obtain ⟨h', g', d', tk', os'⟩ := s'
          have eg : g' = s.gens := hm.gens
          have ed : d' = s.drawn := hm.drawn
          have eo : os' = s.os := hm.os
          subst eg; subst ed; subst eo
          show wpAny _ _ _ _ _ _
          refine wpAny_pure ?_
          show wpAny _ _ (ret Value.none) _ _ _
          refine wpAny_pure ⟨rfl, h', tk', rfl, hT1, fun b o hb e => ?_⟩
          have hb1 : b ≠ s.heap.objs.size := Nat.ne_of_lt hb
          have hb2 : b ≠ (s.heap.push { cls := .type "set", dict := none, data := .set #[] 0 (.fresh 0 0 le) }).objs.size := by
            rw [Heap.size_push]; exact Nat.ne_of_lt (Nat.lt_succ_of_lt hb)
          exact hm.heap b o (by simp only [List.mem_cons, List.mem_singleton, List.not_mem_nil, or_false, not_or]; exact ⟨hb1, hb2⟩) (Heap.get?_push_of_some _ (Heap.get?_push_of_some _ e))

      · cases r₂ with
        | error e => exact hr₂
        | ok fl₂ =>
          cases fl₂ with
          | ret r =>
            obtain ⟨rfl, h', tk, rfl, hT1, hk'⟩ := hr₂
            repeat (any_goals (first | assumption | wp_step))
            exact h _ _ hT1 hk'
          | _ => exact hr₂.elim
    | _ => exact hr.elim
end
section
open L2
variable {P : Program} {w : World} {A : Around} {E : Value → Shared → Prop} {s : Shared}
set_option maxRecDepth 100000 in
set_option maxHeartbeats 3200000 in
theorem call_set_listR {l : Addr} {its : Array Value} (ns : List Int) {Q : Value → Shared → Prop} (hh : A.handled = none) (hl : s.heap.IsList l its) (hin : IntsAre its.toList ns) (hb : ns.length + 1 < scanBound)
    (h : ∀ (h' : Heap) (tk c : Nat), SetR w h' s.heap.objs.size (fun j => decide (j ∈ ns)) c → c ≤ ns.length → (∀ b o, s.heap.get? b = some o → h'.get? b = some o) → Q (.ref s.heap.objs.size) { s with heap := h', toks := tk }) :
    wpAny (model P w) A (call (.type "set") [.ref l]) Q E s := by
  have hiz : its.size = ns.length := by
    have q := IntsAre.length hin
    rw [Array.length_toList] at q
    exact q
  obtain ⟨c, tl, hmr⟩ := F.called_set.mro
  have hmd := F.called_set.made
  have hsu := F.called_set.sub
  refine wpAny_call (codeAny_of_tree ?_)
  show wpAny _ _ (callAny (.type "set") _) _ _ _
  refine wpAny_pure ⟨Code.quiet_builtin _ (by decide +kernel), codeAny_builtin F.entry_type_call ?_⟩
  rw [Around.under_plain (weight_type_call_type "set" [.ref l] []) rfl]
  have h1 := F.called_set.notType
  have h2 := F.called_set.canCreate
  have hc7 := F.typeCall_set_1 (.ref l)
  repeat (any_goals (first | assumption | wp_step))

  refine codeAny_mono (code_set_led1 (.ref l) (E := E) (Q₁ := fun obj s₁ => obj = .ref s.heap.objs.size ∧ s₁ = { s with heap := s.heap.push { cls := .type "set", dict := none, data := .set #[] 0 (.fresh 0 0 (!w.params.followText "set-order")) } }) ⟨rfl, rfl⟩) fun r s₁ hr => ?_
  cases r with
  | error e => exact hr
  | ok fl =>
    cases fl with
    | ret obj =>
      obtain ⟨rfl, rfl⟩ := hr
      have hS : (s.heap.push { cls := .type "set", dict := none, data := .set #[] 0 (.fresh 0 0 (!w.params.followText "set-order")) }).get? s.heap.objs.size = some { cls := .type "set", dict := none, data := .set #[] 0 (.fresh 0 0 (!w.params.followText "set-order")) } := Heap.get?_push_size _ rfl
      have hT : Shared.TypeIs { s with heap := s.heap.push { cls := .type "set", dict := none, data := .set #[] 0 (.fresh 0 0 (!w.params.followText "set-order")) } } (.ref s.heap.objs.size) "set" := ⟨_, hS, rfl⟩
      have hli := F.called_set.init.lookup
      have hbi := F.called_set.init.bind (.ref s.heap.objs.size)
      repeat (any_goals (first | assumption | wp_step))

      refine codeAny_mono (codeAny_call_builtin (R := wants (fun r s₂ => r = .none ∧ ∃ h' tk c, s₂ = { s with heap := h', toks := tk } ∧ SetR w h' s.heap.objs.size (fun j => decide (j ∈ ns)) c ∧ c ≤ ns.length ∧
          (∀ b o, s.heap.get? b = some o → h'.get? b = some o)) E) F.called_set.init.plain F.entry_set_init (check_set_init_1 hT ?_)) fun r₂ s₂ hr₂ => ?_
      · obtain ⟨ol, ho6, hcl, nl, hdl⟩ := hl
        obtain ⟨cl1, od1, da1, sl1⟩ := ol
        simp only at hcl hdl
        subst hcl; subst hdl
        have ho7 : (s.heap.push { cls := .type "set", dict := none, data := .set #[] 0 (.fresh 0 0 (!w.params.followText "set-order")) }).get? l = some { cls := .type "list", dict := od1, data := .seq its nl, slots := sl1 } := Heap.get?_push_of_some _ ho6
        have hq1 := F.sub_list_set
        have hq2 := F.sub_list_frozenset
        have hne : (Value.type "list" == Value.type "dict") = false := by decide
        have hl1 : (s.heap.push { cls := .type "set", dict := none, data := .set #[] 0 (.fresh 0 0 (!w.params.followText "set-order")) }).IsList l its := ⟨_, ho7, rfl, nl, rfl⟩
        unfold Builtin.«set.__init__» noKeywords Builtin.Frozenset.updateFrom
        generalize hPI : pyIter = PI
        wp_walk
        subst hPI

        refine wpAny_pyIter_list hl1 ?_
        refine wpAny_bind (wpAny_runValue ?_)
        have hl7 : l < s.heap.objs.size := Heap.lt_size ho6
        have hh7 : A.in1.in1.in1.handled = none := by simp [hh]
        have hy1 : (s.heap.push { cls := .type "set", dict := none, data := .set #[] 0 (.fresh 0 0 (!w.params.followText "set-order")) }).objs.size = s.heap.objs.size + 1 := Heap.size_push ..
        have hnI : l ≠ (s.heap.push { cls := .type "set", dict := none, data := .set #[] 0 (.fresh 0 0 (!w.params.followText "set-order")) }).objs.size := by
          rw [Heap.size_push]; exact Nat.ne_of_lt (Nat.lt_succ_of_lt hl7)
        have hSd : s.heap.objs.size ∉ [(s.heap.push { cls := .type "set", dict := none, data := .set #[] 0 (.fresh 0 0 (!w.params.followText "set-order")) }).objs.size, l] := by
          rw [Heap.size_push]; simp only [List.mem_cons, List.mem_singleton, List.not_mem_nil, or_false, not_or]
          exact ⟨Nat.ne_of_lt (Nat.lt_succ_self _), Nat.ne_of_gt hl7⟩
        have hvl : ∀ (i : Nat) (v : Value), its[i]? = some v → ∃ k t, ns[i]? = some k ∧ v = .int k t := fun i v hv => by
          have hi : i < ns.length := by rw [← hiz]; exact (Array.getElem?_eq_some_iff.mp hv).1
          obtain ⟨t, e⟩ := PyProof.Rows.IntsAre.int_at hin i v (by rw [Array.getElem?_toList]; exact hv)
          refine ⟨ns[i], t, List.getElem?_eq_getElem hi, ?_⟩
          rw [e, List.getD_eq_getElem?_getD, List.getElem?_eq_getElem hi] <;> rfl
        refine set_update_ints ((Walks.list hh7 _ l hnI its).toS) s.heap.objs.size
          hSd ns hiz hb hvl (its.size - 0) 0 _ (by omega) (Nat.zero_le _)
          ⟨⟨_, Heap.get?_push_size _ rfl, rfl, rfl⟩, (hl1.push _)⟩ ?hS0 ?hR
        case hS0 =>
          have hg7 : ((s.heap.push { cls := .type "set", dict := none, data := .set #[] 0 (.fresh 0 0 (!w.params.followText "set-order")) }).push { cls := .type "list_iterator", data := .fields #[.ref l, .int 0 0] }).get? s.heap.objs.size
              = some { cls := .type "set", dict := none, data := .set #[] 0 (.fresh 0 0 (!w.params.followText "set-order")) } := Heap.get?_push_of_some _ hS
          exact ⟨0, Nat.le_refl 0, setR_new_at hg7⟩
        case hR =>
          intro s' c' hm hc' hT1
          obtain ⟨h', g2, d', tk', os'⟩ := s'
          have eg : g2 = s.gens := hm.gens
          have ed : d' = s.drawn := hm.drawn
          have eo : os' = s.os := hm.os
          subst eg; subst ed; subst eo
          show wpAny _ _ _ _ _ _
          refine wpAny_pure ?_
          show wpAny _ _ (ret Value.none) _ _ _
          rw [hiz] at hc'
          refine wpAny_pure ⟨rfl, h', tk', c', rfl, hT1, hc', fun b o e => ?_⟩
          have hq0 : b < s.heap.objs.size := Heap.lt_size e
          have hu1 : b ≠ s.heap.objs.size := Nat.ne_of_lt hq0
          have hu2 : b ≠ (s.heap.push { cls := .type "set", dict := none, data := .set #[] 0 (.fresh 0 0 (!w.params.followText "set-order")) }).objs.size := by
            rw [Heap.size_push]; exact Nat.ne_of_lt (Nat.lt_succ_of_lt hq0)
          exact hm.heap b o (by simp only [List.mem_cons, List.mem_singleton, List.not_mem_nil, or_false, not_or]; exact ⟨hu1, hu2⟩) (Heap.get?_push_of_some _ (Heap.get?_push_of_some _ e))

      · cases r₂ with
        | error e => exact hr₂
        | ok fl₂ =>
          cases fl₂ with
          | ret r =>
            obtain ⟨rfl, h', tk, c', rfl, hT1, hc', hk'⟩ := hr₂
            repeat (any_goals (first | assumption | wp_step))
            exact h _ _ _ hT1 hc' hk'
          | _ => exact hr₂.elim
    | _ => exact hr.elim

end
end SN

namespace Mr
variable [TabsOf]
open PySem PySem.Spec PyProof.Rows L2
open Res
/-! ## len(set(xs)), sorted(set(xs)) -/
def strsOf : List D → Option (List Str)
  | [] => some []
  | .str x :: ds => (strsOf ds).map (x :: ·)
  | _ => none
theorem strsOf_map : ∀ xs : List Str, strsOf (xs.map .str) = some xs
  | [] => rfl
  | x :: xs => by simp [strsOf, strsOf_map xs]
theorem strsOf_v {K : Fr} {H : Hp} : ∀ {ds : List D} {vs : List V} {xs : List Str}, Rl K H ds vs → strsOf ds = some xs → vs = xs.map V.str
  | [], _, _, h, e => by cases e; exact h
  | d :: ds, _, xs, ⟨v, r, e1, h, t⟩, e => by
    cases d <;> first | (cases e; done) | skip
    simp only [strsOf] at e
    cases e2 : strsOf ds with
    | none => rw [e2] at e; cases e
    | some ms =>
      rw [e2] at e
      cases e
      rw [e1, show v = V.str _ from h, strsOf_v t e2]
      rfl
def lsK : D → Res D
  | .lst ds => if ds.length < 4000 then (match intsOf ds, strsOf ds with
    | some ns, _ => .ok (.int (SN.nb ns).length)
    | _, some xs => .ok (.int (SN.nb xs).length)
    | _, _ => .bad) else .bad
  | _ => .bad
def lsF (f : Env → Res D) (ρ : Env) : Res D := (f ρ).bind lsK
theorem firstMet_nb (ns : List Int) : ∀ i, i ≤ ns.length → PyProof.Rows.firstMet (fun i => ns.getD i 0) i = SN.nb (ns.take i)
  | 0, _ => rfl
  | i + 1, hi => by
    have hlt : i < ns.length := hi
    have e : ns.getD i 0 = ns[i] := by rw [List.getD_eq_getElem?_getD, List.getElem?_eq_getElem hlt] <;> rfl
    rw [PyProof.Rows.firstMet_succ, firstMet_nb ns i (Nat.le_of_lt hlt), List.take_add_one, List.getElem?_eq_getElem hlt, Option.toList_some, SN.nb_snoc0, e]
    unfold step_dedup
    by_cases q : ns[i] ∈ SN.nb (ns.take i)
    · rw [if_pos q, if_pos (List.any_eq_true.mpr ⟨_, q, by simp⟩)]
    · rw [if_neg q, if_neg fun z => by
        obtain ⟨y, h1, h2⟩ := List.any_eq_true.mp z
        rw [beq_iff_eq] at h2
        exact q (h2 ▸ h1)]
section
variable {X : Cx} {H0 : Hp} {Z : Zt} {W : WX} {ω ωr : List Sh} {τr : Sh} {pos : Pos}
/-- over a view: list of ints or of texts -/
theorem pe_lsN {a : Expr} {ta : TE} {p p2 q : Pos} (hc : X.calm = true) (hg : Gl X "len") (hm : X.mg "len" = none) (hg2 : Gl X "set") (hm2 : X.mg "set" = none) (ha : PE X a ta)
    (na : starEach [a] X.env = (false, eval a X.env) :: starEach [] X.env := by rfl) : PE X (.Call (.Name "len" p) [.Call (.Name "set" p2) [a] [] q] [] pos)
      (fun σ H Q => ta σ H fun x H1 => ∃ l, x = V.ref l ∧ ((∃ ns : List Int, SqL X.K H1 l (ns.map V.int) ∧ ns.length < 4000 ∧ Q (.int (SN.nb ns).length) H1) ∨ ∃ xs : List Str, SqL X.K H1 l (xs.map V.str) ∧ xs.length < 4000 ∧ Q (.int (SN.nb xs).length) H1)) := by
  refine ⟨fun pins s σ H Q I h => ?_⟩
  refine Call_ (ld_blt I hg hm PySem.boot_len (PyProof.Rows.callWith_builtin1 (PyProof.Rows.args_cons (Call_ (ld_blt I hg2 hm2 PyProof.Rows.boot_set (PyProof.Rows.callWith_type1 (PyProof.Rows.args_cons (thn (ha.run pins s σ H _ I h) fun v s1 ⟨x, H1, I1, r1, q1⟩ => PyProof.Rows.args_nil ?_) na) na rfl))) rfl) rfl rfl))
  obtain ⟨l, rfl, q1⟩ := q1
  cases r1
  rcases q1 with ⟨ns, hq, h1, q1⟩ | ⟨xs, hq, h1, q1⟩
  · obtain ⟨its, r, pl, hz⟩ := I1.list hq
    have hl : its.toArray.size = ns.length := by rw [List.size_toArray, ← r.length, List.length_map]
    refine call_set_list (I1.ok.hd hc) pl.isList (ns := ns) (by simpa using r.ints) (by rw [hl]; unfold scanBound; omega) fun h' tk hS hk => ?_
    rw [hl, firstMet_nb ns ns.length (Nat.le_refl _), List.take_length] at hS
    refine PyProof.Rows.args_nil ?_
    obtain ⟨o, es, ep, t, ho, hex, hd, _, _, _, hf, hn⟩ := hS
    have I2 : Inv X pins σ H1 { s1 with heap := h', toks := tk } := I1.kept fun b o e => hk b o (Heap.lt_size e) e
    have := SN.nb_le ns
    exact call_len_set ho hex hd hf (by rw [hn] <;> omega) ⟨.int (SN.nb ns).length, H1, I2.tok _, ⟨_, by rw [hn]⟩, q1⟩
  · obtain ⟨its, r, pl, hz⟩ := I1.list hq
    have hl : its.toArray.size = xs.length := by rw [List.size_toArray, ← r.length, List.length_map]
    refine SN.call_set_listN (I1.ok.hd hc) pl.isList (by simpa using strsAre_of r) (by unfold scanBound; omega) fun h' tk hS hk => ?_
    rw [hl, List.take_length] at hS
    refine PyProof.Rows.args_nil ?_
    obtain ⟨o, es, ep, t, ho, hex, hd, _, _, _, hf, hn⟩ := hS
    have I2 : Inv X pins σ H1 { s1 with heap := h', toks := tk } := I1.kept fun b o e => hk b o (Heap.lt_size e) e
    have := SN.nb_le xs
    exact call_len_set ho hex hd hf (by rw [hn] <;> omega) ⟨.int (SN.nb xs).length, H1, I2.tok _, ⟨_, by rw [hn]⟩, q1⟩
theorem px_lenSet {a : Expr} {f : Env → Res D} {p p2 q : Pos} (hc : X.calm = true) (hg : Gl X "len") (hm : X.mg "len" = none) (hg2 : Gl X "set") (hm2 : X.mg "set" = none) (ha : PVX X H0 Z W ω a f) (na : starEach [a] X.env = (false, eval a X.env) :: starEach [] X.env := by rfl) :
    PX X H0 Z W ω (.Call (.Name "len" p) [.Call (.Name "set" p2) [a] [] q] [] pos) (lsF f) .fz := by
  obtain ⟨t, pe, s⟩ := ha
  refine ⟨_, pe_lsN hc hg hm hg2 hm2 pe na, fun ρ σ H Q sr ps => s ρ σ H _ sr ((Post.bind.mp ps).mono (fun d q v H1 g => ?_) fun _ h => h)⟩
  cases d <;> first | exact (show False from q).elim | skip
  obtain ⟨a0, vs, rfl, fl, z, l⟩ := g.2
  unfold lsK at q
  dsimp only at q
  obtain ⟨c, q⟩ := Post.ite q
  refine ⟨a0, rfl, ?_⟩
  have hl := l.length
  cases e : intsOf _ with
  | some ns =>
    rw [e] at q
    have ev := intsOf_v l e
    subst ev
    rw [List.length_map] at hl
    exact .inl ⟨_, fl.sq, by omega, q _ H1 (Got.fz g.1 rfl)⟩
  | none =>
    rw [e] at q
    cases e2 : strsOf _ with
    | none => rw [e2] at q; exact q.elim
    | some xs =>
      rw [e2] at q
      have ev := strsOf_v l e2
      subst ev
      rw [List.length_map] at hl
      exact .inr ⟨_, fl.sq, by omega, q _ H1 (Got.fz g.1 rfl)⟩
/-- sorted(set(xs)), ints -/
theorem pe_ssN {a : Expr} {ta : TE} {p p2 q : Pos} (hc : X.calm = true) (hg : Gl X "sorted") (hm : X.mg "sorted" = none) (hg2 : Gl X "set") (hm2 : X.mg "set" = none) (ha : PE X a ta)
    (na : starEach [a] X.env = (false, eval a X.env) :: starEach [] X.env := by rfl) : PE X (.Call (.Name "sorted" p) [.Call (.Name "set" p2) [a] [] q] [] pos)
      (fun σ H Q => ta σ H fun x H1 => ∃ l, ∃ ns : List Int, x = V.ref l ∧ SqL X.K H1 l (ns.map V.int) ∧ ns.length < 64 ∧ ∀ (ms : List Int) (p : Addr), ms.Pairwise (· < ·) → (∀ k : Int, k ∈ ms ↔ k ∈ ns) → H1 p = none → Q (.ref p) (upd H1 p (.lst (ms.map V.int)))) := by
  refine ⟨fun pins s σ H Q I h => ?_⟩
  refine Call_ (ld_blt I hg hm PyProof.Rows.boot_sorted (PyProof.Rows.callWith_builtin1 (PyProof.Rows.args_cons (Call_ (ld_blt I hg2 hm2 PyProof.Rows.boot_set (PyProof.Rows.callWith_type1 (PyProof.Rows.args_cons (thn (ha.run pins s σ H _ I h) fun v s1 ⟨x, H1, I1, r1, q1⟩ => PyProof.Rows.args_nil ?_) na) na rfl))) rfl) rfl rfl))
  obtain ⟨l, ns, rfl, hq, h1, q1⟩ := q1
  cases r1
  obtain ⟨its, r, pl, hz⟩ := I1.list hq
  refine SN.call_set_listR ns (I1.ok.hd hc) pl.isList (by simpa using r.ints) (by unfold scanBound; omega) fun h' tk c hS hc' hk => PyProof.Rows.args_nil ?_
  have I2 : Inv X pins σ H1 { s1 with heap := h', toks := tk } := I1.kept hk
  have hS : SetR X.w ({ s1 with heap := h', toks := tk } : Shared).heap s1.heap.objs.size (fun j => decide (j ∈ ns)) c := hS
  generalize ({ s1 with heap := h', toks := tk } : Shared) = s2 at I2 hS ⊢
  refine sorted_set hS (I1.ok.hd hc) (by omega) fun s' p out c2 ms k g o hp hg' hi hs hm hl => ?_
  have hn : H1 p = none := I2.hok.fresh hp
  have hlen : (ms.map V.int).length ≤ sizeLine := by rw [List.length_map, hl, sizeLine_eq]; omega
  have J : Inv X pins σ (upd H1 p (.lst (ms.map V.int))) { heap := s'.heap, gens := s'.gens, drawn := s'.drawn, toks := s'.toks, os := s2.os } :=
    (I2.call (ch := []) (Un.laid k hp hn) (I2.hok.laid k hp ⟨hlen, out.toList, c2, vals_of_ints hi, hg'⟩) (by rw [g]; exact I2.bare) (fun _ z => nomatch z))
  have e : s' = { heap := s'.heap, gens := s'.gens, drawn := s'.drawn, toks := s'.toks, os := s2.os } := by
    obtain ⟨_, _, _, _, _⟩ := s'
    obtain ⟨_, _, _, _, _⟩ := s2
    cases o
    rfl
  rw [e]
  exact ⟨.ref p, _, J, rfl, q1 ms p hs (fun k => (hm k).trans (by simp)) hn⟩
end
/-- the ints of ns, once each, the least first -/
def ssI (ns : List Int) : List Int := (SN.nb ns).mergeSort (fun a b => decide (a ≤ b))
theorem ssI_mem (ns : List Int) (k : Int) : k ∈ ssI ns ↔ k ∈ ns := by
  unfold ssI
  rw [(List.mergeSort_perm _ _).mem_iff, SN.nb_mem]
theorem ssI_lt (ns : List Int) : (ssI ns).Pairwise (· < ·) := by
  have h1 : (ssI ns).Pairwise (· ≤ ·) := (List.pairwise_mergeSort (le := fun a b : Int => decide (a ≤ b)) (fun a b c h1 h2 => by simp at *; omega) (fun a b => by simp; omega) (SN.nb ns)).imp fun h => by simpa using h
  have h2 : (ssI ns).Nodup := (List.mergeSort_perm _ _).nodup_iff.mpr (SN.nb_nodup ns)
  exact (h1.and h2).imp fun ⟨a, b⟩ => Int.lt_iff_le_and_ne.mpr ⟨a, b⟩
theorem lt_unique : ∀ {xs ys : List Int}, xs.Pairwise (· < ·) → ys.Pairwise (· < ·) → (∀ k, k ∈ xs ↔ k ∈ ys) → xs = ys := by
  intro xs ys h1 h2 hm
  refine sorted_unique ?_ (h1.imp Int.le_of_lt) (h2.imp Int.le_of_lt)
  exact (List.perm_ext_iff_of_nodup (h1.imp Int.ne_of_lt) (h2.imp Int.ne_of_lt)).mpr hm
def ssK : D → Res D
  | .lst ds => if ds.length < 64 then (match intsOf ds with
    | some ns => .ok (.lst ((ssI ns).map .int))
    | none => .bad) else .bad
  | _ => .bad
def ssF (f : Env → Res D) (ρ : Env) : Res D := (f ρ).bind ssK
section
variable {X : Cx} {H0 : Hp} {Z : Zt} {W : WX} {ω ωr : List Sh} {τr : Sh} {pos : Pos}
theorem px_sortedSet {a : Expr} {f : Env → Res D} {p p2 q : Pos} (hc : X.calm = true) (hg : Gl X "sorted") (hm : X.mg "sorted" = none) (hg2 : Gl X "set") (hm2 : X.mg "set" = none) (ha : PVX X H0 Z W ω a f) (na : starEach [a] X.env = (false, eval a X.env) :: starEach [] X.env := by rfl) :
    PX X H0 Z W ω (.Call (.Name "sorted" p) [.Call (.Name "set" p2) [a] [] q] [] pos) (ssF f) (.own .fz) := by
  obtain ⟨t, pe, s⟩ := ha
  refine ⟨_, pe_ssN hc hg hm hg2 hm2 pe na, fun ρ σ H Q sr ps => s ρ σ H _ sr ((Post.bind.mp ps).mono (fun d q v H1 g => ?_) fun _ h => h)⟩
  cases d <;> first | exact (show False from q).elim | skip
  obtain ⟨a0, vs, rfl, fl, z, l⟩ := g.2
  unfold ssK at q
  dsimp only at q
  obtain ⟨c, q⟩ := Post.ite q
  split at q
  · rename_i ns e
    have ev := intsOf_v l e
    subst ev
    have hl := l.length
    rw [List.length_map] at hl
    refine ⟨a0, ns, rfl, fl.sq, by omega, fun ms p h1 h2 hp => ?_⟩
    have em : ms = ssI ns := lt_unique h1 (ssI_lt ns) fun k => (h2 k).trans (ssI_mem ns k).symm
    subst em
    refine q _ _ (Got.lst g.1 hp (ints_R _) ?_)
    have h3 := SN.nb_le ns
    have h4 : (ssI ns).length = (SN.nb ns).length := (List.mergeSort_perm _ _).length_eq
    rw [List.length_map, h4]
    exact sz9 (by omega)
  · exact q.elim
end
/-! ### simp -/
section
variable (f : Env → Res D) (ρ : Env)
@[simp] theorem lsF_ap : lsF f ρ = (f ρ).bind lsK := nr rfl
@[simp] theorem ssF_ap : ssF f ρ = (f ρ).bind ssK := nr rfl
theorem lsK_ints (ns : List Int) (h : ns.length < 4000) : lsK (.lst (ns.map .int)) = .ok (.int (SN.nb ns).length) := by
  unfold lsK
  simp [h, intsOf_map]
theorem intsOf_strs : ∀ xs : List Str, xs ≠ [] → intsOf (xs.map .str) = none
  | [], h => absurd rfl h
  | _ :: _, _ => rfl
theorem lsK_strs (xs : List Str) (h : xs.length < 4000) : lsK (.lst (xs.map .str)) = .ok (.int (SN.nb xs).length) := by
  by_cases e : xs = []
  · subst e; rfl
  · unfold lsK
    simp [h, intsOf_strs xs e, strsOf_map]
theorem ssK_ints (ns : List Int) (h : ns.length < 64) : ssK (.lst (ns.map .int)) = .ok (.lst ((ssI ns).map .int)) := by
  unfold ssK
  simp [h, intsOf_map]
end
end Mr

namespace Mr
variable [TabsOf]
open PySem PySem.Spec PyProof.Rows L2
open Res
/-! ## list(range(..)) -/
def lr1K : D → Res D
  | .int j => if 0 ≤ j ∧ j ≤ 1000000 then .ok (.lst ((List.range j.toNat).map fun k => .int (0 + (k : Nat)))) else .bad
  | _ => .bad
def lr2K : D → D → Res D
  | .int i, .int j => if 0 ≤ i ∧ i ≤ 1000000 ∧ 0 ≤ j ∧ j ≤ 1000000 then .ok (.lst ((List.range (j - i).toNat).map fun k => .int (i + (k : Nat)))) else .bad
  | _, _ => .bad
def lr1F (f : Env → Res D) (ρ : Env) : Res D := (f ρ).bind lr1K
def lr2F (f g : Env → Res D) (ρ : Env) : Res D := (f ρ).bind fun x => (g ρ).bind fun y => lr2K x y
section
variable {X : Cx} {H0 : Hp} {Z : Zt} {W : WX} {ω ωr : List Sh} {τr : Sh} {pos : Pos}
theorem rl_rg {K : Fr} {H : Hp} (a : Int) : ∀ l : List Nat, Rl K H (l.map fun k => .int (a + (k : Nat))) (l.map fun k => V.int (a + (k : Nat)))
  | [] => rfl
  | k :: l => ⟨_, _, rfl, rfl, rl_rg a l⟩
theorem px_lr1 {a : Expr} {f : Env → Res D} {p p2 q : Pos} (hc : X.calm = true) (hg : Gl X "list") (hm : X.mg "list" = none) (hg2 : Gl X "range") (hm2 : X.mg "range" = none) (ha : PX X H0 Z W ω a f .fz)
    (n1 : starEach [a] X.env = (false, eval a X.env) :: starEach [] X.env := by rfl) (n2 : starEach [.Call (.Name "range" p2) [a] [] q] X.env = (false, eval (.Call (.Name "range" p2) [a] [] q) X.env) :: starEach [] X.env := by rfl) :
    PX X H0 Z W ω (.Call (.Name "list" p) [.Call (.Name "range" p2) [a] [] q] [] pos) (lr1F f) (.own .fz) := by
  obtain ⟨t, pe, s⟩ := ha
  refine ⟨_, pe_listRg hc hg hm (prg_1 hg2 hm2 pe n1) n2, fun ρ σ H Q sr ps => s ρ σ H _ sr ((Post.bind.mp ps).mono (fun d r v H1 g => ?_) fun _ h => h)⟩
  cases d <;> first | exact (show False from r).elim | skip
  rename_i j
  obtain ⟨⟨c1, c2⟩, r⟩ := Post.ite r
  refine ⟨j, g.r, RgOk.of_le (by omega) (by omega) (by omega) (by omega), fun q hq => ?_⟩
  unfold rgV
  rw [show (j - 0).toNat = j.toNat by omega]
  exact r _ _ (Got.lst g.ext hq (rl_rg 0 _) (sz9 (by rw [List.length_map, List.length_range]; omega)))
theorem px_lr2 {a b : Expr} {f g : Env → Res D} {p p2 q : Pos} (hc : X.calm = true) (hg : Gl X "list") (hm : X.mg "list" = none) (hg2 : Gl X "range") (hm2 : X.mg "range" = none) (ha : PX X H0 Z W ω a f .fz) (hb : PX X H0 Z W ω b g .fz)
    (n1 : starEach [a, b] X.env = (false, eval a X.env) :: starEach [b] X.env := by rfl) (n3 : starEach [b] X.env = (false, eval b X.env) :: starEach [] X.env := by rfl) (hp : (backTo q (starEach [b] X.env)).any (·.1) = false := by rfl) (n2 : starEach [.Call (.Name "range" p2) [a, b] [] q] X.env = (false, eval (.Call (.Name "range" p2) [a, b] [] q) X.env) :: starEach [] X.env := by rfl) :
    PX X H0 Z W ω (.Call (.Name "list" p) [.Call (.Name "range" p2) [a, b] [] q] [] pos) (lr2F f g) (.own .fz) := by
  obtain ⟨t, pe, s⟩ := ha
  obtain ⟨t2, pe2, s2⟩ := hb
  refine ⟨_, pe_listRg hc hg hm (prg_2 hg2 hm2 pe pe2 n1 n3 hp) n2, fun ρ σ H Q sr ps => s ρ σ H _ sr ((Post.bind.mp ps).mono (fun d r v H1 g1 => ?_) fun _ h => h)⟩
  refine s2 ρ σ H1 _ (sr.mono g1.ext) ((Post.bind.mp r).mono (fun e r v2 H2 g2 => ?_) fun _ h => h)
  cases d <;> first | exact (show False from r).elim | skip
  cases e <;> first | exact (show False from r).elim | skip
  rename_i i _ j
  obtain ⟨⟨c1, c2, c3, c4⟩, r⟩ := Post.ite r
  refine ⟨i, j, g1.r, g2.r, RgOk.of_le (by omega) (by omega) (by omega) (by omega), fun q hq => ?_⟩
  unfold rgV
  exact r _ _ (Got.lst (g1.ext.trans g2.ext) hq (rl_rg i _) (sz9 (by rw [List.length_map, List.length_range]; omega)))
/-! ## xs.index(x), xs.count(x) -/
def asLd : D → Res (List D)
  | .lst ds => .ok ds
  | _ => .bad
def ixdK3 (ds : List D) (y : D) : Res D := if flat y = true ∧ ds.all flat = true ∧ ds.findIdx (fun z => eqv z y) < ds.length then .ok (.int (ds.findIdx (fun z => eqv z y) : Nat)) else .bad
def ixdK2 (g : Env → Res D) (ρ : Env) (ds : List D) : Res D := (g ρ).bind (ixdK3 ds)
def ixdK1 (g : Env → Res D) (ρ : Env) (d : D) : Res D := (asLd d).bind (ixdK2 g ρ)
def ixdF (f g : Env → Res D) (ρ : Env) : Res D := (f ρ).bind (ixdK1 g ρ)
theorem px_idx {a b : Expr} {f g : Env → Res D} {apos cpos : Pos} (ha : PX X H0 Z W ω a f .fz) (hb : PX X H0 Z W ω b g .fz)
    (hbase : attributeBase a "index" X.env (eval a X.env) = eval a X.env := by rfl)
    (hfew : ((backTo cpos (starEach [b] X.env)).all (fun x => !x.1) && (backToKw cpos (keywordEach [] X.env)).all (fun x => x.1.isSome)
      && decide ([b].length + ([] : List Keyword).length + (if ([] : List Keyword).isEmpty then 0 else 1) < 30)) = true := by rfl)
    (hline : (apos.endLine == cpos.line) = true := by rfl) (hs : starEach [b] X.env = (false, eval b X.env) :: starEach [] X.env := by rfl) (hplain : (backTo cpos (starEach [] X.env)).any (·.1) = false := by rfl) :
    PX X H0 Z W ω (.Call (.Attribute a "index" apos) [b] [] cpos) (ixdF f g) .fz := by
  obtain ⟨ta, pa, sa⟩ := ha
  obtain ⟨tb, pb, sb⟩ := hb
  refine ⟨_, pe_bm PySem.F.plainAttrs_list PySem.F.slot_list_index PySem.F.type_list_index mt_index pa (pa_cons pb pa_nil hs) hbase hfew hline hs hplain, fun ρ σ H Q sr ps => ?_⟩
  refine sa ρ σ H _ sr ((Post.bind.mp ps).mono (fun d q v H1 g1 => ?_) fun _ h => h)
  cases d <;> first | exact (show False from q).elim | skip
  rename_i ds
  obtain ⟨a0, vs, rfl, fl, hz, rl⟩ := g1.r
  refine ⟨.inl ⟨rfl, _, fl.sq⟩, ?_⟩
  refine sb ρ σ H1 _ (sr.mono g1.ext) ((Post.bind.mp (show Post _ _ ((g ρ).bind (ixdK3 ds)) from q)).mono (fun y q v2 H2 g2 => ?_) fun _ h => h)
  obtain ⟨⟨c1, c2, c3⟩, q⟩ := Post.ite q
  have rl2 := rl.ext g2.ext
  obtain ⟨h1, h2⟩ := flats_v g2.r c1 rl2 c2
  have hj := List.getElem?_eq_getElem c3
  obtain ⟨z, ez, rz⟩ := rl2.get hj
  have fz' : flat ds[ds.findIdx fun z => eqv z y] = true := List.all_eq_true.mp c2 _ (List.getElem_mem c3)
  refine ⟨a0, vs, v2, ds.findIdx (fun z => eqv z y), z, rfl, rfl, (FL.keep fl g2.ext.keepF).sq, (flat_v g2.r c1).1, h1, ez, ?_, fun m z' hm hz' => ?_, q _ H2 (Got.fz (g1.ext.trans g2.ext) rfl)⟩
  · rw [(flat_v g2.r c1).2 _ _ rz fz']
    exact List.findIdx_getElem (w := c3)
  · obtain ⟨d', ed, rd⟩ := rl2.at hz'
    have hml : m < ds.length := Nat.lt_trans hm c3
    rw [List.getElem?_eq_getElem hml] at ed
    cases ed
    rw [(flat_v g2.r c1).2 _ _ rd (List.all_eq_true.mp c2 _ (List.getElem_mem hml))]
    have := List.not_of_lt_findIdx hm
    simpa using this
/-- xs.count(x) -/
def cntK3 (ds : List D) (y : D) : Res D := match y, intsOf ds with
  | .int k, some ns => .ok (.int (ns.count k : Nat))
  | _, _ => .bad
def cntK2 (g : Env → Res D) (ρ : Env) (ds : List D) : Res D := (g ρ).bind (cntK3 ds)
def cntK1 (g : Env → Res D) (ρ : Env) (d : D) : Res D := (asLd d).bind (cntK2 g ρ)
def cntF (f g : Env → Res D) (ρ : Env) : Res D := (f ρ).bind (cntK1 g ρ)
theorem px_cnt {a b : Expr} {f g : Env → Res D} {apos cpos : Pos} (ha : PX X H0 Z W ω a f .fz) (hb : PX X H0 Z W ω b g .fz)
    (hbase : attributeBase a "count" X.env (eval a X.env) = eval a X.env := by rfl)
    (hfew : ((backTo cpos (starEach [b] X.env)).all (fun x => !x.1) && (backToKw cpos (keywordEach [] X.env)).all (fun x => x.1.isSome)
      && decide ([b].length + ([] : List Keyword).length + (if ([] : List Keyword).isEmpty then 0 else 1) < 30)) = true := by rfl)
    (hline : (apos.endLine == cpos.line) = true := by rfl) (hs : starEach [b] X.env = (false, eval b X.env) :: starEach [] X.env := by rfl) (hplain : (backTo cpos (starEach [] X.env)).any (·.1) = false := by rfl) :
    PX X H0 Z W ω (.Call (.Attribute a "count" apos) [b] [] cpos) (cntF f g) .fz := by
  obtain ⟨ta, pa, sa⟩ := ha
  obtain ⟨tb, pb, sb⟩ := hb
  refine ⟨_, pe_bm PySem.F.plainAttrs_list PySem.F.slot_list_count PySem.F.type_list_count mt_lcount pa (pa_cons pb pa_nil hs) hbase hfew hline hs hplain, fun ρ σ H Q sr ps => ?_⟩
  refine sa ρ σ H _ sr ((Post.bind.mp ps).mono (fun d q v H1 g1 => ?_) fun _ h => h)
  cases d <;> first | exact (show False from q).elim | skip
  rename_i ds
  obtain ⟨a0, vs, rfl, fl, hz, rl⟩ := g1.r
  refine ⟨.inl ⟨rfl, _, fl.sq⟩, ?_⟩
  refine sb ρ σ H1 _ (sr.mono g1.ext) ((Post.bind.mp (show Post _ _ ((g ρ).bind (cntK3 ds)) from q)).mono (fun y q v2 H2 g2 => ?_) fun _ h => h)
  cases y <;> first | exact (show False from q).elim | skip
  rename_i k
  unfold cntK3 at q
  cases ei : intsOf ds with
  | none => rw [ei] at q; exact q.elim
  | some ns =>
    rw [ei] at q
    have ev := intsOf_v (rl.ext g2.ext) ei
    subst ev
    exact ⟨a0, ns, k, rfl, by rw [show v2 = V.int k from g2.r], (FL.keep fl g2.ext.keepF).sq, q _ H2 (Got.fz (g1.ext.trans g2.ext) rfl)⟩
/-! ## d.get(k, x) -/
def isDc : D → Res D
  | .dct ks ds => .ok (.dct ks ds)
  | .dcT ks ds => .ok (.dcT ks ds)
  | _ => .bad
def getK (d y x : D) : Res D := match d with
  | .dct ks ds => (match keyOf y with
    | some k => .ok ((lookK ks ds k).getD x)
    | none => .bad)
  | .dcT ks ds => (match y with
    | .tup ys => (match keysOf ys with
      | some k => .ok ((lookK ks ds k).getD x)
      | none => .bad)
    | _ => .bad)
  | _ => .bad
def getK3 (d y : D) (x : D) : Res D := getK d y x
def getK2 (h : Env → Res D) (ρ : Env) (d y : D) : Res D := (h ρ).bind (getK3 d y)
def getK1 (g h : Env → Res D) (ρ : Env) (d : D) : Res D := (g ρ).bind (getK2 h ρ d)
def getK0 (g h : Env → Res D) (ρ : Env) (d : D) : Res D := (isDc d).bind (getK1 g h ρ)
def getF (f g h : Env → Res D) (ρ : Env) : Res D := (f ρ).bind (getK0 g h ρ)
end
/-! ### simp -/
section
variable (f g h : Env → Res D) (ρ : Env) (d y : D) (ds : List D)
@[simp] theorem lr1F_ap : lr1F f ρ = (f ρ).bind lr1K := nr rfl
def lr2K1 (g : Env → Res D) (ρ : Env) (x : D) : Res D := (g ρ).bind (lr2K x)
@[simp] theorem lr2F_ap : lr2F f g ρ = (f ρ).bind (lr2K1 g ρ) := nr rfl
@[simp] theorem lr2K1_ap : lr2K1 g ρ d = (g ρ).bind (lr2K d) := nr rfl
theorem lr2K_ok {i j : Int} (h1 : 0 ≤ i ∧ i ≤ 1000000) (h2 : 0 ≤ j ∧ j ≤ 1000000) : lr2K (.int i) (.int j) = .ok (.lst ((upI i (j - i).toNat).map .int)) := by
  refine (if_pos ⟨h1.1, h1.2, h2.1, h2.2⟩).trans ?_
  simp [upI]
theorem lr1K_ok {j : Int} (h2 : 0 ≤ j ∧ j ≤ 1000000) : lr1K (.int j) = .ok (.lst ((upI 0 j.toNat).map .int)) := by
  refine (if_pos ⟨h2.1, h2.2⟩).trans ?_
  simp [upI]
@[simp] theorem ixdF_ap : ixdF f g ρ = (f ρ).bind (ixdK1 g ρ) := nr rfl
@[simp] theorem ixdK1_lst : ixdK1 g ρ (.lst ds) = (g ρ).bind (ixdK3 ds) := nr rfl
@[simp] theorem cntF_ap : cntF f g ρ = (f ρ).bind (cntK1 g ρ) := nr rfl
@[simp] theorem cntK1_lst : cntK1 g ρ (.lst ds) = (g ρ).bind (cntK3 ds) := nr rfl
theorem cntK3_ints (ns : List Int) (k : Int) : cntK3 (ns.map .int) (.int k) = .ok (.int (ns.count k : Nat)) := by simp [cntK3, intsOf_map]
theorem ixdK3_ints {ns : List Int} {k : Int} (h : k ∈ ns) : ixdK3 (ns.map .int) (.int k) = .ok (.int (ns.idxOf k : Nat)) := by
  have e : ∀ ms : List Int, (ms.map D.int).findIdx (fun z => eqv z (.int k)) = ms.idxOf k := fun ms => by
    rw [List.findIdx_map]
    unfold List.idxOf
    congr 1
  have hl : ns.idxOf k < ns.length := List.idxOf_lt_length_iff.mpr h
  unfold ixdK3
  rw [e, if_pos ⟨rfl, by simp [flat], by rw [List.length_map]; exact hl⟩]
@[simp] theorem getF_ap : getF f g h ρ = (f ρ).bind (getK0 g h ρ) := nr rfl
@[simp] theorem getK0_dct (ks : List Key) : getK0 g h ρ (.dct ks ds) = (g ρ).bind (getK2 h ρ (.dct ks ds)) := nr rfl
@[simp] theorem getK0_dcT (ks : List (List Key)) : getK0 g h ρ (.dcT ks ds) = (g ρ).bind (getK2 h ρ (.dcT ks ds)) := nr rfl
@[simp] theorem getK2_ap : getK2 h ρ d y = (h ρ).bind (getK3 d y) := nr rfl
@[simp] theorem getK3_int (ks : List Key) (k : Int) : getK3 (.dct ks ds) (.int k) d = .ok ((lookK ks ds (.inl k)).getD d) := nr rfl
@[simp] theorem getK3_str (ks : List Key) (k : Str) : getK3 (.dct ks ds) (.str k) d = .ok ((lookK ks ds (.inr k)).getD d) := nr rfl
end
end Mr

namespace Mr
open PySem PySem.Spec PyProof.Rows L2
open Res
/-! ## the order of tuples, in plain words -/
abbrev tkl (ds : List D) : List (Int ⊕ List Nat) := PySem.W.keyToksAll (D.toPl ds)
abbrev lxl (x y : List (Int ⊕ List Nat)) : Bool := PyProof.Rows.lexLt PyProof.Rows.itemOrd x y
def sLt (x y : Str) : Bool := PyProof.Rows.itemLt (.inr x.cps.toList) (.inr y.cps.toList)
theorem leP_lx (xs ys : List D) : leP (.tup xs) (.tup ys) = !lxl (tkl ys) (tkl xs) := by
  simp [leP, PySem.W.dataLe, PySem.W.sortLe, D.toP, PySem.W.keyToks, PyProof.Rows.listOrd]
theorem lx_one (x y : List (Int ⊕ List Nat)) : lxl (.inl 1 :: x) (.inl 1 :: y) = lxl x y := by
  simp [lxl, PyProof.Rows.lexLt, PyProof.Rows.itemOrd, PyProof.Rows.itemLt]
theorem lx_int (a b : Int) (x y : List (Int ⊕ List Nat)) : lxl (.inl a :: x) (.inl b :: y) = (decide (a < b) || (decide (a = b) && lxl x y)) := by
  simp [lxl, PyProof.Rows.lexLt, PyProof.Rows.itemOrd, PyProof.Rows.itemLt]
  by_cases h1 : a < b
  · simp [h1]
  · by_cases h2 : a = b
    · subst h2; simp
    · have h3 : b < a := by omega
      simp [h1, h2, h3]
theorem tkl_int (a : Int) (ds : List D) : tkl (.int a :: ds) = .inl 1 :: .inl a :: tkl ds := by
  simp [tkl, D.toPl, D.toP, PySem.W.keyToksAll, PySem.W.keyToks]
theorem tkl_bl (a : Bool) (ds : List D) : tkl (.bl a :: ds) = .inl 1 :: .inl (if a = true then 1 else 0) :: tkl ds := by
  simp [tkl, D.toPl, D.toP, PySem.W.keyToksAll, PySem.W.keyToks]
theorem tkl_str (a : Str) (ds : List D) : tkl (.str a :: ds) = .inl 1 :: .inr a.cps.toList :: tkl ds := by
  simp [tkl, D.toPl, D.toP, PySem.W.keyToksAll, PySem.W.keyToks]
theorem lt_int (a b : Int) (ds es : List D) : lxl (tkl (.int a :: ds)) (tkl (.int b :: es)) = (decide (a < b) || (decide (a = b) && lxl (tkl ds) (tkl es))) := by
  rw [tkl_int, tkl_int, lx_one, lx_int]
theorem lt_bl (a b : Bool) (ds es : List D) : lxl (tkl (.bl a :: ds)) (tkl (.bl b :: es)) = ((!a && b) || (decide (a = b) && lxl (tkl ds) (tkl es))) := by
  rw [tkl_bl, tkl_bl, lx_one, lx_int]
  cases a <;> cases b <;> rfl
theorem lt_str (a b : Str) (ds es : List D) : lxl (tkl (.str a :: ds)) (tkl (.str b :: es)) = (sLt a b || (!sLt b a && lxl (tkl ds) (tkl es))) := by
  rw [tkl_str, tkl_str, lx_one]
  rfl
theorem lt_nil : lxl (tkl []) (tkl []) = false := by
  simp [lxl, tkl, D.toPl, PySem.W.keyToksAll, PyProof.Rows.lexLt, PyProof.Rows.itemOrd, PyProof.Rows.itemLt]
theorem lx_irr : ∀ x : List (Int ⊕ List Nat), lxl x x = false
  | [] => rfl
  | a :: x => by
    have := PyProof.Rows.itemOrd.irrefl a
    show (PyProof.Rows.itemOrd.blt a a || (!PyProof.Rows.itemOrd.blt a a && lxl x x)) = false
    rw [this, lx_irr x]
    rfl
theorem leP_refl (d : D) : leP d d = true := by
  simp only [leP, PySem.W.dataLe, PySem.W.sortLe, cond, PyProof.Rows.listOrd]
  show (!lxl _ _) = true
  rw [lx_irr]
  rfl
/-- rows told apart by their first two numbers -/
theorem leP_rows {a b a' b' : Int} {ds es : List D} (h : b ≠ b' ∨ (a = a' ∧ ds = es)) : leP (.tup (.int a :: .int b :: ds)) (.tup (.int a' :: .int b' :: es)) = (decide (a < a') || (decide (a = a') && decide (b ≤ b'))) := by
  rcases h with h | ⟨h1, h2⟩
  · rw [leP_lx, lt_int, lt_int]
    by_cases h1 : a < a'
    · have h2 : ¬ a' < a := by omega
      have h3 : ¬ a' = a := by omega
      simp [h1, h2, h3]
    · by_cases h2 : a = a'
      · subst h2
        have hb : ¬ b' = b := fun z => h z.symm
        by_cases h3 : b' < b
        · have : ¬ b ≤ b' := by omega
          simp [h3, this]
        · have : b ≤ b' := by omega
          simp [h3, hb, this]
      · have h3 : a' < a := by omega
        simp [h1, h2, h3]
  · subst h1 h2
    by_cases e : b = b'
    · subst e
      rw [leP_refl]
      simp
    · rw [leP_lx, lt_int, lt_int]
      have hb : ¬ b' = b := fun z => e z.symm
      by_cases h3 : b' < b
      · have : ¬ b ≤ b' := by omega
        simp [h3, this]
      · have : b ≤ b' := by omega
        simp [h3, hb, this]
/-- what may be sorted: tuples of one make -/
theorem okSort_tup {ds : List D} (hl : ds.length ≤ 1000000) (h : ∀ d ∈ ds, (∃ x xs, d = .tup (x :: xs)) ∧ lv 30 d = true) (ha : ∀ d ∈ ds, ∀ e ∈ ds, PySem.W.alike d.toP e.toP = true) : okSort ds = true := by
  simp only [okSort, Bool.and_eq_true, Bool.or_eq_true, List.all_eq_true, decide_eq_true_eq]
  refine ⟨sz9 hl, fun d hd => (lv_sh 30 d (h d hd).2).1, ha, .inl fun d hd => ?_, fun d hd => ?_⟩
  · obtain ⟨x, xs, rfl⟩ := (h d hd).1
    simp [D.toP, D.toPl]
  · have := (lv_sh 30 d (h d hd).2).2.2
    omega
theorem sortedD_tups {ds : List D} (ok : okSort ds = true) : sortedD [.lst ds] = .ok (.lst (ds.mergeSort leP)) := by
  simp [sortedD, itemsD, ok]
end Mr

namespace Mr
variable [TabsOf]
open PySem PySem.Spec PyProof.Rows L2
open Res
/-! ## own dicts written to, as values -/
section
variable {ω : List Sh} {Z : Zt}
theorem SR.rewriteD {K : Fr} {H0 H : Hp} {ρ : Env} {σ : Sg} {i : Nat} (sr : SR K H0 Z ω ρ σ H) (hω : ω[i]? = some (.ownD .fz)) :
    ∃ ks ds a vs, gv ρ i = .dct ks ds ∧ σ[i]? = some (some (.ref a)) ∧ H a = some (.dK (ks.zip vs)) ∧ ks.length = ds.length ∧ Rl K H ds vs ∧
      ∀ (H1 : Hp) (kvs : List (Key × D)) (ws : List (Key × V)), H1 a = some (.dK (ks.zip vs)) → Ext H H1 → KVR K H1 kvs ws → KeepF H (upd H1 a (.dK ws)) ∧ SR K H0 Z ω (ρ.set i (unz kvs)) σ (upd H1 a (.dK ws)) := by
  obtain ⟨d0, s0, f0, e1, e2, sl, nd, fr, go⟩ := sr.focus i hω
  rcases sl with ⟨z, _⟩ | ⟨v0, e3, ro⟩
  · cases z
  subst e3
  obtain ⟨ks, ds, a, vs, fps, ed, ev, eH, hz, efp, al⟩ := ro
  obtain ⟨e4, l⟩ := al.rl
  subst ed ev e4 efp
  refine ⟨ks, ds, a, vs, gv_is e1, e2, eH, hz, l, fun H1 kvs ws eH1 x1 kr => ?_⟩
  have k2 : KeepF H1 (upd H1 a (.dK ws)) := keepF_upd eH1 fun h => h
  refine ⟨x1.keepF.trans k2, ?_⟩
  obtain ⟨ew, rl⟩ := (kr.keep k2).zip
  have sr' := go (upd H1 a (.dK ws)) (.ownD .fz) (unz kvs) (some (.ref a)) [a] (x1.keepF.trans k2) (fun b o e nb t => by
      rw [upd_ne fun z => nb (by simp [z])]
      exact x1 b o e t) (x1.tab.trans (TabK.upd eH1 trivial)) (.inr ⟨_, rfl, _, _, a, _, [], rfl, rfl, by rw [upd_same, ← ew], by simp, rfl, All3.of_rl rl⟩) (by simp) fun b hb => .inl (by simpa using hb)
  rw [set_same hω, set_same e2] at sr'
  exact sr'
end
section
variable {X : Cx} {pins : List (Addr × Obj)} {σ : Sg} {H : Hp} {s : Shared} {a b : Addr}
/-- d.update(e) -/
theorem d_update {A : Around} {E : Value → Shared → Prop} {kvs more : List (Key × V)} {Q : Value → Shared → Prop} (I : Inv X pins σ H s) (e : H a = some (.dK kvs)) (e2 : Rd H b (.dK more)) (hne : a ≠ b) (hl : kvs.length + more.length ≤ sizeLine)
    (h : ∀ s', Inv X pins σ (upd H a (.dK (mergeK kvs more))) s' → Q .none s') : wpAny (model X.prog X.w) A (call (.builtin "dict.update") [.ref a, .ref b]) Q E s := by
  obtain ⟨z, hd, vs, rel, dd⟩ := dk_of I.hok e
  obtain ⟨z2, hd2, us, rel2, dd2⟩ := dk_rd I.hok e2
  refine call_meetsIn PySem.F.slot_dict_update dd.typeIs PySem.F.entry_dict_update (PySem.F.args_dict_update_2 _ _) (meets_dict_update (mixKind X.prog X.w) a b hne hd2) ⟨vs, us, dd, dd2, by rw [← rel.length, ← rel2.length]; exact hl, fun h' dd' _ hs => h _ ?_⟩
  have he : ∃ q, h'.get? a = some q := let ⟨q, _, _, hq, _⟩ := dd'; ⟨q, hq⟩
  exact d_write (t' := s.toks) I (by rw [e]; exact True.intro) hs he (dk_new (Nat.le_trans (length_mergeK more kvs) hl) hd (rel2.merge rel) dd')
def rDUpd : V → List V → Hp → VK → Prop := fun x vs H Q => ∃ (a b : Addr) (kvs more : List (Key × V)), x = .ref a ∧ vs = [.ref b] ∧ a ≠ b ∧ H a = some (.dK kvs) ∧ Rd H b (.dK more) ∧ kvs.length + more.length ≤ sizeLine ∧ Q .non (upd H a (.dK (mergeK kvs more)))
theorem mtd_update : MtR X "dict.update" rDUpd := by
  intro pins s σ H x vs v us Q I rx rv h
  obtain ⟨a, b, kvs, more, rfl, rfl, hne, e, e2, hl, q⟩ := h
  obtain rfl : v = Value.ref a := rx
  obtain ⟨u, rfl, ru⟩ := rv.one
  obtain rfl : u = Value.ref b := ru
  exact d_update I e e2 hne hl fun s' I' => ⟨.non, _, I', rfl, q⟩
end
section
variable {X : Cx} {H0 : Hp} {Z : Zt} {W : WX} {ω ωr : List Sh} {τr : Sh} {pos : Pos}
def updK2 (i : Nat) (ρ : Env) (y : D) : D → Res (D × Env)
  | .dct ks ds => match y with
    | .dct ls es => if ks.length + ls.length ≤ sizeLine then .ok (.non, ρ.set i (unz (mergeD (ks.zip ds) (ls.zip es)))) else .bad
    | _ => .bad
  | _ => .bad
def updK (i : Nat) (ρ : Env) (y : D) : Res (D × Env) := updK2 i ρ y (gv ρ i)
def updE (i : Nat) (f : Env → Res D) (ρ : Env) : Res (D × Env) := (f ρ).bind (updK i ρ)
theorem mergeK_zip {K : Fr} {H : Hp} {ks ls : List Key} {ds es : List D} {vs us : List V} (h1 : ks.length = ds.length) (h2 : ls.length = es.length) (l1 : Rl K H ds vs) (l2 : Rl K H es us) : KVR K H (mergeD (ks.zip ds) (ls.zip es)) (mergeK (ks.zip vs) (ls.zip us)) :=
  (kvr_zip h2 l2).merge (kvr_zip h1 l1)
/-- d.update(e), e a dict that stands -/
theorem pex_upd (i : Nat) {x : Str} {e : Expr} {f : Env → Res D} {p apos cpos : Pos} (he : PX X H0 Z W ω e f .fz) (hN : X.N[i]? = some x := by rfl) (hω : ω[i]? = some (.ownD .fz) := by rfl) (hv : Vis X.env.scope x := by first | exact Or.inl rfl | exact Or.inr (Or.inl rfl) | exact Or.inr (Or.inr rfl)) (hd : (x == ("__debug__" : Str)) = false := by decide)
    (hcd : (x == ("__classdict__" : Str)) = false := by decide) (hbase : attributeBase (.Name x p) "update" X.env (eval (.Name x p) X.env) = eval (.Name x p) X.env := by rfl)
    (hfew : ((backTo cpos (starEach [e] X.env)).all (fun x => !x.1) && (backToKw cpos (keywordEach [] X.env)).all (fun x => x.1.isSome)
      && decide ([e].length + ([] : List Keyword).length + (if ([] : List Keyword).isEmpty then 0 else 1) < 30)) = true := by rfl)
    (hline : (apos.endLine == cpos.line) = true := by rfl) (hs : starEach [e] X.env = (false, eval e X.env) :: starEach [] X.env := by rfl) (hplain : (backTo cpos (starEach [] X.env)).any (·.1) = false := by rfl) :
    PEX X H0 Z W ω (.Call (.Attribute (.Name x p) "update" apos) [e] [] cpos) (updE i f) .fz := by
  obtain ⟨t, pe, s⟩ := he
  refine ⟨_, pe_bm PySem.F.plainAttrs_dict PySem.F.slot_dict_update PySem.F.type_dict_update mtd_update (pe_var hN hv hd hcd) (pa_cons pe pa_nil hs) hbase hfew hline hs hplain, fun ρ σ H Q sr ps => ?_⟩
  obtain ⟨ks, ds, a, vs, eg, e2, eH, hz, l, go⟩ := sr.rewriteD hω
  refine ⟨.ref a, e2, .inr (.inr (.inl ⟨rfl, .inl ⟨_, eH⟩⟩)), ?_⟩
  refine s ρ σ H _ sr ((Post.bind.mp ps).mono (fun y q v H1 g => ?_) fun _ h => h)
  unfold updK at q
  rw [eg] at q
  cases y <;> first | exact q.elim | skip
  rename_i ls es
  unfold updK2 at q
  dsimp only at q
  obtain ⟨c, q⟩ := Post.ite q
  obtain ⟨b, us, o, rfl, eb, hb, lb⟩ := g.r
  have eH1 := g.ext _ _ eH fun ps h => by cases h
  have hle : (ks.zip vs).length + (ls.zip us).length ≤ sizeLine := by
    rw [List.length_zip, List.length_zip, l.length, lb.length, ← hz, ← hb, Nat.min_self, Nat.min_self]
    exact c
  obtain ⟨k2, sr2⟩ := go H1 _ _ eH1 g.ext (mergeK_zip hz hb (l.ext g.ext) lb)
  refine ⟨a, b, _, _, rfl, rfl, fun e => ?_, eH1, .inr ⟨o, eb⟩, hle, q .non _ k2 (sr2.keepHead rfl)⟩
  subst e
  rw [eH1] at eb
  cases eb
/-- d.pop(k) -/
def delK {κ : Type} [DecidableEq κ] (kvs : List (κ × D)) (k : κ) : List (κ × D) := kvs.filter fun kv => !decide (kv.1 = k)
def dpopK2 (i : Nat) (ρ : Env) (y : D) : D → Res (D × Env)
  | .dct ks ds => match keyOf y with
    | some k => (match lookK ks ds k with
      | some d => .ok (d, ρ.set i (unz (delK (ks.zip ds) k)))
      | none => .bad)
    | none => .bad
  | _ => .bad
def dpopK (i : Nat) (ρ : Env) (y : D) : Res (D × Env) := dpopK2 i ρ y (gv ρ i)
def dpopE (i : Nat) (f : Env → Res D) (ρ : Env) : Res (D × Env) := (f ρ).bind (dpopK i ρ)
theorem KVR.del {K : Fr} {H : Hp} {kvs : List (Key × D)} {ws : List (Key × V)} {k : Key} (h : KVR K H kvs ws) : KVR K H (delK kvs k) (dropK ws k) := by
  unfold KVR at h ⊢
  unfold delK dropK
  induction h with
  | nil => exact .nil
  | @cons p q ps qs h _ ih =>
    by_cases e : p.1 = k
    · have e' : q.1 = k := h.1 ▸ e
      rw [List.filter_cons_of_neg (by simp [e]), List.filter_cons_of_neg (by simp [e'])]
      exact ih
    · have e' : ¬ q.1 = k := h.1 ▸ e
      rw [List.filter_cons_of_pos (by simp [e]), List.filter_cons_of_pos (by simp [e'])]
      exact .cons h ih
theorem pex_dpop (i : Nat) {x : Str} {e : Expr} {f : Env → Res D} {p apos cpos : Pos} (he : PX X H0 Z W ω e f .fz) (hN : X.N[i]? = some x := by rfl) (hω : ω[i]? = some (.ownD .fz) := by rfl) (hv : Vis X.env.scope x := by first | exact Or.inl rfl | exact Or.inr (Or.inl rfl) | exact Or.inr (Or.inr rfl)) (hd : (x == ("__debug__" : Str)) = false := by decide)
    (hcd : (x == ("__classdict__" : Str)) = false := by decide) (hbase : attributeBase (.Name x p) "pop" X.env (eval (.Name x p) X.env) = eval (.Name x p) X.env := by rfl)
    (hfew : ((backTo cpos (starEach [e] X.env)).all (fun x => !x.1) && (backToKw cpos (keywordEach [] X.env)).all (fun x => x.1.isSome)
      && decide (([e] : List Expr).length + ([] : List Keyword).length + (if ([] : List Keyword).isEmpty then 0 else 1) < 30)) = true := by rfl)
    (hline : (apos.endLine == cpos.line) = true := by rfl) (hs : backTo cpos (starEach [e] X.env) = [(false, eval e X.env)] := by rfl) :
    PEX X H0 Z W ω (.Call (.Attribute (.Name x p) "pop" apos) [e] [] cpos) (dpopE i f) .fz := by
  obtain ⟨t, pe, s⟩ := he
  refine ⟨_, pe_dpop1 (pe_var hN hv hd hcd) pe ⟨hbase, hfew, hline, hs⟩, fun ρ σ H Q sr ps => ?_⟩
  obtain ⟨ks, ds, a, vs, eg, e2, eH, hz, l, go⟩ := sr.rewriteD hω
  refine ⟨.ref a, e2, a, rfl, .inl ⟨_, .inl eH⟩, ?_⟩
  refine s ρ σ H _ sr ((Post.bind.mp ps).mono (fun y q v H1 g => ?_) fun _ h => h)
  unfold dpopK at q
  rw [eg] at q
  unfold dpopK2 at q
  dsimp only at q
  cases ek : keyOf y with
  | none => rw [ek] at q; exact q.elim
  | some k =>
    rw [ek] at q
    dsimp only at q
    have hk := lookK_v (k := k) l hz
    cases el : lookK ks ds k with
    | none => rw [el] at q; exact q.elim
    | some d =>
      rw [el] at q hk
      obtain ⟨w, ew, rw'⟩ := hk
      have eH1 := g.ext _ _ eH fun ps h => by cases h
      obtain ⟨k2, sr2⟩ := go H1 _ _ eH1 g.ext (kvr_zip hz (l.ext g.ext)).del
      refine ⟨_, k, w, eH1, keyOf_v g.r ek, ew, q w _ k2 (sr2.keepHead ?_)⟩
      exact R.keep k2 _ rw'
end
/-! ## "".join(xs) -/
section
variable {X : Cx} {H0 : Hp} {Z : Zt} {W : WX} {ω ωr : List Sh} {τr : Sh} {pos : Pos}
def asSt : D → Res Str
  | .str a => .ok a
  | _ => .bad
def joinK2 (a : Str) : D → Res D
  | .lst ds => match strsOf ds with
    | some ys => if (ys.map (·.length)).sum + ys.length * a.length ≤ 16777216 then .ok (.str (Txt.join a ys)) else .bad
    | none => .bad
  | _ => .bad
def joinK1 (g : Env → Res D) (ρ : Env) (a : Str) : Res D := (g ρ).bind (joinK2 a)
def joinK (g : Env → Res D) (ρ : Env) (d : D) : Res D := (asSt d).bind (joinK1 g ρ)
def joinF (f g : Env → Res D) (ρ : Env) : Res D := (f ρ).bind (joinK g ρ)
theorem px_join {a b : Expr} {f g : Env → Res D} {apos cpos : Pos} (ha : PX X H0 Z W ω a f .fz) (hb : PX X H0 Z W ω b g .fz) (hs : starEach [b] X.env = [(false, eval b X.env)] := by rfl) (hbase : attributeBase a "join" X.env (eval a X.env) = eval a X.env := by rfl) (hline : (apos.endLine == cpos.line) = true := by rfl) : PX X H0 Z W ω (.Call (.Attribute a "join" apos) [b] [] cpos) (joinF f g) .fz := by
  obtain ⟨ta, pa, sa⟩ := ha
  obtain ⟨tb, pb, sb⟩ := hb
  refine ⟨_, pe_join pa pb hs hbase hline, fun ρ σ H Q sr ps => ?_⟩
  refine sa ρ σ H _ sr ((Post.bind.mp ps).mono (fun d q v H1 g1 => ?_) fun _ h => h)
  cases d <;> first | exact (show False from q).elim | skip
  rename_i sep
  refine ⟨⟨sep, g1.r⟩, ?_⟩
  refine sb ρ σ H1 _ (sr.mono g1.ext) ((Post.bind.mp (show Post _ _ ((g ρ).bind (joinK2 sep)) from q)).mono (fun y q v2 H2 g2 => ?_) fun _ h => h)
  cases y <;> first | exact (show False from q).elim | skip
  rename_i ds
  unfold joinK2 at q
  dsimp only at q
  cases es : strsOf ds with
  | none => rw [es] at q; exact q.elim
  | some ys =>
    rw [es] at q
    dsimp only at q
    obtain ⟨c, q⟩ := Post.ite q
    obtain ⟨p, vs, rfl, fl, z, l⟩ := g2.r
    have ev := strsOf_v l es
    subst ev
    exact ⟨sep, p, ys, g1.r, rfl, .inl fl.sq, c, q _ H2 (Got.fz (g1.ext.trans g2.ext) rfl)⟩
/-! ## d.get(k, x) -/
theorem px_get {a b c : Expr} {f g h : Env → Res D} {apos cpos : Pos} (hu : X.A.units + 1 < cLine) (ha : PX X H0 Z W ω a f .fz) (hb : PX X H0 Z W ω b g .fz) (hc : PX X H0 Z W ω c h .fz) (m : M2 X a "get" apos b c cpos) : PX X H0 Z W ω (.Call (.Attribute a "get" apos) [b, c] [] cpos) (getF f g h) .fz := by
  obtain ⟨ta, pa, sa⟩ := ha
  obtain ⟨tb, pb, sb⟩ := hb
  obtain ⟨tc, pc, sc⟩ := hc
  refine ⟨_, pe_dget2 hu pa pb pc m, fun ρ σ H Q sr ps => ?_⟩
  refine sa ρ σ H _ sr ((Post.bind.mp ps).mono (fun d q v H1 g1 => ?_) fun _ h => h)
  cases d <;> first | exact (show False from q).elim | skip
  · rename_i ks ds
    obtain ⟨p, vs, o, rfl, fl, z, l⟩ := g1.r
    refine ⟨p, rfl, .inl ⟨_, .inr ⟨o, fl⟩⟩, ?_⟩
    refine sb ρ σ H1 _ (sr.mono g1.ext) ((Post.bind.mp (show Post _ _ ((g ρ).bind (getK2 h ρ (.dct ks ds))) from q)).mono (fun y q v2 H2 g2 => ?_) fun _ h => h)
    refine sc ρ σ H2 _ ((sr.mono g1.ext).mono g2.ext) ((Post.bind.mp (show Post _ _ ((h ρ).bind (getK3 (.dct ks ds) y)) from q)).mono (fun x q v3 H3 g3 => ?_) fun _ h => h)
    have q : Post _ _ (match keyOf y with | some k => Res.ok ((lookK ks ds k).getD x) | none => .bad) := q
    cases ek : keyOf y with
    | none => rw [ek] at q; exact q.elim
    | some k =>
      rw [ek] at q
      dsimp only at q
      have x23 := g2.ext.trans g3.ext
      have fl3 := x23 _ _ fl fun ps h => by cases h
      have hk := lookK_v (k := k) (l.ext x23) z
      refine ⟨_, DGet.of (g2.r.ext g3.ext) ek (.inr ⟨o, fl3⟩), ?_⟩
      cases el : lookK ks ds k with
      | none =>
        rw [el] at hk q
        rw [show valV (ks.zip vs) k = none from hk]
        exact q _ H3 (Got.fz (g1.ext.trans x23) g3.r)
      | some d =>
        rw [el] at hk q
        obtain ⟨w, ew, rw'⟩ := hk
        rw [ew]
        exact q _ H3 (Got.fz (g1.ext.trans x23) rw')
  · rename_i ks ds
    obtain ⟨p, vs, o, rfl, fl, z, l⟩ := g1.r
    refine ⟨p, rfl, .inr ⟨_, .inr ⟨o, fl⟩⟩, ?_⟩
    refine sb ρ σ H1 _ (sr.mono g1.ext) ((Post.bind.mp (show Post _ _ ((g ρ).bind (getK2 h ρ (.dcT ks ds))) from q)).mono (fun y q v2 H2 g2 => ?_) fun _ h => h)
    refine sc ρ σ H2 _ ((sr.mono g1.ext).mono g2.ext) ((Post.bind.mp (show Post _ _ ((h ρ).bind (getK3 (.dcT ks ds) y)) from q)).mono (fun x q v3 H3 g3 => ?_) fun _ h => h)
    cases y <;> first | exact (show False from q).elim | skip
    rename_i ys _
    have q : Post _ _ (match keysOf ys with | some k => Res.ok ((lookK ks ds k).getD x) | none => .bad) := q
    cases ek : keysOf ys with
    | none => rw [ek] at q; exact q.elim
    | some k =>
      rw [ek] at q
      dsimp only at q
      have x23 := g2.ext.trans g3.ext
      have fl3 := x23 _ _ fl fun ps h => by cases h
      have hk := lookK_v (k := k) (l.ext x23) z
      obtain ⟨b, us, eu, fu, zu, lu⟩ := g2.r.ext g3.ext
      have hb : H3 b = some (.tup (k.map kV)) := by rw [← keysOf_v lu ek]; exact fu
      refine ⟨_, .inr ⟨_, k, b, .inr ⟨o, fl3⟩, eu, hb, rfl⟩, ?_⟩
      cases el : lookK ks ds k with
      | none =>
        rw [el] at hk q
        rw [show valV (ks.zip vs) k = none from hk]
        exact q _ H3 (Got.fz (g1.ext.trans x23) g3.r)
      | some d =>
        rw [el] at hk q
        obtain ⟨w, ew, rw'⟩ := hk
        rw [ew]
        exact q _ H3 (Got.fz (g1.ext.trans x23) rw')
/-! ## while -/
def whM (c : Env → Res Bool) (b : Env → Res Fl) : Nat → Env → Res Fl
  | 0, _ => .bad
  | n + 1, ρ => (c ρ).bind fun t => if t = true then (b ρ).bind fun fl => (match fl with
    | .nx ρ' => whM c b n ρ'
    | .rt d ρ' => .ok (.rt d ρ')) else .ok (.nx ρ)
def whF (n : Nat) (c : Env → Res Bool) (b : Env → Res Fl) (ρ : Env) : Res Fl := whM c b n ρ
theorem sx_while {c : Expr} {body : List Stmt} {k : Env → Res Bool} {b : Env → Res Fl} (n : Nat) (hp : PassesOwn (model X.prog X.w) X.A X.env X.xe) (hc : PTX X H0 Z W ω c k) (hb : BX X H0 Z W ω ω ωr τr body b) : SX X H0 Z W ω ω ωr τr (.While c body [] pos) (whF n k b) := by
  obtain ⟨tc, pc, sc⟩ := hc
  obtain ⟨tb, pb, sb⟩ := hb
  refine ⟨_, ps_while hp pc pb, fun ρ σ H Dn sr ps => ?_⟩
  refine ⟨fun m σ' H' => KeepF H H' ∧ ∃ ρ, SR X.K H0 Z ω ρ σ' H' ∧ Post (FK X H0 Z ω ωr τr H Dn) (EK X H0 Z W) (whM k b m ρ), ⟨n, KeepF.refl H, ρ, sr, ps⟩, ?_⟩
  rintro m σ1 H1 ⟨k1, ρ1, sr1, q1⟩
  cases m with
  | zero => exact (show False from q1).elim
  | succ m =>
    refine sc ρ1 σ1 H1 _ sr1 ((Post.bind.mp (show Post _ _ ((k ρ1).bind _) from q1)).mono (fun t q H2 x2 => ?_) fun _ h => h)
    cases t with
    | false => exact iteF (q σ1 H2 (k1.trans x2.keepF) (sr1.mono x2))
    | true =>
      refine iteT ⟨fun σ' H' => KeepF H H' ∧ ∃ ρ, SR X.K H0 Z ω ρ σ' H' ∧ Post (FK X H0 Z ω ωr τr H Dn) (EK X H0 Z W) (whM k b m ρ), fun σ' H' z => ⟨m, Nat.lt_succ_self m, z⟩, ?_⟩
      refine sb ρ1 σ1 H2 _ (sr1.mono x2) ((Post.bind.mp (show Post _ _ ((b ρ1).bind _) from q)).mono (fun fl r => ?_) fun _ h => h)
      cases fl with
      | nx ρ2 => exact fun σ3 H3 k3 sr3 => ⟨(k1.trans x2.keepF).trans k3, ρ2, sr3, r⟩
      | rt d ρ2 => exact r
end
/-! ### simp -/
section
variable (f g h : Env → Res D) (ρ : Env) (i : Nat) (d y : D) (ds es : List D)
@[simp] theorem updE_ap : updE i f ρ = (f ρ).bind (updK i ρ) := nr rfl
@[simp] theorem updK_ap : updK i ρ y = updK2 i ρ y (gv ρ i) := nr rfl
theorem updK2_ok {ks ls : List Key} (hl : ks.length + ls.length ≤ 1000000) : updK2 i ρ (.dct ls es) (.dct ks ds) = .ok (.non, ρ.set i (unz (mergeD (ks.zip ds) (ls.zip es)))) := if_pos (sz9 hl)
@[simp] theorem dpopE_ap : dpopE i f ρ = (f ρ).bind (dpopK i ρ) := nr rfl
@[simp] theorem dpopK_ap : dpopK i ρ y = dpopK2 i ρ y (gv ρ i) := nr rfl
@[simp] theorem joinF_ap : joinF f g ρ = (f ρ).bind (joinK g ρ) := nr rfl
@[simp] theorem joinK_str (a : Str) : joinK g ρ (.str a) = (g ρ).bind (joinK2 a) := nr rfl
theorem joinK2_ok {a : Str} {ys : List Str} (hl : (ys.map (·.length)).sum + ys.length * a.length ≤ 16777216) : joinK2 a (.lst (ys.map .str)) = .ok (.str (Txt.join a ys)) := by
  unfold joinK2
  simp [strsOf_map, hl]
@[simp] theorem whF_ap (n : Nat) (c : Env → Res Bool) (b : Env → Res Fl) : whF n c b ρ = whM c b n ρ := nr rfl
def whK2 (c : Env → Res Bool) (b : Env → Res Fl) (n : Nat) : Fl → Res Fl
  | .nx ρ' => whM c b n ρ'
  | .rt d ρ' => .ok (.rt d ρ')
theorem whM_step {n : Nat} {c : Env → Res Bool} {b : Env → Res Fl} {ρ ρ' : Env} (h : c ρ = .ok true) (hb : b ρ = .ok (.nx ρ')) : whM c b (n + 1) ρ = whM c b n ρ' := by
  show (c ρ).bind _ = _
  rw [h]
  show (b ρ).bind _ = _
  rw [hb]
  rfl
theorem whM_end {n : Nat} {c : Env → Res Bool} {b : Env → Res Fl} {ρ : Env} (h : c ρ = .ok false) : whM c b (n + 1) ρ = .ok (.nx ρ) := by
  show (c ρ).bind _ = _
  rw [h]
  rfl
theorem whM_ret {n : Nat} {c : Env → Res Bool} {b : Env → Res Fl} {ρ ρ' : Env} {d : D} (h : c ρ = .ok true) (hb : b ρ = .ok (.rt d ρ')) : whM c b (n + 1) ρ = .ok (.rt d ρ') := by
  show (c ρ).bind _ = _
  rw [h]
  show (b ρ).bind _ = _
  rw [hb]
  rfl
end
end Mr

namespace Mr
variable [TabsOf]
open PySem PySem.Spec PyProof.Rows L2
open Res

/-! ## {None: e} -/
theorem nd_empty {P : Program} {w : World} {h : Heap} {a : Addr} (d : h.DictOf (mixKind P w) a []) : h.DictOf (noneKind P w) a [] := by
  obtain ⟨o, es, ep, ho, hx, hdt, hk, hp, hn⟩ := d
  have e : es.toList = [] := by cases hp' : es.toList with
    | nil => rfl
    | cons x r => rw [hp'] at hp; cases hp
  refine ⟨o, es, ep, ho, hx, hdt, fun x hx' => ?_, ?_, List.nodup_nil⟩
  · have : x ∈ es.toList := hx'.val
    rw [e] at this; cases this
  · rw [e]; exact .nil
theorem nd_one {P : Program} {w : World} {h : Heap} {a : Addr} {v : Value} (d : h.DictOf (noneKind P w) a [(none, v)]) : ∃ o es ep en, h.get? a = some o ∧ o.ExactDict ∧ o.data = .dict es ep ∧ es.size = 1 ∧ es[0]? = some en ∧ en.key = .none := by
  obtain ⟨o, es, ep, ho, hx, hdt, hk, hp, hn⟩ := d
  cases hp' : es.toList with
  | nil => rw [hp'] at hp; cases hp
  | cons x r =>
    rw [hp'] at hp
    cases hp
    rename_i q _ t
    cases t
    exact ⟨o, es, ep, x, ho, hx, hdt, by rw [← Array.length_toList, hp']; rfl, by rw [← Array.getElem?_toList, hp']; rfl, nk_none q⟩
/-- {None: e}; the new dict stands empty while e is made -/
def tNdc (tv : TE) : TE := fun σ H Q => ∀ p, H p = none → tPairs [(tC .non, tv)] σ (upd H p (.dK [])) fun ps H2 => (∃ y, ps = [(.non, y)]) ∧ H2 p = some (.dK []) ∧ ∀ o, NdP (upd H2 p (.frz o (.ext fun _ => True))) p o → Q (.ref p) (upd H2 p (.frz o (.ext fun _ => True)))
theorem pe_ndc {X : Cx} {pos : Pos} {k v : Expr} {tv : TE} (hk : PE X k (tC .non)) (hv : PE X v tv) : PE X (.Dict [some k] [v] pos) (tNdc tv) := by
  refine ⟨fun pins s σ H Q I q => ?_⟩
  have hn := I.hok.fresh (Nat.le_refl s.heap.objs.size)
  have I1 := I.laid (a := s.heap.objs.size) (o := .dK []) (h' := s.heap.push { cls := .type "dict", data := .dict #[] }) (t' := s.toks) (fun _ _ q => Heap.get?_push_of_some _ q) (Nat.le_refl _) (dk_empty s.heap I.big)
  refine wpAny_Dict_walk (knd := noneKind X.prog X.w) rfl rfl (by simp) (by show 1 ≤ 15; decide) (thn ((pps_cons hk hv pps_nil).run pins _ σ _ _ I1 (q _ hn)) fun ws s2 hw => ?_)
  obtain ⟨ps, H2, I2, rel, ⟨y, epp⟩, e, q2⟩ := hw
  subst epp
  cases rel with
  | cons r t =>
    cases t
    rename_i b
    obtain ⟨kv, vv⟩ := b
    obtain ⟨r1, r2⟩ := r
    have r1 : kv = Value.none := r1
    subst r1
    obtain ⟨z, hd, vs0, r0, dd⟩ := dk_of I2.hok e
    cases r0
    refine ⟨[(none, vv)], ⟨rfl, rfl, trivial⟩, nd_empty dd, fun h' dd' hs => ?_⟩
    obtain ⟨o, es, ep, en, g1, g2, g3, g4, g5, g6⟩ := nd_one dd'
    refine ⟨.ref s.heap.objs.size, _, d_write (ob := .frz o (.ext fun _ => True)) I2 (by rw [e]; exact True.intro) hs ⟨o, g1⟩ ?_, rfl, q2 o ⟨upd_same, hd, g2, es, ep, en, g3, g4, g5, g6⟩⟩
    exact ⟨g1, trivial, ⟨o, g1⟩, fun _ _ _ _ => trivial⟩
section
variable {X : Cx} {H0 : Hp} {Z : Zt} {W : WX} {ω : List Sh} {pos : Pos}
def ndcK (_ : D) : Res D := .ok .ndc
def ndcF (f : Env → Res D) (ρ : Env) : Res D := (f ρ).bind ndcK
@[simp] theorem ndcK_ap (d : D) : ndcK d = .ok .ndc := nr rfl
@[simp] theorem ndcF_ap (f : Env → Res D) (ρ : Env) : ndcF f ρ = (f ρ).bind ndcK := nr rfl
theorem px_ndc {v : Expr} {f : Env → Res D} {j : Nat} {p : Pos} (hv : PX X H0 Z W ω v f .fz) : PX X H0 Z W ω (.Dict [some (.Constant .none j p)] [v] pos) (ndcF f) .fz := by
  obtain ⟨t, pv, sv⟩ := hv
  refine ⟨_, pe_ndc pe_non pv, fun ρ σ H Q sr ps q hq => ?_⟩
  have x0 : Ext H (upd H q (.dK [])) := Ext.new hq
  refine sv ρ σ _ _ (sr.mono x0) ((Post.bind.mp ps).mono (fun d r v H2 g => ?_) fun _ h => h)
  have e2 : H2 q = some (.dK []) := g.ext _ _ upd_same fun ps h => by cases h
  refine ⟨⟨v, rfl⟩, e2, fun o n => r (.ref q) _ ⟨⟨fun b o' e nt => ?_, (x0.tab.trans g.ext.tab).trans (TabK.upd e2 trivial)⟩, [], ⟨rfl, q, o, rfl, n⟩, by simp, by simp⟩⟩
  rw [upd_ne (ne_of_none e hq)]
  exact g.ext _ _ (x0 _ _ e nt) nt
end
end Mr
namespace Mr
/-- how often a while loop may turn -/
def fuel : Nat := 100000
theorem fuel_is : fuel = 100000 := rfl
end Mr

namespace Mr
variable [TabsOf]
open PySem PySem.Spec PyProof.Rows L2
open Res

/-! ## a module's tuple of texts -/
def strAll : List Str → List Value → Bool
  | [], [] => true
  | s :: ss, .str y _ :: vs => decide (s = y) && strAll ss vs
  | _, _ => false
def ctB (o : Obj) (ss : List Str) : Bool := match o.cls, o.data with
  | .type n, .seq its _ => decide (n = "tuple") && (decide (its.size ≤ 1000) && strAll ss its.toList)
  | _, _ => false
def CTob (o : Obj) (ss : List Str) : Prop := ctB o ss = true
def CTup (K : Fr) (mg : Str → Option Value) (x : Str) (ss : List Str) : Prop := ∃ a, mg x = some (.ref a) ∧ ∀ H : Hp, SqT K H a (ss.map V.str)
theorem strAll_v : ∀ {ss : List Str} {vs : List Value}, strAll ss vs = true → Vals (ss.map V.str) vs
  | [], [], _ => .nil
  | [], _ :: _, h => by simp [strAll] at h
  | _ :: _, [], h => by simp [strAll] at h
  | s :: ss, v :: vs, h => by
    cases v <;> try (simp [strAll] at h; done)
    rename_i y t
    simp only [strAll, Bool.and_eq_true, decide_eq_true_eq] at h
    obtain ⟨e, h⟩ := h
    subst e
    exact .cons ⟨t, rfl⟩ (strAll_v h)
theorem CTup.of {K : Fr} {mg : Str → Option Value} {x : Str} {ss : List Str} {a : Addr} {o : Obj} (h : mg x = some (.ref a)) (lo : K.lookup a = some o) (c : CTob o ss) : CTup K mg x ss := by
  refine ⟨a, h, fun H => .inr ?_⟩
  unfold CTob ctB at c
  cases h1 : o.cls <;> rw [h1] at c <;> try (simp at c; done)
  cases h2 : o.data <;> rw [h2] at c <;> try (simp at c; done)
  rename_i n its k
  simp only [Bool.and_eq_true, decide_eq_true_eq] at c
  obtain ⟨e, z, s⟩ := c
  subst e
  exact ⟨o, its, k, lo, h1, h2, Nat.le_trans z (by decide), strAll_v s⟩
section
variable {X : Cx} {H0 : Hp} {Z : Zt} {W : WX} {ω : List Sh} {pos : Pos}
theorem px_gtE {x : Str} {ss : List Str} (hg : Gl X x) (c : CTup X.K X.mg x ss) (hd : (x == ("__debug__" : Str)) = false := by decide) : PX X H0 Z W ω (.Name x pos) (fun _ => .ok (.ctup ss)) .fz := by
  obtain ⟨a, h, s⟩ := c
  exact px_c (v := .ref a) (pe_glob hg h rfl hd) fun _ => ⟨a, rfl, s _⟩
theorem pe_callS0 {X : Cx} {CX : CXT} {k : Nat} {f : Addr} {fd : FuncData} {ps : List Str} {sp : Sp} {x : Str} {p : Pos} {E : Sg → XK} (F : FnOk X.prog X.w X.K X.mg X.base CX k f fd ps sp) (hr : Room k X.A) (hg : Gl X x) (hm : X.mg x = some (.ref f)) (hk : PySem.W.keepIn X.K (.ref f) = true) (hb : Binds X.K fd ps []) (hx : ∀ σ, PassesAt CX X σ (E σ)) (hdb : (x == ("__debug__" : Str)) = false := by decide) :
    PE X (.Call (.Name x p) [] [] pos) (tCallS sp E tNil) := by
  refine ⟨fun pins s σ H Q I h => ?_⟩
  refine wpAny_Call_Name_kw (ld_glob I hg hm ?_ hdb)
  exact PySem.W.callWith_K0 I.kIn hk (run_fnS (us := []) F hr hb (hx σ) I .nil h)
theorem px_callD0 {k : Nat} {x : Str} {p : Pos} {m : List D → Res D} {τ : Sh} (F : Dok X.prog X.w X.K X.mg X.base k x [] τ m) (hr : Room k X.A) (tk : L2N.Takes X W)
    (hg : Gl X x) (hdb : (x == ("__debug__" : Str)) = false := by decide) :
    PX X H0 Z W ω (.Call (.Name x p) [] [] pos) (callF nilA m) τ := by
  obtain ⟨f, fd, F, hm, hk, hb⟩ := F
  refine ⟨_, pe_callS0 F hr hg hm hk hb (fun σ => L2N.passAt tk σ) hdb, fun ρ σ H Q sr pp => ?_⟩
  exact ⟨sr.ext.tab, [], rfl, rfl, (show Post _ _ (m []) from pp).mono (fun d q v H' g => q v H' g) fun c q C H' xx hC => q σ H' C (sr.ext.ext xx) hC⟩
end
end Mr

namespace Mr
variable [TabsOf]
open PySem PySem.Spec PyProof.Rows L2
open Res

/-! ## sum of a list or a tuple of whole numbers -/
def rSumA (K : Fr) : List V → Hp → VK → Prop := fun vs H Q => ∃ (a : Addr) (ns : List Int), vs = [V.ref a] ∧ (SqL K H a (ns.map V.int) ∨ SqT K H a (ns.map V.int)) ∧ Q (.int ns.sum) H
theorem cr_sumA {X : Cx} (hc : X.calm = true) : CallR X (.builtin "sum") (rSumA X.K) := by
  intro pins s σ H vs us Q I r h
  obtain ⟨a, ns, rfl, hs | hs, q⟩ := h
  · exact cr_sum hc pins s σ H _ us Q I r ⟨a, ns, rfl, hs, q⟩
  · obtain ⟨its, rv, hl, _⟩ := I.tuple hs
    rw [Vals.ref1 r]
    have hi : PyProof.Rows.IntsAre its ns := rv.ints
    have ht : s.heap.IsTuple a its.toArray := hl
    obtain ⟨xs, hx⟩ := hi.allInts.items
    have hn : numsOf its.toArray.toList = ns := by rw [show its.toArray.toList = its from rfl, hi.numsOf]
    rw [hx] at ht hn
    rw [nums_intItems] at hn
    refine PySem.W.ktm_sumG (I.ok.hd hc) ht fun h' tk t' hk => ?_
    rw [preSum_eq, List.take_of_length_le (by simp), hn]
    exact ⟨.int _, H, I.kept hk, ⟨_, rfl⟩, q⟩
def sumA : List D → Res D
  | [.lst ds] => match intsOf ds with
    | some ns => .ok (.int ns.sum)
    | none => .bad
  | [.tup ds] => match intsOf ds with
    | some ns => .ok (.int ns.sum)
    | none => .bad
  | _ => .bad
theorem sumA_ne (ds : List D) (c : Str) : sumA ds ≠ .ex c := by unfold sumA; split <;> (repeat' split) <;> (intro h; cases h)
theorem sumA_s {K : Fr} : CallS K (rSumA K) sumA .fz := by
  intro ds vs H Q l ps
  unfold sumA at ps
  split at ps
  · obtain ⟨v, rfl, a, us, rfl, f, z, l⟩ := rv1 l
    split at ps
    · rename_i e
      have := intsOf_v l e
      subst this
      exact ⟨a, _, rfl, .inl f.sq, sc_ok ps rfl⟩
    · exact ps.elim
  · obtain ⟨v, rfl, a, us, rfl, f, z, l⟩ := rv1 l
    split at ps
    · rename_i e
      have := intsOf_v l e
      subst this
      exact ⟨a, _, rfl, .inr (.of f), sc_ok ps rfl⟩
    · exact ps.elim
  · exact ps.elim
section
variable {X : Cx} {H0 : Hp} {Z : Zt} {W : WX} {ω : List Sh} {p pos : Pos} {e : Expr} {es : List Expr} {fa : Env → Res (List D)}
theorem px_sumA (hc : X.calm = true) (hg : Gl X "sum") (hm : X.mg "sum" = none) (ha : PAVX X H0 Z W ω (e :: es) fa) (he : starEach (e :: es) X.env = (false, eval e X.env) :: starEach es X.env := by rfl) (hpl : (backTo pos (starEach es X.env)).any (·.1) = false := by rfl) : PX X H0 Z W ω (.Call (.Name "sum" p) (e :: es) [] pos) (callF fa sumA) .fz := px_callB (cr_sumA hc) sumA_s sumA_ne hg hm PyProof.Rows.boot_sum ha (by decide) (by decide) he hpl
end
theorem sumA_lst (bs : List Int) : sumA [.lst (bs.map .int)] = .ok (.int bs.sum) := by simp [sumA, intsOf_map]
theorem sumA_tup (bs : List Int) : sumA [.tup (bs.map .int)] = .ok (.int bs.sum) := by simp [sumA, intsOf_map]
end Mr
namespace Mh
open Mr Mr.Res
@[simp] theorem raF_ap (c : PySem.Str) (ρ : Env) : raF c ρ = .ex c := nr rfl
end Mh

namespace Mr
variable [TabsOf]
open PySem PySem.Spec PyProof.Rows L2
open Res

/-! ## what is not in the slots at hand stays -/
theorem isO.nf {o : HO} (h : isO o) : ¬ isF o := fun f => by cases o <;> first | exact h | exact f
theorem SR.fork {K : Fr} {H0 H : Hp} {Z : Zt} {τ : Sh} {ω : List Sh} {d : D} {ρ : Env} {s : Option V} {σ : Sg} (sr : SR K H0 Z (τ :: ω) (d :: ρ) (s :: σ) H) :
    ∃ Z', SR K H Z' ω ρ σ H ∧ ∀ (ω2 : List Sh) (ρ2 : Env) (σ2 : Sg) (H' : Hp), SR K H Z' ω2 ρ2 σ2 H' → SR K H0 Z (τ :: ω2) (d :: ρ2) (s :: σ2) H' := by
  obtain ⟨e, fp, ⟨f1, f2, e1, sl, al⟩, nd, fr⟩ := sr
  subst e1
  have n1 := List.nodup_append.mp nd
  refine ⟨⟨fun a => a ∈ f2⟩, ⟨⟨fun b o _ h _ => h, e.tab⟩, f2, al, n1.2.1, fun a ha => .inr ha⟩, fun ω2 ρ2 σ2 H' h => ?_⟩
  obtain ⟨e2, g, al2, nd2, fr2⟩ := h
  have op := al.open
  have stay : ∀ a o, H a = some o → a ∉ f2 → (∀ ps, o ≠ .tbl ps) → H' a = some o := fun a o h n t => e2 a o n h t
  have k : KeepF H H' := fun b o h f => stay b o h (fun hb => by
    obtain ⟨u, hu, iu⟩ := op b hb
    rw [h] at hu
    cases hu
    exact iu.nf f) f.ntbl
  have k1 : ∀ a ∈ f1, H' a = H a := fun a ha => by
    obtain ⟨o, h, i⟩ := sl.open a ha
    rw [h]
    exact stay a o h (fun hb => n1.2.2 a ha a hb rfl) i.ntbl
  refine ⟨⟨fun b o z h t => stay b o (e b o z h t) (fun hb => ?_) t, e2.tab⟩, f1 ++ g, ⟨f1, g, rfl, sl.keep k k1, al2⟩, ?_, fun a ha => ?_⟩
  · rcases fr b (List.mem_append_right _ hb) with q | q
    · obtain ⟨ps, e'⟩ := q o h
      exact t ps e'
    · exact z q
  · rw [List.nodup_append]
    refine ⟨n1.1, nd2, fun a ha b hb ee => ?_⟩
    subst ee
    rcases fr2 a hb with q | q
    · obtain ⟨o, h, i⟩ := sl.open a ha
      obtain ⟨ps, e'⟩ := q o h
      exact i.ntbl ps e'
    · exact n1.2.2 a ha a q rfl
  · rcases List.mem_append.mp ha with ha | ha
    · exact fr a (List.mem_append_left _ ha)
    · rcases fr2 a ha with q | q
      · refine Classical.byCases (fun z : Z.p a => .inr z) fun z => .inl fun o r => ?_
        refine Classical.byCases (fun t : ∃ ps, o = .tbl ps => t) fun t => ?_
        exact absurd (q o (e a o z r fun ps e => t ⟨ps, e⟩)) t
      · exact fr a (List.mem_append_right _ q)
/-- a dead slot may hold anything -/
theorem AllS.unwipe1 {K : Fr} {H : Hp} : ∀ {ω : List Sh} {ρ : Env} {σ : Sg} {fp : List Addr} (i : Nat), AllS K H (ω.set i .dead) ρ (σ.set i none) fp → AllS K H (ω.set i .dead) ρ σ fp
  | [], [], [], _, _, h => h
  | τ :: ω, d :: ρ, s :: σ, _, 0, h => by
    obtain ⟨f1, f2, e, sl, al⟩ := h
    refine ⟨f1, f2, e, ?_, al⟩
    rcases sl with sl | ⟨v, e2, r⟩
    · exact .inl sl
    · cases e2
  | τ :: ω, d :: ρ, s :: σ, _, i + 1, h => by
    obtain ⟨f1, f2, e, sl, al⟩ := h
    exact ⟨f1, f2, e, sl, AllS.unwipe1 i al⟩
  | [], [], _ :: _, _, 0, h => h.elim
  | [], [], _ :: _, _, _ + 1, h => h.elim
  | [], _ :: _, [], _, _, h => h.elim
  | [], _ :: _, _ :: _, _, 0, h => h.elim
  | [], _ :: _, _ :: _, _, _ + 1, h => h.elim
  | _ :: _, [], [], _, 0, h => h.elim
  | _ :: _, [], [], _, _ + 1, h => h.elim
  | _ :: _, [], _ :: _, _, 0, h => h.elim
  | _ :: _, [], _ :: _, _, _ + 1, h => h.elim
  | _ :: _, _ :: _, [], _, 0, h => h.elim
  | _ :: _, _ :: _, [], _, _ + 1, h => h.elim
def deadAt (ω : List Sh) : List Nat → Bool
  | [] => true
  | i :: is => decide (ω[i]? = some .dead) && deadAt ω is
theorem AllS.unwipe {K : Fr} {H : Hp} {ω : List Sh} {ρ : Env} : ∀ {vs : List Nat} {σ : Sg} {fp : List Addr}, deadAt ω vs = true → AllS K H ω ρ (L2.wipe σ vs) fp → AllS K H ω ρ σ fp
  | [], _, _, _, h => h
  | i :: is, σ, fp, hd, h => by
    simp only [deadAt, Bool.and_eq_true, decide_eq_true_eq] at hd
    have e : ω.set i .dead = ω := set_same hd.1
    have h' : AllS K H (ω.set i .dead) ρ ((L2.wipe σ is).set i none) fp := by
      rw [e]; exact h
    have h2 := AllS.unwipe1 i h'
    rw [e] at h2
    exact AllS.unwipe hd.2 h2
theorem SR.unwipe {K : Fr} {H0 H : Hp} {Z : Zt} {ω : List Sh} {ρ : Env} {vs : List Nat} {σ : Sg} (hd : deadAt ω vs = true) (h : SR K H0 Z ω ρ (L2.wipe σ vs) H) : SR K H0 Z ω ρ σ H :=
  let ⟨e, fp, al, n, f⟩ := h
  ⟨e, fp, AllS.unwipe hd al, n, f⟩
theorem wipe_succ (s : Option V) (σ : Sg) : ∀ vs : List Nat, L2.wipe (s :: σ) (vs.map (· + 1)) = s :: L2.wipe σ vs
  | [] => rfl
  | v :: vs => by
    show (L2.wipe (s :: σ) (vs.map (· + 1))).set (v + 1) none = s :: (L2.wipe σ vs).set v none
    rw [wipe_succ s σ vs]
    rfl
theorem deadAt_succ (τ : Sh) (ω : List Sh) : ∀ vs : List Nat, deadAt (τ :: ω) (vs.map (· + 1)) = deadAt ω vs
  | [] => rfl
  | v :: vs => by
    show (decide ((τ :: ω)[v + 1]? = some .dead) && deadAt (τ :: ω) (vs.map (· + 1))) = (decide (ω[v]? = some .dead) && deadAt ω vs)
    rw [deadAt_succ τ ω vs]
    rfl
/-! ## a comprehension whose element changes own slots -/
def lcME (g : D → Env → Res Env) (tt : Env → Res Bool) (te : Env → Res (D × Env)) (vs : List Nat) : List D → Env → Res (List D × Env)
  | [], ρ => .ok ([], ρ)
  | d :: ds, ρ => (noEx (g d ρ)).bind fun ρ1 => (noEx (tt ρ1)).bind fun b =>
      if b = true then (noEx (te ρ1)).bind fun x => (lcME g tt te vs ds (killI vs x.2)).bind fun r => .ok (x.1 :: r.1, r.2) else lcME g tt te vs ds (killI vs ρ1)
theorem lcME_noex {g : D → Env → Res Env} {tt : Env → Res Bool} {te : Env → Res (D × Env)} {vs : List Nat} {c : Str} : ∀ {ds : List D} {ρ : Env}, lcME g tt te vs ds ρ ≠ .ex c
  | [], ρ, h => by cases h
  | d :: ds, ρ, h => by
    simp only [lcME] at h
    cases e1 : g d ρ with
    | ex c => rw [e1] at h; cases h
    | bad => rw [e1] at h; cases h
    | ok ρ1 =>
      rw [e1] at h
      simp only [noEx, ok_bind] at h
      cases e2 : tt ρ1 with
      | ex c => rw [e2] at h; cases h
      | bad => rw [e2] at h; cases h
      | ok b =>
        rw [e2] at h
        simp only [ok_bind] at h
        cases b with
        | false => exact lcME_noex (by simpa using h)
        | true =>
          rw [if_pos rfl] at h
          cases e3 : te ρ1 with
          | ex c => rw [e3] at h; cases h
          | bad => rw [e3] at h; cases h
          | ok x =>
            rw [e3] at h
            simp only [ok_bind] at h
            cases e4 : lcME g tt te vs ds (killI vs x.2) with
            | ex c => exact lcME_noex e4
            | bad => rw [e4] at h; cases h
            | ok r => rw [e4] at h; cases h
def lcEK (vs : List Nat) (g : D → Env → Res Env) (tt : Env → Res Bool) (te : Env → Res (D × Env)) (ρ : Env) (ds : List D) : Res (D × Env) := if ds.length ≤ sizeLine then (lcME g tt te vs ds (killI vs ρ)).bind fun r => .ok (.lst r.1, r.2) else .bad
def lcE (fi : Env → Res (List D)) (vs : List Nat) (g : D → Env → Res Env) (tt : Env → Res Bool) (te : Env → Res (D × Env)) (ρ : Env) : Res (D × Env) := (fi ρ).bind (lcEK vs g tt te ρ)
section
variable {X : Cx} {H0 : Hp} {Z : Zt} {W : WX} {ω : List Sh} {tg : Expr} {pos : Pos}
theorem lcE_s {fi : Env → Res (List D)} {vs : List Nat} {wi : TI} {g : D → Env → Res Env} {tt : Env → Res Bool} {te : Env → Res (D × Env)} {ω1 : List Sh} {tg' : TG} {tt' : TT} {te' : TE} (hw1 : wipeω ω1 vs = wipeω ω vs) (hω : wipeω ω vs = ω) (hd : deadAt ω vs = true)
    (si : ∀ ρ σ H Rr, SR X.K H0 Z ω ρ σ H → Post (fun ds => ∀ J H1, Ext H H1 → ItOk X.K J ds H1 → Rr J H1) (EK X H0 Z W) (fi ρ) → wi σ H Rr)
    (sg : ∀ H0 Z d v ρ σ H Q, SR X.K H0 Z (wipeω ω vs) ρ σ H → R X.K H d v → Post (fun ρ' => ∀ σ', SR X.K H0 Z ω1 ρ' σ' H → L2.wipe σ' vs = L2.wipe σ vs → Q σ' H) (fun _ => False) (g d ρ) → tg' v σ H Q)
    (st : ∀ H0 Z ρ σ H Q, SR X.K H0 Z ω1 ρ σ H → Post (fun b => ∀ H', Ext H H' → Q b H') (fun _ => False) (tt ρ) → tt' σ H Q)
    (se : ∀ H0 Z ρ σ H Q, SR X.K H0 Z ω1 ρ σ H → Post (fun p => ∀ v H', KeepF H H' → SR X.K H0 Z (.fz :: ω1) (p.1 :: p.2) (some v :: σ) H' → Q v H') (fun _ => False) (te ρ) → te' σ H Q) :
    ∀ ρ σ H Q, SR X.K H0 Z ω ρ σ H → Post (fun p => ∀ v H', KeepF H H' → SR X.K H0 Z (.own .fz :: ω) (p.1 :: p.2) (some v :: σ) H' → Q v H') (EK X H0 Z W) (lcE fi vs g tt te ρ) → tLc wi tg' tt' te' vs σ H Q := by
  intro ρ σ H Q sr ps
  refine si ρ σ H _ sr ((Post.bind.mp ps).mono (fun ds q J H1 x it p hp => ?_) fun _ h => h)
  unfold lcEK at q
  obtain ⟨hz, q⟩ := Post.ite q
  have srw : SR X.K H0 Z (wipeω ω vs) (killI vs ρ) (L2.wipe σ vs) H1 := (SR.wipe vs sr).mono x
  have sr0 : SR X.K H0 Z (.own .fz :: wipeω ω vs) (.lst [] :: killI vs ρ) (some (.ref p) :: L2.wipe σ vs) (upd H1 p (.lst [])) :=
    srw.cons ⟨Ext.new hp, [p], ⟨[], p, [], [], rfl, rfl, upd_same, Nat.zero_le _, rfl, All3.of_rl rfl⟩, by simpa using Fre.of hp, by simp⟩
  refine ⟨fun i m H2 => m = ds.length - i ∧ i ≤ ds.length ∧ KeepF H1 H2 ∧ ∃ ρi out, SR X.K H0 Z (.own .fz :: wipeω ω vs) (.lst out :: ρi) (some (.ref p) :: L2.wipe σ vs) H2 ∧ out.length ≤ i ∧ Post (fun p => ∀ v H', KeepF H H' → SR X.K H0 Z (.own .fz :: ω) (p.1 :: p.2) (some v :: σ) H' → Q v H') (EK X H0 Z W) ((lcME g tt te vs (ds.drop i) ρi).bind fun r => .ok (.lst (out ++ r.1), r.2)),
    ⟨ds.length, by simp, Nat.zero_le _, (Ext.new hp).keepF, _, [], sr0, Nat.le_refl _, by simpa using q⟩, ?_⟩
  rintro i m H2 ⟨rfl, hi, x2, ρi, out, sr2, z2, q2⟩
  obtain ⟨sto, gr⟩ := it i H2 x2
  by_cases hlt : i < ds.length
  · have hdr : ds.drop i = ds[i] :: ds.drop (i + 1) := List.drop_eq_getElem_cons hlt
    obtain ⟨go, yl⟩ := gr ds[i] (List.getElem?_eq_getElem hlt)
    rw [hdr] at q2
    refine .inr ⟨go, fun H' => KeepF H1 H' ∧ ∃ ρi out, SR X.K H0 Z (.own .fz :: wipeω ω vs) (.lst out :: ρi) (some (.ref p) :: L2.wipe σ vs) H' ∧ out.length ≤ i + 1 ∧ Post (fun p => ∀ v H', KeepF H H' → SR X.K H0 Z (.own .fz :: ω) (p.1 :: p.2) (some v :: σ) H' → Q v H') (EK X H0 Z W) ((lcME g tt te vs (ds.drop (i + 1)) ρi).bind fun r => .ok (.lst (out ++ r.1), r.2)), fun H' ⟨a, b⟩ => ⟨ds.length - (i + 1), by omega, rfl, hlt, a, b⟩, fun y H3 hy => ?_⟩
    obtain ⟨x3, r3⟩ := yl y H3 hy
    obtain ⟨Z', sr', join⟩ := (sr2.mono x3).fork
    simp only [lcME] at q2
    refine sg H3 Z' ds[i] y ρi _ H3 _ sr' r3 ?_
    cases e4 : g ds[i] ρi with
    | ex c => rw [e4] at q2; exact q2.elim
    | bad => rw [e4] at q2; exact q2.elim
    | ok ρ1 =>
      rw [e4] at q2
      simp only [noEx, ok_bind] at q2
      intro σ4 sr4 w4
      rw [wipe_wipe] at w4
      refine ⟨by rw [w4], st H3 Z' ρ1 σ4 H3 _ sr4 ?_⟩
      cases e5 : tt ρ1 with
      | ex c => rw [e5] at q2; exact q2.elim
      | bad => rw [e5] at q2; exact q2.elim
      | ok b =>
        rw [e5] at q2
        simp only [ok_bind] at q2
        intro H5 x5
        have sr5 := sr4.mono x5
        have k5 : KeepF H1 H5 := (x2.trans x3.keepF).trans x5.keepF
        cases b with
        | false =>
          refine iteF ⟨k5, killI vs ρ1, out, ?_, by omega, q2⟩
          have h := SR.wipe vs sr5
          rw [hw1, w4] at h
          exact join _ _ _ _ h
        | true =>
          rw [if_pos rfl] at q2
          refine iteT (se H3 Z' ρ1 σ4 H5 _ sr5 ?_)
          cases e6 : te ρ1 with
          | ex c => rw [e6] at q2; exact q2.elim
          | bad => rw [e6] at q2; exact q2.elim
          | ok x =>
            rw [e6] at q2
            simp only [ok_bind] at q2
            intro v H6 k6 sr6
            have h := SR.wipe vs sr6.tail
            rw [hw1, w4] at h
            have sr7 := join _ _ _ _ h
            obtain ⟨ds0, a, acc, eg, ea, eH, hzz, l, go7⟩ := sr7.rewrite (i := 0) rfl
            have e0 : out = ds0 := by
              have := eg
              simp only [gv] at this
              injection this
            have ea0 : p = a := by simpa using ea
            subst e0 ea0
            have hlen := l.length
            have hl1 : (acc ++ [v]).length ≤ sizeLine := by
              rw [List.length_append, hlen]
              simp
              omega
            obtain ⟨k8, sr8⟩ := go7 H6 (out ++ [x.1]) (acc ++ [v]) eH (Ext.refl H6) hl1 (l.append (Rl.one sr6.head))
            refine ⟨acc, eH, by rw [hlen]; omega, (k5.trans k6).trans k8, killI vs x.2, out ++ [x.1], sr8, by simp; omega, ?_⟩
            cases e8 : lcME g tt te vs (ds.drop (i + 1)) (killI vs x.2) with
            | ok r => rw [e8] at q2; simpa using q2
            | ex c => exact absurd e8 lcME_noex
            | bad => rw [e8] at q2; exact q2.elim
  · have e : i = ds.length := by omega
    subst e
    rw [List.drop_length] at q2
    refine .inl ⟨sto (Nat.le_refl _), ?_⟩
    have q3 : ∀ v H', KeepF H H' → SR X.K H0 Z (.own .fz :: ω) (.lst (out ++ []) :: ρi) (some v :: σ) H' → Q v H' := q2
    rw [List.append_nil] at q3
    refine q3 _ H2 (x.keepF.trans x2) (SR.unwipe (vs := vs.map (· + 1)) (by rw [deadAt_succ]; exact hd) ?_)
    rw [wipe_succ]
    rw [hω] at sr2
    exact sr2
theorem px_lcE {e elt : Expr} {ifs : List Expr} {scope : Scope} {own : List (Str × Nat)} {fi : Env → Res (List D)} {g : D → Env → Res Env} {tt : Env → Res Bool} {te : Env → Res (D × Env)} {ω1 : List Sh} (hc : X.calm = true) (hN : X.N.Nodup) (hi : IX X H0 Z W ω tg e fi) (ok : BlkOk X.N X.env.scope scope own)
    (hg : ∀ (s : Shared) (H : Hp) (C : Addr) (cl : List (Str × Addr)) (fp : List Addr) (H0 : Hp) (Z : Zt), TCX (X.blk s H scope (compEnvC scope cl C X.env) fp) H0 Z (own.map (·.2)) (wipeω ω (own.map (·.2))) ω1 tg g)
    (ht : ∀ (s : Shared) (H : Hp) (C : Addr) (cl : List (Str × Addr)) (fp : List Addr) (H0 : Hp) (Z : Zt), TTX (X.blk s H scope (compEnvC scope cl C X.env) fp) H0 Z ω1 ifs tt)
    (he : ∀ (s : Shared) (H : Hp) (C : Addr) (cl : List (Str × Addr)) (fp : List Addr) (H0 : Hp) (Z : Zt), PEX (X.blk s H scope (compEnvC scope cl C X.env) fp) H0 Z (fun _ _ _ _ => False) ω1 elt te .fz)
    (hw1 : wipeω ω1 (own.map (·.2)) = wipeω ω (own.map (·.2)) := by rfl) (hω : wipeω ω (own.map (·.2)) = ω := by rfl) (hd : deadAt ω (own.map (·.2)) = true := by rfl)
    (hs : ∀ x, foldedSetIterable e X.env x = pure x := by intro _; rfl) : PEX X H0 Z W ω (.ListComp elt [⟨tg, e, ifs, 0⟩] scope pos) (lcE fi (own.map (·.2)) g tt te) (.own .fz) := by
  obtain ⟨wi, pi, si⟩ := hi
  refine ⟨_, pe_lc (g := fun v σ H Q => ∃ d ρ H0 Z, SR X.K H0 Z (wipeω ω (own.map (·.2))) ρ σ H ∧ R X.K H d v ∧ Post (fun ρ' => ∀ σ', SR X.K H0 Z ω1 ρ' σ' H → L2.wipe σ' (own.map (·.2)) = L2.wipe σ (own.map (·.2)) → Q σ' H) (fun _ => False) (g d ρ))
    (tt := fun σ H Q => ∃ ρ H0 Z, SR X.K H0 Z ω1 ρ σ H ∧ Post (fun b => ∀ H', Ext H H' → Q b H') (fun _ => False) (tt ρ))
    (te := fun σ H Q => ∃ ρ H0 Z, SR X.K H0 Z ω1 ρ σ H ∧ Post (fun p => ∀ v H', KeepF H H' → SR X.K H0 Z (.fz :: ω1) (p.1 :: p.2) (some v :: σ) H' → Q v H') (fun _ => False) (te ρ)) hc hN pi ok (fun s H C cl fp => ?_) (fun s H C cl fp => ?_) (fun s H C cl fp => ?_) hs,
    lcE_s (ω1 := ω1) hw1 hω hd si (fun H0 Z d v ρ σ H Q sr r ps => ⟨d, ρ, H0, Z, sr, r, ps⟩) (fun H0 Z ρ σ H Q sr ps => ⟨ρ, H0, Z, sr, ps⟩) fun H0 Z ρ σ H Q sr ps => ⟨ρ, H0, Z, sr, ps⟩⟩
  · refine ⟨fun pins s' σ H v u Q I r hh => ?_⟩
    obtain ⟨d, ρ, H0', Z', sr, rr, ps⟩ := hh
    obtain ⟨t, p, st⟩ := hg s _ C cl fp H0' Z'
    exact p.run pins s' σ H v u Q I r (st d v ρ σ H Q sr rr ps)
  · refine ⟨fun pins s' σ H Q I hh => ?_⟩
    obtain ⟨ρ, H0', Z', sr, ps⟩ := hh
    obtain ⟨t, p, st⟩ := ht s _ C cl fp H0' Z'
    exact p.run pins s' σ H Q I (st ρ σ H Q sr ps)
  · refine ⟨fun pins s' σ H Q I hh => ?_⟩
    obtain ⟨ρ, H0', Z', sr, ps⟩ := hh
    obtain ⟨t, p, st⟩ := he s _ C cl fp H0' Z'
    exact p.run pins s' σ H Q I (st ρ σ H Q sr (ps.mono (fun _ h => h) fun _ h => h.elim))
end
section
variable (f : Env → Res D) (l : Env → Res (List D)) (ρ : Env)
@[simp] theorem lcE_ap (vs : List Nat) (a : D → Env → Res Env) (t : Env → Res Bool) (e : Env → Res (D × Env)) : lcE l vs a t e ρ = (l ρ).bind (lcEK vs a t e ρ) := nr rfl
theorem lcEK_ok {vs : List Nat} {a : D → Env → Res Env} {t : Env → Res Bool} {e : Env → Res (D × Env)} {ρ : Env} {ds : List D} {r : List D × Env} (hl : ds.length ≤ sizeLine) (h : lcME a t e vs ds (killI vs ρ) = .ok r) : lcEK vs a t e ρ ds = .ok (.lst r.1, r.2) := by
  unfold lcEK
  rw [if_pos hl, h]
  rfl
end
end Mr

namespace Mr
variable [TabsOf]
open PySem PySem.Spec PyProof.Rows L2
open Res

/-! ## an own list or dict told -/
theorem AllS.allDead {K : Fr} {H : Hp} : ∀ (n : Nat) {ρ : Env} {σ : Sg}, ρ.length = n → σ.length = n → AllS K H (List.replicate n .dead) ρ σ []
  | 0, [], [], _, _ => rfl
  | n + 1, d :: ρ, s :: σ, h1, h2 => ⟨[], [], rfl, .inl ⟨rfl, rfl⟩, AllS.allDead n (by simpa using h1) (by simpa using h2)⟩
theorem killE_len : ∀ (ω : List Sh) (ρ : Env), (killE ω ρ).length = ρ.length
  | [], ρ => by cases ρ <;> rfl
  | _ :: _, [] => rfl
  | τ :: ω, d :: ρ => by simp [killE, killE_len ω ρ]
section
variable {X : Cx} {H0 : Hp} {Z : Zt} {W : WX} {ω ωr : List Sh} {τr : Sh} {pos : Pos}
theorem sx_retO (i : Nat) {x : Str} {p : Pos} (hN : X.N[i]? = some x := by rfl) (hω : ω[i]? = some τr := by rfl) (hr : ωr = List.replicate ω.length .dead := by rfl) (hτ : τr ≠ .dead := by decide) (hv : Vis X.env.scope x := by first | exact Or.inl rfl | exact Or.inr (Or.inl rfl) | exact Or.inr (Or.inr rfl)) (hd : (x == ("__debug__" : Str)) = false := by decide)
    (hcd : (x == ("__classdict__" : Str)) = false := by decide) {ω' : List Sh} : SX X H0 Z W ω ω' ωr τr (.Return (some (.Name x p)) pos) (retF ωr (nv i)) := by
  refine ⟨_, ps_ret (pe_var hN hv hd hcd), fun ρ σ H Dn sr ps => ?_⟩
  obtain ⟨d, s, f, e1, e2, sl, nd, fr, _⟩ := sr.focus i hω
  rcases sl with ⟨z, _⟩ | ⟨v, e3, ro⟩
  · exact absurd z hτ
  · subst e3
    have e4 : gv ρ i = d := by unfold gv; rw [List.getD_eq_getElem?_getD, e1]; rfl
    refine ⟨v, e2, ?_⟩
    have ps : FK X H0 Z ω' ωr τr H Dn (.rt (gv ρ i) (killE ωr ρ)) := ps
    rw [e4] at ps
    refine ps v σ H ?_
    obtain ⟨ex, fp, al, n, fr0⟩ := sr
    obtain ⟨l1, l2⟩ := al.len
    subst hr
    exact ⟨ex, f ++ [], ⟨f, [], rfl, .inr ⟨v, rfl, ro⟩, AllS.allDead _ (by rw [killE_len, l1]) l2⟩, by simpa using nd, fun a ha => fr a (by simpa using ha)⟩
end
end Mr

namespace Mh
open PySem PySem.Spec PyProof.Rows L2 HotX L2H LamX Mr
open Mr.Res
variable [TabsOf]
/-! ## a lambda with one parameter -/
structure LamP (sc scope : Scope) (x : Str) : Prop where
  kind : scope.kind = .function
  co : scope.isCoroutine = false
  gen : scope.isGenerator = false
  par : scope.names.lookup x = some .local
  own : ∀ y ∈ scope.names, y.2 ≠ .cell ∧ (y.2 = .local → y.1 = x)
  free : ∀ y ∈ scope.names, y.2 = .free → sc.names.lookup y.1 = some .cell ∨ sc.names.lookup y.1 = some .free
def lamPB (sc scope : Scope) (x : Str) : Bool :=
  decide (scope.kind = .function) && (!scope.isCoroutine && (!scope.isGenerator && (decide (scope.names.lookup x = some .local) && scope.names.all fun y => !decide (y.2 = .cell) && ((!decide (y.2 = .local) || decide (y.1 = x)) && (!decide (y.2 = .free) || (decide (sc.names.lookup y.1 = some .cell) || decide (sc.names.lookup y.1 = some .free)))))))
theorem lamP_by {sc scope : Scope} {x : Str} (h : lamPB sc scope x = true) : LamP sc scope x := by
  unfold lamPB at h
  simp only [Bool.and_eq_true, Bool.or_eq_true, Bool.not_eq_true', decide_eq_true_eq, decide_eq_false_iff_not, List.all_eq_true] at h
  obtain ⟨h1, h2, h3, h4, h5⟩ := h
  refine ⟨h1, h2, h3, h4, fun y hy => ⟨(h5 y hy).1, fun e => ?_⟩, fun y hy e => ?_⟩
  · rcases (h5 y hy).2.1 with z | z
    · exact absurd e z
    · exact z
  · rcases (h5 y hy).2.2 with z | z
    · exact absurd e z
    · exact z
theorem LamP.has {X : Cx} {scope : Scope} {x : Str} (L : LamP X.env.scope scope x) (ok : X.Ok) : ∀ y ∈ scope.names, y.2 = .free → ∃ c, X.env.cells.lookup y.1 = some c := fun y hy e => by
  rcases L.free y hy e with k | k
  · exact ok.has _ (.inl k)
  · exact ok.has _ (.inr k)
section
variable {X : Cx} {pins : List (Addr × Obj)} {σ : L2.St} {H HZ : Hp} {s s1 : Shared}
/-- its body begins: the parameter stands in slot i -/
theorem lam_startP {A : Around} {outer : List PySem.Env} {E : XK} {scope : Scope} {f c' : Addr} {h₁ : Heap} {tk i : Nat} {x : Str} {v : V} {u : Value} (I : Inv X pins σ H s) (L : LamP X.env.scope scope x) (hN : X.N.Nodup) (hi : X.N[i]? = some x) (rv : RelV v u)
    (e0 : Env0 X.prog X.w X.K X.mg X.base A outer s1 HZ) (hd : A.handled = none)
    (un : Un (frs X.stack) [] H HZ s.heap s1.heap) (hns : h₁.Ns s1.heap.objs.size fun y => ([(x, u)] : List (Str × Value)).reverse.lookup y) (kp : ∀ b o, s1.heap.get? b = some o → h₁.get? b = some o) :
    Inv (lamCx X A outer s1 HZ E scope f c') [] (σ.set i (some v)) HZ { s1 with heap := h₁, toks := tk } := by
  have hfree := L.has I.ok
  have cm : ∀ {y c}, (cloFrom X.env.cells scope.names []).lookup y = some c → X.env.cells.lookup y = some c := fun {y c} e => by
    rcases cloFrom_mem (PySem.mem_of_lookup e) with hm | ⟨h1, h2⟩
    · cases hm
    · obtain ⟨c1, hc⟩ := hfree _ h1 rfl
      have hc : X.env.cells.lookup y = some c1 := hc
      have e2 : c = c1 := by
        rw [h2, hc] <;> rfl
      rw [e2]
      exact hc
  have look : ∀ {y}, scope.names.lookup y = some .free → ∃ c, (cloFrom X.env.cells scope.names []).lookup y = some c := fun {y} hl => by
    have hy : (y, NameKind.free) ∈ scope.names := PySem.mem_of_lookup hl
    exact mem_lookup (cloFrom_has (cells := X.env.cells) (acc := []) hy)
  have cellK : ∀ {c : Addr} {v : Option Value}, H c = none → s.heap.IsCell c v → h₁.IsCell c v := fun {c v} n ⟨o, ho, hd⟩ => by
    obtain ⟨sl, q⟩ := un.any ho n (by simp)
    exact ⟨_, kp _ _ q, hd⟩
  have noA : ∀ b : Addr, b ∉ (lamCx X A outer s1 HZ E scope f c').ex := fun b z => absurd (show b ∈ ([] : List Addr) from z) (by simp)
  refine ⟨⟨e0.mod, L.kind, rfl, rfl, Nat.le_refl _, fun y z c e1 e2 => I.ok.inj y z c (cm e1) (cm e2), fun y hy => ?_, fun y c z _ => ?_, fun _ => hd, Around.frames_deeper e0.frames, .inr ⟨rfl, rfl⟩, fun b z => absurd z (noA b), e0.bs, e0.bsz, fun b _ _ => noA b,
      fun b z => absurd z (noA b), e0.funs, e0.frf⟩,
    rfl, e0.bare, Un.kept kp, ⟨_, hns, fun j y v1 e1 e2 e3 => ?_⟩, fun y c e => ?_, e0.hok.fresh (Nat.le_refl _), fun y c e => ?_, fun q hq => absurd (show q ∈ ([] : List (Addr × Obj)) ++ [] from hq) (by simp), e0.hok.kept kp, by rw [List.length_set]; exact I.len⟩
  · have hy : scope.names.lookup y = some .cell ∨ scope.names.lookup y = some .free := hy
    rcases hy with hy | hy
    · exact absurd rfl (L.own _ (PySem.mem_of_lookup hy)).1
    · exact look hy
  · have z : false = true := z
    cases z
  · have e1 : X.N[j]? = some y := e1
    have e3 : Vis scope y := e3
    rcases e3 with k | k | k
    · have ey : y = x := (L.own _ (PySem.mem_of_lookup k)).2 rfl
      subst ey
      have ej : j = i := (List.getElem?_inj (List.getElem?_eq_some_iff.mp e1).1 hN).mp (e1.trans hi.symm)
      subst ej
      have hl : j < σ.length := by rw [I.len]; exact (List.getElem?_eq_some_iff.mp hi).1
      rw [List.getElem?_set_self hl] at e2
      have ev : v = v1 := Option.some.inj (Option.some.inj e2)
      subst ev
      exact ⟨u, rv, .inl ⟨k, by simp⟩⟩
    · exact absurd rfl (L.own _ (PySem.mem_of_lookup k)).1
    · have ne : i ≠ j := fun e => by
        subst e
        rw [hi] at e1
        have := Option.some.inj e1
        subst this
        rw [L.par] at k
        cases k
      rw [List.getElem?_set_ne ne] at e2
      obtain ⟨m, hn, hl⟩ := I.loc
      have hvis : Vis X.env.scope y := (L.free _ (PySem.mem_of_lookup k) rfl).elim (fun k => .inr (.inl k)) (fun k => .inr (.inr k))
      obtain ⟨w', r, q⟩ := hl j y v1 e1 e2 hvis
      obtain ⟨c2, h2⟩ := look k
      refine ⟨w', r, .inr ⟨.inr k, c2, h2, ?_⟩⟩
      have c1 := cm h2
      rcases q with ⟨k', _⟩ | ⟨_, c3, e', z⟩
      · have k' : X.env.scope.names.lookup y = some .local := k'
        rcases L.free _ (PySem.mem_of_lookup k) rfl with k2 | k2 <;> rw [show X.env.scope.names.lookup y = _ from k2] at k' <;> cases k'
      · rw [c1] at e'
        cases e'
        exact cellK (I.freeC y _ c1) z
  · obtain ⟨w', z⟩ := I.cell y c (cm e)
    exact ⟨w', cellK (I.freeC y c (cm e)) z⟩
  · obtain ⟨v, o, ho, hd⟩ := I.cell y c (cm e)
    exact un.free c o ho (I.freeC y c (cm e)) (by simp)
/-- the lambda at f is called with one value, from within a built-in -/
theorem key_call {A' : Around} {k i : Nat} {x : Str} {v : V} {u : Value} {f c' : Addr} {pm ctv : Value} {params : Arguments} {body : Expr} {scope : Scope} {tb : TE} {Q : VK} {E0 : Value → Shared → Prop} (I : Inv X pins σ H s) (L : LamP X.env.scope scope x) (hN : X.N.Nodup) (hi : X.N[i]? = some x) (rv : RelV v u)
    (hf : s.heap.get? f = some (PySem.W.kla_obj "<lambda>" (X.env.qual ++ "<lambda>") params body scope (cloFrom X.env.cells scope.names []) pm c' ctv)) (hc : H c' = some (CodeO c' (X.env.qual ++ "<lambda>")))
    (hbind : bindArgs (PySem.W.kla_fn "<lambda>" (X.env.qual ++ "<lambda>") params body scope (cloFrom X.env.cells scope.names []) pm (.ref c') ctv) ⟨[u], []⟩ = pure [(x, u)])
    (fr : A'.frames = X.A.frames) (hr : Room (k + 1) A')
    (hbody : ∀ (A : Around) (outer : List PySem.Env) (s : Shared) (H : Hp), Room k (A.deeper (lamEnv X scope s.heap.objs.size f c')) → PE (lamN X A outer s H (fun _ _ _ => False) scope f c') body tb)
    (ht : tb (σ.set i (some v)) H Q) : wpAny (model X.prog X.w) A' (call (.ref f) [u]) (EP X pins σ Q) E0 s := by
  obtain ⟨⟨oc, vs, t, ho, hod, hov⟩, _⟩ := I.hok c' _ hc
  refine wpAny_call (codeAny_mono (R := CR (L2N.CX X.prog X.w) X.stack X.prog X.w H s Q (fun _ _ _ => False)) (PySem.W.kla_callFunE hr.depth hf rfl L.co L.gen rfl ⟨c', oc, vs, t, rfl, ho, hod, hov⟩ ?run) fun r s' hq => ?_)
  case run =>
    rw [hbind]
    refine wpAny_pure (wpAny_newFunctionEnv (fun y hy => (L.own y hy).1) (fun y hy => by
      rw [List.mem_singleton] at hy
      subst hy
      exact L.par) (fun h₁ hns hsb => ⟨I.nolimit.fresh _ hsb, ?_⟩) L.kind)
    have e0 : Env0 X.prog X.w X.K X.mg X.base A' X.stack s H := { I.env0 with frames := fr.trans I.env0.frames }
    have J := lam_startP (E := fun _ _ _ => False) (f := f) (c' := c') (tk := s.toks + 1) I L hN hi rv e0 hr.hd (Un.kept fun _ _ e => e) hns fun b o e => hsb.extBut b o (Nat.ne_of_lt (Heap.lt_size e)) (Heap.get?_push_of_some _ e)
    have J2 : Inv (lamN X A' X.stack s H (fun _ _ _ => False) scope f c') [] (σ.set i (some v)) H _ := J.toTry _
    refine PySem.W.kla_codeExpr (wpAny_mono ((hbody _ _ s H (hr.deeper _)).run [] _ _ H Q J2 ht) (fun v s' hq => ?_) fun e s' hq => hq)
    obtain ⟨w', H', J', rv, q⟩ := hq
    exact ⟨w', H', J'.os, J'.bare, J'.base, J'.hok, rv, q⟩
  match r, hq with
  | .error e, hq => exact (Mr.law_cx' hq).elim
  | .ok (.ret u), hq => exact I.after hq
  | .ok .next, hq => exact hq.elim
  | .ok .brk, hq => exact hq.elim
  | .ok .cont, hq => exact hq.elim
end
end Mh

namespace Mh
open PySem PySem.Spec PyProof.Rows L2 HotX L2H LamX Mr
open Mr.Res
variable [TabsOf]
/-! ## sorted(.., key=lambda ..): the keys' turns -/
/-- exactly this object stands there -/
def XO (a : Addr) (o : Obj) : HO := .ext fun h => h.get? a = some o
theorem xo_ok {P : Program} {w : World} {H : Hp} {h : Heap} {a : Addr} {o : Obj} (e : h.get? a = some o) : ObjOk P w H h a (XO a o) := ⟨e, ⟨o, e⟩, fun _ _ e1 k => k o e1⟩
/-- the heap without the object at a -/
def noObj (h : Heap) (a : Addr) : Heap := h.update a fun o => { o with data := .freed }
theorem noObj_at (h : Heap) (a : Addr) : (noObj h a).get? a = none := by
  unfold noObj
  cases e : h.objs[a]? with
  | none =>
    unfold Heap.get?
    rw [Heap.objs_update_self, e]
    rfl
  | some o =>
    unfold Heap.get?
    rw [Heap.objs_update_self, e]
    rfl
theorem each_keep {K : Fr} {H H' : Hp} (x : Ext H H') {us : List Value} {ds : List D} (e : PySem.W.EachIs (ItR K H) us ds) : PySem.W.EachIs (ItR K H') us ds := e.mono fun _ _ ⟨v, r, h⟩ => ⟨v, r, h.ext x⟩
section
variable {X : Cx} {pins : List (Addr × Obj)} {σ : L2.St} {H : Hp} {s : Shared} {A : Around} {P : PySem.Fin → Shared → Prop} {E : Value → Shared → Prop}
theorem fpOk_of {H' : Hp} {b : Addr} (f : FpOk X pins H b) (n : H' b = none) : FpOk X pins H' b := ⟨n, f.2⟩
/-- such a list is no code object, no table -/
theorem tb_xo {a : Addr} {c : String} {xs : Array Value} {n : Nat} {o : HO} (I : Inv X pins σ H s) (ha : H a = some (XO a (seqObj c xs n))) : TabK H (upd H a o) := fun t p hp => by
  obtain ⟨ps, h1, h2, h3⟩ := t p hp
  have na : s.heap.get? a = some (seqObj c xs n) := (I.hok a _ ha).1
  refine ⟨ps, by rw [upd_ne (fun z => by rw [z, ha] at h1; cases h1)]; exact h1, h2, fun pos cv hc => ?_⟩
  obtain ⟨c1, e1, e2⟩ := h3 pos cv hc
  refine ⟨c1, e1, ?_⟩
  rw [upd_ne (fun z => ?_)]
  · exact e2
  · obtain ⟨⟨oc, vs, tk, ho, hd, _⟩, _⟩ := I.hok c1 _ e2
    rw [z, na] at ho
    cases ho
    cases hd
theorem ksr_rest {a kS f : Addr} {fo : Obj} {us : List Value} {ds : List D} {kf : D → D} {e1 : Nat} (I : Inv X pins σ H s) (ha : H a = some (XO a (seqObj "list" #[] e1))) (hk : FpOk X pins H kS) (hf : (f, fo) ∈ pins)
    (nk : s.heap.get? kS = some (seqObj "list" #[] 0)) (e : PySem.W.EachIs (ItR X.K H) us ds) (hnd : ∀ d ∈ ds, (kf d).noD = true) (hal : PySem.W.AllAlike (ds.map fun d => (kf d).toP)) (hsk : PySem.W.Sortable (ds.map fun d => (kf d).toP))
    (hu : ∀ d ∈ ds, A.units + (kf d).toP.depth < cLine) (hZ : us.length ≤ sizeLine)
    (turn : ∀ (pl : List (Addr × Obj)) (H' : Hp) (s' : Shared) (v : V) (u : Value) (d : D), Inv X (pins ++ pl) σ H' s' → Ext H H' → d ∈ ds → RelV v u → R X.K H' d v →
      wpAny (model X.prog X.w) A (call (.ref f) [u]) (EP X (pins ++ pl) σ fun w H'' => Ext H' H'' ∧ R X.K H'' (kf d) w) (fun _ _ => False) s')
    (h : ∀ (H' : Hp) (s' : Shared) (vs : List V), Inv X pins σ (upd H' a (.lst vs)) s' → Ext H H' → TabK H' (upd H' a (.lst vs)) → H' a = some (XO a (seqObj "list" #[] e1)) → vs.length ≤ sizeLine → Rl X.K H' (ds.mergeSort (PySem.W.dataLe false fun d => (kf d).toP)) vs → P (.done (.ret .none)) s') :
    wpAny (model X.prog X.w) A (ksk_rest a (.ref f) false us.toArray e1 (.ref kS)) P E s := by
  have hka : kS ≠ a := fun z => by
    subst z
    rw [hk.1] at ha
    cases ha
  unfold ksk_rest
  refine wpAny_bind (wpAny_rule ?_)
  rw [List.forIn_toArray]
  refine wpAny_bind (ksk_fold (fun i s' => ∃ H' kA c, Inv X pins σ H' s' ∧ Ext H H' ∧ H' kS = none ∧ s'.heap.get? kS = some (seqObj "list" kA c) ∧ PySem.W.EachIs (ItR X.K H') kA.toList ((ds.take i).map kf)) us 0 s
    ⟨H, #[], 0, I, Ext.refl H, hk.1, nk, by rw [List.take_zero]; exact .nil⟩ ?step ?done)
  case step =>
    rintro j u s' hx ⟨H', kA, c, I', x', n', nk', hkk⟩
    simp only [Nat.zero_add] at hkk ⊢
    have hj : j < us.length := (List.getElem?_eq_some_iff.mp hx).1
    have hlen := e.length
    obtain ⟨d, hd⟩ : ∃ d, ds[j]? = some d := ⟨_, List.getElem?_eq_getElem (by omega)⟩
    have hz : kA.size ≤ us.length := by
      have h1 := hkk.length
      rw [Array.length_toList, List.length_map, List.length_take] at h1
      omega
    have e' := each_keep x' e
    obtain ⟨v, rv, rd⟩ := e'.zip (u, d) (List.mem_of_getElem? (i := j) (by rw [List.getElem?_zip_eq_some]; exact ⟨hx, hd⟩))
    have fk : ∀ b ∈ [kS], FpOk X pins H' b := fun b hb => by
      rw [List.mem_singleton] at hb
      subst hb
      exact fpOk_of hk n'
    have I2 := I'.pinned fk (fun b hb => by
      rw [List.mem_singleton] at hb
      subst hb
      exact ⟨_, nk', fun v z => nomatch z⟩)
    refine wpAny_bind (wpAny_attempt (wpAny_mono (turn _ H' s' v u d I2 x' (List.mem_of_getElem? hd) rv rd) (fun w s'' he => ?_) fun _ _ hF => hF.elim))
    obtain ⟨wv, H'', I3, rw', x'', rk⟩ := he
    have hp := I3.pin (kS, seqObj "list" kA c) (List.mem_append_right _ (List.mem_append_right _ (mem_pinsAt (by simp) nk')))
    have nk2 : s''.heap.get? kS = some (seqObj "list" kA c) := hp.1
    have n2 : H'' kS = none := hp.2.1
    try dsimp only
    have s1 := Heap.SameBut.update s''.heap kS (Obj.mapSeq (·.push w))
    obtain ⟨c2, hc2⟩ : ∃ c2, (s''.heap.update kS (Obj.mapSeq (·.push w))).get? kS = some (seqObj "list" (kA.push w) c2) := ⟨_, get?_update_seq nk2 (·.push w)⟩
    refine wpAny_bind (listUpdate_at nk2 rfl ?_ (Nat.le_trans hz hZ) (Nat.le_trans (Nat.le_of_eq (Array.size_push ..)) (Nat.succ_le_succ (Nat.le_trans hz hZ))))
    have fk2 : ∀ b ∈ [kS], FpOk X pins H'' b := fun b hb => by
      rw [List.mem_singleton] at hb
      subst hb
      exact fpOk_of hk n2
    have I4 : Inv X pins σ H'' { s'' with heap := s''.heap.update kS (Obj.mapSeq (·.push w)) } := I3.unpinned.turnedL (t' := s''.toks) (ch := [kS]) (fun b o hb q => (s1.2 b (by simpa using hb)).trans q) fk2
    have ek : (ds.take (j + 1)).map kf = (ds.take j).map kf ++ [kf d] := by
      rw [List.take_add_one, hd]
      simp
    refine wpAny_pure ⟨rfl, H'', kA.push w, c2, I4, x'.trans x'', n2, hc2, ?_⟩
    rw [ek, Array.toList_push]
    exact PySem.W.each_snoc ⟨wv, rw', rk⟩ (each_keep x'' hkk)
  case done =>
    rintro s' ⟨H', kA, c, I', x', n', nk', hkk⟩
    have hlen := e.length
    have e3 : (ds.take (0 + us.length)).map kf = ds.map kf := by rw [List.take_of_length_le (by omega)]
    rw [e3] at hkk
    have ha' : H' a = some (XO a (seqObj "list" #[] e1)) := x' _ _ ha fun ps z => by cases z
    have na' : s'.heap.get? a = some (seqObj "list" #[] e1) := (I'.hok a _ ha').1
    have hsz : kA.size = us.length := by
      have h1 := hkk.length
      rw [Array.length_toList, List.length_map] at h1
      omega
    try dsimp only
    refine wpAny_bind (listItems_at nk' rfl ?_)
    have rd0 := each_reads I' (fun d hd => by
      obtain ⟨d', hd', rfl⟩ := List.mem_map.mp hd
      exact hnd d' hd') hkk
    have rd : PySem.W.EachIs (fun v k => ∃ as, Reads s'.heap v k as) kA.toList (ds.map fun d => (kf d).toP) := by
      have := PySem.W.each_map (R := fun v k => ∃ as, Reads s'.heap v k as) D.toP rd0
      rwa [List.map_map] at this
    have sb := Heap.SameBut.update s'.heap kS fun o => { o with data := .freed }
    refine PySem.W.keyH_end (κ := PySem.W.dataKind s'.heap (ds.map fun d => (kf d).toP)) (h₁ := noObj s'.heap kS) (vs := us) (fun b o hb q => ?_) (noObj_at _ _) nk' na' hka (PySem.W.SortsAt.data rd hal hsk (fun d hd => by
      obtain ⟨d', hd', rfl⟩ := List.mem_map.mp hd
      exact hu d' hd')) hsz hZ fun h3 tk3 c3 k3 n3 => ?_
    · have hb2 : b ≠ kS := fun z => by
        subst z
        rw [noObj_at] at q
        cases q
      exact (sb.2 b hb2).symm.trans q
    · have KO : PySem.W.KeyedOut false (ds.map fun d => (kf d).toP) us (PySem.W.sortVals (PySem.W.dataKind s'.heap (ds.map fun d => (kf d).toP)) false kA.toList us) := ⟨s'.heap, kA.toList, hal, rfl, rd⟩
      have so := PySem.W.keyedOut_each (R := ItR X.K H') (fun d => (kf d).toP) KO (each_keep x' e)
      obtain ⟨vs, hv, hr⟩ := each_back so
      have hvl : vs.length ≤ sizeLine := by
        rw [hr.length, (List.mergeSort_perm ds _).length_eq, ← hlen]
        exact hZ
      -- the heap with the list as it was
      have sa := Heap.SameBut.update h3 a fun _ => seqObj "list" #[] e1
      have hxa : (h3.update a fun _ => seqObj "list" #[] e1).get? a = some (seqObj "list" #[] e1) := by
        have h1 := ((Heap.get?_eq_some h3 a _).mp n3).1
        exact (Heap.get?_eq_some _ _ _).mpr ⟨by rw [Heap.objs_update_self, h1]; rfl, rfl⟩
      have fk2 : ∀ b ∈ [kS], FpOk X pins H' b := fun b hb => by
        rw [List.mem_singleton] at hb
        subst hb
        exact fpOk_of hk n'
      have I1 : Inv X pins σ H' { s' with heap := h3.update a fun _ => seqObj "list" #[] e1, toks := tk3 } := I'.turnedL (ch := [kS]) (fun b o hb q => by
        have hb1 : b ≠ kS := by simpa using hb
        by_cases hba : b = a
        · subst hba
          rw [na'] at q
          rw [hxa, q]
        · exact (sa.2 b hba).trans (k3 b o hba ((sb.2 b hb1).trans q))) fk2
      refine h H' _ vs (I1.write (x := a) (e := a) (t' := tk3) (h' := h3) (by rw [ha']; exact True.intro) (.inl rfl) (fun b u hb q => (sa.2 b hb).symm.trans q) ⟨_, n3⟩ ⟨hvl, _, c3, hv, n3⟩) x' (tb_xo I' ha') ha' hvl hr
end
end Mh

namespace Mh
open PySem PySem.Spec PyProof.Rows L2 HotX L2H LamX Mr
open Mr.Res
variable [TabsOf]
section
variable {X : Cx} {pins : List (Addr × Obj)} {σ : L2.St} {H : Hp} {s : Shared}
theorem sortedK_run {x : Value} {ds : List D} {kf : D → D} {f : Addr} {fo : Obj} {Q : VK} (hu : X.A.units + 64 < cLine) (I : Inv X pins σ H s) (hf : (f, fo) ∈ pins) (ok : okSort (ds.map kf) = true)
    (hcol : ∀ (E' : Value → Shared → Prop) (R : List Value → Shared → Prop), (∀ (h' : Heap) (tk : Nat) (us : List Value), (∀ b o, s.heap.get? b = some o → h'.get? b = some o) → PySem.W.EachIs (ItR X.K H) us ds → R us { s with heap := h', toks := tk }) → wpAny (model X.prog X.w) X.A.in1 (collect x) R E' s)
    (turn : ∀ (pl : List (Addr × Obj)) (H' : Hp) (s' : Shared) (v : V) (u : Value) (d : D), Inv X (pins ++ pl) σ H' s' → Ext H H' → d ∈ ds → RelV v u → R X.K H' d v →
      wpAny (model X.prog X.w) X.A.in1.in1 (call (.ref f) [u]) (EP X (pins ++ pl) σ fun w H'' => Ext H' H'' ∧ R X.K H'' (kf d) w) (fun _ _ => False) s')
    (q : ∀ p vs H', H p = none → Ext H (upd H' p (.lst vs)) → vs.length ≤ sizeLine → Rl X.K (upd H' p (.lst vs)) (ds.mergeSort fun a b => leP (kf a) (kf b)) vs → Q (.ref p) (upd H' p (.lst vs))) :
    wpAny (model X.prog X.w) X.A (call (.builtin "sorted") [x] [(Str.ofString "key", .ref f)]) (EP X pins σ Q) X.xe s := by
  have hk := ok
  simp only [okSort, Bool.and_eq_true, List.all_eq_true, decide_eq_true_eq] at hk
  have hnd : ∀ d ∈ ds, (kf d).noD = true := fun d hd => hk.2.1 _ (List.mem_map.mpr ⟨d, hd, rfl⟩)
  have room : ∀ b, b ∈ ds → X.A.in1.in1.units + (kf b).toP.depth < cLine := fun b hb => by
    have h1 := hk.2.2.2.2 (kf b) (List.mem_map.mpr ⟨b, hb, rfl⟩)
    have h3 : (kf b).toP.depth ≤ 40 := by simpa using h1
    have h4 : ∀ u d c : Nat, u + 64 < c → d ≤ 40 → u + 1 + 1 + d < c := fun u d c _ _ => by omega
    exact h4 _ _ _ hu h3
  have hal : PySem.W.AllAlike (ds.map fun d => (kf d).toP) := by
    have := okSort_alike ok
    rwa [List.map_map] at this
  have hsk : PySem.W.Sortable (ds.map fun d => (kf d).toP) := by
    have := okSort_able ok
    rwa [List.map_map] at this
  refine PyProof.Rows.call_function_entry_kw PyProof.Rows.kind_sorted PyProof.Rows.plain_sorted PyProof.Rows.entry_sorted (PyProof.Rows.ksk_s1 _ _) ?_
  unfold Builtin.«sorted»
  refine wpAny_bind (m := checkCount "sorted" 1 1 _) (wpAny_pure ?_)
  refine wpAny_bind (hcol _ _ fun h' tk us k e => ?_)
  have hlen : us.length = ds.length := e.length
  have hL : us.length ≤ sizeLine := by
    rw [hlen]
    have := hk.1
    rwa [List.length_map] at this
  refine wpAny_bind (wpAny_newList ?_ hL)
  have hoL : (h'.push (seqObj "list" us.toArray 0)).get? h'.objs.size = some (seqObj "list" us.toArray 0) := Heap.get?_push_size _ rfl
  show wpAny _ _ _ _ _ { s with heap := h'.push (seqObj "list" us.toArray 0), toks := tk }
  refine wpAny_bind (wpAny_holding (wpAny_call_entry_kw PyProof.Rows.slot_list_sort ⟨_, hoL, rfl⟩ PyProof.Rows.entry_list_sort ?body (PyProof.Rows.ksk_l1 _ _)))
  case body =>
    show wpAny _ _ (ksk_tree h'.objs.size (.ref f) false) _ _ _
    obtain ⟨e1, ho1⟩ : ∃ e1, ((h'.push (seqObj "list" us.toArray 0)).update h'.objs.size (Obj.mapSeq fun _ => (#[] : Array Value))).get? h'.objs.size = some (seqObj "list" #[] e1) := ⟨_, get?_update_seq hoL fun _ => #[]⟩
    have su := Heap.SameBut.update (h'.push (seqObj "list" us.toArray 0)) h'.objs.size (Obj.mapSeq fun _ => (#[] : Array Value))
    unfold ksk_tree
    refine wpAny_bind (listItems_at hoL rfl ?_)
    refine wpAny_bind (listUpdate_at hoL rfl ?_ (by rw [List.size_toArray]; exact hL) (Nat.zero_le _))
    refine wpAny_bind (seqEpoch_at ho1 rfl ?_)
    refine wpAny_bind (wpAny_newTuple ?_ (by show us.length ≤ _; exact hL))
    refine wpAny_bind (wpAny_newList ?_ (Nat.zero_le _))
    refine wpAny_holding ?_
    have I1 : Inv X pins σ H { s with heap := h', toks := tk } := I.kept k
    have hn : H h'.objs.size = none := I1.hok.fresh (Nat.le_refl _)
    have I2 := I1.laid (a := h'.objs.size) (o := XO h'.objs.size (seqObj "list" #[] e1)) (t' := tk) (h' := ((h'.push (seqObj "list" us.toArray 0)).update h'.objs.size (Obj.mapSeq fun _ => (#[] : Array Value))).push (seqObj "tuple" us.toArray 0))
      (fun b u z => Heap.get?_push_of_some _ ((su.2 b (Nat.ne_of_lt (Heap.lt_size z))).trans (Heap.get?_push_of_some _ z))) (Nat.le_refl _) (xo_ok (Heap.get?_push_of_some _ ho1))
    have x1 : Ext H (upd H h'.objs.size (XO h'.objs.size (seqObj "list" #[] e1))) := Ext.new hn
    generalize hh3 : ((h'.push (seqObj "list" us.toArray 0)).update h'.objs.size (Obj.mapSeq fun _ => (#[] : Array Value))).push (seqObj "tuple" us.toArray 0) = h3 at I2
    have fk : FpOk X pins (upd H h'.objs.size (XO h'.objs.size (seqObj "list" #[] e1))) h3.objs.size := I2.fpOk (Nat.le_refl _) (I2.hok.fresh (Nat.le_refl _))
    have I3 : Inv X pins σ (upd H h'.objs.size (XO h'.objs.size (seqObj "list" #[] e1))) { s with heap := h3.push (seqObj "list" #[] 0), toks := tk } := I2.kept (t' := tk) fun b o z => Heap.get?_push_of_some _ z
    refine ksr_rest (kf := kf) (f := f) (fo := fo) (ds := ds) (us := us) I3 upd_same fk hf (Heap.get?_push_size _ rfl) (each_keep x1 e) hnd hal hsk room hL (fun pl H' s' v u d I' x' hd rv rd => turn pl H' s' v u d I' (x1.trans x') hd rv rd) fun H' s' vs I' x' tk' ha' hvl rl => ⟨_, rfl, wpAny_pure ⟨_, rfl, .ref _, _, I', rfl, ?_⟩⟩
    have kf' : KeepF H' (upd H' h'.objs.size (.lst vs)) := fun b o z fz => by
      rw [upd_ne (fun y => by subst y; rw [ha'] at z; cases z; exact fz)]
      exact z
    refine q _ vs H' hn ⟨fun b o z t => ?_, (x1.tab.trans x'.tab).trans tk'⟩ hvl (Rl.keep kf' _ rl)
    rw [upd_ne (ne_of_none z hn)]
    exact x' _ _ (x1 _ _ z t) t
/-- what is walked is collected -/
theorem collect_items (hcalm : X.calm = true) (I : Inv X pins σ H s) {d : D} {ds : List D} {x : V} {u : Value} (hd : RV X.K H d x) (hi : itemsD d = some ds) (rx : RelV x u) (E' : Value → Shared → Prop) (R : List Value → Shared → Prop)
    (k : ∀ (h' : Heap) (tk : Nat) (us : List Value), (∀ b o, s.heap.get? b = some o → h'.get? b = some o) → PySem.W.EachIs (ItR X.K H) us ds → R us { s with heap := h', toks := tk }) : wpAny (model X.prog X.w) X.A.in1 (collect u) R E' s := by
  cases d <;> first | (cases hi; done) | skip
  · cases hi
    obtain ⟨a, vs, rfl, f, z, l⟩ := hd
    cases rx
    obtain ⟨its, rv, ⟨o, ho, hc, n, hdat⟩, _⟩ := I.tuple (.of f)
    exact wpAny_collect_seq a (.inr rfl) ho hc hdat (fun h' hk => by simpa using k h' s.toks _ hk (each_of I l rv)) (by rw [List.size_toArray, ← rv.length]; exact z)
  · cases hi
    obtain ⟨a, vs, rfl, f, z, l⟩ := hd
    cases rx
    obtain ⟨its, rv, ⟨o, n, ho, hc, _, hdat⟩, _⟩ := I.list f.sq
    exact wpAny_collect_seq a (.inl rfl) ho hc hdat (fun h' hk => by simpa using k h' s.toks _ hk (each_of I l rv)) (by rw [List.size_toArray, ← rv.length]; exact z)
  · cases hi
    rename_i ks es
    obtain ⟨a, vs, rfl, f, z, l⟩ := hd
    cases rx
    obtain ⟨hz, lo, ws, rel, dd⟩ := dk_rd I.hok f
    obtain ⟨ep, hat⟩ := dd.dictAt
    have hkeys : ws.map (·.1) = ks := by
      rw [← rel.keys, List.map_fst_zip (by rw [l.length, z]; exact Nat.le_refl _)]
    have h16 : ws.length ≤ sizeLine := by rw [← rel.length]; exact hz
    refine PySem.W.kdu_collect (A := X.A.in1) (PySem.W.kdl_dict (knd := mixKind X.prog X.w) (kvs := ws) (ep := ep) lo) (I.ok.hd hcalm) hat h16 fun h' tk acc hk hacc => k h' tk acc.toList hk ?_
    rw [← hkeys]
    exact each_keys (knd := mixKind X.prog X.w) acc.toList (by rw [Array.length_toList, hacc.1]) fun j v e => hacc.2 j v (by rw [← Array.getElem?_toList]; exact e)
end
/-! ## sorted(xs, key=lambda x: body) as an expression -/
def keyD (g : Mr.Env → Res D) (i : Nat) (ρ : Mr.Env) (d : D) : D := match g (ρ.set i d) with
  | .ok k => k
  | _ => .non
def keyOk : Res D → Bool
  | .ok _ => true
  | _ => false
def srtKK (i : Nat) (g : Mr.Env → Res D) (ρ : Mr.Env) (d : D) : Res D := match itemsD d with
  | some ds => if (ds.all (fun d => keyOk (g (ρ.set i d))) && okSort (ds.map (keyD g i ρ))) = true then .ok (.lst (ds.mergeSort fun a b => leP (keyD g i ρ a) (keyD g i ρ b))) else .bad
  | none => .bad
def srtKF (f : Mr.Env → Res D) (i : Nat) (g : Mr.Env → Res D) (ρ : Mr.Env) : Res D := (f ρ).bind (srtKK i g ρ)
@[simp] theorem srtKF_ap (f : Mr.Env → Res D) (i : Nat) (g : Mr.Env → Res D) (ρ : Mr.Env) : srtKF f i g ρ = (f ρ).bind (srtKK i g ρ) := nr rfl
theorem AllS.dead_len {K : Fr} {H : Hp} {ω : List Sh} {ρ : Mr.Env} {σ : Sg} {fp : List Addr} (h : AllS K H ω ρ σ fp) : ρ.length = ω.length := h.len.1
section
variable {X : Cx} {H0 : Hp} {Z : Zt} {W : WX} {ω : List Sh} {p lpos kpos pos : Pos} {e : Expr} {f : Mr.Env → Res D}
theorem room_in {k : Nat} {A : Around} (r : Room (k + 2) A) : Room (k + 1) A.in1.in1 := ⟨r.hd, by have := r.dp; show A.depth + 3 * (k + 1) + 5 < _; omega, by have := r.un; show A.units + 1 + 1 + 16 * (k + 1) + 200 < _; omega⟩
theorem px_sortedK {k i : Nat} {x q : Str} {c Pt : Addr} {params : Arguments} {body : Expr} {scope : Scope} {g : Mr.Env → Res D} (he : PVX X H0 Z W ω e f) (TB : TabB X.base X.mg c Pt) (mT : (Pt, q ++ "<lambda>") ∈ TabsOf.T) (uT : ∀ p ∈ TabsOf.T, p.1 = Pt → p.2 = q ++ "<lambda>")
    (hr : Room (k + 2) X.A) (hq : X.env.qual = q) (L : lamPB X.env.scope scope x = true) (hN : X.N.Nodup) (hi : X.N[i]? = some x) (hil : i < ω.length)
    (hbody : ∀ (A : Around) (outer : List PySem.Env) (s : Shared) (H : Hp) (E : XK) (fl c' : Addr) (H0 : Hp), Room k (A.deeper (lamEnv X scope s.heap.objs.size fl c')) → PX (lamN X A outer s H E scope fl c') H0 Z0 (fun cls d _ H' => E cls d H') ((ω.map deadF).set i .fz) body g .fz)
    (hc : X.calm = true) (hg : Gl X "sorted") (hm : X.mg "sorted" = none) (hcode : X.env.code = .ref c := by rfl) (hdef : defaultsOf params X.env = ([], []) := by rfl)
    (hbind : ∀ (q : Str) (cl : List (Str × Addr)) (pm cv ctv u : Value), bindArgs (PySem.W.kla_fn "<lambda>" q params body scope cl pm cv ctv) ⟨[u], []⟩ = pure [(x, u)] := by intro _ _ _ _ _ _; rfl)
    (hs : starEach [e] X.env = [(false, eval e X.env)] := by rfl) (he0 : backTo pos (starEach [e] X.env) = (false, eval e X.env) :: backTo pos (starEach [] X.env) := by rfl) (hpl : (backTo pos (starEach [e] X.env)).any (·.1) = false := by rfl)
    (hall : (backToKw pos (keywordEach [⟨some "key", .Lambda params body scope lpos, kpos⟩] X.env)).all (·.1.isSome) = true := by rfl) (hnone : (backToKw pos (keywordEach [⟨some "key", .Lambda params body scope lpos, kpos⟩] X.env)).any (·.1.isNone) = false := by rfl)
    (hks : (backToKw pos (keywordEach [⟨some "key", .Lambda params body scope lpos, kpos⟩] X.env)).filterMap (·.1) = [Str.ofString "key"] := by rfl) :
    PX X H0 Z W ω (.Call (.Name "sorted" p) [e] [⟨some "key", .Lambda params body scope lpos, kpos⟩] pos) (srtKF f i g) (.own .fz) := by
  subst hq
  have LP := lamP_by L
  obtain ⟨te, pe, se⟩ := he
  refine ⟨fun σ H Q => ∃ ρ, SR X.K H0 Z ω ρ σ H ∧ Post (fun d => ∀ v H', Got X.K H (.own .fz) d v H' → Q v H') (EK X H0 Z W) (srtKF f i g ρ), ⟨fun pins s σ H Q I hh => ?_⟩, fun ρ σ H Q sr ps => ⟨ρ, sr, ps⟩⟩
  obtain ⟨ρ, sr, ps⟩ := hh
  refine wpAny_Call_Name_kw (ld_blt I hg hm boot_sorted ?_ (by decide) (by decide))
  refine PyProof.Rows.callWith_kw (thn ((pa_cons pe pa_nil hs).run pos pins s σ H (fun vs H1 => ∃ v, vs = [v] ∧ ∃ d, GotV X.K H d v H1 ∧ Post (fun d => ∀ v H', Got X.K H (.own .fz) d v H' → Q v H') (EK X H0 Z W) (srtKK i g ρ d)) I ?_) fun us s1 hus => ?_) he0 hpl hall hnone
  · exact se ρ σ H _ sr ((Post.bind.mp ps).mono (fun d q v H1 gv => ⟨v, rfl, d, gv, q⟩) fun _ h => h)
  obtain ⟨vs, H1, I1, rvs, v, evs, d, gv, q⟩ := hus
  subst evs
  obtain ⟨u, eu, ru⟩ := vals1 rvs
  subst eu
  unfold srtKK at q
  cases hit : itemsD d with
  | none => rw [hit] at q; exact q.elim
  | some ds =>
  rw [hit] at q
  dsimp only at q
  obtain ⟨c0, q⟩ := Post.ite q
  simp only [Bool.and_eq_true, List.all_eq_true] at c0
  obtain ⟨kok, sok⟩ := c0
  have T1 : Tb H1 := gv.1.tab sr.ext.tab
  show wpAny _ _ (evalAll ((do let v ← eval (.Lambda params body scope lpos) X.env; standAt pos; pure v) :: [])) _ _ s1
  refine wpAny_evalAll_cons (wpAny_bind (lam_make2 I1 TB hcode mT uT T1 hdef (LP.has I1.ok) fun fl c' pm' ctv H2 s2 I2 eN T2 hfl hfn hfr hco => wpAny_bind (wpAny_standAt (wpAny_pure (wpAny_evalAll_nil ?_)))))
  rw [hks]
  show wpAny _ _ (call (.builtin "sorted") [u] [(Str.ofString "key", .ref fl)]) _ _ _
  have x12 : Ext H1 H2 := ⟨eN, fun _ => T2⟩
  have x02 : Ext H H2 := gv.1.trans x12
  -- the function object is pinned
  have dif : ∀ w : Option Value, (PySem.W.kla_obj "<lambda>" (X.env.qual ++ "<lambda>") params body scope (cloFrom X.env.cells scope.names []) pm' c' ctv).data ≠ .cell w := fun w z => by cases z
  have I3 : Inv X (pins ++ [(fl, PySem.W.kla_obj "<lambda>" (X.env.qual ++ "<lambda>") params body scope (cloFrom X.env.cells scope.names []) pm' c' ctv)]) σ H2 s2 := I2.pins_of fun pp hp => by
    rcases List.mem_append.mp hp with hp | hp
    · exact I2.pin pp (List.mem_append_right _ hp)
    · rw [List.mem_singleton] at hp
      subst hp
      refine ⟨hfl, hfn, fun z => ?_, fun z => hfr ?_, dif⟩
      · obtain ⟨m, ⟨o, es, ep, ho, hd, _⟩, _⟩ := I2.loc
        have z : fl = X.env.locals := z
        rw [← z, hfl] at ho
        cases ho
        cases hd
      · have z : fl ∈ frs X.outer := z
        rcases I2.ok.stk with e | ⟨e, _⟩
        · rw [e]; exact z
        · rw [e]
          obtain ⟨w, hw, ew⟩ := List.mem_filterMap.mp z
          exact List.mem_filterMap.mpr ⟨w, List.mem_cons_of_mem _ hw, ew⟩
  refine wpAny_mono (sortedK_run (pins := pins ++ [(fl, PySem.W.kla_obj "<lambda>" (X.env.qual ++ "<lambda>") params body scope (cloFrom X.env.cells scope.names []) pm' c' ctv)]) (kf := keyD g i ρ) (Q := Q) (by have := hr.un; omega) I3 (List.mem_append_right _ (List.mem_singleton.mpr rfl)) sok
    (collect_items hc I3 (gv.2.ext x12) hit ru) (fun pl H' s' v u d I' x' hd rv rd => ?_) (fun p vs H' hp x' hl rl => ?_)) (fun r s' hq => ?_) fun _ _ h => h
  · have hfl' := (I'.pin (fl, _) (List.mem_append_right _ (List.mem_append_left _ (List.mem_append_right _ (List.mem_singleton.mpr rfl))))).1
    have hco' := x' _ _ hco fun ps z => codeO_ne ps z
    obtain ⟨k0, ek⟩ : ∃ k0, g (ρ.set i d) = .ok k0 := by
      have := kok d hd
      cases eg : g (ρ.set i d) with
      | ok k0 => exact ⟨k0, rfl⟩
      | ex c => rw [eg] at this; cases this
      | bad => rw [eg] at this; cases this
    refine key_call (tb := tDeed X.K X.mg ((ω.map deadF).set i .fz) g (fun _ _ _ => False)) I' LP hN hi rv hfl' hco' (hbind _ _ _ _ _ _) rfl (room_in hr) (fun A outer s H hr2 => pe_deed fun H0 => hbody A outer s H (fun _ _ _ => False) fl c' H0 hr2) ⟨ρ.set i d, ?_, ?_⟩
    · have sd := Mh.SR.deed (sr.mono x02) x' (x'.tab T2)
      obtain ⟨ex, fp, al, nd, fr⟩ := sd
      have hsome : (ω.map deadF)[i]? = some (deadF ω[i]) := by
        rw [List.getElem?_map, List.getElem?_eq_getElem hil]
        rfl
      obtain ⟨d0, s0, f1, e1, e2, sl, nd1, fr1, go⟩ := (SR.focus ⟨ex, fp, al, nd, fr⟩ i hsome)
      exact go H' .fz d (some v) [] (KeepF.refl _) (fun a o h _ _ => h) (fun t => t) (.inr ⟨v, rfl, rfl, rd⟩) (by simp) (by simp)
    · rw [ek]
      intro w H'' gw
      refine ⟨gw.ext, ?_⟩
      have : keyD g i ρ d = k0 := by unfold keyD; rw [ek]
      rw [this]
      exact gw.r
  · have q' : ∀ v H', Got X.K H (.own .fz) (.lst (ds.mergeSort fun a b => leP (keyD g i ρ a) (keyD g i ρ b))) v H' → Q v H' := q
    have hp0 : Fre H p := Fre.back x02 (Fre.of hp)
    exact q' (.ref p) _ ⟨x02.trans x', [p], ⟨_, p, vs, [], rfl, rfl, upd_same, hl, rfl, All3.of_rl rl⟩, by simpa using hp0, by simp⟩
  · obtain ⟨x, H', I', r', q'⟩ := hq
    exact ⟨x, H', I'.unpinned, r', q'⟩
end
end Mh

namespace Mr
variable [TabsOf]
open PySem PySem.Spec PyProof.Rows L2
open Res
section
variable {X : Cx} {H0 : Hp} {Z : Zt} {W : WX} {ω ωr : List Sh} {τr : Sh} {pos : Pos}
/-! ## x = [.. for ..] where the element changes own slots and the comprehension's frame is swapped -/
theorem sx_setLcE (i : Nat) {y : Str} {py : Pos} {tg e elt : Expr} {ifs : List Expr} {scope : Scope} {own : List (Str × Nat)} {spos : Pos} {fi : Env → Res (List D)} {g : D → Env → Res Env} {tt : Env → Res Bool} {te : Env → Res (D × Env)} {ω1 : List Sh} (hc : X.calm = true) (hN : X.N.Nodup) (hi : IX X H0 Z W ω tg e fi) (ok : BlkOk X.N X.env.scope scope own)
    (hg : ∀ (s : Shared) (H : Hp) (C : Addr) (cl : List (Str × Addr)) (fp : List Addr) (H0 : Hp) (Z : Zt), TCX (X.blk s H scope (compEnvC scope cl C X.env) fp) H0 Z (own.map (·.2)) (wipeω ω (own.map (·.2))) ω1 tg g)
    (ht : ∀ (s : Shared) (H : Hp) (C : Addr) (cl : List (Str × Addr)) (fp : List Addr) (H0 : Hp) (Z : Zt), TTX (X.blk s H scope (compEnvC scope cl C X.env) fp) H0 Z ω1 ifs tt)
    (he : ∀ (s : Shared) (H : Hp) (C : Addr) (cl : List (Str × Addr)) (fp : List Addr) (H0 : Hp) (Z : Zt), PEX (X.blk s H scope (compEnvC scope cl C X.env) fp) H0 Z (fun _ _ _ _ => False) ω1 elt te .fz)
    (hy : X.N[i]? = some y := by rfl) (hl : i < ω.length := by decide) (hyl : X.env.scope.names.lookup y = some .local := by rfl) (hsw : swapsWith (.ListComp elt [⟨tg, e, ifs, 0⟩] scope pos) (some (.Name y py)) spos.line X.env = pure true := by rfl)
    (hw1 : wipeω ω1 (own.map (·.2)) = wipeω ω (own.map (·.2)) := by rfl) (hω : wipeω ω (own.map (·.2)) = ω := by rfl) (hd : deadAt ω (own.map (·.2)) = true := by rfl)
    (hs : ∀ x, foldedSetIterable e X.env x = pure x := by intro _; rfl) : SX X H0 Z W ω (ω.set i (.own .fz)) ωr τr (.Assign [.Name y py] (.ListComp elt [⟨tg, e, ifs, 0⟩] scope pos) spos) (setE i (lcE fi (own.map (·.2)) g tt te)) := by
  obtain ⟨wi, pi, si⟩ := hi
  refine ⟨_, ps_setLc (g := fun v σ H Q => ∃ d ρ H0 Z, SR X.K H0 Z (wipeω ω (own.map (·.2))) ρ σ H ∧ R X.K H d v ∧ Post (fun ρ' => ∀ σ', SR X.K H0 Z ω1 ρ' σ' H → L2.wipe σ' (own.map (·.2)) = L2.wipe σ (own.map (·.2)) → Q σ' H) (fun _ => False) (g d ρ))
    (tt := fun σ H Q => ∃ ρ H0 Z, SR X.K H0 Z ω1 ρ σ H ∧ Post (fun b => ∀ H', Ext H H' → Q b H') (fun _ => False) (tt ρ))
    (te := fun σ H Q => ∃ ρ H0 Z, SR X.K H0 Z ω1 ρ σ H ∧ Post (fun p => ∀ v H', KeepF H H' → SR X.K H0 Z (.fz :: ω1) (p.1 :: p.2) (some v :: σ) H' → Q v H') (fun _ => False) (te ρ)) hc hN hy hyl hsw pi ok (fun s H C cl fp => ?_) (fun s H C cl fp => ?_) (fun s H C cl fp => ?_) hs,
    fun ρ σ H Dn sr ps => lcE_s (W := W) (ω1 := ω1) hw1 hω hd si (fun H0 Z d v ρ σ H Q sr r ps => ⟨d, ρ, H0, Z, sr, r, ps⟩) (fun H0 Z ρ σ H Q sr ps => ⟨ρ, H0, Z, sr, ps⟩) (fun H0 Z ρ σ H Q sr ps => ⟨ρ, H0, Z, sr, ps⟩) ρ σ H _ sr ((Post.bind.mp ps).mono (fun p q v H1 k sr1 => q _ H1 k (sr1.into hl)) fun _ h => h)⟩
  · refine ⟨fun pins s' σ H v u Q I r hh => ?_⟩
    obtain ⟨d, ρ, H0', Z', sr, rr, ps⟩ := hh
    obtain ⟨t, p, st⟩ := hg s _ C cl fp H0' Z'
    exact p.run pins s' σ H v u Q I r (st d v ρ σ H Q sr rr ps)
  · refine ⟨fun pins s' σ H Q I hh => ?_⟩
    obtain ⟨ρ, H0', Z', sr, ps⟩ := hh
    obtain ⟨t, p, st⟩ := ht s _ C cl fp H0' Z'
    exact p.run pins s' σ H Q I (st ρ σ H Q sr ps)
  · refine ⟨fun pins s' σ H Q I hh => ?_⟩
    obtain ⟨ρ, H0', Z', sr, ps⟩ := hh
    obtain ⟨t, p, st⟩ := he s _ C cl fp H0' Z'
    exact p.run pins s' σ H Q I (st ρ σ H Q sr (ps.mono (fun _ h => h) fun _ h => h.elim))
end
end Mr

namespace Mr
variable [TabsOf]
open PySem PySem.Spec PyProof.Rows L2
open Res

/-! ## own lists of own lists -/
section
variable {K : Fr} {H H' H0 : Hp} {Z : Zt}
/-- one element, and the rest -/
theorem All3.focus {P Q : D → V → List Addr → Prop} : ∀ {ds : List D} {vs : List V} {fp : List Addr} (k : Nat) {d : D}, All3 P ds vs fp → ds[k]? = some d →
    ∃ v A f B, vs[k]? = some v ∧ fp = A ++ (f ++ B) ∧ P d v f ∧
      ∀ (d' : D) (v' : V) (f' : List Addr), (∀ d v g, (∀ a ∈ g, a ∈ A ++ B) → P d v g → Q d v g) → Q d' v' f' → All3 Q (ds.set k d') (vs.set k v') (A ++ (f' ++ B))
  | [], _, _, _, _, _, e => by simp at e
  | d :: ds, _, _, 0, x, ⟨v, r, f1, f2, e1, e2, h, t⟩, q => by
    simp at q
    subst q e1 e2
    exact ⟨v, [], f1, f2, rfl, rfl, h, fun d' v' f' k h' => ⟨v', r, f', f2, rfl, rfl, h', t.mono fun d v g hg => k d v g fun a ha => by simpa using hg a ha⟩⟩
  | d :: ds, _, _, k + 1, x, ⟨v, r, f1, f2, e1, e2, h, t⟩, q => by
    obtain ⟨v1, A, f, B, q1, q2, q3, go⟩ := All3.focus (Q := Q) k t (by simpa using q)
    subst e1 e2 q2
    refine ⟨v1, f1 ++ A, f, B, by simpa using q1, by simp, q3, fun d' v' f' k' h' => ?_⟩
    refine ⟨v, r.set _ v', f1, A ++ (f' ++ B), rfl, by simp, k' _ _ _ (fun a ha => by simp [ha]) h, go d' v' f' (fun d v g hg => k' d v g fun a ha => ?_) h'⟩
    rcases List.mem_append.mp (hg a ha) with h | h <;> simp [h]
theorem All3.at {P : D → V → List Addr → Prop} {ds : List D} {vs : List V} {fp : List Addr} {k : Nat} {d : D} (h : All3 P ds vs fp) (e : ds[k]? = some d) : ∃ v f, vs[k]? = some v ∧ P d v f ∧ ∀ a ∈ f, a ∈ fp := by
  obtain ⟨v, A, f, B, q1, q2, q3, _⟩ := All3.focus (Q := P) k h e
  exact ⟨v, f, q1, q3, fun a ha => by rw [q2]; simp [ha]⟩
theorem SR.fork2 {τ : Sh} {ω : List Sh} {d : D} {ρ : Env} {s : Option V} {σ : Sg} (sr : SR K H0 Z (τ :: ω) (d :: ρ) (s :: σ) H) :
    ∃ Z' f1, Slot K H τ d s f1 ∧ SR K H Z' ω ρ σ H ∧ ∀ (ω2 : List Sh) (ρ2 : Env) (σ2 : Sg) (H' : Hp), SR K H Z' ω2 ρ2 σ2 H' → (∀ a ∈ f1, H' a = H a) ∧ SR K H0 Z (τ :: ω2) (d :: ρ2) (s :: σ2) H' := by
  obtain ⟨e, fp, ⟨f1, f2, e1, sl, al⟩, nd, fr⟩ := sr
  subst e1
  have n1 := List.nodup_append.mp nd
  refine ⟨⟨fun a => a ∈ f2⟩, f1, sl, ⟨⟨fun b o _ h _ => h, e.tab⟩, f2, al, n1.2.1, fun a ha => .inr ha⟩, fun ω2 ρ2 σ2 H' h => ?_⟩
  obtain ⟨e2, g, al2, nd2, fr2⟩ := h
  have op := al.open
  have stay : ∀ a o, H a = some o → a ∉ f2 → (∀ ps, o ≠ .tbl ps) → H' a = some o := fun a o h n t => e2 a o n h t
  have k : KeepF H H' := fun b o h f => stay b o h (fun hb => by
    obtain ⟨u, hu, iu⟩ := op b hb
    rw [h] at hu
    cases hu
    exact iu.nf f) f.ntbl
  have k1 : ∀ a ∈ f1, H' a = H a := fun a ha => by
    obtain ⟨o, h, i⟩ := sl.open a ha
    rw [h]
    exact stay a o h (fun hb => n1.2.2 a ha a hb rfl) i.ntbl
  refine ⟨k1, ⟨fun b o z h t => stay b o (e b o z h t) (fun hb => ?_) t, e2.tab⟩, f1 ++ g, ⟨f1, g, rfl, sl.keep k k1, al2⟩, ?_, fun a ha => ?_⟩
  · rcases fr b (List.mem_append_right _ hb) with q | q
    · obtain ⟨ps, e'⟩ := q o h
      exact t ps e'
    · exact z q
  · rw [List.nodup_append]
    refine ⟨n1.1, nd2, fun a ha b hb ee => ?_⟩
    subst ee
    rcases fr2 a hb with q | q
    · obtain ⟨o, h, i⟩ := sl.open a ha
      obtain ⟨ps, e'⟩ := q o h
      exact i.ntbl ps e'
    · exact n1.2.2 a ha a q rfl
  · rcases List.mem_append.mp ha with ha | ha
    · exact fr a (List.mem_append_left _ ha)
    · rcases fr2 a ha with q | q
      · refine Classical.byCases (fun z : Z.p a => .inr z) fun z => .inl fun o r => ?_
        refine Classical.byCases (fun t : ∃ ps, o = .tbl ps => t) fun t => ?_
        exact absurd (q o (e a o z r fun ps e => t ⟨ps, e⟩)) t
      · exact fr a (List.mem_append_right _ q)
/-- a slot's value is taken ahead, the slot is dead -/
theorem SR.take {ω : List Sh} {ρ : Env} {σ : Sg} {i : Nat} {τ : Sh} (h : SR K H0 Z ω ρ σ H) (hω : ω[i]? = some τ) :
    ∃ d s, ρ[i]? = some d ∧ σ[i]? = some s ∧ SR K H0 Z (τ :: ω.set i .dead) (d :: ρ) (s :: σ) H := by
  obtain ⟨e, fp, al, nd, fr⟩ := h
  obtain ⟨d, s, A, f, B, q1, q2, q3, sl, go⟩ := al.focus i hω
  subst q3
  refine ⟨d, s, q1, q2, e, f ++ (A ++ B), ⟨f, A ++ B, rfl, sl, ?_⟩, ?_, fun a ha => fr a ?_⟩
  · have := go H .dead d s [] (KeepF.refl H) (fun _ _ => rfl) (.inl ⟨rfl, rfl⟩)
    rw [set_same q1, set_same q2] at this
    simpa using this
  · have n1 := List.nodup_append.mp nd
    have n2 := List.nodup_append.mp n1.2.1
    rw [List.nodup_append]
    refine ⟨n2.1, List.nodup_append.mpr ⟨n1.1, n2.2.1, fun a ha b hb => n1.2.2 a ha b (by simp [hb])⟩, fun a ha b hb e => ?_⟩
    subst e
    rcases List.mem_append.mp hb with hb | hb
    · exact n1.2.2 a hb a (by simp [ha]) rfl
    · exact n2.2.2 a ha a hb rfl
  · rcases List.mem_append.mp ha with ha | ha
    · simp [ha]
    · rcases List.mem_append.mp ha with ha | ha <;> simp [ha]
/-- element k of the own list of own lists at slot i is rewritten -/
theorem SR.rewriteN {ω : List Sh} {ρ : Env} {σ : Sg} {i : Nat} (sr : SR K H0 Z ω ρ σ H) (hω : ω[i]? = some (.own (.own .fz))) :
    ∃ ds a vs, gv ρ i = .lst ds ∧ σ[i]? = some (some (.ref a)) ∧ H a = some (.lst vs) ∧ vs.length = ds.length ∧
      ∀ k es, ds[k]? = some (.lst es) → ∃ b us, vs[k]? = some (.ref b) ∧ H b = some (.lst us) ∧ us.length ≤ sizeLine ∧ Rl K H es us ∧
        ∀ (H1 : Hp) (es' : List D) (us' : List V), H1 b = some (.lst us) → Ext H H1 → us'.length ≤ sizeLine → Rl K H1 es' us' → KeepF H (upd H1 b (.lst us')) ∧ SR K H0 Z ω (ρ.set i (.lst (ds.set k (.lst es')))) σ (upd H1 b (.lst us')) := by
  obtain ⟨d0, s0, f0, e1, e2, sl, nd, fr, go⟩ := sr.focus i hω
  rcases sl with ⟨z, _⟩ | ⟨v0, e3, ro⟩
  · cases z
  subst e3
  obtain ⟨ds, a, vs, fps, ed, ev, eH, hz, efp, al⟩ := ro
  subst ed ev efp
  have nd' := List.nodup_cons.mp nd
  refine ⟨ds, a, vs, gv_is e1, e2, eH, al.length, fun k es hk => ?_⟩
  obtain ⟨v1, A, f, B, q1, q2, q3, _⟩ := All3.focus (Q := RO K H (.own .fz)) k al hk
  obtain ⟨es0, b, us, fps1, g1, g2, g3, g4, g5, g6⟩ := q3
  obtain ⟨g7, l⟩ := g6.rl
  injection g1 with g1
  subst g1 g2 g7 g5 q2
  refine ⟨b, us, q1, g3, g4, l, fun H1 es' us' eH1 x1 hz' l' => ?_⟩
  have hab : a ≠ b := fun z => nd'.1 (by rw [z]; simp)
  have k2 : KeepF H1 (upd H1 b (.lst us')) := keepF_upd eH1 fun h => h
  have nB := List.nodup_append.mp nd'.2
  have nB2 : b ∉ B := by
    have := nB.2.1
    simp at this
    exact this.1
  have nA : b ∉ A := fun h => nB.2.2 b h b (by simp) rfl
  refine ⟨x1.keepF.trans k2, ?_⟩
  obtain ⟨v2, A2, f2, B2, q1', q2', q3', go2⟩ := All3.focus (Q := RO K (upd H1 b (.lst us')) (.own .fz)) k al hk
  have al2 : All3 (RO K (upd H1 b (.lst us')) (.own .fz)) (ds.set k (.lst es')) (vs.set k (.ref b)) (A ++ ([b] ++ B)) := by
    obtain ⟨v3, A3, f3, B3, p1, p2, p3, go3⟩ := All3.focus (Q := RO K (upd H1 b (.lst us')) (.own .fz)) k al hk
    have : v3 = .ref b := by rw [q1] at p1; cases p1; rfl
    subst this
    obtain ⟨es3, b3, us3, fps3, r1, r2, r3, r4, r5, r6⟩ := p3
    injection r2 with r2
    subst r2
    obtain ⟨r7, _⟩ := r6.rl
    subst r7 r5
    have hb : A ++ ([b] ++ B) = A3 ++ ([b] ++ B3) := p2
    have hA3 : b ∉ A3 ++ B3 := by
      have hn := nd'.2
      rw [p2] at hn
      have n3 := List.nodup_append.mp hn
      have n4 := List.nodup_append.mp n3.2.1
      intro h
      rcases List.mem_append.mp h with h | h
      · exact n3.2.2 b h b (by simp) rfl
      · exact n4.2.2 b (by simp) b h rfl
    rw [hb]
    refine go3 _ _ _ (fun d v g hg r => ?_) ⟨es', b, us', [], rfl, rfl, upd_same, hz', rfl, All3.of_rl (Rl.keep k2 _ l')⟩
    exact RO.keep k2 _ (r.ext x1) fun a ha => upd_ne fun z => hA3 (z ▸ hg a ha)
  have eHa : upd H1 b (.lst us') a = some (.lst vs) := by
    rw [upd_ne hab]
    exact x1 _ _ eH fun ps h => by cases h
  have hset : vs.set k (.ref b) = vs := set_same q1
  rw [hset] at al2
  have sr' := go (upd H1 b (.lst us')) (.own (.own .fz)) (.lst (ds.set k (.lst es'))) (some (.ref a)) (a :: (A ++ ([b] ++ B))) (x1.keepF.trans k2) (fun c o e nb t => by
      rw [upd_ne fun z => nb (by simp [z])]
      exact x1 c o e t) (x1.tab.trans (TabK.upd eH1 trivial)) (.inr ⟨_, rfl, ds.set k (.lst es'), a, vs, _, rfl, rfl, eHa, hz, rfl, al2⟩) nd fun c hc => .inl hc
  rw [set_same hω, set_same e2] at sr'
  exact sr'
/-- the second slot goes -/
theorem SR.drop1 {ω : List Sh} {ρ : Env} {σ : Sg} {τ τ2 : Sh} {d d2 : D} {s s2 : Option V} (h : SR K H0 Z (τ :: τ2 :: ω) (d :: d2 :: ρ) (s :: s2 :: σ) H) : SR K H0 Z (τ :: ω) (d :: ρ) (s :: σ) H := by
  obtain ⟨e, fp, ⟨f1, f2, e1, sl, g1, g2, e2, sl2, al⟩, nd, fr⟩ := h
  subst e1 e2
  have n1 := List.nodup_append.mp nd
  have n2 := List.nodup_append.mp n1.2.1
  exact ⟨e, f1 ++ g2, ⟨f1, g2, rfl, sl, al⟩, List.nodup_append.mpr ⟨n1.1, n2.2.1, fun a ha b hb => n1.2.2 a ha b (by simp [hb])⟩, fun a ha => fr a (by rcases List.mem_append.mp ha with h | h <;> simp [h])⟩
end
section
variable {X : Cx} {H0 : Hp} {Z : Zt} {W : WX} {ω ωr : List Sh} {τr : Sh} {pos : Pos}
/-- an expression that may be evaluated in any such state, no refusal -/
theorem pe_anyH {e : Expr} {fe : Env → Res (D × Env)} {τ : Sh} (he : ∀ H0 Z, PEX X H0 Z (fun _ _ _ _ => False) ω e fe τ) : PE X e (fun σ H Q => ∃ ρ H0 Z, SR X.K H0 Z ω ρ σ H ∧ Post (fun p => ∀ v H', KeepF H H' → SR X.K H0 Z (τ :: ω) (p.1 :: p.2) (some v :: σ) H' → Q v H') (fun _ => False) (fe ρ)) := by
  refine ⟨fun pins s' σ H Q I hh => ?_⟩
  obtain ⟨ρ, H0', Z', sr, ps⟩ := hh
  obtain ⟨t, p, st⟩ := he H0' Z'
  exact p.run pins s' σ H Q I (st ρ σ H Q sr (ps.mono (fun _ h => h) fun _ h => h.elim))
/-- xs[j].append(d), of xs = y -/
def appNK (i : Nat) (ρ : Env) (y d : D) : D → Res Env
  | .lst ds => match y with
    | .int j => match ixN ds.length j with
      | some k => match ds[k]? with
        | some (.lst es) => if es.length < sizeLine then .ok (ρ.set i (.lst (ds.set k (.lst (es ++ [d]))))) else .bad
        | _ => .bad
      | none => .bad
    | _ => .bad
  | _ => .bad
def appNK3 (i : Nat) (z y : D) (p : D × Env) : Res Fl := (appNK i p.2 y p.1 z).bind fun ρ' => .ok (.nx ρ')
def appNK2 (i : Nat) (fe : Env → Res (D × Env)) (ρ : Env) (y : D) : Res Fl := (noEx (fe ρ)).bind (appNK3 i (gv ρ i) y)
def appNF (i : Nat) (fi : Env → Res D) (fe : Env → Res (D × Env)) (ρ : Env) : Res Fl := (fi ρ).bind (appNK2 i fe ρ)
theorem sx_appN (i : Nat) {x : Str} {p ipos apos cpos : Pos} {ei e : Expr} {fi : Env → Res D} {fe : Env → Res (D × Env)} (hi : PX X H0 Z W ω ei fi .fz) (he : ∀ H0 Z, PEX X H0 Z (fun _ _ _ _ => False) (ω.set i .dead) e fe .fz)
    (hs0 : PlainIx ei := by exact fun _ _ => rfl) (hN : X.N[i]? = some x := by rfl) (hω : ω[i]? = some (.own (.own .fz)) := by rfl) (hv : Vis X.env.scope x := by first | exact Or.inl rfl | exact Or.inr (Or.inl rfl) | exact Or.inr (Or.inr rfl)) (hd : (x == ("__debug__" : Str)) = false := by decide)
    (hcd : (x == ("__classdict__" : Str)) = false := by decide)
    (hbase : attributeBase (.Subscript (.Name x p) ei ipos) "append" X.env (eval (.Subscript (.Name x p) ei ipos) X.env) = eval (.Subscript (.Name x p) ei ipos) X.env := by rfl)
    (hfew : ((backTo cpos (starEach [e] X.env)).all (fun x => !x.1) && (backToKw cpos (keywordEach [] X.env)).all (fun x => x.1.isSome)
      && decide ([e].length + ([] : List Keyword).length + (if ([] : List Keyword).isEmpty then 0 else 1) < 30)) = true := by rfl)
    (hline : (apos.endLine == cpos.line) = true := by rfl) (hs : starEach [e] X.env = (false, eval e X.env) :: starEach [] X.env := by rfl) (hplain : (backTo cpos (starEach [] X.env)).any (·.1) = false := by rfl)
    (hsw : swapsWith (.Call (.Attribute (.Subscript (.Name x p) ei ipos) "append" apos) [e] [] cpos) none pos.line X.env = pure false := by rfl) :
    SX X H0 Z W ω ω ωr τr (.Expr (.Call (.Attribute (.Subscript (.Name x p) ei ipos) "append" apos) [e] [] cpos) pos) (appNF i fi fe) := by
  obtain ⟨ti, pi, si⟩ := hi
  refine ⟨_, ps_expr (pe_bm PySem.F.plainAttrs_list PySem.F.slot_list_append PySem.F.type_list_append (fun pins s σ H x vs v us Q I rx rv h => mt_append pins s σ H x vs v us Q I rx rv h) (pe_ix ix_seq (pe_var hN hv hd hcd) pi hs0) (pa_cons (pe_anyH he) pa_nil hs) hbase hfew hline hs hplain) hsw, fun ρ σ H Dn sr ps => ?_⟩
  obtain ⟨ds, a, vs, eg, e2, eH, hl, go⟩ := sr.rewriteN hω
  refine ⟨.ref a, e2, ?_⟩
  refine si ρ σ H _ sr ((Post.bind.mp ps).mono (fun y q u H1 g => ?_) fun _ h => h)
  unfold appNK2 at q
  cases efe : fe ρ with
  | ex c => rw [efe] at q; exact q.elim
  | bad => rw [efe] at q; exact q.elim
  | ok pr =>
  rw [efe] at q
  simp only [noEx, ok_bind] at q
  unfold appNK3 at q
  rw [eg] at q
  unfold appNK at q
  cases y <;> first | exact q.elim | skip
  rename_i j
  dsimp only at q
  cases ek : ixN ds.length j with
  | none => rw [ek] at q; exact q.elim
  | some k =>
  rw [ek] at q
  dsimp only at q
  cases ed : ds[k]? with
  | none => rw [ed] at q; exact q.elim
  | some d1 =>
  rw [ed] at q
  cases d1 <;> first | exact q.elim | skip
  rename_i es
  dsimp only at q
  by_cases hc : es.length < sizeLine
  case neg => rw [if_neg hc] at q; exact q.elim
  rw [if_pos hc] at q
  simp only [ok_bind] at q
  obtain ⟨b, us, hb, eb, hz, l, _⟩ := go k es ed
  have hu : u = .int j := g.r
  subst hu
  have eH1 : H1 a = some (.lst vs) := g.ext _ _ eH fun ps h => by cases h
  have eb1 : H1 b = some (.lst us) := g.ext _ _ eb fun ps h => by cases h
  refine .inl ⟨a, vs, j, .ref b, rfl, rfl, .inl (.inl eH1), ?_, .inl ⟨rfl, us, .inl (.inl eb1)⟩, ?_⟩
  · unfold L2.atI
    rw [hl, ek]
    exact hb
  have sr1 := sr.mono g.ext
  obtain ⟨d0, s0, q1, q2, srt⟩ := sr1.take hω
  have e0 : s0 = some (.ref a) := by rw [q2] at e2; injection e2
  have e00 : d0 = .lst ds := by rw [← gv_is q1]; exact eg
  subst e0 e00
  obtain ⟨Z', f1, sl, srf, join⟩ := srt.fork2
  refine ⟨ρ, H1, Z', srf, ?_⟩
  rw [efe]
  intro v H2 k2 sr2
  obtain ⟨keep, srj⟩ := join _ _ _ _ sr2
  have key : H2 b = some (.lst us) ∧ H2 a = some (.lst vs) := by
    rcases sl with ⟨z, _⟩ | ⟨v0, e3, ro⟩
    · cases z
    cases e3
    obtain ⟨ds', a', vs', fps, r1, r2, r3, r4, r5, r6⟩ := ro
    cases r1
    cases r2
    rw [eH1] at r3
    cases r3
    subst r5
    obtain ⟨w, f, w1, w2, w3⟩ := r6.at ed
    rw [hb] at w1
    cases w1
    obtain ⟨es', b', us', fps', t1, t2, t3, t4, t5, t6⟩ := w2
    cases t2
    rw [keep b (List.mem_cons_of_mem _ (w3 b (by rw [t5]; simp))), keep a (by simp)]
    exact ⟨eb1, eH1⟩
  obtain ⟨dsj, aj, vsj, egj, e2j, eHj, hlj, goj⟩ := srj.rewriteN (i := 0) rfl
  have e4 : D.lst ds = .lst dsj := egj
  injection e4 with e4
  subst e4
  have e5 : some (some (V.ref a)) = some (some (V.ref aj)) := e2j
  injection e5 with e5
  injection e5 with e5
  injection e5 with e5
  subst e5
  rw [key.2] at eHj
  cases eHj
  obtain ⟨bj, usj, hbj, ebj, hzj, lj, gj⟩ := goj k es ed
  rw [hb] at hbj
  cases hbj
  rw [key.1] at ebj
  cases ebj
  obtain ⟨k3, sr3⟩ := gj H2 (es ++ [pr.1]) (us ++ [v]) key.1 (Ext.refl H2) (by rw [List.length_append, l.length]; exact hc) (lj.append (Rl.one sr2.head))
  refine ⟨b, us, v, rfl, rfl, key.1, by rw [l.length]; exact hc, ?_⟩
  refine q σ _ ((g.ext.keepF.trans k2).trans k3) ?_
  have srd : SR X.K H0 Z (.own (.own .fz) :: ω.set i .dead) (.lst (ds.set k (.lst (es ++ [pr.1]))) :: pr.2) (some (.ref a) :: σ) (upd H2 b (.lst (us ++ [v]))) := sr3.drop1
  have hi : i < (ω.set i .dead).length := by rw [List.length_set]; exact (List.getElem?_eq_some_iff.mp hω).1
  have := srd.into hi
  rw [List.set_set, set_same hω, set_same q2] at this
  exact this
end
/-! ### simp -/
section
variable (fi : Env → Res D) (fe : Env → Res (D × Env)) (ρ : Env) (i : Nat) (d y z : D) (ds : List D)
@[simp] theorem appNF_ap : appNF i fi fe ρ = (fi ρ).bind (appNK2 i fe ρ) := nr rfl
@[simp] theorem appNK2_ap : appNK2 i fe ρ y = (noEx (fe ρ)).bind (appNK3 i (gv ρ i) y) := nr rfl
def nxK (ρ : Env) : Res Fl := .ok (.nx ρ)
@[simp] theorem nxK_ap : nxK ρ = .ok (.nx ρ) := nr rfl
@[simp] theorem appNK3_ap : appNK3 i z y (d, ρ) = (appNK i ρ y d z).bind nxK := nr rfl
theorem ixN_last (n : Nat) : ixN (n + 1) (-1) = some n := by
  have h1 : ¬ (0 : Int) ≤ -1 := by decide
  have h2 : -((n + 1 : Nat) : Int) ≤ -1 := by omega
  have h3 : (-1 + ((n + 1 : Nat) : Int)).toNat = n := by omega
  simp only [ixN, if_neg h1, if_pos h2, h3]
theorem ixN_nat {n k : Nat} (h : k < n) : ixN n (k : Int) = some k := by
  have h1 : (0 : Int) ≤ k := by omega
  have h2 : (k : Int) < n := by omega
  simp only [ixN, if_pos h1, if_pos h2, Int.toNat_natCast]
theorem appNK_last {pre es : List D} (h : es.length < 1000000) : appNK i ρ (.int (-1)) d (.lst (pre ++ [.lst es])) = .ok (ρ.set i (.lst (pre ++ [.lst (es ++ [d])]))) := by
  have hc : es.length < sizeLine := Nat.lt_of_lt_of_le h (by decide)
  unfold appNK
  dsimp only
  rw [show (pre ++ [D.lst es]).length = pre.length + 1 by simp, ixN_last]
  dsimp only
  rw [show (pre ++ [D.lst es])[pre.length]? = some (.lst es) by simp]
  dsimp only
  rw [if_pos hc]
  simp
theorem appNK_at {ds es : List D} {k : Nat} (e : ds[k]? = some (.lst es)) (h : es.length < 1000000) : appNK i ρ (.int k) d (.lst ds) = .ok (ρ.set i (.lst (ds.set k (.lst (es ++ [d]))))) := by
  have hc : es.length < sizeLine := Nat.lt_of_lt_of_le h (by decide)
  have hk : k < ds.length := (List.getElem?_eq_some_iff.mp e).1
  unfold appNK
  dsimp only
  rw [ixN_nat hk]
  dsimp only
  rw [e]
  dsimp only
  rw [if_pos hc]
end
end Mr

namespace Mr
variable [TabsOf]
open PySem PySem.Spec PyProof.Rows L2
open Res

/-! ## list(zip(xs, ys)): the tuples stay -/
/-- pairs in a new list -/
def LzOk (H : Hp) (xs ys acc : List V) (n : Nat) : Prop := acc.length = n ∧ ∀ j, j < n → ∃ T x y, acc[j]? = some (.ref T) ∧ H T = some (.tup [x, y]) ∧ xs[j]? = some x ∧ ys[j]? = some y
def LzSt (z TI TO i1 i2 S : Addr) (l1 l2 : Addr) (i : Nat) (h : Heap) : Prop :=
  IsPair h TI (.ref i1) (.ref i2) ∧ h.IsListIter i1 l1 i ∧ h.IsListIter i2 l2 i ∧
    ((IsZip h z TI TO .none ∧ ∃ a b, IsPair h TO a b) ∨ ∃ T f oT oO, IsZipHeld h z TI TO T f ∧ h.get? T = some oT ∧ T ≠ z ∧ T ≠ i1 ∧ T ≠ i2 ∧ T ≠ S ∧ h.get? TO = some oO)
theorem zip_nolen : typeLookup (.type "zip") "__len__" = pure none := am_miss_of_fast (by decide +kernel)
theorem zip_nohint : typeLookup (.type "zip") "__length_hint__" = pure none := am_miss_of_fast (by decide +kernel)
theorem LzOk.push {H : Hp} {xs ys acc : List V} {n : Nat} {T : Addr} {x y : V} (h : LzOk H xs ys acc n) (hT : H T = none) (ex : xs[n]? = some x) (ey : ys[n]? = some y) : LzOk (upd H T (.tup [x, y])) xs ys (acc ++ [.ref T]) (n + 1) := by
  obtain ⟨l, f⟩ := h
  refine ⟨by simp [l], fun j hj => ?_⟩
  by_cases e : j = n
  · subst e
    exact ⟨T, x, y, by rw [List.getElem?_append_right (by omega)]; simp [l], upd_same, ex, ey⟩
  · obtain ⟨T', x', y', h1, h2, h3, h4⟩ := f j (by omega)
    exact ⟨T', x', y', by rw [List.getElem?_append_left (by omega)]; exact h1, by rw [upd_ne (ne_of_none h2 hT)]; exact h2, h3, h4⟩
theorem LzOk.mono {H H' : Hp} {xs ys acc : List V} {n : Nat} (h : LzOk H xs ys acc n) (k : ∀ T vs, H T = some (.tup vs) → H' T = some (.tup vs)) : LzOk H' xs ys acc n :=
  ⟨h.1, fun j hj => let ⟨T, x, y, a, b, c, d⟩ := h.2 j hj; ⟨T, x, y, a, k _ _ b, c, d⟩⟩
theorem _root_.L2.SqL.but {K : Fr} {H H' : Hp} {a S : Addr} {xs : List V} (h : SqL K H a xs) (n : a ≠ S) (k : ∀ b o, b ≠ S → H b = some o → H' b = some o) : SqL K H' a xs := by
  rcases h with (h | ⟨o, h⟩) | h
  · exact .inl (.inl (k _ _ n h))
  · exact .inl (.inr ⟨o, k _ _ n h⟩)
  · exact .inr h
section
variable {X : Cx} {pins : List (Addr × Obj)} {σ : Sg} {A : Around} {R : Result → Shared → Prop}
theorem lz_loop (hh : A.handled = none) {z TI TO i1 i2 l1 l2 S : Addr} {xs ys : List V} {res : Value} {n : Nat} (D : ZipApart z TI TO i1 i2 l1 l2) (hn : n = min xs.length ys.length) (hz : n ≤ sizeLine) :
    ∀ (k i : Nat) (s : Shared) (H : Hp) (acc : List V), n - i = k → i ≤ n → Inv X pins σ H s → (∀ c ∈ [z, TI, TO, i1, i2], FpOk X pins H c) → LzSt z TI TO i1 i2 S l1 l2 i s.heap →
      SqL X.K H l1 xs → SqL X.K H l2 ys → H S = some (.lst acc) → LzOk H xs ys acc i → l1 ≠ S → l2 ≠ S →
      (∀ s' H' acc', Inv X pins σ H' s' → H' S = some (.lst acc') → LzOk H' xs ys acc' n → (∀ b o, b ≠ S → H b = some o → H' b = some o) → R (.ok (.ret res)) s') →
      codeAny (model X.prog X.w) A (.builtin "list.extend.loop" ⟨[.ref S, .ref z, res], []⟩) R s := by
  intro k
  induction k with
  | zero =>
    intro i s H acc hk hi I hf st q1 q2 hS ok n1 n2 fin
    have e : i = n := by omega
    subst e
    obtain ⟨its, rv, p1, _⟩ := I.list q1
    obtain ⟨its2, rv2, p2, _⟩ := I.list q2
    obtain ⟨hTI, h1, h2, alt⟩ := st
    have e1 := rv.length
    have e2 := rv2.length
    have hend : its.toArray[i]? = none ∨ its2.toArray[i]? = none := by
      rcases Nat.le_total xs.length ys.length with h | h
      · exact .inl (by rw [hn, Nat.min_eq_left h, e1]; simp)
      · exact .inr (by rw [hn, Nat.min_eq_right h, e2]; simp)
    refine codeAny_builtin F.entry_extend_loop ?_
    rw [Around.under_plainId F.plain_extend_loop _]
    show wpAny (model X.prog X.w) A.in1 (pyNext (.ref z) >>= _) _ _ s
    refine wpAny_bind ?_
    have wrap : ∀ h' : Heap, (∀ c o, c ≠ z → c ≠ TO → c ≠ i1 → c ≠ i2 → s.heap.get? c = some o → h'.get? c = some o) → R (.ok (.ret res)) { s with heap := h' } := fun h' hk' =>
      fin _ H acc (I.turnedL (t' := s.toks) (ch := [z, TI, TO, i1, i2]) (fun c o hb q => hk' c o (fun u => hb (by simp [u])) (fun u => hb (by simp [u])) (fun u => hb (by simp [u])) (fun u => hb (by simp [u])) q) hf) hS ok fun b o _ q => q
    rcases alt with ⟨hzz, a, b, hTO⟩ | ⟨T, f, oT, oO, hzz, hT, _⟩
    · exact wpAny_pyNext_zip_end hh D hzz hTI hTO h1 h2 p1.isList p2.isList hend fun h' hk' => wpAny_pure (wrap h' hk')
    · exact wpAny_pyNext_zip_end_held hh D hzz hT hTI h1 h2 p1.isList p2.isList hend fun h' hk' => wpAny_pure (wrap h' fun c o c1 _ c3 c4 q => hk' c o c1 c3 c4 q)
  | succ k ih =>
    intro i s H acc hk hi I hf st q1 q2 hS ok n1 n2 fin
    have hlt : i < n := by omega
    obtain ⟨its, rv, p1, _⟩ := I.list q1
    obtain ⟨its2, rv2, p2, _⟩ := I.list q2
    have ⟨hTI, h1, h2, alt⟩ := st
    have hx1 : i < xs.length := by omega
    have hy1 : i < ys.length := by omega
    have hx := List.getElem?_eq_getElem hx1
    have hy := List.getElem?_eq_getElem hy1
    obtain ⟨u, hu, ru⟩ := rv.get hx
    obtain ⟨u2, hu2, ru2⟩ := rv2.get hy
    have hnew : H s.heap.objs.size = none := I.hok.fresh (Nat.le_refl _)
    obtain ⟨zS, itS, nS, rS, lS, eS⟩ := I.lstM hS
    have hSlt : S < s.heap.objs.size := Heap.lt_size eS
    have hSne : ∀ c ∈ [z, TI, TO, i1, i2], S ≠ c := fun c hc q => by
      have := (hf c hc).1
      rw [← q, hS] at this
      cases this
    refine codeAny_builtin F.entry_extend_loop ?_
    rw [Around.under_plainId F.plain_extend_loop _]
    show wpAny (model X.prog X.w) A.in1 (pyNext (.ref z) >>= _) _ _ s
    refine wpAny_bind ?_
    have flt : ∀ c ∈ [z, TI, TO, i1, i2], c < s.heap.objs.size := fun c hc => by
      simp only [List.mem_cons, List.not_mem_nil, or_false] at hc
      rcases hc with q | q | q | q | q
      · rw [q]; rcases alt with ⟨a, _⟩ | ⟨_, _, _, _, a, _⟩ <;> exact Heap.lt_size a
      · rw [q]; exact Heap.lt_size hTI
      · rw [q]
        rcases alt with ⟨_, a, b, w⟩ | ⟨T, f, oT, oO, a, _, _, _, _, _, w⟩
        · exact Heap.lt_size w
        · exact Heap.lt_size w
      · rw [q]; obtain ⟨_, w, _⟩ := h1; exact Heap.lt_size w
      · rw [q]; obtain ⟨_, w, _⟩ := h2; exact Heap.lt_size w
    have go : ∀ h' : Heap, (∃ T f oT oO, IsZipHeld h' z TI TO T f ∧ h'.get? T = some oT ∧ T ≠ z ∧ T ≠ i1 ∧ T ≠ i2 ∧ T ≠ S ∧ h'.get? TO = some oO) → IsPair h' TI (.ref i1) (.ref i2) → h'.IsListIter i1 l1 (i + 1) → h'.IsListIter i2 l2 (i + 1) → IsPair h' s.heap.objs.size u u2 → h'.objs.size = s.heap.objs.size + 1 →
        (∀ c o, c ≠ z → c ≠ TO → c ≠ i1 → c ≠ i2 → s.heap.get? c = some o → h'.get? c = some o) →
        wpAny (model X.prog X.w) A.in1 (updateSeq S (·.push (.ref s.heap.objs.size)) >>= fun _ => again (.builtin "list.extend.loop" ⟨[.ref S, .ref z, res], []⟩)) (fun fin s' => match fin with | .done f => R (.ok f) s' | .again c' => c'.quiet = true ∧ codeAny (model X.prog X.w) A c' R s') (fun e s' => R (.error e) s') { s with heap := h' } := by
      intro h' held tI g1 g2 pr hsz keep
      have new : ObjOk X.prog X.w (upd H s.heap.objs.size (.tup [xs[i], ys[i]])) h' s.heap.objs.size (.tup [xs[i], ys[i]]) :=
        ⟨by show 2 ≤ sizeLine; decide, [u, u2], .cons ru (.cons ru2 .nil), ⟨_, pr, rfl, _, rfl⟩⟩
      have I1 : Inv X pins σ (upd H s.heap.objs.size (.tup [xs[i], ys[i]])) { s with heap := h' } :=
        I.turnedNew (t' := s.toks) (ch := [z, TI, TO, i1, i2]) (fun c o hb q => keep c o (fun w => hb (by simp [w])) (fun w => hb (by simp [w])) (fun w => hb (by simp [w])) (fun w => hb (by simp [w])) q) hf (Nat.le_refl _) new
      have hS1 : upd H s.heap.objs.size (.tup [xs[i], ys[i]]) S = some (.lst acc) := by rw [upd_ne (Nat.ne_of_lt hSlt)]; exact hS
      obtain ⟨z1, itS1, nS1, rS1, lS1, eS1⟩ := I1.lstM hS1
      have hsize : itS1.length = i := by rw [← lS1]; exact ok.1
      refine wpAny_bind ?_
      have okT := ok.push hnew hx hy
      have accl := ok.1
      refine wpAny_updateSeq eS1 rfl (wpAny_pure ⟨plainId_quiet F.plain_extend_loop _, ?_⟩) (by rw [List.size_toArray]; omega) (by show (itS1.toArray.push _).size ≤ sizeLine + 1; rw [Array.size_push, List.size_toArray]; omega)
      have I2 := I1.lset (ys := acc ++ [.ref s.heap.objs.size]) (its' := itS1 ++ [.ref s.heap.objs.size]) (f := (·.push (.ref s.heap.objs.size))) (t' := s.toks) hS1 eS1 (by simp) (rS1.append (.cons (show RelV (V.ref s.heap.objs.size) (Value.ref s.heap.objs.size) from rfl) .nil)) (by rw [List.length_append, List.length_singleton]; omega)
      have oth : ∀ c o, c ≠ S → h'.get? c = some o → (h'.update S (Obj.mapSeq (·.push (.ref s.heap.objs.size)))).get? c = some o := fun c o hc q => (Heap.get?_update_other _ _ (Ne.symm hc)).trans q
      have nz : ∀ c ∈ [z, TI, TO, i1, i2], c ≠ S := fun c hc => Ne.symm (hSne c hc)
      have kp : ∀ b o, b ≠ S → H b = some o → upd (upd H s.heap.objs.size (.tup [xs[i], ys[i]])) S (.lst (acc ++ [.ref s.heap.objs.size])) b = some o := fun b o hb q => by
        rw [upd_ne hb, upd_ne (ne_of_none q hnew)]
        exact q
      refine ih (i + 1) _ _ (acc ++ [.ref s.heap.objs.size]) (by omega) hlt I2 (fun c hc => ?_) ?_ ?_ ?_ upd_same ?_ n1 n2 fun s' H' acc' J a b c => fin s' H' acc' J a b fun b' o hb q => c b' o hb (kp b' o hb q)
      · refine ⟨?_, (hf c hc).2⟩
        rw [upd_ne (nz c hc), upd_ne (Nat.ne_of_lt (flt c hc))]
        exact (hf c hc).1
      · obtain ⟨T, f, oT, oO, w1, w2, w3, w4, w5, w6, w7⟩ := held
        exact ⟨oth _ _ (nz _ (by simp)) tI, g1.at fun o q => oth _ o (nz _ (by simp)) q, g2.at fun o q => oth _ o (nz _ (by simp)) q, .inr ⟨T, f, oT, oO, oth _ _ (nz _ (by simp)) w1, oth _ _ w6 w2, w3, w4, w5, w6, oth _ _ (nz _ (by simp)) w7⟩⟩
      · exact q1.but n1 kp
      · exact q2.but n2 kp
      · refine okT.mono fun T vs q => ?_
        rw [upd_ne fun w => by rw [w, hS1] at q; cases q]
        exact q
    rcases alt with ⟨hzz, a, b, hTO⟩ | ⟨T, f, oT, oO, hzz, hT, w1, w2, w3, w4, w5⟩
    · refine wpAny_pyNext_zip_item D hzz hTI hTO h1 h2 p1.isList p2.isList (x := u) (y := u2) (by simpa using hu) (by simpa using hu2) fun h' a1 a2 a3 a4 a5 a6 hk' => ?_
      exact go h' ⟨_, false, _, _, a1, a5, Nat.ne_of_gt (flt z (by simp)), Nat.ne_of_gt (flt i1 (by simp)), Nat.ne_of_gt (flt i2 (by simp)), Nat.ne_of_gt hSlt, a2⟩ (hk' _ _ D.TIz D.TITO D.TIi1 D.TIi2 hTI) a3 a4 a5 a6 hk'
    · refine wpAny_pyNext_zip_item_held D hzz hT hTI h1 h2 p1.isList p2.isList (x := u) (y := u2) (by simpa using hu) (by simpa using hu2) fun h' a1 a3 a4 a5 a6 hk' => ?_
      exact go h' ⟨T, true, oT, oO, a1, hk' _ _ w1 w2 w3 hT, w1, w2, w3, w4, hk' _ _ D.TOz D.TOi1 D.TOi2 w5⟩ (hk' _ _ D.TIz D.TIi1 D.TIi2 hTI) a3 a4 a5 a6 fun c o c1 _ c3 c4 q => hk' c o c1 c3 c4 q
/-- list(it): up to the loop over what it gives -/
theorem list_of_zip {A : Around} {s : Shared} {z TI TO : Addr} {f0 : Value} {Q : Value → Shared → Prop} {E : Value → Shared → Prop} (hz : IsZip s.heap z TI TO f0)
    (go : ∀ h1 c, h1.get? s.heap.objs.size = some { cls := .type "list", data := .seq #[] c } → (∀ b o, b ≠ s.heap.objs.size → s.heap.get? b = some o → h1.get? b = some o) →
      codeAny (model X.prog X.w) A.in1 (.builtin "list.extend.loop" ⟨[.ref s.heap.objs.size, .ref z, .none], []⟩) (wants (fun r s₂ => r = .none ∧ Q (.ref s.heap.objs.size) s₂) E) { s with heap := h1 }) :
    wpAny (model X.prog X.w) A (call (.type "list") [.ref z]) Q E s := by
  have zlt : z < s.heap.objs.size := Heap.lt_size hz
  refine callType_codes (Q₁ := fun ob t => ob = .ref s.heap.objs.size ∧ t = { s with heap := s.heap.push { cls := .type "list", data := .seq #[] } }) F.called_list (F.typeCall_list_1 _) F.entry_list_init
    (code_list_new _ ⟨rfl, rfl⟩) fun ob t ht => ?_
  obtain ⟨e1, e2⟩ := ht
  subst e1 e2
  have h0 : (s.heap.push { cls := .type "list", data := .seq #[] }).get? s.heap.objs.size = some { cls := .type "list", data := .seq #[] } := Heap.get?_push_size _ rfl
  refine ⟨⟨_, h0, rfl⟩, F.args_list_init_2 _ _, ?_⟩
  show wpAny _ _ (do let old ← Builtin.List.listItems (.ref s.heap.objs.size); Builtin.List.listUpdate (.ref s.heap.objs.size) (fun _ => #[]); letGo old.toList.reverse; Builtin.List.listExtendWith (.ref s.heap.objs.size) (.ref z) .none) _ _ _
  refine wpAny_bind ?_
  unfold Builtin.List.listItems
  refine wpAny_bind (wpAny_seqItems h0 rfl (wpAny_pure ?_))
  show wpAny _ _ (updateSeq s.heap.objs.size (fun _ => #[]) >>= fun _ => letGo [] >>= fun _ => Builtin.List.listExtendWith (.ref s.heap.objs.size) (.ref z) .none) _ _ _
  refine wpAny_bind (wpAny_updateSeq h0 rfl ?_)
  have h2 := Heap.get?_update_self (Obj.mapSeq (fun _ => (#[] : Array Value))) h0 rfl
  refine wpAny_bind (wpAny_letGo ?_)
  have o2 : ∀ b o, b ≠ s.heap.objs.size → s.heap.get? b = some o → ((s.heap.push { cls := .type "list", data := .seq #[] }).update s.heap.objs.size (Obj.mapSeq fun _ => #[])).get? b = some o := fun b o hb q =>
    (Heap.get?_update_other _ _ (Ne.symm hb)).trans (Heap.get?_push_of_some _ q)
  have zz := o2 _ _ (Nat.ne_of_lt zlt) hz
  generalize (s.heap.push { cls := .type "list", data := .seq #[] }).update s.heap.objs.size (Obj.mapSeq fun _ => #[]) = hA at *
  have hT : Shared.TypeIs { s with heap := hA } (.ref z) "zip" := ⟨_, zz, rfl⟩
  unfold Builtin.List.listExtendWith
  refine wpAny_bind (wpAny_typeOf hT ?_)
  have b1 : Builtin.List.listSameRef (.ref s.heap.objs.size) (.ref z) = false := by simp [Builtin.List.listSameRef, Nat.ne_of_gt zlt]
  have b2 : (Value.type "zip" == Value.type "list") = false := by decide
  have b3 : (Value.type "zip" == Value.type "tuple") = false := by decide
  simp only [b1, b2, b3, Bool.or_false, Bool.false_eq_true, if_false]
  refine wpAny_bind (wpAny_pyIter_zip zz ?_)
  refine wpAny_bind (wpAny_holding ?_)
  unfold Builtin.List.listLengthHint
  refine wpAny_bind (wpAny_specialOf hT zip_nolen ?_)
  show wpAny _ _ (specialOf (Value.ref z) (Str.ofString "__length_hint__") >>= _) _ _ _
  refine wpAny_bind (wpAny_specialOf hT zip_nohint ?_)
  refine wpAny_pure ?_
  show wpAny _ _ (rule "list.extend.makes-room" >>= fun _ => Builtin.List.listTouch (.ref s.heap.objs.size) >>= fun _ =>
    again (.builtin "list.extend.loop" ⟨[.ref s.heap.objs.size, .ref z, .none], []⟩)) _ _ _
  refine wpAny_bind (wpAny_rule ?_)
  refine wpAny_bind ?_
  show wpAny _ _ (updateSeq s.heap.objs.size (·.push .none) >>= fun _ => updateSeq s.heap.objs.size (·.pop)) _ _ _
  refine wpAny_bind (wpAny_updateSeq h2 rfl ?_)
  have h3 := Heap.get?_update_self (Obj.mapSeq (·.push Value.none)) h2 rfl
  refine wpAny_updateSeq (hz := by seq_fits) h3 rfl ?_
  have h4 := Heap.get?_update_self (Obj.mapSeq (·.pop)) h3 rfl
  refine wpAny_pure ⟨plainId_quiet F.plain_extend_loop _, go _ _ h4 fun b o hb q => ?_⟩
  exact (Heap.get?_update_other _ _ (Ne.symm hb)).trans ((Heap.get?_update_other _ _ (Ne.symm hb)).trans (o2 b o hb q))
def tLz (K : Fr) (ta : TA) : TE := fun σ H Q => ta σ H fun vs H1 => ∃ a b xs ys, vs = [.ref a, .ref b] ∧ SqL K H1 a xs ∧ SqL K H1 b ys ∧ min xs.length ys.length ≤ sizeLine ∧
  ∀ S H2 acc, H1 S = none → (∀ b o, H1 b = some o → H2 b = some o) → H2 S = some (.lst acc) → LzOk H2 xs ys acc (min xs.length ys.length) → Q (.ref S) H2
theorem pe_listZip {e e2 : Expr} {ta : TA} {p p2 pos pos2 : Pos} (hc : X.calm = true) (gl : Gl X "list") (ml : X.mg "list" = none) (gz : Gl X "zip") (mz : X.mg "zip" = none) (ha : PA X [e, e2] ta)
    (na : starEach [.Call (.Name "zip" p2) [e, e2] [] pos2] X.env = (false, eval (.Call (.Name "zip" p2) [e, e2] [] pos2) X.env) :: starEach [] X.env := by rfl)
    (hs : starEach [e, e2] X.env = (false, eval e X.env) :: starEach [e2] X.env := by rfl) (hpl : (backTo pos2 (starEach [e2] X.env)).any (·.1) = false := by rfl) :
    PE X (.Call (.Name "list" p) [.Call (.Name "zip" p2) [e, e2] [] pos2] [] pos) (tLz X.K ta) := by
  refine ⟨fun pins s σ H Q I h => ?_⟩
  refine Call_ (ld_blt I gl ml boot_list (PyProof.Rows.callWith_type1 (args_cons ?_ na) na))
  refine Call_ (ld_blt I gz mz PyProof.Rows.boot_zip (PyProof.Rows.callWith_type1 (thn (ha.run pos2 pins s σ H _ I h) fun us s1 ⟨vs, H1, I1, r1, q1⟩ => ?_) hs hpl))
  obtain ⟨a, b, xs, ys, ex, hqx, hqy, hz, q⟩ := q1
  subst ex
  cases r1 with
  | cons r rr =>
  cases rr with
  | cons r' rr =>
  cases rr
  cases r
  cases r'
  obtain ⟨its, rv, p1, _⟩ := I1.list hqx
  obtain ⟨its2, rv2, p2, _⟩ := I1.list hqy
  have new : ∀ c, c ∈ [s1.heap.objs.size + 4, s1.heap.objs.size + 2, s1.heap.objs.size + 3, s1.heap.objs.size, s1.heap.objs.size + 1] → s1.heap.objs.size ≤ c ∧ c < s1.heap.objs.size + 5 := fun c hcm => by
    simp only [List.mem_cons, List.not_mem_nil, or_false] at hcm
    rcases hcm with z | z | z | z | z <;> (subst z; constructor) <;> first | exact Nat.le_add_right _ _ | exact Nat.le_refl _ | (apply Nat.add_lt_add_left; decide) | exact Nat.lt_add_of_pos_right (by decide)
  refine call_zip_2 p1.isList p2.isList fun h' hzz hTI hTO h1 h2 hsz hk => args_nil ?_
  have I2 : Inv X pins σ H1 { s1 with heap := h' } := I1.kept (t' := s1.toks) hk
  refine list_of_zip (X := X) hzz fun hL c eL oL => ?_
  have D := PySem.W.ktu_apart s1.heap.objs.size a b p1.lt p2.lt
  have nS : ∀ c ∈ [s1.heap.objs.size + 4, s1.heap.objs.size + 2, s1.heap.objs.size + 3, s1.heap.objs.size, s1.heap.objs.size + 1], c ≠ h'.objs.size := fun c hcm => by
    rw [hsz]
    exact Nat.ne_of_lt (new c hcm).2
  have I3 : Inv X pins σ (upd H1 h'.objs.size (.lst [])) { s1 with heap := hL } :=
    I2.laid (a := h'.objs.size) (t' := s1.toks) (fun b o e => oL b o (Nat.ne_of_lt (Heap.lt_size e)) e) (Nat.le_refl _) ⟨Nat.zero_le _, [], c, .nil, eL⟩
  have fS : H1 h'.objs.size = none := I2.hok.fresh (Nat.le_refl _)
  have al : a ≠ h'.objs.size := by rw [hsz]; exact Nat.ne_of_lt (Nat.lt_of_lt_of_le p1.lt (Nat.le_add_right _ _))
  have bl : b ≠ h'.objs.size := by rw [hsz]; exact Nat.ne_of_lt (Nat.lt_of_lt_of_le p2.lt (Nat.le_add_right _ _))
  have kp : ∀ b o, b ≠ h'.objs.size → H1 b = some o → upd H1 h'.objs.size (.lst []) b = some o := fun b o hb e => by rw [upd_ne hb]; exact e
  refine lz_loop (X := X) (pins := pins) (σ := σ) (S := h'.objs.size) (xs := xs) (ys := ys) (A := X.A.in1) (I2.ok.hd hc) D rfl hz (min xs.length ys.length) 0 _ _ [] (by simp) (Nat.zero_le _) I3 (fun c hcm => ?_)
    ⟨oL _ _ (nS _ (by simp)) hTI, h1.at fun o e => oL _ o (nS _ (by simp)) e, h2.at fun o e => oL _ o (nS _ (by simp)) e, .inl ⟨oL _ _ (nS _ (by simp)) hzz, _, _, oL _ _ (nS _ (by simp)) hTO⟩⟩
    (hqx.but al kp) (hqy.but bl kp) upd_same ⟨rfl, fun j hj => absurd hj (Nat.not_lt_zero _)⟩ al bl fun s' H' acc' J hS' ok kk => ?_
  · exact I1.fpOk (new c hcm).1 (by rw [upd_ne (nS c hcm)]; exact I1.hok.fresh (new c hcm).1)
  · refine ⟨rfl, .ref h'.objs.size, H', J, rfl, q _ H' acc' fS (fun b o e => ?_) hS' ok⟩
    exact kk b o (fun z => by subst z; rw [fS] at e; cases e) (kp b o (fun z => by subst z; rw [fS] at e; cases e) e)
end
theorem Rl.of_get {K : Fr} {H : Hp} : ∀ {ds : List D} {vs : List V}, vs.length = ds.length → (∀ (j : Nat) (d : D) (v : V), ds[j]? = some d → vs[j]? = some v → R K H d v) → Rl K H ds vs
  | [], [], _, _ => rfl
  | [], _ :: _, h, _ => by simp at h
  | _ :: _, [], h, _ => by simp at h
  | d :: ds, v :: vs, h, f => ⟨v, vs, rfl, f 0 d v rfl rfl, Rl.of_get (by simpa using h) fun j d v a b => f (j + 1) d v (by simpa using a) (by simpa using b)⟩
def lzD : List D → Res D
  | [.lst xs, .lst ys] => if min xs.length ys.length ≤ sizeLine then .ok (.lst ((xs.zip ys).map fun p => .tup [p.1, p.2])) else .bad
  | _ => .bad
section
variable {X : Cx} {H0 : Hp} {Z : Zt} {W : WX} {ω ωr : List Sh} {τr : Sh} {pos : Pos}
theorem px_lzip {e e2 : Expr} {fa : Env → Res (List D)} {p p2 pos2 : Pos} (hc : X.calm = true) (gl : Gl X "list") (ml : X.mg "list" = none) (gz : Gl X "zip") (mz : X.mg "zip" = none) (ha : PAX X H0 Z W ω [e, e2] fa)
    (na : starEach [.Call (.Name "zip" p2) [e, e2] [] pos2] X.env = (false, eval (.Call (.Name "zip" p2) [e, e2] [] pos2) X.env) :: starEach [] X.env := by rfl)
    (hs : starEach [e, e2] X.env = (false, eval e X.env) :: starEach [e2] X.env := by rfl) (hpl : (backTo pos2 (starEach [e2] X.env)).any (·.1) = false := by rfl) :
    PX X H0 Z W ω (.Call (.Name "list" p) [.Call (.Name "zip" p2) [e, e2] [] pos2] [] pos) (callF fa lzD) (.own .fz) := by
  obtain ⟨ta, pa, sa⟩ := ha
  refine ⟨_, pe_listZip hc gl ml gz mz pa na hs hpl, fun ρ σ H Q sr ps => ?_⟩
  refine sa ρ σ H _ sr ((Post.bind.mp ps).mono (fun ds q vs H1 x l => ?_) fun _ h => h)
  match ds, q, l with
  | [.lst xs, .lst ys], q, ⟨v, r, e1, ⟨a, us, ev, f, z, l1⟩, v2, r2, e2, ⟨b, us2, ev2, f2, z2, l2⟩, t⟩ =>
    obtain ⟨c, q⟩ := Post.ite q
    refine ⟨a, b, us, us2, by rw [e1, e2, ev, ev2, show r2 = [] from t], f.sq, f2.sq, by rw [l1.length, l2.length]; exact c, fun S H2 acc hS k eS ok => ?_⟩
    have x2 : Ext H1 H2 := ⟨fun b o e _ => k b o e, TabK.of fun b o e _ => k b o e⟩
    have len : acc.length = min xs.length ys.length := by rw [ok.1, l1.length, l2.length]
    refine q (.ref S) H2 ⟨x.trans x2, [S], ⟨_, S, acc, [], rfl, rfl, eS, by rw [len]; exact c, rfl, All3.of_rl ?_⟩, fun a' ha' => ?_, by simp⟩
    · refine Rl.of_get (by rw [List.length_map, List.length_zip, len]) fun j d v hd hv => ?_
      have hj : j < min us.length us2.length := by
        have := (List.getElem?_eq_some_iff.mp hv).1
        rw [ok.1] at this
        exact this
      obtain ⟨T, x0, y0, t1, t2, t3, t4⟩ := ok.2 j hj
      rw [hv] at t1
      cases t1
      rw [List.getElem?_map] at hd
      obtain ⟨d1, g1, r1⟩ := l1.at t3
      obtain ⟨d2, g2, r2'⟩ := l2.at t4
      have hzip : (xs.zip ys)[j]? = some (d1, d2) := List.getElem?_zip_eq_some.mpr ⟨g1, g2⟩
      rw [hzip] at hd
      cases hd
      exact ⟨T, [x0, y0], rfl, t2, by show 2 ≤ sizeLine; decide, x0, [y0], rfl, r1.ext x2, y0, [], rfl, r2'.ext x2, rfl⟩
    · rw [List.mem_singleton] at ha'
      subst ha'
      exact (Fre.of hS).back x
end
section
@[simp] theorem lzD_lst {xs ys : List D} (h : min xs.length ys.length ≤ 1000) : lzD [.lst xs, .lst ys] = .ok (.lst ((xs.zip ys).map fun p => .tup [p.1, p.2])) := if_pos (sz9 (by omega))
end
end Mr

namespace Mr
variable [TabsOf]
open PySem PySem.Spec PyProof.Rows L2
open Res

theorem Got.then {K : Fr} {H H1 H2 : Hp} {τ : Sh} {d : D} {v : V} (g : Got K H τ d v H1) (x : Ext H1 H2) : Got K H τ d v H2 := by
  obtain ⟨e, fp, r, f, n⟩ := g
  exact ⟨e.trans x, fp, r.ext x, f, n⟩
theorem Rl.setR {K : Fr} {H : Hp} {d : D} {v : V} : ∀ {ds : List D} {vs : List V} (k : Nat), Rl K H ds vs → R K H d v → Rl K H (ds.set k d) (vs.set k v)
  | [], _, _, h, _ => by rw [show _ = [] from h]; rfl
  | e :: ds, _, 0, ⟨u, r, q, h, t⟩, hd => by subst q; exact ⟨v, r, rfl, hd, t⟩
  | e :: ds, _, k + 1, ⟨u, r, q, h, t⟩, hd => by subst q; exact ⟨u, r.set k v, rfl, h, Rl.setR k t hd⟩
/-! ## item k of an own list is another one -/
theorem SR.setAt {K : Fr} {H H0 H1 : Hp} {Z : Zt} {τ : Sh} {ω : List Sh} {ρ : Env} {σ : Sg} {i : Nat} {d : D} {v : V} (sr : SR K H0 Z ω ρ σ H) (hω : ω[i]? = some (.own τ)) (g : Got K H τ d v H1) :
    ∃ ds a vs, gv ρ i = .lst ds ∧ σ[i]? = some (some (.ref a)) ∧ H1 a = some (.lst vs) ∧ vs.length = ds.length ∧
      ∀ k, k < ds.length → KeepF H (upd H1 a (.lst (vs.set k v))) ∧ SR K H0 Z ω (ρ.set i (.lst (ds.set k d))) σ (upd H1 a (.lst (vs.set k v))) := by
  obtain ⟨d0, s0, f0, e1, e2, sl, nd, fr, go⟩ := sr.focus i hω
  rcases sl with ⟨z, _⟩ | ⟨v0, e3, ro⟩
  · cases z
  subst e3
  obtain ⟨ds, a, vs, fps, ed, ev, eH, hz, efp, al⟩ := ro
  subst ed ev efp
  obtain ⟨x1, fpv, rv, frv, ndv⟩ := g
  have eH1 : H1 a = some (.lst vs) := x1 _ _ eH fun ps h => by cases h
  refine ⟨ds, a, vs, gv_is e1, e2, eH1, al.length, fun k hk => ?_⟩
  have nd' := List.nodup_cons.mp nd
  have k2 : KeepF H1 (upd H1 a (.lst (vs.set k v))) := keepF_upd eH1 fun h => h
  have disj : ∀ b ∈ a :: fps, b ∉ fpv := fun b hb hv => by
    obtain ⟨o, eo, po⟩ := RO.open (.own τ) (show RO K H (.own τ) (.lst ds) (.ref a) (a :: fps) from ⟨ds, a, vs, fps, rfl, rfl, eH, hz, rfl, al⟩) b hb
    obtain ⟨ps, z⟩ := frv b hv o eo
    exact po.ntbl ps z
  obtain ⟨v1, A, f, B, q1, q2, q3, go2⟩ := All3.focus (Q := RO K (upd H1 a (.lst (vs.set k v))) τ) k al (List.getElem?_eq_getElem hk)
  subst q2
  have rv2 : RO K (upd H1 a (.lst (vs.set k v))) τ d v fpv := RO.keep k2 τ rv fun b hb => upd_ne fun z => disj a (by simp) (z ▸ hb)
  have al2 := go2 d v fpv (fun d v g hg r => RO.keep k2 τ (r.ext x1) fun b hb => upd_ne fun z => nd'.1 (z ▸ (by
    rcases List.mem_append.mp (hg b hb) with h | h <;> simp [h]))) rv2
  have n1 := List.nodup_append.mp nd'.2
  have n2 := List.nodup_append.mp n1.2.1
  have sr' := go (upd H1 a (.lst (vs.set k v))) (.own τ) (.lst (ds.set k d)) (some (.ref a)) (a :: (A ++ (fpv ++ B))) (x1.keepF.trans k2) (fun b o e nb t => by
      rw [upd_ne fun z => nb (by simp [z])]
      exact x1 b o e t) (x1.tab.trans (TabK.upd eH1 trivial)) (.inr ⟨_, rfl, ds.set k d, a, vs.set k v, _, rfl, rfl, upd_same, by rw [List.length_set]; exact hz, rfl, al2⟩)
    (by
      rw [List.nodup_cons]
      refine ⟨fun h => ?_, List.nodup_append.mpr ⟨n1.1, List.nodup_append.mpr ⟨ndv, n2.2.1, fun b hb b' hb' e => disj b' (by simp [hb']) (e ▸ hb)⟩, fun b hb b' hb' e => ?_⟩⟩
      · rcases List.mem_append.mp h with h | h
        · exact nd'.1 (by simp [h])
        · rcases List.mem_append.mp h with h | h
          · exact disj a (by simp) h
          · exact nd'.1 (by simp [h])
      · subst e
        rcases List.mem_append.mp hb' with h | h
        · exact disj b (by simp [hb]) h
        · exact n1.2.2 b hb b (by simp [h]) rfl) fun b hb => by
    rcases List.mem_cons.mp hb with h | h
    · exact .inl (by simp [h])
    · rcases List.mem_append.mp h with h | h
      · exact .inl (by simp [h])
      · rcases List.mem_append.mp h with h | h
        · exact .inr (frv b h)
        · exact .inl (by simp [h])
  rw [set_same hω, set_same e2] at sr'
  exact ⟨x1.keepF.trans k2, sr'⟩
/-- xs[y] = d, of xs = z -/
def lputK (i : Nat) (ρ : Env) (d y : D) : D → Res Env
  | .lst ds => match y with
    | .int j => match ixN ds.length j with
      | some k => .ok (ρ.set i (.lst (ds.set k d)))
      | none => .bad
    | _ => .bad
  | _ => .bad
theorem lputK_ne (i : Nat) (ρ : Env) (d y z : D) (c : Str) : lputK i ρ d y z ≠ .ex c := by
  unfold lputK
  repeat' split
  all_goals (intro h; cases h)
def lputK3 (i : Nat) (ρ : Env) (d y : D) : Res Fl := (lputK i ρ d y (gv ρ i)).bind nxK
def lputK2 (i : Nat) (fk : Env → Res D) (ρ : Env) (d : D) : Res Fl := (fk ρ).bind (lputK3 i ρ d)
def lputF (i : Nat) (fk fv : Env → Res D) (ρ : Env) : Res Fl := (fv ρ).bind (lputK2 i fk ρ)
section
variable {X : Cx} {H0 : Hp} {Z : Zt} {W : WX} {ω ωr : List Sh} {τr : Sh} {pos : Pos}
theorem sx_lput (i : Nat) {τ : Sh} {x : Str} {p pos' : Pos} {ek ev : Expr} {fk fv : Env → Res D} (hk : PX X H0 Z W ω ek fk .fz) (he : PX X H0 Z W ω ev fv τ) (hN : X.N[i]? = some x := by rfl) (hω : ω[i]? = some (.own τ) := by rfl) (hv : Vis X.env.scope x := by first | exact Or.inl rfl | exact Or.inr (Or.inl rfl) | exact Or.inr (Or.inr rfl)) (hd : (x == ("__debug__" : Str)) = false := by decide)
    (hcd : (x == ("__classdict__" : Str)) = false := by decide)
    (ha : ∀ v, assign (.Subscript (.Name x p) ek pos') X.env v = (do
      let ov ← holding [v] (eval (.Name x p) X.env)
      let iv ← holding [v, ov] (eval ek X.env)
      standAt pos'
      holding [v, ov, iv] (setItem ov iv v)
      release [v, ov, iv] []) := by intro _; rfl)
    (hs : swapsWithSole [.Subscript (.Name x p) ek pos'] ev pos.line X.env = pure false := by rfl) (hw : swappedStores [.Subscript (.Name x p) ek pos'] ev X.env = pure none := by rfl)
    (h1 : (assignEach [.Subscript (.Name x p) ek pos'] X.env).map (·.2) = [assign (.Subscript (.Name x p) ek pos') X.env] := by rfl) :
    SX X H0 Z W ω ω ωr τr (.Assign [.Subscript (.Name x p) ek pos'] ev pos) (lputF i fk fv) := by
  obtain ⟨tk, pk, sk⟩ := hk
  obtain ⟨tv, pv, sv⟩ := he
  refine ⟨_, ps_asg pv (pg_sub (pe_var hN hv hd hcd) pk set_list ha) hs hw h1, fun ρ σ H Dn sr ps => ?_⟩
  refine sv ρ σ H _ sr ((Post.bind.mp ps).mono (fun d q v H1 g => ?_) fun _ h => h)
  obtain ⟨_, a0, _, _, e2, _, _, _⟩ := sr.setAt hω g
  refine ⟨.ref a0, e2, ?_⟩
  refine sk ρ σ H1 _ (sr.mono g.ext) ((Post.bind.mp q).mono (fun y q u H2 g2 => ?_) fun _ h => h)
  obtain ⟨ds, a, vs, eg, e2', eH, hl, go⟩ := sr.setAt hω (g.then g2.ext)
  rw [e2] at e2'
  cases e2'
  unfold lputK3 at q
  rw [eg] at q
  cases y <;> first | exact q.elim | skip
  rename_i j
  unfold lputK at q
  dsimp only at q
  cases ek' : ixN ds.length j with
  | none => rw [ek'] at q; exact q.elim
  | some k =>
    rw [ek'] at q
    simp only [ok_bind] at q
    have hk : k < ds.length := (ixN_seq ek').2.1
    obtain ⟨k3, sr3⟩ := go k hk
    exact ⟨a0, vs, j, k, rfl, g2.r, eH, by rw [hl]; exact ek', q σ _ k3 sr3⟩
/-! ### xs[i], xs[j] = a, b -/
def lput2K4 (i : Nat) (fj : Env → Res D) (d2 : D) (ρ : Env) : Res Fl := (fj ρ).bind (lputK3 i ρ d2)
def lput2K3 (i : Nat) (fj : Env → Res D) (ρ : Env) (d1 d2 y : D) : Res Fl := (lputK i ρ d1 y (gv ρ i)).bind (lput2K4 i fj d2)
def lput2K2 (i : Nat) (fi fj : Env → Res D) (ρ : Env) (d1 d2 : D) : Res Fl := (fi ρ).bind (lput2K3 i fj ρ d1 d2)
def lput2K1 (i : Nat) (fi fj fb : Env → Res D) (ρ : Env) (d1 : D) : Res Fl := (fb ρ).bind (lput2K2 i fi fj ρ d1)
def lput2F (i : Nat) (fi fj fa fb : Env → Res D) (ρ : Env) : Res Fl := (fa ρ).bind (lput2K1 i fi fj fb ρ)
theorem sx_lput2 (i : Nat) {x : Str} {p p' q1 q2 pt pt2 : Pos} {kt k2} {ei ej ea eb : Expr} {fi fj fa fb : Env → Res D} (hc : X.calm = true) (hi : PX X H0 Z W ω ei fi .fz) (hj : PX X H0 Z W ω ej fj .fz) (ha : PX X H0 Z W ω ea fa .fz) (hb : PX X H0 Z W ω eb fb .fz) (hN : X.N[i]? = some x := by rfl) (hω : ω[i]? = some (.own .fz) := by rfl) (hv : Vis X.env.scope x := by first | exact Or.inl rfl | exact Or.inr (Or.inl rfl) | exact Or.inr (Or.inr rfl)) (hd : (x == ("__debug__" : Str)) = false := by decide)
    (hcd : (x == ("__classdict__" : Str)) = false := by decide)
    (has1 : ∀ v, assign (.Subscript (.Name x p) ei q1) X.env v = (do
      let ov ← holding [v] (eval (.Name x p) X.env)
      let iv ← holding [v, ov] (eval ei X.env)
      standAt q1
      holding [v, ov, iv] (setItem ov iv v)
      release [v, ov, iv] []) := by intro _; rfl)
    (has2 : ∀ v, assign (.Subscript (.Name x p') ej q2) X.env v = (do
      let ov ← holding [v] (eval (.Name x p') X.env)
      let iv ← holding [v, ov] (eval ej X.env)
      standAt q2
      holding [v, ov, iv] (setItem ov iv v)
      release [v, ov, iv] []) := by intro _; rfl)
    (hs1 : starEach [ea, eb] X.env = (false, eval ea X.env) :: starEach [eb] X.env := by rfl) (hs2 : starEach [eb] X.env = (false, eval eb X.env) :: starEach [] X.env := by rfl)
    (ht1 : (assignEach [.Subscript (.Name x p) ei q1, .Subscript (.Name x p') ej q2] X.env).map (·.2) = assign (.Subscript (.Name x p) ei q1) X.env :: (assignEach [.Subscript (.Name x p') ej q2] X.env).map (·.2) := by rfl) (ht2 : (assignEach [.Subscript (.Name x p') ej q2] X.env).map (·.2) = assign (.Subscript (.Name x p') ej q2) X.env :: (assignEach [] X.env).map (·.2) := by rfl)
    (hn : (assignEach [.Subscript (.Name x p) ei q1, .Subscript (.Name x p') ej q2] X.env).length = 2 := by rfl) (hst : (assignEach [.Subscript (.Name x p) ei q1, .Subscript (.Name x p') ej q2] X.env).findIdx? (·.1) = none := by rfl)
    (hs : swapsWithSole [.Tuple [.Subscript (.Name x p) ei q1, .Subscript (.Name x p') ej q2] kt pt] (.Tuple [ea, eb] k2 pt2) pos.line X.env = pure false := by rfl) (hw : swappedStores [.Tuple [.Subscript (.Name x p) ei q1, .Subscript (.Name x p') ej q2] kt pt] (.Tuple [ea, eb] k2 pt2) X.env = pure none := by rfl)
    (h1 : (assignEach [.Tuple [.Subscript (.Name x p) ei q1, .Subscript (.Name x p') ej q2] kt pt] X.env).map (·.2) = [assign (.Tuple [.Subscript (.Name x p) ei q1, .Subscript (.Name x p') ej q2] kt pt) X.env] := by rfl) :
    SX X H0 Z W ω ω ωr τr (.Assign [.Tuple [.Subscript (.Name x p) ei q1, .Subscript (.Name x p') ej q2] kt pt] (.Tuple [ea, eb] k2 pt2) pos) (lput2F i fi fj fa fb) := by
  obtain ⟨ti, pi, si⟩ := hi
  obtain ⟨tj, pj, sj⟩ := hj
  obtain ⟨ta, pa, sa⟩ := ha
  obtain ⟨tb, pb, sb⟩ := hb
  refine ⟨_, ps_asg (pe_tup (pa_cons pa (pa_cons pb pa_nil hs2) hs1)) (pg_tup hc (pgs_cons (pg_sub (pe_var hN hv hd hcd) pi set_list has1) (pgs_cons (pg_sub (pe_var hN hv hd hcd) pj set_list has2) pgs_nil ht2) ht1) hn hst) hs hw h1, fun ρ σ H Dn sr ps => ?_⟩
  refine sa ρ σ H _ sr ((Post.bind.mp ps).mono (fun d1 q v1 H1 g1 => ?_) fun _ h => h)
  refine sb ρ σ H1 _ (sr.mono g1.ext) ((Post.bind.mp q).mono (fun d2 q v2 H2 g2 => ?_) fun _ h => h)
  refine ⟨by show 2 ≤ sizeLine; decide, fun t ht => ⟨t, [v1, v2], rfl, .of upd_same, rfl, v1, [v2], rfl, ?_⟩⟩
  have xt : Ext H2 (upd H2 t (.tup [v1, v2])) := Ext.new ht
  generalize upd H2 t (.tup [v1, v2]) = H3 at *
  have sr3 := ((sr.mono g1.ext).mono g2.ext).mono xt
  obtain ⟨ds, a, vs, eg, e2, eH, hz, l, _⟩ := sr3.rewrite hω
  refine ⟨.ref a, e2, ?_⟩
  refine si ρ σ H3 _ sr3 ((Post.bind.mp q).mono (fun y q u H4 g4 => ?_) fun _ h => h)
  unfold lput2K3 at q
  rw [eg] at q
  cases y <;> first | exact q.elim | skip
  rename_i j
  unfold lputK at q
  dsimp only at q
  cases ek : ixN ds.length j with
  | none => rw [ek] at q; exact q.elim
  | some k =>
  rw [ek] at q
  simp only [ok_bind] at q
  obtain ⟨ds', a', vs', eg', e2', eH', hz', l', go'⟩ := (sr3.mono g4.ext).rewrite hω
  rw [eg] at eg'
  cases eg'
  rw [e2] at e2'
  cases e2'
  have r1 := (((g1.r.ext g2.ext).ext xt).ext g4.ext)
  obtain ⟨k5, sr5⟩ := go' H4 (ds.set k d1) (vs'.set k v1) eH' (Ext.refl H4) (by rw [List.length_set]; exact hz') (l'.setR k r1)
  refine ⟨a, vs', j, k, rfl, g4.r, eH', by rw [l'.length]; exact ek, v2, [], rfl, ?_⟩
  generalize ρ.set i (.lst (ds.set k d1)) = ρ5 at *
  generalize upd H4 a (.lst (vs'.set k v1)) = H5 at *
  obtain ⟨ds6, a6, vs6, eg6, e6, eH6, _, _, _⟩ := sr5.rewrite hω
  refine ⟨.ref a6, e6, ?_⟩
  unfold lput2K4 at q
  refine sj ρ5 σ H5 _ sr5 ((Post.bind.mp q).mono (fun y q u2 H7 g7 => ?_) fun _ h => h)
  obtain ⟨ds8, a8, vs8, eg8, e8, eH8, hz8, l8, go8⟩ := (sr5.mono g7.ext).rewrite hω
  rw [e6] at e8
  cases e8
  unfold lputK3 at q
  rw [eg8] at q
  cases y <;> first | exact q.elim | skip
  rename_i j2
  unfold lputK at q
  dsimp only at q
  cases ek2 : ixN ds8.length j2 with
  | none => rw [ek2] at q; exact q.elim
  | some k2 =>
  rw [ek2] at q
  simp only [ok_bind] at q
  have kk : KeepF H2 H7 := ((xt.keepF.trans g4.ext.keepF).trans k5).trans g7.ext.keepF
  obtain ⟨k9, sr9⟩ := go8 H7 (ds8.set k2 d2) (vs8.set k2 v2) eH8 (Ext.refl H7) (by rw [List.length_set]; exact hz8) (l8.setR k2 (R.keep kk _ g2.r))
  exact ⟨a6, vs8, j2, k2, rfl, g7.r, eH8, by rw [l8.length]; exact ek2, rfl, q σ _ (((g1.ext.keepF.trans g2.ext.keepF).trans kk).trans k9) sr9⟩
end
end Mr

namespace Mr
variable [TabsOf]
open PySem PySem.Spec PyProof.Rows L2
open Res

section
variable {X : Cx} {H0 : Hp} {Z : Zt} {W : WX} {ω ωr : List Sh} {τr : Sh} {pos : Pos}
/-! ## xs[j] of an own list of own lists, looked at -/
theorem pv_ixN (i : Nat) {x : Str} {p : Pos} {ei : Expr} {fi : Env → Res D} (hi : PX X H0 Z W ω ei fi .fz) (hs0 : PlainIx ei := by exact fun _ _ => rfl) (hN : X.N[i]? = some x := by rfl) (hω : ω[i]? = some (.own (.own .fz)) := by rfl) (hv : Vis X.env.scope x := by first | exact Or.inl rfl | exact Or.inr (Or.inl rfl) | exact Or.inr (Or.inr rfl)) (hd : (x == ("__debug__" : Str)) = false := by decide)
    (hcd : (x == ("__classdict__" : Str)) = false := by decide) : PVX X H0 Z W ω (.Subscript (.Name x p) ei pos) (op2 ixD (nv i) fi) := by
  obtain ⟨ti, pi, si⟩ := hi
  refine ⟨_, pe_ix ix_seq (pe_var hN hv hd hcd) pi hs0, fun ρ σ H Q sr ps => ?_⟩
  obtain ⟨d0, s0, f0, e1, e2, sl, nd, fr, go⟩ := sr.focus i hω
  rcases sl with ⟨z, _⟩ | ⟨v0, e3, ro⟩
  · cases z
  subst e3
  obtain ⟨ds, a, vs, fps, ed, ev, eH, hz, efp, al⟩ := ro
  subst ed ev
  have eg : gv ρ i = .lst ds := gv_is e1
  refine ⟨.ref a, e2, ?_⟩
  have ps : Post (fun d => ∀ v H', GotV X.K H d v H' → Q v H') (EK X H0 Z W) ((fi ρ).bind (ixD (gv ρ i))) := ps
  rw [eg] at ps
  refine si ρ σ H _ sr ((Post.bind.mp ps).mono (fun y q u H1 g => ?_) fun _ h => h)
  cases y <;> first | exact (show False from q).elim | skip
  rename_i j
  obtain ⟨x1, ex, q⟩ := oD_post (show Post _ _ (oD (L2.atI ds j)) from q)
  unfold L2.atI at ex
  cases ek : ixN ds.length j with
  | none => rw [ek] at ex; cases ex
  | some k =>
    rw [ek] at ex
    have ex : ds[k]? = some x1 := ex
    obtain ⟨v, f, h1, h2, _⟩ := al.at ex
    refine .inl ⟨a, vs, j, v, rfl, g.r, .inl (.inl (g.ext _ _ eH fun ps h => by cases h)), ?_, q v H1 ⟨g.ext, (RO.v1 h2).ext g.ext⟩⟩
    unfold L2.atI
    rw [al.length, ek]
    exact h1
/-! ## a comprehension of own things -/
theorem lcO_s {τ : Sh} {fi : Env → Res (List D)} {vs : List Nat} {wi : TI} {g : D → Env → Res Env} {tt : Env → Res Bool} {te : Env → Res D} {ω1 : List Sh} {tg' : TG} {tt' : TT} {te' : TE}
    (si : ∀ ρ σ H Rr, SR X.K H0 Z ω ρ σ H → Post (fun ds => ∀ J H1, Ext H H1 → ItOk X.K J ds H1 → Rr J H1) (EK X H0 Z W) (fi ρ) → wi σ H Rr)
    (sg : ∀ d v ρ σ H Q, SR X.K H0 Z (wipeω ω vs) ρ σ H → R X.K H d v → Post (fun ρ' => ∀ σ', SR X.K H0 Z ω1 ρ' σ' H → L2.wipe σ' vs = L2.wipe σ vs → Q σ' H) (fun _ => False) (g d ρ) → tg' v σ H Q)
    (st : ∀ ρ σ H Q, SR X.K H0 Z ω1 ρ σ H → Post (fun b => ∀ H', Ext H H' → Q b H') (fun _ => False) (tt ρ) → tt' σ H Q)
    (se : ∀ ρ σ H Q, SR X.K H0 Z ω1 ρ σ H → Post (fun d => ∀ v H', Got X.K H τ d v H' → Q v H') (fun _ => False) (te ρ) → te' σ H Q) :
    ∀ ρ σ H Q, SR X.K H0 Z ω ρ σ H → Post (fun d => ∀ v H', Got X.K H (.own τ) d v H' → Q v H') (EK X H0 Z W) (lcF fi vs g tt te ρ) → tLc wi tg' tt' te' vs σ H Q := by
  intro ρ σ H Q sr ps
  refine si ρ σ H _ sr ((Post.bind.mp ps).mono (fun ds q J H1 x it p hp => ?_) fun _ h => h)
  obtain ⟨hz, q⟩ := Post.ite q
  have srw := (SR.wipe vs sr).mono x
  refine ⟨fun i m H2 => m = ds.length - i ∧ i ≤ ds.length ∧ Ext H1 H2 ∧ ∃ acc out fps, H2 p = some (.lst acc) ∧ acc.length ≤ i ∧ All3 (RO X.K H2 τ) out acc fps ∧ (p :: fps).Nodup ∧ (∀ a ∈ fps, Fre H1 a) ∧ Post (fun d => ∀ v H', Got X.K H (.own τ) d v H' → Q v H') (EK X H0 Z W) ((lcM g tt te (killI vs ρ) (ds.drop i)).bind fun r => .ok (.lst (out ++ r))),
    ⟨ds.length, by simp, Nat.zero_le _, Ext.new hp, [], [], [], upd_same, Nat.le_refl _, ⟨rfl, rfl⟩, by simp, by simp, by simpa using q⟩, ?_⟩
  rintro i m H2 ⟨rfl, hi, x2, acc, out, fps, e2, z2, al, nd, fr, q2⟩
  obtain ⟨sto, gr⟩ := it i H2 x2.keepF
  by_cases hlt : i < ds.length
  · have hdr : ds.drop i = ds[i] :: ds.drop (i + 1) := List.drop_eq_getElem_cons hlt
    obtain ⟨go, yl⟩ := gr ds[i] (List.getElem?_eq_getElem hlt)
    rw [hdr] at q2
    refine .inr ⟨go, fun H' => Ext H1 H' ∧ ∃ acc out fps, H' p = some (.lst acc) ∧ acc.length ≤ i + 1 ∧ All3 (RO X.K H' τ) out acc fps ∧ (p :: fps).Nodup ∧ (∀ a ∈ fps, Fre H1 a) ∧ Post (fun d => ∀ v H', Got X.K H (.own τ) d v H' → Q v H') (EK X H0 Z W) ((lcM g tt te (killI vs ρ) (ds.drop (i + 1))).bind fun r => .ok (.lst (out ++ r))), fun H' ⟨a, b⟩ => ⟨ds.length - (i + 1), by omega, rfl, hlt, a, b⟩, fun y H3 hy => ?_⟩
    obtain ⟨x3, r3⟩ := yl y H3 hy
    simp only [lcM] at q2
    refine sg ds[i] y _ _ H3 _ ((srw.mono x2).mono x3) r3 ?_
    cases e4 : g ds[i] (killI vs ρ) with
    | ex c => rw [e4] at q2; exact q2.elim
    | bad => rw [e4] at q2; exact q2.elim
    | ok ρ1 =>
      rw [e4] at q2
      simp only [noEx, ok_bind] at q2
      intro σ4 sr4 w4
      refine ⟨by rw [w4, wipe_wipe], st ρ1 σ4 H3 _ sr4 ?_⟩
      cases e5 : tt ρ1 with
      | ex c => rw [e5] at q2; exact q2.elim
      | bad => rw [e5] at q2; exact q2.elim
      | ok b =>
        rw [e5] at q2
        simp only [ok_bind] at q2
        intro H5 x5
        have x35 : Ext H2 H5 := x3.trans x5
        have e5p : H5 p = some (.lst acc) := x35 _ _ e2 fun ps h => by cases h
        have al5 : All3 (RO X.K H5 τ) out acc fps := al.mono fun d v f _ r => r.ext x35
        cases b with
        | false => exact iteF ⟨x2.trans x35, acc, out, fps, e5p, by omega, al5, nd, fr, q2⟩
        | true =>
          rw [if_pos rfl] at q2
          refine iteT (se ρ1 σ4 H5 _ (sr4.mono x5) ?_)
          cases e6 : te ρ1 with
          | ex c => rw [e6] at q2; exact q2.elim
          | bad => rw [e6] at q2; exact q2.elim
          | ok d =>
            rw [e6] at q2
            simp only [ok_bind] at q2
            intro v H6 g6
            obtain ⟨x6, fpv, rv, frv, ndv⟩ := g6
            have e7 : H6 p = some (.lst acc) := x6 _ _ e5p fun ps h => by cases h
            have k7 : KeepF H6 (upd H6 p (.lst (acc ++ [v]))) := keepF_upd e7 fun h => h
            have nd' := List.nodup_cons.mp nd
            have disj : ∀ b ∈ p :: fps, b ∉ fpv := fun b hb hv => by
              obtain ⟨o, eo, po⟩ := RO.open (.own τ) (show RO X.K H5 (.own τ) (.lst out) (.ref p) (p :: fps) from ⟨out, p, acc, fps, rfl, rfl, e5p, by omega, rfl, al5⟩) b hb
              obtain ⟨ps, z⟩ := frv b hv o eo
              exact po.ntbl ps z
            have al7 : All3 (RO X.K (upd H6 p (.lst (acc ++ [v]))) τ) out acc fps := al5.mono fun d v f hf r => RO.keep k7 τ (r.ext x6) fun b hb => upd_ne fun z => nd'.1 (z ▸ hf b hb)
            have rv7 : RO X.K (upd H6 p (.lst (acc ++ [v]))) τ d v fpv := RO.keep k7 τ rv fun b hb => upd_ne fun z => disj p (by simp) (z ▸ hb)
            refine ⟨acc, e7, by omega, ⟨fun b o e t => ?_, ((x2.tab.trans x35.tab).trans x6.tab).trans (TabK.upd e7 trivial)⟩, acc ++ [v], out ++ [d], fps ++ fpv, upd_same, by simp; omega, al7.append ⟨v, [], fpv, [], rfl, by simp, rv7, rfl, rfl⟩, ?_, fun a ha => ?_, ?_⟩
            · rw [upd_ne (fun z => by subst z; rw [hp] at e; cases e)]
              exact x6 _ _ (x35 _ _ (x2 b o e t) t) t
            · rw [List.nodup_cons]
              refine ⟨fun h => ?_, List.nodup_append.mpr ⟨nd'.2, ndv, fun b hb b' hb' e => disj b (by simp [hb]) (e ▸ hb')⟩⟩
              rcases List.mem_append.mp h with h | h
              · exact nd'.1 h
              · exact disj p (by simp) h
            · rcases List.mem_append.mp ha with h | h
              · exact fr a h
              · exact (frv a h).back (x2.trans x35)
            · cases e8 : lcM g tt te (killI vs ρ) (ds.drop (i + 1)) with
              | ok r => rw [e8] at q2; simpa using q2
              | ex c => exact absurd e8 lcM_noex
              | bad => rw [e8] at q2; exact q2.elim
  · have e : i = ds.length := by omega
    subst e
    rw [List.drop_length] at q2
    refine .inl ⟨sto (Nat.le_refl _), ?_⟩
    have q3 : ∀ v H', Got X.K H (.own τ) (.lst (out ++ [])) v H' → Q v H' := q2
    rw [List.append_nil] at q3
    exact q3 (.ref p) H2 ⟨x.trans x2, p :: fps, ⟨out, p, acc, fps, rfl, rfl, e2, by omega, rfl, al⟩, fun a ha => by
      rcases List.mem_cons.mp ha with h | h
      · subst h; exact (Fre.of hp).back x
      · exact (fr a h).back x, nd⟩
theorem sx_setLcO (i : Nat) {τ : Sh} {y : Str} {py : Pos} {tg e elt : Expr} {ifs : List Expr} {scope : Scope} {own : List (Str × Nat)} {spos : Pos} {fi : Env → Res (List D)} {g : D → Env → Res Env} {tt : Env → Res Bool} {te : Env → Res D} {ω1 : List Sh} (hc : X.calm = true) (hN : X.N.Nodup) (hi : IX X H0 Z W ω tg e fi) (ok : BlkOk X.N X.env.scope scope own)
    (hg : ∀ (s : Shared) (H : Hp) (C : Addr) (cl : List (Str × Addr)) (fp : List Addr), TCX (X.blk s H scope (compEnvC scope cl C X.env) fp) H0 Z (own.map (·.2)) (wipeω ω (own.map (·.2))) ω1 tg g)
    (ht : ∀ (s : Shared) (H : Hp) (C : Addr) (cl : List (Str × Addr)) (fp : List Addr), TTX (X.blk s H scope (compEnvC scope cl C X.env) fp) H0 Z ω1 ifs tt)
    (he : ∀ (s : Shared) (H : Hp) (C : Addr) (cl : List (Str × Addr)) (fp : List Addr), PX (X.blk s H scope (compEnvC scope cl C X.env) fp) H0 Z (fun _ _ _ _ => False) ω1 elt te τ)
    (hy : X.N[i]? = some y := by rfl) (hl : i < ω.length := by decide) (hyl : X.env.scope.names.lookup y = some .local := by rfl) (hsw : swapsWith (.ListComp elt [⟨tg, e, ifs, 0⟩] scope pos) (some (.Name y py)) spos.line X.env = pure true := by rfl)
    (hs : ∀ x, foldedSetIterable e X.env x = pure x := by intro _; rfl) : SX X H0 Z W ω (ω.set i (.own τ)) ωr τr (.Assign [.Name y py] (.ListComp elt [⟨tg, e, ifs, 0⟩] scope pos) spos) (setF i (lcF fi (own.map (·.2)) g tt te)) := by
  obtain ⟨wi, pi, si⟩ := hi
  refine ⟨_, ps_setLc (g := fun v σ H Q => ∃ d ρ, SR X.K H0 Z (wipeω ω (own.map (·.2))) ρ σ H ∧ R X.K H d v ∧ Post (fun ρ' => ∀ σ', SR X.K H0 Z ω1 ρ' σ' H → L2.wipe σ' (own.map (·.2)) = L2.wipe σ (own.map (·.2)) → Q σ' H) (fun _ => False) (g d ρ))
    (tt := fun σ H Q => ∃ ρ, SR X.K H0 Z ω1 ρ σ H ∧ Post (fun b => ∀ H', Ext H H' → Q b H') (fun _ => False) (tt ρ))
    (te := fun σ H Q => ∃ ρ, SR X.K H0 Z ω1 ρ σ H ∧ Post (fun d => ∀ v H', Got X.K H τ d v H' → Q v H') (fun _ => False) (te ρ)) hc hN hy hyl hsw pi ok (fun s H C cl fp => ?_) (fun s H C cl fp => ?_) (fun s H C cl fp => ?_) hs, fun ρ σ H Dn sr ps => lcO_s (W := W) (τ := τ) (ω1 := ω1) (fi := fi) (g := g) (tt := tt) (te := te) si (fun d v ρ σ H Q sr r ps => ⟨d, ρ, sr, r, ps⟩) (fun ρ σ H Q sr ps => ⟨ρ, sr, ps⟩) (fun ρ σ H Q sr ps => ⟨ρ, sr, ps⟩) ρ σ H _ sr ((Post.bind.mp ps).mono (fun d q v H1 g => q _ H1 g.ext.keepF (sr.put hl g)) fun _ h => h)⟩
  · obtain ⟨t, p, st⟩ := hg s H C cl fp
    exact ⟨fun pins s' σ H v u Q I r ⟨d, ρ, sr, rr, ps⟩ => p.run pins s' σ H v u Q I r (st d v ρ σ H Q sr rr ps)⟩
  · obtain ⟨t, p, st⟩ := ht s H C cl fp
    exact ⟨fun pins s' σ H Q I ⟨ρ, sr, ps⟩ => p.run pins s' σ H Q I (st ρ σ H Q sr ps)⟩
  · obtain ⟨t, p, st⟩ := he s H C cl fp
    exact ⟨fun pins s' σ H Q I ⟨ρ, sr, ps⟩ => p.run pins s' σ H Q I (st ρ σ H Q sr (ps.mono (fun _ h => h) fun _ h => h.elim))⟩
/-! ## len(xs[a:b]), [len(x) for x in xs] of an own list of own lists -/
def lenSlK2 (z : D) (lo hi : Part) : Res D := match z with
  | .lst ds => .ok (.int (cutL ds lo hi).length)
  | _ => .bad
def lenSlK1 (z : D) (gh : Env → Res Part) (ρ : Env) (lo : Part) : Res D := (gh ρ).bind (lenSlK2 z lo)
def lenSlF (i : Nat) (gl gh : Env → Res Part) (ρ : Env) : Res D := (gl ρ).bind (lenSlK1 (gv ρ i) gh ρ)
theorem cutV_cutL {vs : List V} {ds : List D} (h : vs.length = ds.length) (lo hi : Part) : (cutV vs lo hi).length = (cutL ds lo hi).length := by
  unfold cutV cutL
  simp only [List.length_take, List.length_drop, h]
theorem px_lenSl (i : Nat) {τ : Sh} {x : Str} {p p1 p2 p3 : Pos} {lo hi : Option Expr} {gl gh : Env → Res Part} (hg : Gl X "len") (hm : X.mg "len" = none) (hl : POX X H0 Z W ω lo gl) (hu : POX X H0 Z W ω hi gh) (hN : X.N[i]? = some x := by rfl) (hω : ω[i]? = some (.own τ) := by rfl) (hv : Vis X.env.scope x := by first | exact Or.inl rfl | exact Or.inr (Or.inl rfl) | exact Or.inr (Or.inr rfl)) (hd : (x == ("__debug__" : Str)) = false := by decide)
    (hcd : (x == ("__classdict__" : Str)) = false := by decide)
    (he : starEach [.Subscript (.Name x p1) (.Slice lo hi none p2) p3] X.env = (false, eval (.Subscript (.Name x p1) (.Slice lo hi none p2) p3) X.env) :: starEach [] X.env := by rfl) (hpl : (backTo pos (starEach [] X.env)).any (·.1) = false := by rfl) :
    PX X H0 Z W ω (.Call (.Name "len" p) [.Subscript (.Name x p1) (.Slice lo hi none p2) p3] [] pos) (lenSlF i gl gh) .fz := by
  obtain ⟨tl, pl, sl⟩ := hl
  obtain ⟨tu, pu, su⟩ := hu
  refine ⟨_, pe_callB call_len_seq hg hm PySem.boot_len (pa_cons (pe_slice sl_list (pe_var hN hv hd hcd) pl pu) pa_nil he) (by decide) (by decide) he hpl, fun ρ σ H Q sr ps => ?_⟩
  obtain ⟨d0, s0, f0, e1, e2, sl0, nd, fr, go⟩ := sr.focus i hω
  rcases sl0 with ⟨z, _⟩ | ⟨v0, e3, ro⟩
  · cases z
  subst e3
  obtain ⟨ds, a, vs, fps, ed, ev, eH, hz, efp, al⟩ := ro
  subst ed ev
  have eg : gv ρ i = .lst ds := gv_is e1
  refine ⟨.ref a, e2, ?_⟩
  have ps : Post (fun d => ∀ v H', Got X.K H .fz d v H' → Q v H') (EK X H0 Z W) ((gl ρ).bind (lenSlK1 (gv ρ i) gh ρ)) := ps
  rw [eg] at ps
  refine sl ρ σ H _ sr ((Post.bind.mp ps).mono (fun o1 q H2 x2 => ?_) fun _ h => h)
  refine su ρ σ H2 _ (sr.mono x2) ((Post.bind.mp (show Post _ _ ((gh ρ).bind _) from q)).mono (fun o2 q H3 x3 => ?_) fun _ h => h)
  have x23 := x2.trans x3
  refine ⟨a, vs, rfl, .inl (.inl (x23 _ _ eH fun ps h => by cases h)), fun t ht => ?_⟩
  refine ⟨t, cutV vs o1 o2, rfl, .inl (.inl (.inl upd_same)), ?_⟩
  rw [cutV_cutL al.length]
  exact q _ _ (Got.fz (x23.trans (Ext.new ht)) rfl)
/-- a list's part, new -/
def slLK2 (h : Env → Res Part) (ρ : Env) (x : D) (lo : Part) : Res D := (h ρ).bind (slL x lo)
def slLK1 (g h : Env → Res Part) (ρ : Env) (x : D) : Res D := (g ρ).bind (slLK2 h ρ x)
def slLF (f : Env → Res D) (g h : Env → Res Part) (ρ : Env) : Res D := (f ρ).bind (slLK1 g h ρ)
theorem px_slL {e : Expr} {lo hi : Option Expr} {f : Env → Res D} {g h : Env → Res Part} {p2 : Pos} (he : PVX X H0 Z W ω e f) (hl : POX X H0 Z W ω lo g) (hu : POX X H0 Z W ω hi h) :
    PX X H0 Z W ω (.Subscript e (.Slice lo hi none p2) pos) (slLF f g h) (.own .fz) := px_sl1 slL_s slL_ne he hl hu
@[simp] theorem slLF_ap (f : Env → Res D) (g h : Env → Res Part) (ρ : Env) : slLF f g h ρ = (f ρ).bind (slLK1 g h ρ) := nr rfl
@[simp] theorem slLK1_ap (g h : Env → Res Part) (ρ : Env) (x : D) : slLK1 g h ρ x = (g ρ).bind (slLK2 h ρ x) := nr rfl
@[simp] theorem slLK2_ap (h : Env → Res Part) (ρ : Env) (x : D) (lo : Part) : slLK2 h ρ x lo = (h ρ).bind (slL x lo) := nr rfl
@[simp] theorem slL_lst (xs : List D) (lo hi : Part) : slL (.lst xs) lo hi = .ok (.lst (cutL xs lo hi)) := nr rfl
end
section
variable (fi : Env → Res D) (ρ : Env) (i : Nat) (d y z : D) (gl gh : Env → Res Part) (fj fb : Env → Res D) (lo hi : Part)
@[simp] theorem lputF_ap : lputF i fi fj ρ = (fj ρ).bind (lputK2 i fi ρ) := nr rfl
@[simp] theorem lputK2_ap : lputK2 i fi ρ d = (fi ρ).bind (lputK3 i ρ d) := nr rfl
@[simp] theorem lputK3_ap : lputK3 i ρ d y = (lputK i ρ d y (gv ρ i)).bind nxK := nr rfl
@[simp] theorem lput2F_ap (fa : Env → Res D) : lput2F i fi fj fa fb ρ = (fa ρ).bind (lput2K1 i fi fj fb ρ) := nr rfl
@[simp] theorem lput2K1_ap : lput2K1 i fi fj fb ρ d = (fb ρ).bind (lput2K2 i fi fj ρ d) := nr rfl
@[simp] theorem lput2K2_ap : lput2K2 i fi fj ρ d y = (fi ρ).bind (lput2K3 i fj ρ d y) := nr rfl
@[simp] theorem lput2K3_ap : lput2K3 i fj ρ d y z = (lputK i ρ d z (gv ρ i)).bind (lput2K4 i fj y) := nr rfl
@[simp] theorem lput2K4_ap : lput2K4 i fj d ρ = (fj ρ).bind (lputK3 i ρ d) := nr rfl
theorem lputK_ok {ds : List D} {k : Nat} (h : k < ds.length) : lputK i ρ d (.int k) (.lst ds) = .ok (ρ.set i (.lst (ds.set k d))) := by
  unfold lputK
  dsimp only
  rw [ixN_nat h]
@[simp] theorem lputK_0 (ds : List D) (x : D) : lputK i ρ d (.int 0) (.lst (x :: ds)) = .ok (ρ.set i (.lst (d :: ds))) := lputK_ok ρ i d (ds := x :: ds) (k := 0) (by simp)
@[simp] theorem lputK_1 (ds : List D) (x x' : D) : lputK i ρ d (.int 1) (.lst (x :: x' :: ds)) = .ok (ρ.set i (.lst (x :: d :: ds))) := lputK_ok ρ i d (ds := x :: x' :: ds) (k := 1) (by simp)
@[simp] theorem lenSlF_ap : lenSlF i gl gh ρ = (gl ρ).bind (lenSlK1 (gv ρ i) gh ρ) := nr rfl
@[simp] theorem lenSlK1_ap : lenSlK1 z gh ρ lo = (gh ρ).bind (lenSlK2 z lo) := nr rfl
@[simp] theorem lenSlK2_lst (ds : List D) : lenSlK2 (.lst ds) lo hi = .ok (.int (cutL ds lo hi).length) := nr rfl
end
end Mr

namespace Mr
variable [TabsOf]
open PySem PySem.Spec PyProof.Rows L2
open Res

/-! ## [len(x) for x in xs], xs an own list of own lists -/
def lensL : List D → Option (List Int)
  | [] => some []
  | .lst es :: ds => (lensL ds).map fun r => (es.length : Int) :: r
  | _ :: _ => none
def lensK : D → Res D
  | .lst ds => match lensL ds with
    | some ns => if ds.length ≤ sizeLine then .ok (.lst (ns.map .int)) else .bad
    | none => .bad
  | _ => .bad
def lensF (i : Nat) (ρ : Env) : Res D := lensK (gv ρ i)
theorem lensL_at {K : Fr} {H : Hp} : ∀ {ds : List D} {vs : List V} {fp : List Addr} {ns : List Int}, All3 (RO K H (.own .fz)) ds vs fp → lensL ds = some ns →
    ns.length = ds.length ∧ ∀ (k : Nat) (v : V), vs[k]? = some v → ∃ b us, v = V.ref b ∧ H b = some (.lst us) ∧ ns[k]? = some (us.length : Int)
  | [], vs, fp, ns, h, e => by
    cases e
    refine ⟨rfl, fun k v hk => ?_⟩
    rw [h.1] at hk
    simp at hk
  | d :: ds, vs, fp, ns, ⟨v0, r, f1, f2, e1, e2, h, t⟩, e => by
    obtain ⟨es, b, us, fps, q1, q2, q3, q4, q5, q6⟩ := h
    subst q1 q2 e1
    simp only [lensL] at e
    cases e3 : lensL ds with
    | none => rw [e3] at e; cases e
    | some m =>
      rw [e3] at e
      cases e
      obtain ⟨i1, i2⟩ := lensL_at t e3
      refine ⟨by simp [i1], fun k v hk => ?_⟩
      cases k with
      | zero =>
        cases hk
        exact ⟨b, us, rfl, q3, by rw [q6.length]; rfl⟩
      | succ k =>
        obtain ⟨b', us', w1, w2, w3⟩ := i2 k v (by simpa using hk)
        exact ⟨b', us', w1, w2, by simpa using w3⟩
section
variable {X : Cx} {pos : Pos}
theorem pe_lenVar (i : Nat) {x : Str} {p p' : Pos} (hg : Gl X "len") (hm : X.mg "len" = none) (hN : X.N[i]? = some x := by rfl) (hv : Vis X.env.scope x := by first | exact Or.inl rfl | exact Or.inr (Or.inl rfl) | exact Or.inr (Or.inr rfl)) (hd : (x == ("__debug__" : Str)) = false := by decide)
    (hcd : (x == ("__classdict__" : Str)) = false := by decide) (he : starEach [.Name x p'] X.env = (false, eval (.Name x p') X.env) :: starEach [] X.env := by rfl) (hpl : (backTo pos (starEach [] X.env)).any (·.1) = false := by rfl) :
    PE X (.Call (.Name "len" p) [.Name x p'] [] pos) (fun σ H Q => ∃ b us, σ[i]? = some (some (.ref b)) ∧ H b = some (.lst us) ∧ Q (.int (us.length : Int)) H) := by
  have h := pe_callB (p := p) (pos := pos) call_len_seq hg hm PySem.boot_len (pa_cons (pe_var (pos := p') hN hv hd hcd) pa_nil he) (by decide) (by decide) he hpl
  refine ⟨fun pins s σ H Q I hw => ?_⟩
  obtain ⟨b, us, e1, e2, q⟩ := hw
  exact h.run pins s σ H Q I ⟨.ref b, e1, b, us, rfl, .inl (.inl (.inl e2)), q⟩
end
section
variable {X : Cx} {H0 : Hp} {Z : Zt} {W : WX} {ω ωr : List Sh} {τr : Sh} {pos : Pos}
theorem px_lens (i j : Nat) {x y : Str} {p1 p2 p3 p4 p5 : Pos} {scope : Scope} {own : List (Str × Nat)} (hc : X.calm = true) (hN : X.N.Nodup) (ok : BlkOk X.N X.env.scope scope own)
    (hg : ∀ (s : Shared) (H : Hp) (C : Addr) (cl : List (Str × Addr)) (fp : List Addr), PG (X.blk s H scope (compEnvC scope cl C X.env) fp) (.Name y p1) (gName j))
    (he : ∀ (s : Shared) (H : Hp) (C : Addr) (cl : List (Str × Addr)) (fp : List Addr), PE (X.blk s H scope (compEnvC scope cl C X.env) fp) (.Call (.Name "len" p2) [.Name y p3] [] p4) (fun σ H Q => ∃ b us, σ[j]? = some (some (.ref b)) ∧ H b = some (.lst us) ∧ Q (.int (us.length : Int)) H))
    (hi : X.N[i]? = some x := by rfl) (hω : ω[i]? = some (.own (.own .fz)) := by rfl) (hj : j ∈ own.map (·.2) := by decide) (hjl : j < ω.length := by decide) (hv : Vis X.env.scope x := by first | exact Or.inl rfl | exact Or.inr (Or.inl rfl) | exact Or.inr (Or.inr rfl)) (hd : (x == ("__debug__" : Str)) = false := by decide)
    (hcd : (x == ("__classdict__" : Str)) = false := by decide) (hs : ∀ z, foldedSetIterable (.Name x p5) X.env z = pure z := by intro _; rfl) :
    PX X H0 Z W ω (.ListComp (.Call (.Name "len" p2) [.Name y p3] [] p4) [⟨.Name y p1, .Name x p5, [], 0⟩] scope pos) (lensF i) (.own .fz) := by
  refine ⟨_, pe_lc hc hN (pi_list (tg := .Name y p1) (pe_var (pos := p5) hi hv hd hcd)) ok hg (fun _ _ _ _ _ => pts_nil) he hs, fun ρ σ H Q sr ps => ?_⟩
  have lenσ : σ.length = ω.length := let ⟨_, al, _⟩ := sr.slots; (AllS.len al).2
  obtain ⟨d0, s0, f0, e1, e2, sl0, nd, fr, go⟩ := sr.focus i hω
  rcases sl0 with ⟨z, _⟩ | ⟨v0, e3, ro⟩
  · cases z
  subst e3
  obtain ⟨ds, a, vs, fps, ed, ev, eH, hz, efp, al⟩ := ro
  subst ed ev
  unfold lensF at ps
  rw [gv_is e1] at ps
  unfold lensK at ps
  dsimp only at ps
  cases en : lensL ds with
  | none => rw [en] at ps; exact ps.elim
  | some ns =>
  rw [en] at ps
  dsimp only at ps
  obtain ⟨hzs, q⟩ := Post.ite ps
  obtain ⟨nl, at'⟩ := lensL_at al en
  have hvl := al.length
  refine ⟨.ref a, e2, a, rfl, ⟨vs, .inl (.inl eH)⟩, fun p hp => ?_⟩
  have x0 : Ext H (upd H p (.lst [])) := Ext.new hp
  refine ⟨fun k m H2 => m = ds.length - k ∧ k ≤ ds.length ∧ Ext H H2 ∧ H2 p = some (.lst ((ns.take k).map V.int)), ⟨ds.length, by simp, Nat.zero_le _, x0, by rw [List.take_zero]; exact upd_same⟩, ?_⟩
  rintro k m H2 ⟨rfl, hk, x2, e4⟩
  have eH2 : H2 a = some (.lst vs) := x2 _ _ eH fun ps h => by cases h
  by_cases hlt : k < ds.length
  · have hkv : k < vs.length := by omega
    obtain ⟨b, us, w1, w2, w3⟩ := at' k vs[k] (List.getElem?_eq_getElem hkv)
    refine .inr ⟨⟨vs, vs[k], .inl (.inl eH2), List.getElem?_eq_getElem hkv⟩, fun H' => Ext H H' ∧ H' p = some (.lst ((ns.take (k + 1)).map V.int)), fun H' ⟨u1, u2⟩ => ⟨ds.length - (k + 1), by omega, rfl, hlt, u1, u2⟩, fun y' H3 hy => ?_⟩
    obtain ⟨e5, hy⟩ := hy
    subst e5
    have ey := hy vs (.inl (.inl eH2))
    rw [List.getElem?_eq_getElem hkv] at ey
    cases ey
    refine ⟨?_, ?_⟩
    · rw [wipe_set hj, wipe_wipe]
    · unfold tYes
      dsimp only
      rw [if_pos rfl]
      refine ⟨b, us, ?_, x2 _ _ w2 (fun ps h => by cases h), (ns.take k).map V.int, e4, ?_, ?_, ?_⟩
      · rw [w1]
        exact List.getElem?_set_self (by rw [L2.wipe_length, lenσ]; exact hjl)
      · have h1 : (ns.take k).length ≤ k := by simp; omega
        rw [List.length_map]
        omega
      · refine ⟨fun c o e t => ?_, x2.tab.trans (TabK.upd e4 trivial)⟩
        rw [upd_ne (fun z => by subst z; rw [hp] at e; cases e)]
        exact x2 c o e t
      · rw [upd_same]
        have : ns.take (k + 1) = ns.take k ++ [(us.length : Int)] := by
          rw [List.take_succ, w3]
          rfl
        rw [this, List.map_append]
        rfl
  · have e : k = ds.length := by omega
    subst e
    refine .inl ⟨⟨vs, .inl (.inl eH2), by omega⟩, q (.ref p) H2 ⟨x2, [p], ⟨_, p, _, [], rfl, rfl, e4, ?_, rfl, All3.of_rl ?_⟩, by simpa using Fre.of hp, by simp⟩⟩
    · rw [List.length_map, List.length_take]; omega
    · rw [List.take_of_length_le (by omega)]
      exact ints_R ns
end
section
variable (ρ : Env) (i : Nat)
@[simp] theorem lensF_ap : lensF i ρ = lensK (gv ρ i) := nr rfl
theorem lensL_map : ∀ es : List (List D), lensL (es.map .lst) = some (es.map fun e => (e.length : Int))
  | [] => rfl
  | e :: es => by simp [lensL, lensL_map es]
theorem lensK_map (es : List (List D)) (h : es.length ≤ 1000) : lensK (.lst (es.map .lst)) = .ok (.lst ((es.map fun e => (e.length : Int)).map .int)) := by
  unfold lensK
  dsimp only
  rw [lensL_map]
  exact if_pos (sz9 (by simp; omega))
end
end Mr

/-! ## == and != of lists and tuples that hold dicts, where they are the same -/
namespace PySem.SeqAt
open AutoSeq1 (wpAny_loadPart')
open MeetsSeq MeetsSeq2 MeetsSeq3 SeqRoads2
section
variable {prog : Program} {w : World}
theorem mr_neLoop {p q : Addr} {xs ys : Array Value} {n1 n2 : Nat} {d1 d2 : Option Addr} {s1 s2 : Array (Option Value)} (len : xs.size = ys.size) (k : Nat) :
    ∀ i : Nat, xs.size - i = k → MeetsIn prog w (Builtin.«list.__eq__.loop» ⟨[.ref p, .ref q, rawInt i, rawInt 3], []⟩)
      (fun A R s => s.heap.get? p = some { cls := .type "list", dict := d1, data := .seq xs n1, slots := s1 } ∧ s.heap.get? q = some { cls := .type "list", dict := d2, data := .seq ys n2, slots := s2 } ∧
        (∀ j (h1 : j < xs.size) (h2 : j < ys.size), EqP prog w A.in1 s xs[j] ys[j] true) ∧ R (.ok (.ret (.bool false))) s) := by
  induction k with
  | zero =>
    intro i hk A R st h
    obtain ⟨a1, a2, a3, a4, a5⟩ := st; obtain ⟨hp', hq', he, h⟩ := h
    wp_walk using wpAny_loadPart' hp', wpAny_loadPart' hq'
    have o1 : xs[((i : Nat) : Int).toNat]? = none := by simp; omega
    have o2 : ys[((i : Nat) : Int).toNat]? = none := by simp; omega
    rw [o1, o2]
    wp_walk using wpAny_loadPart' hp', wpAny_loadPart' hq'
    show R (.ok (.ret (.bool (xs.size != ys.size)))) _
    rw [len]
    simpa using h
  | succ k ih =>
    intro i hk A R st h
    obtain ⟨a1, a2, a3, a4, a5⟩ := st; obtain ⟨hp', hq', he, h⟩ := h
    wp_walk using wpAny_loadPart' hp', wpAny_loadPart' hq'
    have l1 : i < xs.size := by omega
    have l2 : i < ys.size := by omega
    have o1 : xs[((i : Nat) : Int).toNat]? = some xs[i] := by simp [l1]
    have o2 : ys[((i : Nat) : Int).toNat]? = some ys[i] := by simp [l2]
    have next : ((i : Int) + 1) = ((i + 1 : Nat) : Int) := by push_cast; rfl
    rw [o1, o2]
    refine wpAny_bind (he i l1 l2 _ _ ?_)
    wp_walk
    rw [next]
    refine ⟨plainId_quiet plain_eq_loop _, codeAny_builtin entry_eq_loop ?_⟩
    rw [Around.under_plainId plain_eq_loop _]
    exact ih (i + 1) (by omega) A R _ ⟨hp', hq', he, h⟩
theorem mr_neList {p q : Addr} {xs ys : Array Value} {n1 n2 : Nat} {d1 d2 : Option Addr} {s1 s2 : Array (Option Value)} (len : xs.size = ys.size) :
    MeetsIn prog w (Builtin.«list.__ne__» ⟨[.ref p, .ref q], []⟩)
      (fun A R s => s.heap.get? p = some { cls := .type "list", dict := d1, data := .seq xs n1, slots := s1 } ∧ s.heap.get? q = some { cls := .type "list", dict := d2, data := .seq ys n2, slots := s2 } ∧
        (∀ j (h1 : j < xs.size) (h2 : j < ys.size), EqP prog w A.in1 s xs[j] ys[j] true) ∧ R (.ok (.ret (.bool false))) s) := by
  intro A R st h
  obtain ⟨a1, a2, a3, a4, a5⟩ := st; obtain ⟨hp', hq', he, h⟩ := h
  have sub := AutoSeq1.sub_list_list
  have same : ¬ (xs.size != ys.size) = true := by simp [len]
  wp_walk using wpAny_loadPart' hp', wpAny_loadPart' hq'
  refine ⟨plainId_quiet plain_eq_loop _, codeAny_builtin entry_eq_loop ?_⟩
  rw [Around.under_plainId plain_eq_loop _]
  exact mr_neLoop len _ 0 rfl A R _ ⟨hp', hq', he, h⟩
theorem mr_neLists {A : Around} {s : Shared} {p q : Addr} {xs ys : Array Value} (hp : s.heap.IsList p xs) (hq : s.heap.IsList q ys) (len : xs.size = ys.size) (hu : A.units < cLine)
    (he : ∀ j (h1 : j < xs.size) (h2 : j < ys.size), EqP prog w A.in1 s xs[j] ys[j] true) (E Q : Value → Shared → Prop) (h : Q (.bool false) s) : wpAny (model prog w) A (richCompare .NotEq (.ref p) (.ref q)) Q E s := by
  obtain ⟨⟨c1, d1, v1, s1⟩, o1, e1, n1, f1⟩ := id hp
  obtain ⟨⟨c2, d2, v2, s2⟩, o2, e2, n2, f2⟩ := id hq
  simp only at e1 f1 e2 f2
  subst e1 f1 e2 f2
  have t1 : s.TypeIs (.ref p) "list" := ⟨_, o1, rfl⟩
  have t2 : s.TypeIs (.ref q) "list" := ⟨_, o2, rfl⟩
  exact wpAny_richCompare_same_room (op := .NotEq) t1 t2 F.slot_list_ne (call_meetsIn F.slot_list_ne t1 F.entry_list_ne (F.args_list_ne_2 _ _) (mr_neList len)
    ⟨o1, o2, he, show Value.bool false ≠ Value.notImplemented ∧ Q (.bool false) s from ⟨(fun x => nomatch x), h⟩⟩) hu
theorem mr_neTuple {p q : Addr} {xs ys : Array Value} {n1 n2 : Nat} {d1 d2 : Option Addr} {s1 s2 : Array (Option Value)} (len : xs.size = ys.size) :
    MeetsIn prog w (Builtin.«tuple.__ne__» ⟨[.ref p, .ref q], []⟩)
      (fun A R s => s.heap.get? p = some { cls := .type "tuple", dict := d1, data := .seq xs n1, slots := s1 } ∧ s.heap.get? q = some { cls := .type "tuple", dict := d2, data := .seq ys n2, slots := s2 } ∧
        (∀ j (h1 : j < xs.size) (h2 : j < ys.size), EqP prog w A.in1 s xs[j] ys[j] true) ∧ R (.ok (.ret (.bool false))) s) :=
  .of_wp fun A R st h => by
    obtain ⟨a1, a2, a3, a4, a5⟩ := st; obtain ⟨hp', hq', he, h⟩ := h
    have sub := AutoSeq1.sub_tuple_tuple
    wp_walk using wpAny_loadPart' hp', wpAny_loadPart' hq', wpAny_forIn_list _ (fun rest b t => b.1 = none ∧ t = ⟨a1, a2, a3, a4, a5⟩ ∧ ∃ i, rest = (xs.toList.zip ys.toList).drop i) _
    case turn =>
      rintro ⟨y, x⟩ rest b t ⟨hb', rfl, i, hz⟩
      have hlt : i < (xs.toList.zip ys.toList).length := by
        rcases Nat.lt_or_ge i (xs.toList.zip ys.toList).length with g | g
        · exact g
        · rw [List.drop_of_length_le g] at hz; cases hz
      have l1 : i < xs.size := by simp at hlt; omega
      have l2 : i < ys.size := by omega
      rw [List.drop_eq_getElem_cons hlt] at hz
      injection hz with hyx more
      have ey : y = xs[i] := by have := congrArg Prod.fst hyx; simpa using this
      have ex : x = ys[i] := by have := congrArg Prod.snd hyx; simpa using this
      subst ey ex
      refine wpAny_bind (he i l1 l2 _ _ ?_)
      wp_walk
      exact ⟨rfl, rfl, i + 1, more⟩
    case fin =>
      rintro ⟨b1, b2⟩ t ⟨hb', rfl, i, hz⟩
      simp only at hb'
      subst hb'
      wp_walk
      exact ⟨_, rfl, by simpa [Builtin.Tuple.tupleCompareSizes, bne, len] using h⟩
    case h =>
      exact ⟨rfl, rfl, 0, rfl⟩
theorem mr_neTuples {A : Around} {s : Shared} {p q : Addr} {xs ys : Array Value} (hp : s.heap.IsTuple p xs) (hq : s.heap.IsTuple q ys) (len : xs.size = ys.size) (hu : A.units < cLine)
    (he : ∀ j (h1 : j < xs.size) (h2 : j < ys.size), EqP prog w A.in1 s xs[j] ys[j] true) (E Q : Value → Shared → Prop) (h : Q (.bool false) s) : wpAny (model prog w) A (richCompare .NotEq (.ref p) (.ref q)) Q E s := by
  obtain ⟨⟨c1, d1, v1, s1⟩, o1, e1, n1, f1⟩ := id hp
  obtain ⟨⟨c2, d2, v2, s2⟩, o2, e2, n2, f2⟩ := id hq
  simp only at e1 f1 e2 f2
  subst e1 f1 e2 f2
  have t1 : s.TypeIs (.ref p) "tuple" := ⟨_, o1, rfl⟩
  have t2 : s.TypeIs (.ref q) "tuple" := ⟨_, o2, rfl⟩
  exact wpAny_richCompare_same_room (op := .NotEq) t1 t2 F.slot_tuple_ne (call_meetsIn F.slot_tuple_ne t1 F.entry_tuple_ne (F.args_tuple_ne_2 _ _) (mr_neTuple len)
    ⟨o1, o2, he, show Value.bool false ≠ Value.notImplemented ∧ Q (.bool false) s from ⟨(fun x => nomatch x), h⟩⟩) hu
end
end PySem.SeqAt
namespace Mr
variable [TabsOf]
open PySem PySem.Spec PyProof.Rows L2
open Res
/-- the same, dicts in any order; at most n storeys with dicts below -/
def sameN : Nat → D → D → Bool
  | 0, d, e => shp d && (shp e && eqv d e)
  | n + 1, .lst xs, .lst ys => (xs.length == ys.length) && (xs.zip ys).all fun p => sameN n p.1 p.2
  | n + 1, .tup xs, .tup ys => (xs.length == ys.length) && (xs.zip ys).all fun p => sameN n p.1 p.2
  | n + 1, .dct ks ds, .dct ls es => (ks.length == ls.length) && (ks.zip ds).all fun p => match lookK ls es p.1 with
    | some e => sameN n p.2 e
    | none => false
  | _ + 1, d, e => shp d && (shp e && eqv d e)
section
variable {X : Cx} {pins : List (Addr × Obj)} {σ : Sg} {H : Hp} {s : Shared}
theorem leaf_run (I : Inv X pins σ H s) {A : Around} (hu : A.units + 65 < cLine) {d e : D} {x y : V} {v u : Value} (rd : R X.K H d x) (re : R X.K H e y) (rx : RelV x v) (ry : RelV y u) (h : (shp d && (shp e && eqv d e)) = true) : SeqAt.EqP X.prog X.w A s v u true := by
  simp only [Bool.and_eq_true] at h
  obtain ⟨n1, c1⟩ := shp_dp h.1
  obtain ⟨n2, c2⟩ := shp_dp h.2.1
  obtain ⟨as, r1⟩ := Dp.reads I _ _ _ (rd.dp _ n1) rx
  obtain ⟨bs, r2⟩ := Dp.reads I _ _ _ (re.dp _ n2) ry
  have q := PySem.W.keq_at (A := A) r1 r2 c1 c2 (by show A.units + 1 + 64 < cLine; omega)
  have e : PyData.eqv d.toP e.toP = true := h.2.2
  rw [e] at q
  exact q.of_in1.eqP
theorem at_run {F : D → D → Bool} {A : Around} (ih : ∀ d e x y v u, R X.K H d x → R X.K H e y → RelV x v → RelV y u → F d e = true → SeqAt.EqP X.prog X.w A s v u true) :
    ∀ {ds es : List D} {vs us : List V} {va ua : List Value}, Rl X.K H ds vs → Rl X.K H es us → Vals vs va → Vals us ua → ((ds.zip es).all fun p => F p.1 p.2) = true → ds.length = es.length →
      ∀ j (h1 : j < va.toArray.size) (h2 : j < ua.toArray.size), SeqAt.EqP X.prog X.w A s va.toArray[j] ua.toArray[j] true := by
  intro ds
  induction ds with
  | nil =>
    intro es vs us va ua l1 l2 r1 r2 _ hl j h1 h2
    rw [show vs = [] from l1] at r1
    cases r1
    simp at h1
  | cons d ds k =>
    intro es vs us va ua l1 l2 r1 r2 hf hl j h1 h2
    cases es with
    | nil => simp at hl
    | cons e es =>
      obtain ⟨x, vr, e1, hx, t1⟩ := l1
      obtain ⟨y, ur, e2, hy, t2⟩ := l2
      subst e1 e2
      cases r1 with
      | cons a1 b1 =>
      cases r2 with
      | cons a2 b2 =>
      simp only [List.zip_cons_cons, List.all_cons, Bool.and_eq_true] at hf
      cases j with
      | zero => simpa using ih _ _ _ _ _ _ hx hy a1 a2 hf.1
      | succ j =>
        have := k t1 t2 b1 b2 hf.2 (by simpa using hl) j (by simpa using h1) (by simpa using h2)
        simpa using this
theorem hits_same {F : D → D → Bool} {A : Around} (ih : ∀ d e x y v u, R X.K H d x → R X.K H e y → RelV x v → RelV y u → F d e = true → SeqAt.EqP X.prog X.w A s v u true)
    {ls : List Key} {es : List D} {us : List V} {lb : List (Key × Value)} (rl : Rl X.K H es us) (hl : ls.length = es.length) (kb : KV (ls.zip us) lb) :
    ∀ {ks : List Key} {ds : List D} {vs : List V} {ka : List (Key × Value)}, ks.length = ds.length → Rl X.K H ds vs → KV (ks.zip vs) ka → ((ks.zip ds).all fun p => match lookK ls es p.1 with | some e => F p.2 e | none => false) = true → PySem.W.KeqHitsP X.prog X.w A s lb ka true
  | [], _, _, _, _, _, ka, _ => by
    rw [List.zip_nil_left] at ka
    cases ka
    exact .nil
  | k :: ks, [], _, _, h, _, _, _ => by simp at h
  | k :: ks, d :: ds, _, _, h, ⟨v, vr, e1, hv, t⟩, ka, sd => by
    subst e1
    rw [List.zip_cons_cons] at ka sd
    unfold KV at ka
    cases ka with
    | @cons p q ps qs c r =>
      obtain ⟨k', w⟩ := q
      obtain ⟨ek, rw'⟩ := c
      have ek : k = k' := ek
      subst ek
      have rw' : RelV v w := rw'
      simp only [List.all_cons, Bool.and_eq_true] at sd
      have hk := lookK_v (k := k) rl hl
      have ro := kb.val k
      cases e2 : lookK ls es k with
      | none => rw [e2] at sd; exact absurd sd.1 Bool.false_ne_true
      | some e =>
        rw [e2] at hk sd
        obtain ⟨y, ey, ry⟩ := hk
        rw [ey] at ro
        obtain ⟨z, ez, rz⟩ := ro.some_of
        have := hits_same ih rl hl kb (by simpa using h) t r sd.2
        show PySem.W.KeqHitsP X.prog X.w A s lb ((k, w) :: qs) (true && true)
        exact .hit ez (ih _ _ _ _ _ _ hv ry rw' rz sd.1) this
/-- lists, tuples, dicts that stand anywhere -/
theorem ref_run {F : D → D → Bool} (I : Inv X pins σ H s) {A : Around} (hu : A.units < cLine) (ih : ∀ d e x y v u, R X.K H d x → R X.K H e y → RelV x v → RelV y u → F d e = true → SeqAt.EqP X.prog X.w A.in1 s v u true)
    {a b : Addr} {ds es : List D} {vs us : List V} (h1 : SqL X.K H a vs) (h2 : SqL X.K H b us) (l1 : Rl X.K H ds vs) (l2 : Rl X.K H es us) (hf : ((ds.length == es.length) && (ds.zip es).all fun p => F p.1 p.2) = true) (E Q : Value → Shared → Prop) :
    (Q (.bool true) s → wpAny (model X.prog X.w) A (richCompare .Eq (.ref a) (.ref b)) Q E s) ∧ (Q (.bool false) s → wpAny (model X.prog X.w) A (richCompare .NotEq (.ref a) (.ref b)) Q E s) := by
  obtain ⟨va, r1, p1, _⟩ := I.list h1
  obtain ⟨ua, r2, p2, _⟩ := I.list h2
  simp only [Bool.and_eq_true, beq_iff_eq] at hf
  have len : va.toArray.size = ua.toArray.size := by rw [List.size_toArray, List.size_toArray, ← r1.length, ← r2.length, l1.length, l2.length]; exact hf.1
  have all := at_run ih l1 l2 r1 r2 hf.2 hf.1
  refine ⟨fun q => SeqAt.rcP_lists (e := fun _ => true) p1.isList p2.isList len hu all E Q ?_, fun q => SeqAt.mr_neLists p1.isList p2.isList len hu all E Q q⟩
  rw [show ((List.range va.toArray.size).all fun _ => true) = true from List.all_eq_true.mpr fun _ _ => rfl]
  exact q
theorem tup_run {F : D → D → Bool} (I : Inv X pins σ H s) {A : Around} (hu : A.units < cLine) (ih : ∀ d e x y v u, R X.K H d x → R X.K H e y → RelV x v → RelV y u → F d e = true → SeqAt.EqP X.prog X.w A.in1 s v u true)
    {a b : Addr} {ds es : List D} {vs us : List V} (h1 : H a = some (.tup vs)) (h2 : H b = some (.tup us)) (l1 : Rl X.K H ds vs) (l2 : Rl X.K H es us) (hf : ((ds.length == es.length) && (ds.zip es).all fun p => F p.1 p.2) = true) (E Q : Value → Shared → Prop) :
    (Q (.bool true) s → wpAny (model X.prog X.w) A (richCompare .Eq (.ref a) (.ref b)) Q E s) ∧ (Q (.bool false) s → wpAny (model X.prog X.w) A (richCompare .NotEq (.ref a) (.ref b)) Q E s) := by
  obtain ⟨va, r1, p1, _⟩ := I.tuple (SqT.of (K := X.K) h1)
  obtain ⟨ua, r2, p2, _⟩ := I.tuple (SqT.of (K := X.K) h2)
  simp only [Bool.and_eq_true, beq_iff_eq] at hf
  have len : va.toArray.size = ua.toArray.size := by rw [List.size_toArray, List.size_toArray, ← r1.length, ← r2.length, l1.length, l2.length]; exact hf.1
  have all := at_run ih l1 l2 r1 r2 hf.2 hf.1
  refine ⟨fun q => SeqAt.rcIn_tuples (e := fun _ => true) p1 p2 hu all ?_, fun q => SeqAt.mr_neTuples p1 p2 len hu all E Q q⟩
  rw [show ((List.range (min va.toArray.size ua.toArray.size)).all fun _ => true) = true from List.all_eq_true.mpr fun _ _ => rfl, len]
  simpa using q
theorem same_run (I : Inv X pins σ H s) : ∀ (n : Nat) (A : Around), A.units + n + 65 < cLine → ∀ (d e : D) (x y : V) (v u : Value), R X.K H d x → R X.K H e y → RelV x v → RelV y u → sameN n d e = true → SeqAt.EqP X.prog X.w A s v u true
  | 0, A, hu, d, e, x, y, v, u, rd, re, rx, ry, h => leaf_run I (by omega) rd re rx ry (by simpa [sameN] using h)
  | n + 1, A, hu, d, e, x, y, v, u, rd, re, rx, ry, h => by
    have ih := same_run I n A.in1 (by show A.units + 1 + n + 65 < cLine; omega)
    have leaf : (shp d && (shp e && eqv d e)) = true → SeqAt.EqP X.prog X.w A s v u true := fun h => leaf_run I (by omega) rd re rx ry h
    cases d <;> cases e <;> first
      | exact leaf (by simpa [sameN] using h)
      | skip
    · obtain ⟨a, vs, rfl, f, z, l⟩ := rd
      obtain ⟨a', vs', rfl, f', z', l'⟩ := re
      cases (show v = Value.ref a from rx)
      cases (show u = Value.ref a' from ry)
      by_cases c : a = a'
      · subst c; exact (SeqAt.EqAt.same _).eqP
      · exact SeqAt.eqP_refs c fun E Q q => (tup_run I (by omega) ih f f' l l' (by simpa [sameN] using h) E Q).1 q
    · obtain ⟨a, vs, rfl, f, z, l⟩ := rd
      obtain ⟨a', vs', rfl, f', z', l'⟩ := re
      cases (show v = Value.ref a from rx)
      cases (show u = Value.ref a' from ry)
      by_cases c : a = a'
      · subst c; exact (SeqAt.EqAt.same _).eqP
      · exact SeqAt.eqP_refs c fun E Q q => (ref_run I (by omega) ih f.sq f'.sq l l' (by simpa [sameN] using h) E Q).1 q
    · obtain ⟨a, vs, o, rfl, f, z, l⟩ := rd
      obtain ⟨a', vs', o', rfl, f', z', l'⟩ := re
      cases (show v = Value.ref a from rx)
      cases (show u = Value.ref a' from ry)
      by_cases c : a = a'
      · subst c; exact (SeqAt.EqAt.same _).eqP
      · refine SeqAt.eqP_refs c fun E Q q => ?_
        obtain ⟨ya, va, ra, da⟩ := rd_ok I (.inr ⟨o, f⟩)
        obtain ⟨yb, vb, rb, db⟩ := rd_ok I (.inr ⟨o', f'⟩)
        simp only [sameN, Bool.and_eq_true, beq_iff_eq] at h
        have e1 : va.length = vb.length := by rw [← ra.length, ← rb.length, List.length_zip, List.length_zip, l.length, l'.length, z, z', Nat.min_self, Nat.min_self, ← z, ← z']; exact h.1
        refine PySem.W.rcP_dicts (knd := mixKind X.prog X.w) (r := true) ya yb da db (by omega) (fun _ => hits_same ih l' z' rb z l ra h.2) E Q ?_
        rw [show (va.length == vb.length && true) = true from by rw [e1]; simp]
        exact q
end
def isSeq : D → D → Bool
  | .lst _, .lst _ => true
  | .tup _, .tup _ => true
  | _, _ => false
def rSame (K : Fr) (b : Bool) : R2 := fun x y H Q => ∃ d e, RV K H d x ∧ RV K H e y ∧ sameN 4 d e = true ∧ isSeq d e = true ∧ Q (.bl b) H
theorem op_same {X : Cx} {k : Nat} (hr : Room k X.A) : OpR X (compareOp .Eq) (rSame X.K true) ∧ OpR X (compareOp .NotEq) (rSame X.K false) := by
  have un := hr.un
  have run : ∀ (pins : List (Addr × Obj)) (s : Shared) (σ : Sg) (H : Hp) (d e : D) (x y : V) (v u : Value), Inv X pins σ H s → RelV x v → RelV y u → RV X.K H d x → RV X.K H e y → sameN 4 d e = true → isSeq d e = true → ∀ E Q : Value → Shared → Prop,
      (Q (.bool true) s → wpAny (model X.prog X.w) X.A (richCompare .Eq v u) Q E s) ∧ (Q (.bool false) s → wpAny (model X.prog X.w) X.A (richCompare .NotEq v u) Q E s) := by
    intro pins s σ H d e x y v u I rx ry rd re hs hq E Q
    have ih := same_run I 3 X.A.in1 (by show X.A.units + 1 + 3 + 65 < cLine; omega)
    cases d <;> first | exact absurd hq Bool.false_ne_true | skip
    · cases e <;> first | exact absurd hq Bool.false_ne_true | skip
      obtain ⟨a, vs, rfl, f, z, l⟩ := rd
      obtain ⟨a', vs', rfl, f', z', l'⟩ := re
      cases (show v = Value.ref a from rx)
      cases (show u = Value.ref a' from ry)
      exact tup_run I (A := X.A) (by omega) ih f f' l l' (by simpa [sameN] using hs) E Q
    · cases e <;> first | exact absurd hq Bool.false_ne_true | skip
      obtain ⟨a, vs, rfl, f, z, l⟩ := rd
      obtain ⟨a', vs', rfl, f', z', l'⟩ := re
      cases (show v = Value.ref a from rx)
      cases (show u = Value.ref a' from ry)
      exact ref_run I (A := X.A) (by omega) ih f.sq f'.sq l l' (by simpa [sameN] using hs) E Q
  constructor
  · intro pins s σ H x y v u Q I rx ry ⟨d, e, rd, re, hs, hq, q⟩
    exact (run pins s σ H d e x y v u I rx ry rd re hs hq X.xe (EP X pins σ Q)).1 ⟨.bl true, H, I, rfl, q⟩
  · intro pins s σ H x y v u Q I rx ry ⟨d, e, rd, re, hs, hq, q⟩
    exact (run pins s σ H d e x y v u I rx ry rd re hs hq X.xe (EP X pins σ Q)).2 ⟨.bl false, H, I, rfl, q⟩
/-! ### == and != of what may hold dicts -/
def eqB (d e : D) : Res D := if isSeq d e && sameN 4 d e then .ok (.bl true) else eqA d e
def neB (d e : D) : Res D := if isSeq d e && sameN 4 d e then .ok (.bl false) else neA d e
theorem eqB_ne (x y : D) (c : Str) : eqB x y ≠ .ex c := by unfold eqB; split <;> first | (intro h; cases h; done) | exact eqA_ne _ _ _
theorem neB_ne (x y : D) (c : Str) : neB x y ≠ .ex c := by unfold neB; split <;> first | (intro h; cases h; done) | exact neA_ne _ _ _
theorem eqB_s {K : Fr} : OpS K (fun x y H Q => rSame K true x y H Q ∨ (rEqD K x y H Q ∨ rDctEq K false x y H Q)) eqB .fz := by
  intro d e v u H Q hd he ps
  unfold eqB at ps
  split at ps
  · rename_i c
    rw [Bool.and_eq_true] at c
    exact .inl ⟨d, e, hd, he, c.2, c.1, ps _ H (Got.fz (Ext.refl H) rfl)⟩
  · exact .inr (eqA_s d e v u H Q hd he ps)
theorem neB_s {K : Fr} : OpS K (fun x y H Q => rSame K false x y H Q ∨ (rNeD K x y H Q ∨ rDctEq K true x y H Q)) neB .fz := by
  intro d e v u H Q hd he ps
  unfold neB at ps
  split at ps
  · rename_i c
    rw [Bool.and_eq_true] at c
    exact .inl ⟨d, e, hd, he, c.2, c.1, ps _ H (Got.fz (Ext.refl H) rfl)⟩
  · exact .inr (neA_s d e v u H Q hd he ps)
theorem op_eqB {X : Cx} {k : Nat} (hr : Room k X.A) : OpR X (compareOp .Eq) (fun x y H Q => rSame X.K true x y H Q ∨ (rEqD X.K x y H Q ∨ rDctEq X.K false x y H Q)) := OpR.or (op_same hr).1 (op_eqA hr)
theorem op_neB {X : Cx} {k : Nat} (hr : Room k X.A) : OpR X (compareOp .NotEq) (fun x y H Q => rSame X.K false x y H Q ∨ (rNeD X.K x y H Q ∨ rDctEq X.K true x y H Q)) := OpR.or (op_same hr).2 (op_neA hr)
theorem eqB_same {d e : D} (h1 : isSeq d e = true) (h2 : sameN 4 d e = true) : eqB d e = .ok (.bl true) := by
  unfold eqB
  rw [h1, h2]
  rfl
theorem neB_same {d e : D} (h1 : isSeq d e = true) (h2 : sameN 4 d e = true) : neB d e = .ok (.bl false) := by
  unfold neB
  rw [h1, h2]
  rfl
end Mr

namespace Mr
variable [TabsOf]
open PySem PySem.Spec PyProof.Rows L2
open Res
def enK (ds : List D) : Res (List D) := match ds with
  | [.lst xs] => .ok (xs.zipIdx.map fun p => .tup [.int (p.2 : Nat), p.1])
  | _ => .bad
@[simp] theorem enF_ap (fa : Env → Res (List D)) (ρ : Env) : enF fa ρ = (fa ρ).bind enK := nr rfl
@[simp] theorem enK_lst (xs : List D) : enK [.lst xs] = .ok (xs.zipIdx.map fun p => .tup [.int (p.2 : Nat), p.1]) := nr rfl
end Mr

namespace Mr
variable [TabsOf]
open PySem PySem.Spec PyProof.Rows L2
open Res
/-! ## "0" * n -/
def mulS : D → D → Res D
  | .str a, .int k => if 0 ≤ k ∧ k ≤ 16 ∧ a.length ≤ 1048576 then .ok (.str (Txt.mul a k)) else .bad
  | _, _ => .bad
theorem mulS_ne (x y : D) (c : Str) : mulS x y ≠ .ex c := by unfold mulS; split <;> (repeat' split) <;> (intro h; cases h)
def rMulS : R2 := fun x y H Q => ∃ a k, x = .str a ∧ y = .int k ∧ (0 ≤ k ∧ k ≤ 16 ∧ a.length ≤ 1048576) ∧ Q (.str (Txt.mul a k)) H
section
variable {X : Cx}
theorem op_mulS : OpR X (binaryOp .Mult) rMulS := by
  intro pins s σ H x y v u Q I rx ry h
  obtain ⟨a, k, rfl, rfl, ⟨h0, h1, h2⟩, q⟩ := h
  obtain ⟨t, rfl⟩ := rx
  obtain ⟨t2, rfl⟩ := ry
  exact SB.mul (mulOk_of 1048576 16 h2 h1 (by omega) (by decide) (by decide)) fun t' k' => ⟨.str (Txt.mul a k), H, I.tok k', ⟨t', rfl⟩, q⟩
end
theorem mulS_s {K : Fr} : OpS K rMulS mulS .fz := by
  intro d e v u H Q hd he ps
  cases d <;> cases e <;> first | exact (show False from ps).elim | skip
  rename_i a k
  have ps : Post _ _ (if 0 ≤ k ∧ k ≤ 16 ∧ a.length ≤ 1048576 then Res.ok (D.str (Txt.mul a k)) else .bad) := ps
  obtain ⟨c, p⟩ := Post.ite ps
  exact ⟨a, k, hd, he, c, p _ H (Got.fz (Ext.refl H) rfl)⟩
section
variable {X : Cx} {H0 : Hp} {Z : Zt} {W : WX} {ω ωr : List Sh} {τr : Sh} {pos : Pos}
theorem px_mulS {a b : Expr} {f g : Env → Res D} (ha : PVX X H0 Z W ω a f) (hb : PVX X H0 Z W ω b g) : PX X H0 Z W ω (.BinOp a .Mult b pos) (op2 mulS f g) .fz := px_op op_mulS mulS_s mulS_ne ha hb
end
@[simp] theorem mulS_0 {a : Str} (h : a.length ≤ 1048576) : mulS (.str a) (.int 0) = .ok (.str Str.empty) := (if_pos ⟨by decide, by decide, h⟩).trans rfl
@[simp] theorem mulS_1 {a : Str} (h : a.length ≤ 1048576) : mulS (.str a) (.int 1) = .ok (.str a) := (if_pos ⟨by decide, by decide, h⟩).trans rfl
/-! ## a.split(b) -/
section
variable {X : Cx} {H0 : Hp} {Z : Zt} {W : WX} {ω ωr : List Sh} {τr : Sh} {pos : Pos}
def spl2 (a b : Str) : Res D := if ((b.length == 0) = false ∧ a.length + 2 ≤ sizeLine) ∧ (Txt.split a b).length ≤ sizeLine then .ok (.lst ((Txt.split a b).map .str)) else .bad
def splK2 (a : Str) : D → Res D
  | .str b => spl2 a b
  | _ => .bad
def splK1 (g : Env → Res D) (ρ : Env) (a : Str) : Res D := (g ρ).bind (splK2 a)
def splK (g : Env → Res D) (ρ : Env) (d : D) : Res D := (asSt d).bind (splK1 g ρ)
def splF (f g : Env → Res D) (ρ : Env) : Res D := (f ρ).bind (splK g ρ)
theorem px_split {a b : Expr} {f g : Env → Res D} {apos cpos : Pos} (ha : PX X H0 Z W ω a f .fz) (hb : PX X H0 Z W ω b g .fz) (hs : starEach [b] X.env = [(false, eval b X.env)] := by rfl) (hbase : attributeBase a "split" X.env (eval a X.env) = eval a X.env := by rfl) (hline : (apos.endLine == cpos.line) = true := by rfl) : PX X H0 Z W ω (.Call (.Attribute a "split" apos) [b] [] cpos) (splF f g) (.own .fz) := by
  obtain ⟨ta, pa, sa⟩ := ha
  obtain ⟨tb, pb, sb⟩ := hb
  refine ⟨_, pe_split pa pb hs hbase hline, fun ρ σ H Q sr ps => ?_⟩
  refine sa ρ σ H _ sr ((Post.bind.mp ps).mono (fun d q v H1 g1 => ?_) fun _ h => h)
  cases d <;> first | exact (show False from q).elim | skip
  rename_i t
  refine ⟨⟨t, g1.r⟩, ?_⟩
  refine sb ρ σ H1 _ (sr.mono g1.ext) ((Post.bind.mp (show Post _ _ ((g ρ).bind (splK2 t)) from q)).mono (fun y q v2 H2 g2 => ?_) fun _ h => h)
  cases y <;> first | exact (show False from q).elim | skip
  rename_i u
  have q : Post _ _ (spl2 t u) := q
  unfold spl2 at q
  obtain ⟨c, q⟩ := Post.ite q
  have e2 : v2 = .str u := g2.r
  subst e2
  exact ⟨t, u, g1.r, rfl, c.1.1, c.1.2, fun p hp => q _ _ (Got.lst (g1.ext.trans g2.ext) hp (strs_R _) (by rw [List.length_map]; exact c.2))⟩
end
section
variable (f g : Env → Res D) (ρ : Env) (a b : Str) (d : D)
@[simp] theorem splF_ap : splF f g ρ = (f ρ).bind (splK g ρ) := nr rfl
@[simp] theorem splK_str : splK g ρ (.str a) = (g ρ).bind (splK2 a) := nr rfl
@[simp] theorem splK2_str : splK2 a (.str b) = spl2 a b := nr rfl
end
end Mr

namespace Mr
variable [TabsOf]
open PySem PySem.Spec PyProof.Rows L2
open Res
/-! ## str(xs) of a list, where no repr goes on -/
def shOk (d : D) : Bool := d.noD && (d.toP.showable && (!d.toP.hasDict && (decide (d.toP.depth ≤ 40) && decide (d.toP.shown.length ≤ sizeLine))))
def strLD : List D → Res D
  | [.lst ds] => if shOk (.lst ds) = true then .ok (.str (D.lst ds).toP.shown) else .bad
  | _ => .bad
theorem strL_ne (ds : List D) (c : Str) : strLD ds ≠ .ex c := by unfold strLD; split <;> (repeat' split) <;> (intro h; cases h)
def rStrL (K : Fr) : List V → Hp → VK → Prop := fun xs H Q => ∃ (a : Addr) (d : D), xs = [.ref a] ∧ Dp K H (.ref a) d.toP ∧ shOk d = true ∧ Q (.str d.toP.shown) H
section
variable {X : Cx}
theorem cr_strL (hgd : X.A.guards = some []) (hu : X.A.units + 64 < cLine) : CallR X (.type "str") (rStrL X.K) := by
  intro pins s σ H xs us Q I rs h
  obtain ⟨a, d, rfl, dp, ok, q⟩ := h
  cases rs with
  | cons r1 rs =>
    cases rs
    cases r1
    simp only [shOk, Bool.and_eq_true, Bool.not_eq_true', decide_eq_true_eq] at ok
    obtain ⟨n1, n2, n3, n4, n5⟩ := ok
    obtain ⟨as, rd⟩ := Dp.reads I _ _ _ dp rfl
    exact PySem.str_of_reads rd n2 (PyData.noDict_hsm n3) hgd (by omega) (fun _ _ e => e) (fun h' u tk hk => ⟨.str d.toP.shown, H, I.kept (t' := tk) hk, ⟨u, rfl⟩, q⟩) n5
end
theorem strL_s {K : Fr} : CallS K (rStrL K) strLD .fz := by
  intro ds vs H Q l ps
  unfold strLD at ps
  split at ps
  · rename_i es
    obtain ⟨v, rfl, r⟩ := rv1 l
    obtain ⟨c, p⟩ := Post.ite ps
    have dp := RV.dp r (by simp only [shOk, Bool.and_eq_true] at c; exact c.1)
    obtain ⟨a, vs, rfl, fl, z, ll⟩ := r
    exact ⟨a, _, rfl, dp, c, p _ H (Got.fz (Ext.refl H) rfl)⟩
  · exact ps.elim
section
variable {X : Cx} {H0 : Hp} {Z : Zt} {W : WX} {ω ωr : List Sh} {τr : Sh} {pos p : Pos} {e : Expr} {es : List Expr} {fa : Env → Res (List D)}
theorem px_strL {k : Nat} (hr : Room k X.A) (hgd : X.A.guards = some []) (hg : Gl X "str") (hm : X.mg "str" = none) (ha : PAVX X H0 Z W ω (e :: es) fa) (he : starEach (e :: es) X.env = (false, eval e X.env) :: starEach es X.env := by rfl) (hpl : (backTo pos (starEach es X.env)).any (·.1) = false := by rfl) : PX X H0 Z W ω (.Call (.Name "str" p) (e :: es) [] pos) (callF fa strLD) .fz := px_callTy (cr_strL hgd (u64 hr)) strL_s strL_ne hg hm (by decide +kernel) ha (by decide) (by decide) he hpl
end
end Mr

namespace Mr
open PySem PySem.Spec PyProof.Rows L2 LamX
/-! ## a law's def where no repr goes on around the call -/
structure FnG (P : Program) (w : World) (K : PySem.W.Frag) (mg : Str → Option Value) (base : Heap) (CX : CXT) (k : Nat) (f : Addr) (fd : FuncData) (ps : List Str) (sp : Sp) : Prop where
  run : ∀ (A : Around) (outer : List PySem.Env) (s : Shared) (H : Hp) (args : Args) (us : List Value) (vs : List V) (Q : VK) (E : XK), Room k A → A.guards = some [] → Env0 P w K mg base A outer s H → BindsTo s fd args (ps.zip us) → Vals vs us → sp vs H Q E →
    codeAny (model P w) A (.call (.ref f) args) (CR CX outer P w H s Q E) s
section
variable {P : Program} {w : World} {K : PySem.W.Frag} {mg : Str → Option Value} {base : Heap}
theorem fnG_of {CX : CXT} {k : Nat} {f : Addr} {name qual : Str} {params : Arguments} {body : List Stmt} {scope : Scope} {dV kV doc pm cdv ct oc : Value} {an od : Option Addr}
    {osl : Array (Option Value)} {N ps : List Str} {sp : Sp} (lk : K.lookup f = some ⟨oc, od, .func (PySem.W.fnOf name qual params body scope dV kV doc pm an cdv ct), osl⟩) (hcd : PySem.W.codeIn K cdv qual = true) (S : FnScope N ps scope)
    (len : ∀ vs H Q E, sp vs H Q E → vs.length = ps.length)
    (hbody : ∀ (A : Around) (outer : List PySem.Env) (s : Shared) (H : Hp) (vs : List V) (Q : VK) (E : XK), Room k (A.deeper (envOfC qual scope s.heap.objs.size f cdv)) → A.guards = some [] → sp vs H Q E →
      ∃ t, PSs (cxOf CX P w K mg base N qual scope f cdv A outer s H E) body t ∧ t { nx := fun _ H' => Q .non H', rt := Q } (L2.start N vs) H) :
    FnG P w K mg base CX (k + 1) f (PySem.W.fnOf name qual params body scope dV kV doc pm an cdv ct) ps sp := by
  constructor
  intro A outer s H args us vs Q E room noRepr ev bound rel given
  have olds : ∀ b o, base.get? b = some o → s.heap.get? b = some o := fun b o e => (ev.bs b o e).1
  have known : K.In s.heap := ev.mod.kin.keeps olds
  have many := len _ _ _ _ given
  refine codeAny_call_function room.depth (known _ _ lk) rfl S.co S.gen rfl (PySem.W.codeRec_of known hcd) (bound _ _ _ _ ?_)
  refine wpAny_newFunctionEnv_cells S.kind (fun ⟨n, v⟩ hy => (S.par n (List.of_mem_zip hy).1).imp_right fun q => ⟨q, PySem.W.cellsFrom_some _ _ _ (.inl q)⟩) fun env e s1 x => ?_
  subst e
  refine ⟨(ev.mod.nolimit.keeps olds).keeps x.toInCall.keep, codeAny_func ?_⟩
  obtain ⟨t, walk, start⟩ := hbody A outer s H vs Q E (room.deeper _) noRepr given
  refine wpAny_mono (walk.run [] s1 (L2.start N vs) H _ (inv_start S room.hd ev many rel x) start) (fun fl s' told => ?_) fun _ _ told => told
  have done : ∀ {σ' : L2.St} {H' : Hp} {v : V} {u : Value}, Inv (cxOf CX P w K mg base N qual scope f cdv A outer s H E) [] σ' H' s' → RelV v u → Q v H' → CE outer P w H s Q u s' := fun J r q => ⟨_, _, J.os, J.bare, J.base, J.hok, r, q⟩
  cases fl with
  | ret u => exact let ⟨_, _, _, J, r, q⟩ := told; done J r q
  | next => exact let ⟨_, _, J, q⟩ := told; done (v := V.non) (u := Value.none) J rfl q
  | brk => exact let ⟨_, _, _, q⟩ := told; False.elim q
  | cont => exact let ⟨_, _, _, q⟩ := told; False.elim q
end
variable [TabsOf]
section
variable {P : Program} {w : World} {K : Fr} {mg : Str → Option Value} {base : Heap} {x qual : Str} {st : Stmt} {f : Addr} {fd : FuncData} {N : List Str} {k pad : Nat} {ω0 ωr : List Sh} {body : Env → Res Fl} {cdv : Value}
theorem law_okG {y : Str} (F : FunC K x qual st f fd cdv) (S : FnScope N [y] (defScope st)) (hpad : pad = N.length - 1) (hω : ω0 = .fz :: List.replicate pad .dead)
    (hbody : ∀ (A : Around) (outer : List PySem.Env) (s : Shared) (H H0 : Hp) (E : XK), Room k (A.deeper (envOfC qual (defScope st) s.heap.objs.size f cdv)) → (A.deeper (envOfC qual (defScope st) s.heap.objs.size f cdv)).guards = some [] →
      ∃ ω1, BX (cxOf (L2N.CX P w) P w K mg base N qual (defScope st) f cdv A outer s H E) H0 Z0 (fun cls d _ H' => E cls d H') ω0 ω1 ωr .fz (defBody st) body) :
    FnG P w K mg base (L2N.CX P w) (k + 1) f fd [y] (SpL (mir pad .fz body) K) := by
  obtain ⟨oc, od, kV, doc, pm, an, ct, osl, e, l, c⟩ := F.ex
  subst e
  refine fnG_of l c S (fun vs H Q E h => ?_) fun A outer s H vs Q E hr hgd h => ?_
  · obtain ⟨_, a, ns, e, _⟩ := h
    rw [e]; rfl
  · obtain ⟨hTb, a, ns, e, hS, hz, hm, hq⟩ := h
    subst e
    have lock : Fz H fun H1 => CL K H1 a (ns.map V.int) ∧ Tb H1 := by
      rcases hS with (h | h) | h
      · exact .step h trivial fun od => .done ⟨.inl ⟨od, upd_same⟩, TabK.upd h trivial hTb⟩
      · exact .done ⟨.inl h, hTb⟩
      · exact .done ⟨.inr h, hTb⟩
    refine ⟨fun Dn σ H1 => Fz H1 fun H2 => ∃ t, PSs (cxOf (L2N.CX P w) P w K mg base N qual (defScope st) f cdv A outer s H E) (defBody st) t ∧ t Dn σ H2, ⟨fun pins s1 σ H1 Dn I hw => ?_⟩, lock.mono fun H2 ⟨h2, hTb2⟩ => ?_⟩
    · obtain ⟨H2, I2, t, pt, q⟩ := hw.inv I
      exact pt.run pins s1 σ H2 Dn I2 q
    · obtain ⟨ω1, t, pt, st'⟩ := hbody A outer s H H2 E hr hgd
      refine ⟨t, pt, st' ([.scr ns] ++ List.replicate pad .non) _ H2 _ ?_ ?_⟩
      · refine ⟨⟨fun b o _ e _ => e, hTb2⟩, [], ?_, by simp, by simp⟩
        have hst : L2.start N [V.ref a] = [V.ref a].map some ++ List.replicate pad none := by
          unfold L2.start
          rw [hpad]; rfl
        rw [hω, hst]
        exact slots_start (ds := [.scr ns]) (vs := [.ref a]) ⟨.ref a, [], rfl, ⟨a, rfl, h2, hz⟩, rfl⟩ pad
      · unfold mir at hm
        cases hb : body ([D.scr ns] ++ List.replicate pad D.non) with
        | bad => rw [hb] at hm; cases hm
        | ex c => rw [hb] at hm; cases hm
        | ok fl =>
          rw [hb] at hm
          have hm : finD .fz fl = .ok (.bl true) := hm
          cases fl with
          | nx ρ' => cases hm
          | rt d ρ' =>
            cases hm
            intro v σ' H' sr'
            obtain ⟨ex, fp, al, nd, fr⟩ := sr'
            obtain ⟨f1, f2, e1, sl, _⟩ := al
            rcases sl with ⟨z, e2⟩ | ⟨u, e2, r⟩
            · cases z
            · cases e2
              rw [show v = .bl true from r.2]
              exact hq H'
end
end Mr

namespace Mr
open PySem PySem.Spec PyProof.Rows L2 LamX
/-! ## the entry: the script locked, the tables empty, nothing else told -/
def scriptO (vs : List Value) : Obj := { cls := .type "list", data := .seq vs.toArray }
def tabO : Obj := { cls := .none, data := .fields #[] }
def entryH (K : PySem.W.Frag) (T : List Addr) (a : Addr) (vs : List Value) (ns : List Int) : Hp := fun b =>
  if b ∈ T then some (.tbl #[]) else if b = a ∧ (K.lookup a).isNone = true then some (.frz (scriptO vs) (.lst (ns.map V.int))) else none
section
variable {P : Program} {w : World} {K : PySem.W.Frag} {T : List Addr} {a : Addr} {vs : List Value} {ns : List Int} {h : Heap}
theorem entry_cases (b : Addr) : (b ∈ T ∧ entryH K T a vs ns b = some (.tbl #[])) ∨ (b ∉ T ∧ b = a ∧ K.lookup a = none ∧ entryH K T a vs ns b = some (.frz (scriptO vs) (.lst (ns.map V.int)))) ∨ (b ∉ T ∧ ¬ (b = a ∧ K.lookup a = none) ∧ entryH K T a vs ns b = none) := by
  unfold entryH
  by_cases h1 : b ∈ T
  · exact .inl ⟨h1, if_pos h1⟩
  · rw [if_neg h1]
    by_cases h2 : b = a ∧ (K.lookup a).isNone = true
    · exact .inr (.inl ⟨h1, h2.1, Option.isNone_iff_eq_none.mp h2.2, if_pos h2⟩)
    · exact .inr (.inr ⟨h1, fun z => h2 ⟨z.1, Option.isNone_iff_eq_none.mpr z.2⟩, if_neg h2⟩)
variable (hT : ∀ b ∈ T, h.get? b = some tabO) (ha : h.get? a = some (scriptO vs))
include hT ha
/-- what is neither a list nor an empty table is not told -/
theorem entry_free {b : Addr} {o : Obj} (e : h.get? b = some o) (h1 : ∀ us n, o.data ≠ .seq us n) (h2 : o.data ≠ .fields #[]) : entryH K T a vs ns b = none := by
  rcases entry_cases (K := K) (T := T) (a := a) (vs := vs) (ns := ns) b with ⟨q, _⟩ | ⟨_, q, _, _⟩ | ⟨_, _, q⟩
  · rw [hT b q] at e; cases e; exact absurd rfl h2
  · rw [q, ha] at e; cases e; exact absurd rfl (h1 vs.toArray 0)
  · exact q
theorem entry_kin (KX : K.In h) (nT : ∀ b ∈ T, K.lookup b = none) : K.In (hidT h (entryH K T a vs ns)) := fun b o e => hidT_get (KX b o e) (by
  rcases entry_cases (K := K) (T := T) (a := a) (vs := vs) (ns := ns) b with ⟨q, _⟩ | ⟨_, q, n, _⟩ | ⟨_, _, q⟩
  · rw [nT b q] at e; cases e
  · rw [q, n] at e; cases e
  · exact q)
theorem entry_ns {b : Addr} {m : Str → Option Value} (n : h.Ns b m) : (hidT h (entryH K T a vs ns)).Ns b m := by
  obtain ⟨o, es, ep, e, d, r⟩ := n
  exact ⟨o, es, ep, hidT_get e (entry_free hT ha e (fun us n z => by rw [d] at z; cases z) fun z => by rw [d] at z; cases z), d, r⟩
theorem entry_hok (hi : IntsAre vs ns) (hl : ns.length ≤ sizeLine) : HOk P w (entryH K T a vs ns) h := fun b u e => by
  rcases entry_cases (K := K) (T := T) (a := a) (vs := vs) (ns := ns) b with ⟨q, z⟩ | ⟨_, q, _, z⟩ | ⟨_, _, z⟩
  · rw [z] at e; cases e; exact hT b q
  · rw [z] at e; cases e
    rw [q]
    exact ⟨ha, by rw [List.length_map]; exact hl, vs, 0, vals_ints hi, ha⟩
  · rw [z] at e; cases e
theorem entry_sq (KX : K.In h) (nA : a ∉ T) (hi : IntsAre vs ns) (hl : ns.length ≤ sizeLine) : SqL K (entryH K T a vs ns) a (ns.map V.int) := by
  rcases entry_cases (K := K) (T := T) (a := a) (vs := vs) (ns := ns) a with ⟨q, _⟩ | ⟨_, _, _, z⟩ | ⟨_, n, _⟩
  · exact absurd q nA
  · exact .inl (.inr ⟨_, z⟩)
  · cases e : K.lookup a with
    | none => exact absurd ⟨rfl, e⟩ n
    | some o =>
      have := KX a o e
      rw [ha] at this
      cases this
      exact .inr ⟨_, vs.toArray, 0, e, rfl, rfl, rfl, by rw [List.size_toArray, hi.length]; exact hl, by simpa using vals_ints hi⟩
end
end Mr

namespace Mr
open PySem PySem.Spec PyProof.Rows L2 LamX
section
variable {P : Program} {w : World} {K : PySem.W.Frag} {mg mb : Str → Option Value} {cs : List (Addr × Addr)} {a : Addr} {vs : List Value} {ns : List Int} {s₁ : Shared}
theorem entry_tab (hns : s₁.heap.Ns mainGlobals mg) (hT : ∀ p ∈ cs, s₁.heap.get? p.2 = some { cls := .none, data := .fields #[] }) (C : ∀ p ∈ cs, PySem.W.CodeHd s₁.heap p.1 p.2)
    (hbm : ∃ (bm : Addr) (ob : Obj), mg "__builtins__" = some (.ref bm) ∧ bm ≠ builtinsNs ∧ s₁.heap.get? bm = some ob ∧ ob.cls = .type "module" ∧ ob.dict = some builtinsNs ∧ ob.data = .plain)
    (ha : s₁.heap.get? a = some (scriptO vs)) : ∀ p ∈ cs, TabB (hidT s₁.heap (entryH K (cs.map (·.2)) a vs ns)) mg p.1 p.2 := fun p hp => by
  have tabs : ∀ b ∈ cs.map (·.2), s₁.heap.get? b = some tabO := fun b hb => by
    obtain ⟨q, hq, rfl⟩ := List.mem_map.mp hb
    exact hT q hq
  have keep : ∀ {b : Addr} {o : Obj}, s₁.heap.get? b = some o → (∀ us n, o.data ≠ .seq us n) → o.data ≠ .fields #[] → (hidT s₁.heap (entryH K (cs.map (·.2)) a vs ns)).get? b = some o := fun e h1 h2 => hidT_get e (entry_free tabs ha e h1 h2)
  obtain ⟨og, es, ep, eg, dg, _⟩ := hns
  have hTp := hT p hp
  refine ⟨?_, ?_, fun z => ?_⟩
  · obtain ⟨o, us, file, tf, flags, tg, inF, text, tt, e1, r1, r2, r3, r⟩ := C p hp
    exact ⟨o, us, file, tf, flags, tg, inF, text, tt, keep e1 (fun us n z => by rw [r2] at z; cases z) (fun z => by rw [r2] at z; cases z; simp at r3), r1, r2, r3, r⟩
  · obtain ⟨bm, ob, b1, b2, b3, b4, b5, b6⟩ := hbm
    refine ⟨bm, ob, b1, b2, fun q => ?_, fun q => ?_, keep b3 (fun us n z => by rw [b6] at z; cases z) (fun z => by rw [b6] at z; cases z), b4, b5, b6⟩
    · rw [q, eg] at b3; cases b3; rw [dg] at b6; cases b6
    · rw [q, hTp] at b3; cases b3; cases b6
  · rw [z, hTp] at eg; cases eg; cases dg
theorem law_callG {CX : CXT} {k : Nat} {fa : Addr} {fd : FuncData} {x : Str} {sp : Sp}
    (KX : K.In s₁.heap) (hns : s₁.heap.Ns mainGlobals mg) (hb : s₁.heap.Ns builtinsNs mb) (hbb : ∀ x : Str, x ≠ "__name__" → mb x = bootBuiltins x) (hlim : s₁.heap.NoLimit) (hg : s₁.gens = #[])
    (hT : ∀ p ∈ cs, s₁.heap.get? p.2 = some { cls := .none, data := .fields #[] }) (nT : ∀ p ∈ cs, K.lookup p.2 = none) (C : ∀ p ∈ cs, PySem.W.CodeHd s₁.heap p.1 p.2)
    (hbm : ∃ (bm : Addr) (ob : Obj), mg "__builtins__" = some (.ref bm) ∧ bm ≠ builtinsNs ∧ s₁.heap.get? bm = some ob ∧ ob.cls = .type "module" ∧ ob.dict = some builtinsNs ∧ ob.data = .plain)
    (ha : s₁.heap.get? a = some { cls := .type "list", data := .seq vs.toArray }) (hi : IntsAre vs ns) (hl : ns.length ≤ sizeLine) (hr : Room k callerA)
    (F : ∀ base : Heap, K.In base → base.Ns mainGlobals mg → (∀ p ∈ cs, TabB base mg p.1 p.2) → FnG P w K mg base CX k fa fd [x] sp) (hbind : ∀ (s : Shared) (u : Value), BindsTo s fd ⟨[u], []⟩ [(x, u)])
    (hsp : ∀ H : Hp, (∀ p ∈ cs, H p.2 = some (.tbl #[])) → SqL K H a (ns.map V.int) → sp [.ref a] H (fun v _ => v = .bl true) fun _ _ _ => False)
    (hCX : ∀ H e s', CX [] H s₁ (fun _ _ _ => False) e s' → False) :
    codeAny (model P w) callerA (.call (.ref fa) ⟨[.ref a], []⟩) (fun r s' => r = .ok (.ret (.bool true)) ∧ OldK s₁.heap s'.heap ∧ s'.os = s₁.os ∧ AllBare s'.gens) s₁ := by
  have tabs : ∀ b ∈ cs.map (·.2), s₁.heap.get? b = some tabO := fun b hb => by
    obtain ⟨q, hq, rfl⟩ := List.mem_map.mp hb
    exact hT q hq
  have noT : ∀ b ∈ cs.map (·.2), K.lookup b = none := fun b hb => by
    obtain ⟨q, hq, rfl⟩ := List.mem_map.mp hb
    exact nT q hq
  have nA : a ∉ cs.map (·.2) := fun z => by
    have q := tabs a z
    rw [ha] at q
    have := congrArg Obj.data (Option.some.inj q)
    cases this
  have empty : ∀ p ∈ cs, entryH K (cs.map (·.2)) a vs ns p.2 = some (.tbl #[]) := fun p hp => if_pos (List.mem_map.mpr ⟨p, hp, rfl⟩)
  have held : HOk P w (entryH K (cs.map (·.2)) a vs ns) s₁.heap := entry_hok tabs ha hi hl
  have kin := entry_kin (K := K) (vs := vs) (ns := ns) tabs ha KX noT
  have env : Env0 P w K mg (hidT s₁.heap (entryH K (cs.map (·.2)) a vs ns)) callerA [] s₁ (entryH K (cs.map (·.2)) a vs ns) :=
    ⟨rfl, ⟨kin, entry_ns tabs ha hns, ⟨mb, entry_ns tabs ha hb, hbb⟩, let ⟨mc, h1, h2⟩ := hlim; ⟨mc, entry_ns tabs ha h1, h2⟩⟩, fun b o e => of_hidT e, Nat.le_of_eq (hidT_size _ _), trivial, fun b hb => absurd (show b ∈ ([] : List Addr) from hb) (by simp), held, .of_eq hg⟩
  refine codeAny_mono ((F _ kin (entry_ns tabs ha hns) (entry_tab hns hT C hbm ha)).run callerA [] s₁ _ ⟨[.ref a], []⟩ [.ref a] [.ref a] _ _ hr rfl env (hbind s₁ (.ref a)) (.cons rfl .nil) (hsp _ empty (entry_sq tabs ha KX nA hi hl))) fun r s' told => ?_
  match r, told with
  | .error e, told => exact (hCX _ e s' told).elim
  | .ok .next, told => exact False.elim told
  | .ok .brk, told => exact False.elim told
  | .ok .cont, told => exact False.elim told
  | .ok (.ret u), told =>
    obtain ⟨v, H', os, bare, un, held', r', q⟩ := told
    have q' : v = .bl true := q
    subst q'
    obtain rfl : u = Value.bool true := r'
    have same : ∀ b o, b ∉ cs.map (·.2) → s₁.heap.get? b = some o → s'.heap.get? b = some o := fun b o nb e => by
      rcases entry_cases (K := K) (T := cs.map (·.2)) (a := a) (vs := vs) (ns := ns) b with ⟨z, _⟩ | ⟨_, _, _, z⟩ | ⟨_, _, z⟩
      · exact absurd z nb
      · obtain ⟨e1, _⟩ := held b _ z
        obtain ⟨e2, _⟩ := held' b _ (un.frzs b _ _ z)
        rw [e] at e1
        cases e1
        exact e2
      · exact un.keep b o e z (by intro z; exact absurd (show b ∈ ([] : List Addr) from z) (by simp)) (by simp)
    have grown : ∀ p ∈ cs, ∃ more : Array Value, s'.heap.get? p.2 = some { cls := .none, data := .fields more } := fun p hp => by
      obtain ⟨more, z⟩ := un.tbls p.2 #[] (empty p hp)
      exact ⟨_, held' p.2 _ z⟩
    refine ⟨rfl, ⟨fun b o e => ?_, fun b o e => ?_⟩, os, bare⟩
    · by_cases hb : b ∈ cs.map (·.2)
      · obtain ⟨p, hp, rfl⟩ := List.mem_map.mp hb
        obtain ⟨more, hm⟩ := grown p hp
        rw [hT p hp] at e
        cases e
        exact .inr (.inl ⟨((C p hp).tab (hT p hp)).isCodeTable, rfl, #[], more, rfl, by rw [Array.empty_append]; exact hm⟩)
      · exact .inl (same b o hb e)
    · by_cases hb : b ∈ cs.map (·.2)
      · obtain ⟨p, hp, rfl⟩ := List.mem_map.mp hb
        obtain ⟨more, hm⟩ := grown p hp
        exact ⟨_, hm⟩
      · exact ⟨o, same b o hb e⟩
end
/-- what is known of the law's promise at the head's heap, where no repr goes on -/
def LawAtG (l : PySem.W.OpenLaw) (w : World) (K : PySem.W.Frag) (k n : Nat) (x : Str) (mg : Str → Option Value) (fa : Addr) (h : Heap) : Prop :=
  ∃ (fd : FuncData) (cs : List (Addr × Addr)) (sp : Sp), (∀ p ∈ cs, h.get? p.2 = some { cls := .none, data := .fields #[] }) ∧ (∀ p ∈ cs, K.lookup p.2 = none) ∧ (∀ p ∈ cs, PySem.W.CodeHd h p.1 p.2) ∧ (∀ (s : Shared) (u : Value), BindsTo s fd ⟨[u], []⟩ [(x, u)]) ∧
    (∀ (H : Hp) (a : Addr) (ns : List Int), ns.length ≤ n → (∀ z ∈ ns, Builtin.Int.intBits z ≤ 1048576) → (∀ p ∈ cs, H p.2 = some (.tbl #[])) → SqL K H a (ns.map V.int) → sp [.ref a] H (fun v _ => v = .bl true) fun _ _ _ => False) ∧
    ∀ base : Heap, K.In base → base.Ns mainGlobals mg → (∀ p ∈ cs, TabB base mg p.1 p.2) → FnG l.prog w K mg base (L2N.CX l.prog w) k fa fd [x] sp
theorem walk_freshG {l : PySem.W.OpenLaw} {n k : Nat} {q : Program} {loose : List Str} {XP : (Str → Option Value) → Heap → Prop} {YP : World → Heap → Prop} {d : DefRec} {K : Params → PySem.W.Frag} {x : Str}
    (hn : l.most = some n) (hn2 : n ≤ sizeLine) (hdf : d.params.defaults = []) (hr : Room k callerA) (hY : ∀ (w : World) (h : Heap), YP w h → (K w.params).In h)
    (F : ∀ (w : World) (mg : Str → Option Value) (fa : Addr) (h : Heap), YP w h → (K w.params).In h → h.Ns mainGlobals mg → mg d.name = some (.ref fa) → Mh.Fresh q (K w.params) mg h → LawAtG l w (K w.params) k n x mg fa h) :
    PySem.W.WalkO q loose XP YP l.row.toRowW d [] (fun f vs => PySem.call f vs) := by
  refine Att.attach_callB hn hdf fun w s₀ s₁ mg mb fa o pm cd doc a vs ns G Y ho hd hcd hmg hobj hints hlen hbits hg => ?_
  have inK := hY w _ Y
  have fresh : Mh.Fresh q (K w.params) mg s₁.heap := fun y g hy hmy c P ob fd e dd fs sl e1 e2 e3 e4 e5 => by
    obtain ⟨r, hr1, hr2⟩ := List.any_eq_true.mp hy
    have hr2 : r.name = y := beq_iff_eq.mp hr2
    obtain ⟨_, _, _, _, _, t1, t2, t3, t4, _, t6⟩ := G.T.tab r hr1
    rw [hr2, hmy] at t1
    cases t1
    rw [inK _ _ e1] at t2
    cases t2
    rw [e2] at t3
    cases t3
    rw [e3] at t4
    cases t4
    obtain ⟨⟨_, _, u1, _, u3, u4⟩, hP⟩ := t6
    rw [inK _ _ e4] at u1
    cases u1
    cases u3
    rw [e5] at u4
    cases u4
    exact hP
  obtain ⟨fd, cs, sp, z1, z2, z3, z4, z5, z6⟩ := F w mg fa _ Y inK G.T.g hmg fresh
  exact law_callG inK G.T.g G.T.b G.T.builtins G.T.nolimit hg z1 z2 z3 G.T.bmain hobj hints (Nat.le_trans hlen hn2) hr z6 z4 (fun H h1 h2 => z5 H a ns hlen hbits h1 h2) fun H e s' z => Mr.law_cx z
end Mr

namespace LW
open PySem PySem.Spec PyProof.Rows L2
open Mr Mr.Res Mh
def topS (i : Nat) : Stmt := PySem.Challenge.pw_heatclocks_k60_whole_records.main.body.getD i (.Pass ⟨0, 0, 0, 0⟩)
def kst (d : D) (_ : Mr.Env) : Res D := .ok d
@[simp] theorem kst_ap (d : D) (ρ : Mr.Env) : kst d ρ = .ok d := nr rfl
variable [TabsOf]
abbrev s__law_drawn : Stmt := topS 28
theorem sc__law_drawn : FnScope ["_law_cell_here", "_law_k", "_law_more"] ["_law_cell_here", "_law_k"] (defScope s__law_drawn) := ⟨rfl, rfl, rfl, by decide +kernel, rfl, by decide +kernel, by decide +kernel⟩
def b__law_drawn : Mr.Env → Res Fl := (seqF (setF 2 (op2 modD (op2 addD (op2 mulI (nv 0) (kst (.int 6364136223846793005))) (op2 mulI (op2 addD (nv 1) (kst (.int 1))) (kst (.int 1442695040888963407)))) (kst (.int 340282366920938463463374607431768211507)))) (seqF (setF 2 (op2 modD (op2 mulI (nv 2) (nv 2)) (kst (.int 340282366920938463463374607431768211297)))) (seqF (setF 2 (op2 mulI (op2 mulI (op2 addD (op2 modD (nv 2) (kst (.int 18446744073709551557))) (kst (.int 1))) (op2 addD (op2 fdivD (nv 2) (kst (.int 18446744073709551557))) (kst (.int 1)))) (nv 2))) (seqF (retF (List.replicate 3 .dead) (op2 modD (nv 2) (kst (.int 340282366920938463463374607431768211507)))) nxF))))
def m__law_drawn : List D → Res D := mir 1 .fz b__law_drawn
theorem ok__law_drawn {P : Program} {w : World} {K : PySem.W.Frag} {mg : Str → Option Value} {base : Heap} {f : Addr} {fd : FuncData} (F : Fun K "_law_drawn" "_law_drawn" s__law_drawn f fd) (hm : mg "_law_drawn" = some (.ref f)) : Dok P w K mg base 1 "_law_drawn" ["_law_cell_here", "_law_k"] .fz m__law_drawn :=
  ⟨f, fd, fun_ok (n := 2) (pad := 1) (ω0 := [.fz, .fz, .dead]) (ωr := (List.replicate 3 .dead)) (body := b__law_drawn) F sc__law_drawn rfl rfl rfl (by decide) fun cdv A outer s H E hr => ⟨(List.replicate 3 .dead), (bx_cons (sx_set 2 sc__law_drawn.nd (px_mod (PX.v (px_add (PX.v (px_mul (PX.v (px_v 0)) (PX.v px_int))) (PX.v (px_mul (PX.v (px_add (PX.v (px_v 1)) (PX.v px_int))) (PX.v px_int))))) (PX.v px_int))) (bx_cons (sx_set 2 sc__law_drawn.nd (px_mod (PX.v (px_mul (PX.v (px_v 2)) (PX.v (px_v 2)))) (PX.v px_int))) (bx_cons (sx_set 2 sc__law_drawn.nd (px_mul (PX.v (px_mul (PX.v (px_add (PX.v (px_mod (PX.v (px_v 2)) (PX.v px_int))) (PX.v px_int))) (PX.v (px_add (PX.v (px_fdiv (PX.v (px_v 2)) (PX.v px_int))) (PX.v px_int))))) (PX.v (px_v 2)))) (bx_cons (sx_ret (px_mod (PX.v (px_v 2)) (PX.v px_int))) bx_nil))))⟩, hm, F.kp, F.binds fun _ _ _ _ _ _ us hl => match us, hl with | [_, _], _ => rfl⟩
abbrev s__law_cell : Stmt := topS 27
theorem sc__law_cell : FnScope ["_law_script", "_law_k"] ["_law_script", "_law_k"] (defScope s__law_cell) := ⟨rfl, rfl, rfl, by decide +kernel, rfl, by decide +kernel, by decide +kernel⟩
def b__law_cell : Mr.Env → Res Fl := (seqF (ifF (tst (op2 eqA (nv 0) (kst (.lst [])))) (seqF (retF (List.replicate 2 .dead) (op2 mulI (nv 1) (kst (.int 7919)))) nxF) nxF) (seqF (retF (List.replicate 2 .dead) (op2 addD (op2 ixD (nv 0) (op2 modD (nv 1) (callF (consA (nv 0) nilA) lenD))) (op2 mulI (op2 fdivD (nv 1) (callF (consA (nv 0) nilA) lenD)) (kst (.int 104729))))) nxF))
def m__law_cell : List D → Res D := mir 0 .fz b__law_cell
theorem ok__law_cell {P : Program} {w : World} {K : PySem.W.Frag} {mg : Str → Option Value} {base : Heap} {f : Addr} {fd : FuncData} (F : Fun K "_law_cell" "_law_cell" s__law_cell f fd) (hm : mg "_law_cell" = some (.ref f)) (z_len : mg "len" = none) : Dok P w K mg base 1 "_law_cell" ["_law_script", "_law_k"] .fz m__law_cell :=
  ⟨f, fd, fun_ok (n := 2) (pad := 0) (ω0 := [.fz, .fz]) (ωr := (List.replicate 2 .dead)) (body := b__law_cell) F sc__law_cell rfl rfl rfl (by decide) fun cdv A outer s H E hr => ⟨(List.replicate 2 .dead), (bx_cons (sx_if (ptx_cmp (op_eqA hr) eqA_s eqA_ne (PX.v (px_v 0)) (PX.v (PX.freeze (px_lst0 .fz))) (nomark _)) (bx_cons (sx_ret (px_mul (PX.v (px_v 1)) (PX.v px_int))) bx_nil) bx_nil) (bx_cons (sx_ret (px_add (PX.v (px_ix (u1 hr) (PX.v (px_v 0)) (px_mod (PX.v (px_v 1)) (PX.v (px_len (by rfl) z_len (pav_cons (PX.v (px_v 0)) pav_nil)))))) (PX.v (px_mul (PX.v (px_fdiv (PX.v (px_v 1)) (PX.v (px_len (by rfl) z_len (pav_cons (PX.v (px_v 0)) pav_nil))))) (PX.v px_int))))) bx_nil))⟩, hm, F.kp, F.binds fun _ _ _ _ _ _ us hl => match us, hl with | [_, _], _ => rfl⟩
abbrev wn0 : List Str := ["BadTime", "BadText", "BadRules", "BadHeat", "BadJudges", "BadEntry", "BadNumber", "BadRecord", "Nothing"]
abbrev s__law_word : Stmt := topS 29
theorem sc__law_word : FnScope ["_law_e", "_law_flags", "_law_words", "_law_flag"] ["_law_e"] (defScope s__law_word) := ⟨rfl, rfl, rfl, by decide +kernel, rfl, by decide +kernel, by decide +kernel⟩
def b__law_word (a : Addr) (nm : Str) : Mr.Env → Res Fl := (seqF (setF 1 (lstF (consA (isEF a (decide (("BadTime" : Str) = nm)) (nv 0)) (consA (isEF a (decide (("BadText" : Str) = nm)) (nv 0)) (consA (isEF a (decide (("BadRules" : Str) = nm)) (nv 0)) (consA (isEF a (decide (("BadHeat" : Str) = nm)) (nv 0)) nilA)))))) (seqF (setF 1 (op2 addD (nv 1) (lstF (consA (isEF a (decide (("BadJudges" : Str) = nm)) (nv 0)) (consA (isEF a (decide (("BadEntry" : Str) = nm)) (nv 0)) (consA (isEF a (decide (("BadNumber" : Str) = nm)) (nv 0)) nilA)))))) (seqF (setF 1 (op2 addD (nv 1) (lstF (consA (isEF a (decide (("BadRecord" : Str) = nm)) (nv 0)) (consA (isEF a (decide (("Nothing" : Str) = nm)) (nv 0)) nilA))))) (seqF (ifF (orR (tst (op2 neA (callF (consA (flgF (nv 1)) nilA) sumD) (kst (.int 1)))) (notR (tst (isEF a true (nv 0))))) (seqF (retF (List.replicate 4 .dead) (kst (.str "other"))) nxF) nxF) (seqF (setF 2 (lstF (consA (kst (.str "BadTime")) (consA (kst (.str "BadText")) (consA (kst (.str "BadRules")) (consA (kst (.str "BadHeat")) (consA (kst (.str "BadJudges")) (consA (kst (.str "BadEntry")) (consA (kst (.str "BadNumber")) (consA (kst (.str "BadRecord")) (consA (kst (.str "Nothing")) nilA))))))))))) (seqF (retF (List.replicate 4 .dead) (op2 ixD (nv 2) (idxF (nv 1) (kst (.bl true))))) nxF))))))
theorem wd__law_word (a : Addr) : ∀ nm ∈ wn0, ∃ ρ, b__law_word a nm ([.adr a] ++ List.replicate 3 .non) = .ok (.rt (.str nm) ρ) := by
  intro nm h
  simp only [wn0, List.mem_cons, List.not_mem_nil, or_false] at h
  rcases h with rfl | rfl | rfl | rfl | rfl | rfl | rfl | rfl | rfl
  all_goals
    refine ⟨List.replicate 4 .non, ?_⟩
    simp (decide := true) [b__law_word, isEF_nv, flgF_ap, flgK, allBl, idxF_ap, idxK, asL, idxL, addD_lst, sumD, intsOf, List.findIdx, List.findIdx.go]
    try rfl
theorem ok__law_word {P : Program} {w : World} {K : PySem.W.Frag} {mg : Str → Option Value} {base : Heap} {f : Addr} {fd : FuncData} (F : Fun K "_law_word" "_law_word" s__law_word f fd) (z_ValueError : mg "ValueError" = none) (z_int : mg "int" = none) (z_isinstance : mg "isinstance" = none) (z_sum : mg "sum" = none) : FnW P w K mg base (L2N.CX P w) 1 f fd ["_law_e"] (spW (WTp K mg wn0)) :=
  word_ok (pad := 3) (ω0 := [.fz, .dead, .dead, .dead]) (ωr := (List.replicate 4 .dead)) F sc__law_word rfl rfl rfl fun cdv A outer s H E p C nm hz hf hw hot hr => ⟨(List.replicate 4 .dead), b__law_word p.1 nm, ((bx_cons (sx_set 1 sc__law_word.nd (PX.freeze (px_lst (pax_cons (px_isK List.mem_cons_self hz hf hw (px_v 0) (by rfl) z_isinstance (by rfl) (by decide)) (pax_cons (px_isK List.mem_cons_self hz hf hw (px_v 0) (by rfl) z_isinstance (by rfl) (by decide)) (pax_cons (px_isK List.mem_cons_self hz hf hw (px_v 0) (by rfl) z_isinstance (by rfl) (by decide)) (pax_cons (px_isK List.mem_cons_self hz hf hw (px_v 0) (by rfl) z_isinstance (by rfl) (by decide)) pax_nil))))))) (bx_cons (sx_set 1 sc__law_word.nd (px_add (PX.v (px_v 1)) (PX.v (PX.freeze (px_lst (pax_cons (px_isK List.mem_cons_self hz hf hw (px_v 0) (by rfl) z_isinstance (by rfl) (by decide)) (pax_cons (px_isK List.mem_cons_self hz hf hw (px_v 0) (by rfl) z_isinstance (by rfl) (by decide)) (pax_cons (px_isK List.mem_cons_self hz hf hw (px_v 0) (by rfl) z_isinstance (by rfl) (by decide)) pax_nil)))))))) (bx_cons (sx_set 1 sc__law_word.nd (px_add (PX.v (px_v 1)) (PX.v (PX.freeze (px_lst (pax_cons (px_isK List.mem_cons_self hz hf hw (px_v 0) (by rfl) z_isinstance (by rfl) (by decide)) (pax_cons (px_isK List.mem_cons_self hz hf hw (px_v 0) (by rfl) z_isinstance (by rfl) (by decide)) pax_nil))))))) (bx_cons (sx_if (PWX.pt (pwx_or (ptx_cmp (op_neH hr) neA_s neA_ne (PX.v (px_sumH hot (by rfl) z_sum (pav_cons (PX.v (PX.freeze (px_flags hot (PX.v (px_v 1)) z_int))) pav_nil))) (PX.v px_int) (nomark _)) (pwx_or1 (ptx_not (ptx_v (px_isV List.mem_cons_self hz hf hw (px_v 0) (by rfl) z_isinstance (by rfl) z_ValueError)))))) (bx_cons (sx_ret px_str) bx_nil) bx_nil) (bx_cons (sx_set 2 sc__law_word.nd (PX.freeze (px_lst (pax_cons px_str (pax_cons px_str (pax_cons px_str (pax_cons px_str (pax_cons px_str (pax_cons px_str (pax_cons px_str (pax_cons px_str (pax_cons px_str pax_nil)))))))))))) (bx_cons (sx_ret (px_ix (uH hr) (PX.v (px_v 2)) (px_index (PX.v (px_v 1)) px_bl))) bx_nil))))))), wd__law_word p.1 nm hw.mem⟩
abbrev s__law_told : Stmt := topS 30
abbrev wn : List Str := wn0
theorem sc__law_told : FnScope ["_law_deed", "_law_e"] ["_law_deed"] (defScope s__law_told) := ⟨rfl, rfl, rfl, by decide +kernel, rfl, by decide +kernel, by decide +kernel⟩
theorem ok__law_told {P : Program} {w : World} {K : PySem.W.Frag} {mg : Str → Option Value} {base : Heap} {f fw CS : Addr} {fd fdw : FuncData} (F : Fun K "_law_told" "_law_told" s__law_told f fd) (hm : mg "_law_told" = some (.ref f)) (hme : mg "HeatError" = some (.ref CS)) (hmw : mg "_law_word" = some (.ref fw)) (Fn : Fun K "_law_word" "_law_word" s__law_word fw fdw) (Fw : FnW P w K mg base (L2N.CX P w) 1 fw fdw ["_law_e"] (spW (WTp K mg wn))) (hn : ∀ c ∈ wn, ∀ C, mg c = some (.ref C) → WTp K mg wn C c ∧ PySem.W.exmOne K (.ref C) (.ref CS) = some true) : ToldOk P w K mg base 4 "_law_told" wn :=
  told_ok F hm rfl sc__law_told (F.binds fun _ _ _ _ _ _ us hl => match us, hl with | [_], _ => rfl) (.inl rfl) (by rfl) (by rfl) hme (by rfl) hmw Fn.kp (Fn.binds fun _ _ _ _ _ _ us hl => match us, hl with | [_], _ => rfl) (Fw.mono (by decide)) hn
abbrev s_is_count : Stmt := topS 13
theorem sc_is_count : FnScope ["thing", "low", "high"] ["thing", "low", "high"] (defScope s_is_count) := ⟨rfl, rfl, rfl, by decide +kernel, rfl, by decide +kernel, by decide +kernel⟩
def b_is_count : Mr.Env → Res Fl := (seqF (retF (List.replicate 3 .dead) (andV (isiF .int (nv 0)) (andV (notV (isiF .bool (nv 0))) (chV leD leD (nv 1) (nv 0) (nv 2))))) nxF)
def m_is_count : List D → Res D := mir 0 .fz b_is_count
theorem ok_is_count {P : Program} {w : World} {K : PySem.W.Frag} {mg : Str → Option Value} {base : Heap} {f : Addr} {fd : FuncData} (F : Fun K "is_count" "is_count" s_is_count f fd) (hm : mg "is_count" = some (.ref f)) (z_bool : mg "bool" = none) (z_int : mg "int" = none) (z_isinstance : mg "isinstance" = none) : Dok P w K mg base 1 "is_count" ["thing", "low", "high"] .fz m_is_count :=
  ⟨f, fd, fun_ok (n := 3) (pad := 0) (ω0 := [.fz, .fz, .fz]) (ωr := (List.replicate 3 .dead)) (body := b_is_count) F sc_is_count rfl rfl rfl (by decide) fun cdv A outer s H E hr => ⟨(List.replicate 3 .dead), (bx_cons (sx_ret (px_and (px_isi .int (PX.v (px_v 0)) rfl (by rfl) z_isinstance (by rfl) z_int (by decide +kernel)) (px_and (px_not (px_isi .bool (PX.v (px_v 0)) rfl (by rfl) z_isinstance (by rfl) z_bool (by decide +kernel))) (px_one (px_ch op_le op_le le_s le_s leD_ne leD_ne (PX.v (px_v 1)) (PX.v (px_v 0)) (PX.v (px_v 2))))))) bx_nil)⟩, hm, F.kp, F.binds fun _ _ _ _ _ _ us hl => match us, hl with | [_, _, _], _ => rfl⟩
abbrev s_is_time : Stmt := topS 14
theorem sc_is_time : FnScope ["thing"] ["thing"] (defScope s_is_time) := ⟨rfl, rfl, rfl, by decide +kernel, rfl, by decide +kernel, by decide +kernel⟩
def b_is_time : Mr.Env → Res Fl := (seqF (retF (List.replicate 1 .dead) (callF (consA (nv 0) (consA (kst (.int 1)) (consA (kst (.int 359999)) nilA))) m_is_count)) nxF)
def m_is_time : List D → Res D := mir 0 .fz b_is_time
theorem ok_is_time {P : Program} {w : World} {K : PySem.W.Frag} {mg : Str → Option Value} {base : Heap} {f : Addr} {fd : FuncData} (F : Fun K "is_time" "is_time" s_is_time f fd) (hm : mg "is_time" = some (.ref f)) (h_is_count : Dok P w K mg base 1 "is_count" ["thing", "low", "high"] .fz m_is_count) (c_MOST_TIME : ∃ t, mg "MOST_TIME" = some (.int 359999 t)) : Dok P w K mg base 2 "is_time" ["thing"] .fz m_is_time :=
  ⟨f, fd, fun_ok (n := 1) (pad := 0) (ω0 := [.fz]) (ωr := (List.replicate 1 .dead)) (body := b_is_time) F sc_is_time rfl rfl rfl (by decide) fun cdv A outer s H E hr => ⟨(List.replicate 1 .dead), (bx_cons (sx_ret (px_callD h_is_count (hr.mono (by decide)) (L2N.takes_of (by rfl) (by rfl) (by rfl) (by rfl)) (by rfl) (pax_cons (px_v 0) (pax_cons px_int (pax_cons (px_giE (by rfl) c_MOST_TIME) pax_nil))) (len_cons (len_cons (len_cons len_nil))))) bx_nil)⟩, hm, F.kp, F.binds fun _ _ _ _ _ _ us hl => match us, hl with | [_], _ => rfl⟩
abbrev s_is_name : Stmt := topS 17
theorem sc_is_name : FnScope ["thing", "sign"] ["thing"] (defScope s_is_name) := ⟨rfl, rfl, rfl, by decide +kernel, rfl, by decide +kernel, by decide +kernel⟩
def b_is_name : Mr.Env → Res Fl := (seqF (retF (List.replicate 2 .dead) (andV (isiF .str (nv 0)) (andV (chV leD leD (kst (.int 1)) (callF (consA (nv 0) nilA) lenD) (kst (.int 8))) (callF (consA (lcF (iterF (nv 0)) [1] (nmG 1) yesR (op2 (inV' false) (nv 1) (kst (.str "abcdefghijklmnopqrstuvwxyz")))) nilA) allD)))) nxF)
def m_is_name : List D → Res D := mir 1 .fz b_is_name
theorem ok_is_name {P : Program} {w : World} {K : PySem.W.Frag} {mg : Str → Option Value} {base : Heap} {f : Addr} {fd : FuncData} (F : Fun K "is_name" "is_name" s_is_name f fd) (hm : mg "is_name" = some (.ref f)) (z_all : mg "all" = none) (z_isinstance : mg "isinstance" = none) (z_len : mg "len" = none) (z_str : mg "str" = none) (c_LETTERS : ∃ t, mg "LETTERS" = some (.str "abcdefghijklmnopqrstuvwxyz" t)) : Dok P w K mg base 1 "is_name" ["thing"] .fz m_is_name :=
  ⟨f, fd, fun_ok (n := 1) (pad := 1) (ω0 := [.fz, .dead]) (ωr := (List.replicate 2 .dead)) (body := b_is_name) F sc_is_name rfl rfl rfl (by decide) fun cdv A outer s H E hr => ⟨(List.replicate 2 .dead), (bx_cons (sx_ret (px_and (px_isi .str (PX.v (px_v 0)) rfl (by rfl) z_isinstance (by rfl) z_str (by decide +kernel)) (px_and (px_ch op_le op_le le_s le_s leD_ne leD_ne (PX.v px_int) (PX.v (px_len (by rfl) z_len (pav_cons (PX.v (px_v 0)) pav_nil))) (PX.v px_int)) (px_one (px_all (by rfl) (by rfl) z_all (pav_cons (PX.v (PX.freeze (px_lc (own := [("sign", 1)]) (by rfl) sc_is_name.nd (ix_v (px_v 0)) (blkOk_by (by rfl)) (fun _ _ _ _ _ => (tc_name 1 sc_is_name.nd)) (fun _ _ _ _ _ => ttx_nil) (fun _ _ _ _ _ => (px_in (u1 hr) (px_v 1) (PX.v (px_gsE (by rfl) c_LETTERS))))))) pav_nil)))))) bx_nil)⟩, hm, F.kp, F.binds fun _ _ _ _ _ _ us hl => match us, hl with | [_], _ => rfl⟩
abbrev s_need_record : Stmt := topS 20
theorem sc_need_record : FnScope ["record", "names", "name"] ["record"] (defScope s_need_record) := ⟨rfl, rfl, rfl, by decide +kernel, rfl, by decide +kernel, by decide +kernel⟩
def b_need_record : Mr.Env → Res Fl := (seqF (ifF (tst (op2 isD (nv 0) (kst .non))) (seqF (retN (List.replicate 3 .dead)) nxF) nxF) (seqF (ifF (orR (notR (tst (isiF .tuple (nv 0)))) (orR (tst (op2 neA (callF (consA (nv 0) nilA) lenD) (kst (.int 2)))) (notR (tst (callF (consA (op2 ixD (nv 0) (kst (.int 0))) nilA) m_is_time))))) (seqF (raF "BadRecord") nxF) nxF) (seqF (setF 1 (op2 ixD (nv 0) (kst (.int 1)))) (seqF (ifF (orR (notR (tst (isiF .tuple (nv 1)))) (orR (tst (op2 eqA (nv 1) (tupF nilA))) (notR (tst (callF (consA (lcF (iterF (nv 1)) [2] (nmG 2) yesR (callF (consA (nv 2) nilA) m_is_name)) nilA) allD))))) (seqF (raF "BadRecord") nxF) nxF) nxF))))
def m_need_record : List D → Res D := mir 2 .fz b_need_record
theorem ok_need_record {P : Program} {w : World} {K : PySem.W.Frag} {mg : Str → Option Value} {base : Heap} {f : Addr} {fd : FuncData} (F : Fun K "need_record" "need_record" s_need_record f fd) (hm : mg "need_record" = some (.ref f)) (h_is_time : Dok P w K mg base 2 "is_time" ["thing"] .fz m_is_time) (h_is_name : Dok P w K mg base 1 "is_name" ["thing"] .fz m_is_name) (z_all : mg "all" = none) (z_isinstance : mg "isinstance" = none) (z_len : mg "len" = none) (z_tuple : mg "tuple" = none) (x_BadRecord : Exn K mg "BadRecord") : Dok P w K mg base 3 "need_record" ["record"] .fz m_need_record :=
  ⟨f, fd, fun_ok (n := 1) (pad := 2) (ω0 := [.fz, .dead, .dead]) (ωr := (List.replicate 3 .dead)) (body := b_need_record) F sc_need_record rfl rfl rfl (by decide) fun cdv A outer s H E hr => ⟨_, (bx_cons (sx_if (ptx_cmp op_isN is_s isD_ne (PX.v (px_v 0)) (PX.v px_non) (nomark _)) (bx_cons sx_retN bx_nil) bx_nil) (bx_cons (sx_if (PWX.pt (pwx_or (ptx_not (ptx_v (px_isi .tuple (PX.v (px_v 0)) rfl (by rfl) z_isinstance (by rfl) z_tuple (by decide +kernel)))) (pwx_or (ptx_cmp (op_neA hr) neA_s neA_ne (PX.v (px_len (by rfl) z_len (pav_cons (PX.v (px_v 0)) pav_nil))) (PX.v px_int) (nomark _)) (pwx_or1 (ptx_not (ptx_v (px_callD h_is_time (hr.mono (by decide)) (L2N.takes_of (by rfl) (by rfl) (by rfl) (by rfl)) (by rfl) (pax_cons (px_ix (u1 hr) (PX.v (px_v 0)) px_int) pax_nil) (len_cons len_nil)))))))) (bx_cons (sx_rz x_BadRecord (by rfl) (L2N.takes_of (by rfl) (by rfl) (by rfl) (by rfl)) (by rfl)) bx_nil) bx_nil) (bx_cons (sx_set 1 sc_need_record.nd (px_ix (u1 hr) (PX.v (px_v 0)) px_int)) (bx_cons (sx_if (PWX.pt (pwx_or (ptx_not (ptx_v (px_isi .tuple (PX.v (px_v 1)) rfl (by rfl) z_isinstance (by rfl) z_tuple (by decide +kernel)))) (pwx_or (ptx_cmp (op_eqA hr) eqA_s eqA_ne (PX.v (px_v 1)) (PX.v (px_tup pax_nil)) (nomark _)) (pwx_or1 (ptx_not (ptx_v (px_all (by rfl) (by rfl) z_all (pav_cons (PX.v (PX.freeze (px_lc (own := [("name", 2)]) (by rfl) sc_need_record.nd (ix_v (px_v 1)) (blkOk_by (by rfl)) (fun _ _ _ _ _ => (tc_name 2 sc_need_record.nd)) (fun _ _ _ _ _ => ttx_nil) (fun _ _ _ _ _ => (px_callD h_is_name (hr.mono (by decide)) tk_no (by rfl) (pax_cons (px_v 2) pax_nil) (len_cons len_nil)))))) pav_nil)))))))) (bx_cons (sx_rz x_BadRecord (by rfl) (L2N.takes_of (by rfl) (by rfl) (by rfl) (by rfl)) (by rfl)) bx_nil) bx_nil) bx_nil))))⟩, hm, F.kp, F.binds fun _ _ _ _ _ _ us hl => match us, hl with | [_], _ => rfl⟩
abbrev s_need_sorts : Stmt := topS 21
theorem sc_need_sorts : FnScope ["sorts", "sort"] ["sorts"] (defScope s_need_sorts) := ⟨rfl, rfl, rfl, by decide +kernel, rfl, by decide +kernel, by decide +kernel⟩
def b_need_sorts : Mr.Env → Res Fl := (seqF (ifF (orR (notR (tst (isiF .tuple (nv 0)))) (notR (tst (callF (consA (lcF (iterF (nv 0)) [1] (nmG 1) yesR (andV (isiF .str (nv 1)) (op2 (inV' false) (nv 1) (kst (.ctup ["pad", "shifted", "hands"]))))) nilA) allD)))) (seqF (raF "BadRecord") nxF) nxF) nxF)
def m_need_sorts : List D → Res D := mir 1 .fz b_need_sorts
theorem ok_need_sorts {P : Program} {w : World} {K : PySem.W.Frag} {mg : Str → Option Value} {base : Heap} {f : Addr} {fd : FuncData} (F : Fun K "need_sorts" "need_sorts" s_need_sorts f fd) (hm : mg "need_sorts" = some (.ref f)) (z_all : mg "all" = none) (z_isinstance : mg "isinstance" = none) (z_str : mg "str" = none) (z_tuple : mg "tuple" = none) (c_SORTS : CTup K mg "SORTS" ["pad", "shifted", "hands"]) (x_BadRecord : Exn K mg "BadRecord") : Dok P w K mg base 1 "need_sorts" ["sorts"] .fz m_need_sorts :=
  ⟨f, fd, fun_ok (n := 1) (pad := 1) (ω0 := [.fz, .dead]) (ωr := (List.replicate 2 .dead)) (body := b_need_sorts) F sc_need_sorts rfl rfl rfl (by decide) fun cdv A outer s H E hr => ⟨_, (bx_cons (sx_if (PWX.pt (pwx_or (ptx_not (ptx_v (px_isi .tuple (PX.v (px_v 0)) rfl (by rfl) z_isinstance (by rfl) z_tuple (by decide +kernel)))) (pwx_or1 (ptx_not (ptx_v (px_all (by rfl) (by rfl) z_all (pav_cons (PX.v (PX.freeze (px_lc (own := [("sort", 1)]) (by rfl) sc_need_sorts.nd (ix_v (px_v 0)) (blkOk_by (by rfl)) (fun _ _ _ _ _ => (tc_name 1 sc_need_sorts.nd)) (fun _ _ _ _ _ => ttx_nil) (fun _ _ _ _ _ => (px_and (px_isi .str (PX.v (px_v 1)) rfl (by rfl) z_isinstance (by rfl) z_str (by decide +kernel)) (px_one (px_in (u1 hr) (px_v 1) (PX.v (px_gtE (by rfl) c_SORTS))))))))) pav_nil))))))) (bx_cons (sx_rz x_BadRecord (by rfl) (L2N.takes_of (by rfl) (by rfl) (by rfl) (by rfl)) (by rfl)) bx_nil) bx_nil) bx_nil)⟩, hm, F.kp, F.binds fun _ _ _ _ _ _ us hl => match us, hl with | [_], _ => rfl⟩
abbrev s_need_swims : Stmt := topS 22
theorem sc_need_swims : FnScope ["swims", "swim"] ["swims"] (defScope s_need_swims) := ⟨rfl, rfl, rfl, by decide +kernel, rfl, by decide +kernel, by decide +kernel⟩
def L3_need_swims : Mr.Env → Res Fl := (wkF [.fz, .dead] (seqF (ifF (orR (notR (tst (isiF .tuple (nv 1)))) (orR (tst (op2 neA (callF (consA (nv 1) nilA) lenD) (kst (.int 3)))) (orR (notR (tst (callF (consA (op2 ixD (nv 1) (kst (.int 0))) nilA) m_is_name))) (notR (tst (callF (consA (op2 ixD (nv 1) (kst (.int 1))) nilA) m_is_time)))))) (seqF (raF "BadHeat") nxF) nxF) (seqF (ifF (orR (notR (tst (isiF .str (op2 ixD (nv 1) (kst (.int 2)))))) (tst (op2 (inV' true) (op2 ixD (nv 1) (kst (.int 2))) (kst (.ctup ["pad", "shifted", "hands"]))))) (seqF (raF "BadHeat") nxF) nxF) nxF)))
def b_need_swims : Mr.Env → Res Fl := (seqF (ifF (notR (tst (isiF .list (nv 0)))) (seqF (raF "BadHeat") nxF) nxF) (seqF (forF (iterF (nv 0)) (nmG 1) L3_need_swims) nxF))
def m_need_swims : List D → Res D := mir 1 .fz b_need_swims
theorem ok_need_swims {P : Program} {w : World} {K : PySem.W.Frag} {mg : Str → Option Value} {base : Heap} {f : Addr} {fd : FuncData} (F : Fun K "need_swims" "need_swims" s_need_swims f fd) (hm : mg "need_swims" = some (.ref f)) (h_is_name : Dok P w K mg base 1 "is_name" ["thing"] .fz m_is_name) (h_is_time : Dok P w K mg base 2 "is_time" ["thing"] .fz m_is_time) (z_isinstance : mg "isinstance" = none) (z_len : mg "len" = none) (z_list : mg "list" = none) (z_str : mg "str" = none) (z_tuple : mg "tuple" = none) (c_SORTS : CTup K mg "SORTS" ["pad", "shifted", "hands"]) (x_BadHeat : Exn K mg "BadHeat") : Dok P w K mg base 3 "need_swims" ["swims"] .fz m_need_swims :=
  ⟨f, fd, fun_ok (n := 1) (pad := 1) (ω0 := [.fz, .dead]) (ωr := (List.replicate 2 .dead)) (body := b_need_swims) F sc_need_swims rfl rfl rfl (by decide) fun cdv A outer s H E hr => ⟨_, (bx_cons (sx_if (ptx_not (ptx_v (px_isi .list (PX.v (px_v 0)) rfl (by rfl) z_isinstance (by rfl) z_list (by decide +kernel)))) (bx_cons (sx_rz x_BadHeat (by rfl) (L2N.takes_of (by rfl) (by rfl) (by rfl) (by rfl)) (by rfl)) bx_nil) bx_nil) (bx_cons (sx_for (passes_of (by rfl)) (by rfl) (ix_v (px_v 0)) (tg_name 1 sc_need_swims.nd) (bx_wk [.fz, .dead] (bx_cons (sx_if (PWX.pt (pwx_or (ptx_not (ptx_v (px_isi .tuple (PX.v (px_v 1)) rfl (by rfl) z_isinstance (by rfl) z_tuple (by decide +kernel)))) (pwx_or (ptx_cmp (op_neA hr) neA_s neA_ne (PX.v (px_len (by rfl) z_len (pav_cons (PX.v (px_v 1)) pav_nil))) (PX.v px_int) (nomark _)) (pwx_or (ptx_not (ptx_v (px_callD h_is_name (hr.mono (by decide)) (L2N.takes_of (by rfl) (by rfl) (by rfl) (by rfl)) (by rfl) (pax_cons (px_ix (u1 hr) (PX.v (px_v 1)) px_int) pax_nil) (len_cons len_nil)))) (pwx_or1 (ptx_not (ptx_v (px_callD h_is_time (hr.mono (by decide)) (L2N.takes_of (by rfl) (by rfl) (by rfl) (by rfl)) (by rfl) (pax_cons (px_ix (u1 hr) (PX.v (px_v 1)) px_int) pax_nil) (len_cons len_nil))))))))) (bx_cons (sx_rz x_BadHeat (by rfl) (L2N.takes_of (by rfl) (by rfl) (by rfl) (by rfl)) (by rfl)) bx_nil) bx_nil) (bx_cons (sx_if (PWX.pt (pwx_or (ptx_not (ptx_v (px_isi .str (PX.v (px_ix (u1 hr) (PX.v (px_v 1)) px_int)) rfl (by rfl) z_isinstance (by rfl) z_str (by decide +kernel)))) (pwx_or1 (ptx_nin (u1 hr) (px_ix (u1 hr) (PX.v (px_v 1)) px_int) (PX.v (px_gtE (by rfl) c_SORTS)))))) (bx_cons (sx_rz x_BadHeat (by rfl) (L2N.takes_of (by rfl) (by rfl) (by rfl) (by rfl)) (by rfl)) bx_nil) bx_nil) bx_nil))) (ng_name 1)) bx_nil))⟩, hm, F.kp, F.binds fun _ _ _ _ _ _ us hl => match us, hl with | [_], _ => rfl⟩
abbrev s_record_behind : Stmt := topS 23
theorem sc_record_behind : FnScope ["record", "sorts", "swims", "some", "least", "names", "name", "sort", "time"] ["record", "sorts", "swims"] (defScope s_record_behind) := ⟨rfl, rfl, rfl, by decide +kernel, rfl, by decide +kernel, by decide +kernel⟩
def b_record_behind : Mr.Env → Res Fl := (seqF (setF 3 (lcF (iterF (nv 2)) [6, 8, 7] (tupG 3 (consG (nmG 6) (consG (nmG 8) (consG (nmG 7) nilG)))) (noR (tst (op2 (inV' false) (nv 7) (nv 1)))) (tupF (consA (nv 8) (consA (nv 6) nilA))))) (seqF (ifF (tst (op2 eqA (nv 3) (kst (.lst [])))) (seqF (retF (List.replicate 9 .dead) (nv 0)) nxF) nxF) (seqF (setF 4 (callF (consA (lcF (iterF (nv 3)) [8, 6] (tupG 2 (consG (nmG 8) (consG (nmG 6) nilG))) yesR (nv 8)) nilA) minD)) (seqF (setF 5 (callF (consA (lcF (iterF (nv 3)) [8, 6] (tupG 2 (consG (nmG 8) (consG (nmG 6) nilG))) (noR (tst (op2 eqA (nv 8) (nv 4)))) (nv 6)) nilA) tupleD)) (seqF (ifF (orR (tst (op2 isD (nv 0) (kst .non))) (tst (op2 ltD (nv 4) (op2 ixD (nv 0) (kst (.int 0)))))) (seqF (retF (List.replicate 9 .dead) (tupF (consA (nv 4) (consA (nv 5) nilA)))) nxF) nxF) (seqF (ifF (tst (op2 gtD (nv 4) (op2 ixD (nv 0) (kst (.int 0))))) (seqF (retF (List.replicate 9 .dead) (nv 0)) nxF) nxF) (seqF (retF (List.replicate 9 .dead) (tupF (consA (nv 4) (consA (op2 addD (op2 ixD (nv 0) (kst (.int 1))) (callF (consA (lcF (iterF (nv 5)) [6] (nmG 6) (noR (tst (op2 (inV' true) (nv 6) (op2 ixD (nv 0) (kst (.int 1)))))) (nv 6)) nilA) tupleD)) nilA)))) nxF)))))))
def m_record_behind : List D → Res D := mir 6 .fz b_record_behind
theorem ok_record_behind {P : Program} {w : World} {K : PySem.W.Frag} {mg : Str → Option Value} {base : Heap} {f : Addr} {fd : FuncData} (F : Fun K "record_behind" "record_behind" s_record_behind f fd) (hm : mg "record_behind" = some (.ref f)) (z_min : mg "min" = none) (z_tuple : mg "tuple" = none) : Dok P w K mg base 1 "record_behind" ["record", "sorts", "swims"] .fz m_record_behind :=
  ⟨f, fd, fun_ok (n := 3) (pad := 6) (ω0 := [.fz, .fz, .fz, .dead, .dead, .dead, .dead, .dead, .dead]) (ωr := (List.replicate 9 .dead)) (body := b_record_behind) F sc_record_behind rfl rfl rfl (by decide) fun cdv A outer s H E hr => ⟨(List.replicate 9 .dead), (bx_cons (sx_fzb 3 (sx_setLc 3 (own := [("name", 6), ("time", 8), ("sort", 7)]) (by rfl) sc_record_behind.nd (ix_v (px_v 2)) (blkOk_by (by rfl)) (fun _ _ _ _ _ => (tc_tup (by rfl) (tcs_cons (tc_name 6 sc_record_behind.nd) (tcs_cons (tc_name 8 sc_record_behind.nd) (tcs_cons (tc_name 7 sc_record_behind.nd) tcs_nil))))) (fun _ _ _ _ _ => (ttx_oneR (ptx_in (u1 hr) (px_v 7) (PX.v (px_v 1))))) (fun _ _ _ _ _ => (px_tup (pax_cons (px_v 8) (pax_cons (px_v 6) pax_nil)))))) (bx_cons (sx_if (ptx_cmp (op_eqA hr) eqA_s eqA_ne (PX.v (px_v 3)) (PX.v (PX.freeze (px_lst0 .fz))) (nomark _)) (bx_cons (sx_ret (px_v 0)) bx_nil) bx_nil) (bx_cons (sx_set 4 sc_record_behind.nd (px_min (by rfl) (by rfl) z_min (pav_cons (PX.v (PX.freeze (px_lc (own := [("time", 8), ("name", 6)]) (by rfl) sc_record_behind.nd (ix_v (px_v 3)) (blkOk_by (by rfl)) (fun _ _ _ _ _ => (tc_tup (by rfl) (tcs_cons (tc_name 8 sc_record_behind.nd) (tcs_cons (tc_name 6 sc_record_behind.nd) tcs_nil)))) (fun _ _ _ _ _ => ttx_nil) (fun _ _ _ _ _ => (px_v 8))))) pav_nil))) (bx_cons (sx_set 5 sc_record_behind.nd (px_tuple (by rfl) z_tuple (pav_cons (PX.v (PX.freeze (px_lc (own := [("time", 8), ("name", 6)]) (by rfl) sc_record_behind.nd (ix_v (px_v 3)) (blkOk_by (by rfl)) (fun _ _ _ _ _ => (tc_tup (by rfl) (tcs_cons (tc_name 8 sc_record_behind.nd) (tcs_cons (tc_name 6 sc_record_behind.nd) tcs_nil)))) (fun _ _ _ _ _ => (ttx_oneR (ptx_cmp (op_eqA hr) eqA_s eqA_ne (PX.v (px_v 8)) (PX.v (px_v 4)) (nomark _)))) (fun _ _ _ _ _ => (px_v 6))))) pav_nil))) (bx_cons (sx_if (PWX.pt (pwx_or (ptx_cmp op_isN is_s isD_ne (PX.v (px_v 0)) (PX.v px_non) (nomark _)) (pwx_or1 (ptx_cmp op_lt lt_s ltD_ne (PX.v (px_v 4)) (PX.v (px_ix (u1 hr) (PX.v (px_v 0)) px_int)) (nomark _))))) (bx_cons (sx_ret (px_tup (pax_cons (px_v 4) (pax_cons (px_v 5) pax_nil)))) bx_nil) bx_nil) (bx_cons (sx_if (ptx_cmp op_gt gt_s gtD_ne (PX.v (px_v 4)) (PX.v (px_ix (u1 hr) (PX.v (px_v 0)) px_int)) (nomark _)) (bx_cons (sx_ret (px_v 0)) bx_nil) bx_nil) (bx_cons (sx_ret (px_tup (pax_cons (px_v 4) (pax_cons (px_add (PX.v (px_ix (u1 hr) (PX.v (px_v 0)) px_int)) (PX.v (px_tuple (by rfl) z_tuple (pav_cons (PX.v (PX.freeze (px_lc (own := [("name", 6)]) (by rfl) sc_record_behind.nd (ix_v (px_v 5)) (blkOk_by (by rfl)) (fun _ _ _ _ _ => (tc_name 6 sc_record_behind.nd)) (fun _ _ _ _ _ => (ttx_oneR (ptx_nin (u1 hr) (px_v 6) (PX.v (px_ix (u1 hr) (PX.v (px_v 0)) px_int))))) (fun _ _ _ _ _ => (px_v 6))))) pav_nil)))) pax_nil)))) bx_nil)))))))⟩, hm, F.kp, F.binds fun _ _ _ _ _ _ us hl => match us, hl with | [_, _, _], _ => rfl⟩
abbrev s_history : Stmt := topS 25
theorem sc_history : FnScope ["record", "sorts", "heats", "swims", "found", "later"] ["record", "sorts", "heats"] (defScope s_history) := ⟨rfl, rfl, rfl, by decide +kernel, rfl, by decide +kernel, by decide +kernel⟩
def L5_history : Mr.Env → Res Fl := (wkF [.fz, .fz, .fz, .dead, .dead, .dead] (seqF (exprF (callF (consA (nv 3) nilA) m_need_swims)) nxF))
def L8_history : Mr.Env → Res Fl := (wkF [.fz, .fz, .fz, .dead, .own .fz, .dead] (seqF (setF 5 (callF (consA (nv 0) (consA (nv 1) (consA (nv 3) nilA))) m_record_behind)) (seqF (ifF (tst (op2 neA (nv 5) (nv 0))) (seqF (appF 4 (nv 5)) nxF) nxF) (seqF (setF 0 (nv 5)) nxF))))
def b_history : Mr.Env → Res Fl := (seqF (exprF (callF (consA (nv 0) nilA) m_need_record)) (seqF (exprF (callF (consA (nv 1) nilA) m_need_sorts)) (seqF (ifF (notR (tst (isiF .list (nv 2)))) (seqF (raF "BadHeat") nxF) nxF) (seqF (forF (iterF (nv 2)) (nmG 3) L5_history) (seqF (setF 4 (kst (.lst []))) (seqF (forF (iterF (nv 2)) (nmG 3) L8_history) (seqF (retF (List.replicate 6 .dead) (nv 4)) nxF)))))))
def m_history : List D → Res D := mir 3 .fz b_history
theorem ok_history {P : Program} {w : World} {K : PySem.W.Frag} {mg : Str → Option Value} {base : Heap} {f : Addr} {fd : FuncData} (F : Fun K "history" "history" s_history f fd) (hm : mg "history" = some (.ref f)) (h_need_record : Dok P w K mg base 3 "need_record" ["record"] .fz m_need_record) (h_need_sorts : Dok P w K mg base 1 "need_sorts" ["sorts"] .fz m_need_sorts) (h_need_swims : Dok P w K mg base 3 "need_swims" ["swims"] .fz m_need_swims) (h_record_behind : Dok P w K mg base 1 "record_behind" ["record", "sorts", "swims"] .fz m_record_behind) (z_isinstance : mg "isinstance" = none) (z_list : mg "list" = none) (x_BadHeat : Exn K mg "BadHeat") : Dok P w K mg base 4 "history" ["record", "sorts", "heats"] .fz m_history :=
  ⟨f, fd, fun_ok (n := 3) (pad := 3) (ω0 := [.fz, .fz, .fz, .dead, .dead, .dead]) (ωr := (List.replicate 6 .dead)) (body := b_history) F sc_history rfl rfl rfl (by decide) fun cdv A outer s H E hr => ⟨(List.replicate 6 .dead), (bx_cons (sx_expr (px_callD h_need_record (hr.mono (by decide)) (L2N.takes_of (by rfl) (by rfl) (by rfl) (by rfl)) (by rfl) (pax_cons (px_v 0) pax_nil) (len_cons len_nil))) (bx_cons (sx_expr (px_callD h_need_sorts (hr.mono (by decide)) (L2N.takes_of (by rfl) (by rfl) (by rfl) (by rfl)) (by rfl) (pax_cons (px_v 1) pax_nil) (len_cons len_nil))) (bx_cons (sx_if (ptx_not (ptx_v (px_isi .list (PX.v (px_v 2)) rfl (by rfl) z_isinstance (by rfl) z_list (by decide +kernel)))) (bx_cons (sx_rz x_BadHeat (by rfl) (L2N.takes_of (by rfl) (by rfl) (by rfl) (by rfl)) (by rfl)) bx_nil) bx_nil) (bx_cons (sx_for (passes_of (by rfl)) (by rfl) (ix_v (px_v 2)) (tg_name 3 sc_history.nd) (bx_wk [.fz, .fz, .fz, .dead, .dead, .dead] (bx_cons (sx_expr (px_callD h_need_swims (hr.mono (by decide)) (L2N.takes_of (by rfl) (by rfl) (by rfl) (by rfl)) (by rfl) (pax_cons (px_v 3) pax_nil) (len_cons len_nil))) bx_nil)) (ng_name 3)) (bx_cons (sx_set 4 sc_history.nd (px_lst0 .fz)) (bx_cons (sx_for (passes_of (by rfl)) (by rfl) (ix_v (px_v 2)) (tg_name 3 sc_history.nd) (bx_wk [.fz, .fz, .fz, .dead, .own .fz, .dead] (bx_cons (sx_set 5 sc_history.nd (px_callD h_record_behind (hr.mono (by decide)) (L2N.takes_of (by rfl) (by rfl) (by rfl) (by rfl)) (by rfl) (pax_cons (px_v 0) (pax_cons (px_v 1) (pax_cons (px_v 3) pax_nil))) (len_cons (len_cons (len_cons len_nil))))) (bx_cons (sx_if (ptx_cmp (op_neA hr) neA_s neA_ne (PX.v (px_v 5)) (PX.v (px_v 0)) (nomark _)) (bx_cons (sx_app 4 (px_v 5)) bx_nil) bx_nil) (bx_cons (sx_set 0 sc_history.nd (px_v 5)) bx_nil)))) (ng_name 3)) (bx_cons (sx_fz 4 (sx_ret (px_v 4))) bx_nil)))))))⟩, hm, F.kp, F.binds fun _ _ _ _ _ _ us hl => match us, hl with | [_, _, _], _ => rfl⟩
abbrev s_behind : Stmt := topS 24
theorem sc_behind : FnScope ["record", "sorts", "swims"] ["record", "sorts", "swims"] (defScope s_behind) := ⟨rfl, rfl, rfl, by decide +kernel, rfl, by decide +kernel, by decide +kernel⟩
def b_behind : Mr.Env → Res Fl := (seqF (exprF (callF (consA (nv 0) nilA) m_need_record)) (seqF (exprF (callF (consA (nv 1) nilA) m_need_sorts)) (seqF (exprF (callF (consA (nv 2) nilA) m_need_swims)) (seqF (retF (List.replicate 3 .dead) (callF (consA (nv 0) (consA (nv 1) (consA (nv 2) nilA))) m_record_behind)) nxF))))
def m_behind : List D → Res D := mir 0 .fz b_behind
theorem ok_behind {P : Program} {w : World} {K : PySem.W.Frag} {mg : Str → Option Value} {base : Heap} {f : Addr} {fd : FuncData} (F : Fun K "behind" "behind" s_behind f fd) (hm : mg "behind" = some (.ref f)) (h_need_record : Dok P w K mg base 3 "need_record" ["record"] .fz m_need_record) (h_need_sorts : Dok P w K mg base 1 "need_sorts" ["sorts"] .fz m_need_sorts) (h_need_swims : Dok P w K mg base 3 "need_swims" ["swims"] .fz m_need_swims) (h_record_behind : Dok P w K mg base 1 "record_behind" ["record", "sorts", "swims"] .fz m_record_behind) : Dok P w K mg base 4 "behind" ["record", "sorts", "swims"] .fz m_behind :=
  ⟨f, fd, fun_ok (n := 3) (pad := 0) (ω0 := [.fz, .fz, .fz]) (ωr := (List.replicate 3 .dead)) (body := b_behind) F sc_behind rfl rfl rfl (by decide) fun cdv A outer s H E hr => ⟨(List.replicate 3 .dead), (bx_cons (sx_expr (px_callD h_need_record (hr.mono (by decide)) (L2N.takes_of (by rfl) (by rfl) (by rfl) (by rfl)) (by rfl) (pax_cons (px_v 0) pax_nil) (len_cons len_nil))) (bx_cons (sx_expr (px_callD h_need_sorts (hr.mono (by decide)) (L2N.takes_of (by rfl) (by rfl) (by rfl) (by rfl)) (by rfl) (pax_cons (px_v 1) pax_nil) (len_cons len_nil))) (bx_cons (sx_expr (px_callD h_need_swims (hr.mono (by decide)) (L2N.takes_of (by rfl) (by rfl) (by rfl) (by rfl)) (by rfl) (pax_cons (px_v 2) pax_nil) (len_cons len_nil))) (bx_cons (sx_ret (px_callD h_record_behind (hr.mono (by decide)) (L2N.takes_of (by rfl) (by rfl) (by rfl) (by rfl)) (by rfl) (pax_cons (px_v 0) (pax_cons (px_v 1) (pax_cons (px_v 2) pax_nil))) (len_cons (len_cons (len_cons len_nil))))) bx_nil))))⟩, hm, F.kp, F.binds fun _ _ _ _ _ _ us hl => match us, hl with | [_, _, _], _ => rfl⟩
abbrev s__law_none_let : Stmt := topS 35
theorem sc__law_none_let : FnScope ["_law_swim", "_law_bad", "_law_bads"] [] (defScope s__law_none_let) := ⟨rfl, rfl, rfl, by decide +kernel, rfl, by decide +kernel, by decide +kernel⟩
def L2__law_none_let : Mr.Env → Res Fl := (wkF [.fz, .dead, .dead] (seqF (ifF (tst (op2 neA (toldF wn (callF (consA (nv 1) (consA (kst .non) (consA (kst .non) nilA))) m_behind)) (kst (.str "BadRecord")))) (seqF (retF (List.replicate 3 .dead) (kst (.bl false))) nxF) nxF) (seqF (ifF (tst (op2 neA (toldF wn (callF (consA (nv 1) (consA (kst .non) (consA (kst .non) nilA))) m_history)) (kst (.str "BadRecord")))) (seqF (retF (List.replicate 3 .dead) (kst (.bl false))) nxF) nxF) nxF)))
def L7__law_none_let : Mr.Env → Res Fl := (wkF [.fz, .dead, .dead] (seqF (ifF (tst (op2 neA (toldF wn (callF (consA (kst .non) (consA (nv 1) (consA (kst .non) nilA))) m_behind)) (kst (.str "BadRecord")))) (seqF (retF (List.replicate 3 .dead) (kst (.bl false))) nxF) nxF) nxF))
def L11__law_none_let : Mr.Env → Res Fl := (wkF [.fz, .dead, .fz] (seqF (ifF (tst (op2 neA (toldF wn (callF (consA (kst .non) (consA (tupF nilA) (consA (nv 1) nilA))) m_behind)) (kst (.str "BadHeat")))) (seqF (retF (List.replicate 3 .dead) (kst (.bl false))) nxF) nxF) (seqF (ifF (tst (op2 neA (toldF wn (callF (consA (kst .non) (consA (tupF nilA) (consA (lstF (consA (lstF (consA (nv 0) nilA)) (consA (nv 1) nilA))) nilA))) m_history)) (kst (.str "BadHeat")))) (seqF (retF (List.replicate 3 .dead) (kst (.bl false))) nxF) nxF) nxF)))
def b__law_none_let : Mr.Env → Res Fl := (seqF (setF 0 (tupF (consA (kst (.str "a")) (consA (kst (.int 50)) (consA (kst (.str "pad")) nilA))))) (seqF (forF (iterF (lstF (consA (kst (.int 5)) (consA (tupF (consA (kst (.int 50)) nilA)) (consA (tupF (consA (kst (.int 0)) (consA (tupF (consA (kst (.str "a")) nilA)) nilA))) (consA (tupF (consA (kst (.int 50)) (consA (tupF nilA) nilA))) (consA (tupF (consA (kst (.int 50)) (consA (lstF (consA (kst (.str "a")) nilA)) nilA))) (consA (tupF (consA (kst (.int 50)) (consA (tupF (consA (kst (.str "A")) nilA)) nilA))) (consA (lstF (consA (kst (.int 50)) (consA (tupF (consA (kst (.str "a")) nilA)) nilA))) (consA (tupF (consA (kst (.bl true)) (consA (tupF (consA (kst (.str "a")) nilA)) nilA))) nilA)))))))))) (nmG 1) L2__law_none_let) (seqF (forF (iterF (lstF (consA (kst .non) (consA (lstF (consA (kst (.str "pad")) nilA)) (consA (tupF (consA (kst (.str "x")) nilA)) (consA (tupF (consA (kst (.int 1)) nilA)) (consA (kst (.str "pad")) nilA))))))) (nmG 1) L7__law_none_let) (seqF (setF 2 (lstF (consA (kst .non) (consA (tupF (consA (nv 0) nilA)) (consA (lstF (consA (tupF (consA (kst (.str "a")) (consA (kst (.int 50)) nilA))) nilA)) (consA (lstF (consA (lstF (consA (kst (.str "a")) (consA (kst (.int 50)) (consA (kst (.str "pad")) nilA)))) nilA)) (consA (lstF (consA (tupF (consA (kst (.str "A")) (consA (kst (.int 50)) (consA (kst (.str "pad")) nilA)))) nilA)) (consA (lstF (consA (tupF (consA (kst (.str "a")) (consA (kst (.int 0)) (consA (kst (.str "pad")) nilA)))) nilA)) nilA)))))))) (seqF (forF (iterF (op2 addD (nv 2) (lstF (consA (lstF (consA (tupF (consA (kst (.str "a")) (consA (kst (.int 50)) (consA (kst (.str "x")) nilA)))) nilA)) nilA)))) (nmG 1) L11__law_none_let) (seqF (retF (List.replicate 3 .dead) (op2 eqA (toldF wn (callF (consA (kst .non) (consA (tupF nilA) (consA (kst .non) nilA))) m_history)) (kst (.str "BadHeat")))) nxF))))))
def m__law_none_let : List D → Res D := mir 3 .fz b__law_none_let
theorem ok__law_none_let {P : Program} {w : World} {K : PySem.W.Frag} {mg : Str → Option Value} {base : Heap} {f : Addr} {fd : FuncData} {c__law_none_let P__law_none_let : Addr} (TB__law_none_let : LamX.TabB base mg c__law_none_let P__law_none_let) (mT__law_none_let : (P__law_none_let, (("_law_none_let" : Str) ++ ".<locals>.") ++ "<lambda>") ∈ TabsOf.T) (uT__law_none_let : ∀ p ∈ TabsOf.T, p.1 = P__law_none_let → p.2 = (("_law_none_let" : Str) ++ ".<locals>.") ++ "<lambda>") (h__law_told : ToldOk P w K mg base 4 "_law_told" wn) (h_history : Dok P w K mg base 4 "history" ["record", "sorts", "heats"] .fz m_history) (h_behind : Dok P w K mg base 4 "behind" ["record", "sorts", "swims"] .fz m_behind) (F : FunC K "_law_none_let" "_law_none_let" s__law_none_let f fd (.ref c__law_none_let)) (hm : mg "_law_none_let" = some (.ref f)) : Dok P w K mg base 7 "_law_none_let" [] .fz m__law_none_let :=
  ⟨f, fd, fun_okC (n := 0) (pad := 3) (ω0 := [.dead, .dead, .dead]) (ωr := (List.replicate 3 .dead)) (body := b__law_none_let) F sc__law_none_let rfl rfl rfl (by decide) fun A outer s H E hr => ⟨(List.replicate 3 .dead), (bx_cons (sx_set 0 sc__law_none_let.nd (px_tup (pax_cons px_str (pax_cons px_int (pax_cons px_str pax_nil))))) (bx_cons (sx_for (passes_of (by rfl)) (by rfl) (ix_v (PX.freeze (px_lst (pax_cons px_int (pax_cons (px_tup (pax_cons px_int pax_nil)) (pax_cons (px_tup (pax_cons px_int (pax_cons (px_tup (pax_cons px_str pax_nil)) pax_nil))) (pax_cons (px_tup (pax_cons px_int (pax_cons (px_tup pax_nil) pax_nil))) (pax_cons (px_tup (pax_cons px_int (pax_cons (PX.freeze (px_lst (pax_cons px_str pax_nil))) pax_nil))) (pax_cons (px_tup (pax_cons px_int (pax_cons (px_tup (pax_cons px_str pax_nil)) pax_nil))) (pax_cons (PX.freeze (px_lst (pax_cons px_int (pax_cons (px_tup (pax_cons px_str pax_nil)) pax_nil)))) (pax_cons (px_tup (pax_cons px_bl (pax_cons (px_tup (pax_cons px_str pax_nil)) pax_nil))) pax_nil))))))))))) (tg_name 1 sc__law_none_let.nd) (bx_wk [.fz, .dead, .dead] (bx_cons (sx_if (ptx_cmp (op_neA hr) neA_s neA_ne (PX.v (px_toldQ h__law_told TB__law_none_let mT__law_none_let uT__law_none_let (hr.mono (by decide)) (by rfl) (by rfl) (fun A outer s H E fl c2 H0 hr => (px_callD h_behind (hr.mono (by decide)) lamN_takes (by rfl) (pax_cons (px_v 1) (pax_cons px_non (pax_cons px_non pax_nil))) (len_cons (len_cons (len_cons len_nil))))))) (PX.v px_str) (nomark _)) (bx_cons (sx_ret px_bl) bx_nil) bx_nil) (bx_cons (sx_if (ptx_cmp (op_neA hr) neA_s neA_ne (PX.v (px_toldQ h__law_told TB__law_none_let mT__law_none_let uT__law_none_let (hr.mono (by decide)) (by rfl) (by rfl) (fun A outer s H E fl c2 H0 hr => (px_callD h_history (hr.mono (by decide)) lamN_takes (by rfl) (pax_cons (px_v 1) (pax_cons px_non (pax_cons px_non pax_nil))) (len_cons (len_cons (len_cons len_nil))))))) (PX.v px_str) (nomark _)) (bx_cons (sx_ret px_bl) bx_nil) bx_nil) bx_nil))) (ng_name 1)) (bx_cons (sx_for (passes_of (by rfl)) (by rfl) (ix_v (PX.freeze (px_lst (pax_cons px_non (pax_cons (PX.freeze (px_lst (pax_cons px_str pax_nil))) (pax_cons (px_tup (pax_cons px_str pax_nil)) (pax_cons (px_tup (pax_cons px_int pax_nil)) (pax_cons px_str pax_nil)))))))) (tg_name 1 sc__law_none_let.nd) (bx_wk [.fz, .dead, .dead] (bx_cons (sx_if (ptx_cmp (op_neA hr) neA_s neA_ne (PX.v (px_toldQ h__law_told TB__law_none_let mT__law_none_let uT__law_none_let (hr.mono (by decide)) (by rfl) (by rfl) (fun A outer s H E fl c2 H0 hr => (px_callD h_behind (hr.mono (by decide)) lamN_takes (by rfl) (pax_cons px_non (pax_cons (px_v 1) (pax_cons px_non pax_nil))) (len_cons (len_cons (len_cons len_nil))))))) (PX.v px_str) (nomark _)) (bx_cons (sx_ret px_bl) bx_nil) bx_nil) bx_nil)) (ng_name 1)) (bx_cons (sx_set 2 sc__law_none_let.nd (PX.freeze (px_lst (pax_cons px_non (pax_cons (px_tup (pax_cons (px_v 0) pax_nil)) (pax_cons (PX.freeze (px_lst (pax_cons (px_tup (pax_cons px_str (pax_cons px_int pax_nil))) pax_nil))) (pax_cons (PX.freeze (px_lst (pax_cons (PX.freeze (px_lst (pax_cons px_str (pax_cons px_int (pax_cons px_str pax_nil))))) pax_nil))) (pax_cons (PX.freeze (px_lst (pax_cons (px_tup (pax_cons px_str (pax_cons px_int (pax_cons px_str pax_nil)))) pax_nil))) (pax_cons (PX.freeze (px_lst (pax_cons (px_tup (pax_cons px_str (pax_cons px_int (pax_cons px_str pax_nil)))) pax_nil))) pax_nil))))))))) (bx_cons (sx_for (passes_of (by rfl)) (by rfl) (ix_v (px_add (PX.v (px_v 2)) (PX.v (PX.freeze (px_lst (pax_cons (PX.freeze (px_lst (pax_cons (px_tup (pax_cons px_str (pax_cons px_int (pax_cons px_str pax_nil)))) pax_nil))) pax_nil)))))) (tg_name 1 sc__law_none_let.nd) (bx_wk [.fz, .dead, .fz] (bx_cons (sx_if (ptx_cmp (op_neA hr) neA_s neA_ne (PX.v (px_toldQ h__law_told TB__law_none_let mT__law_none_let uT__law_none_let (hr.mono (by decide)) (by rfl) (by rfl) (fun A outer s H E fl c2 H0 hr => (px_callD h_behind (hr.mono (by decide)) lamN_takes (by rfl) (pax_cons px_non (pax_cons (px_tup pax_nil) (pax_cons (px_v 1) pax_nil))) (len_cons (len_cons (len_cons len_nil))))))) (PX.v px_str) (nomark _)) (bx_cons (sx_ret px_bl) bx_nil) bx_nil) (bx_cons (sx_if (ptx_cmp (op_neA hr) neA_s neA_ne (PX.v (px_toldQ h__law_told TB__law_none_let mT__law_none_let uT__law_none_let (hr.mono (by decide)) (by rfl) (by rfl) (fun A outer s H E fl c2 H0 hr => (px_callD h_history (hr.mono (by decide)) lamN_takes (by rfl) (pax_cons px_non (pax_cons (px_tup pax_nil) (pax_cons (PX.freeze (px_lst (pax_cons (PX.freeze (px_lst (pax_cons (px_v 0) pax_nil))) (pax_cons (px_v 1) pax_nil)))) pax_nil))) (len_cons (len_cons (len_cons len_nil))))))) (PX.v px_str) (nomark _)) (bx_cons (sx_ret px_bl) bx_nil) bx_nil) bx_nil))) (ng_name 1)) (bx_cons (sx_ret (by exact (px_cmp (op_eqA hr) eqA_s eqA_ne (PX.v (px_toldQ h__law_told TB__law_none_let mT__law_none_let uT__law_none_let (hr.mono (by decide)) (by rfl) (by rfl) (fun A outer s H E fl c2 H0 hr => (px_callD h_history (hr.mono (by decide)) lamN_takes (by rfl) (pax_cons px_non (pax_cons (px_tup pax_nil) (pax_cons px_non pax_nil))) (len_cons (len_cons (len_cons len_nil))))))) (PX.v px_str) (nomark _)))) bx_nil))))))⟩, hm, F.kp, F.fun.binds fun _ _ _ _ _ _ us hl => match us, hl with | [], _ => rfl⟩
abbrev s__law_names : Stmt := topS 32
theorem sc__law_names : FnScope ["_law_more", "_law_many", "_law_found", "_law_j", "_law_here", "_law_name", "_law_longer", "_law_n"] ["_law_more", "_law_many"] (defScope s__law_names) := ⟨rfl, rfl, rfl, by decide +kernel, rfl, by decide +kernel, by decide +kernel⟩
def L2__law_names : Mr.Env → Res Fl := (wkF [.fz, .fz, .own .fz, .dead, .dead, .dead, .dead, .dead] (seqF (setF 4 (callF (consA (nv 0) (consA (op2 addD (kst (.int 60)) (nv 3)) nilA)) m__law_drawn)) (seqF (setF 5 (joinF (kst (.str "")) (lcF (rng1 (consA (op2 addD (kst (.int 1)) (op2 modD (nv 4) (kst (.int 3)))) nilA)) [7] (nmG 7) yesR (op2 ixD (kst (.str "abcxyz")) (op2 modD (op2 fdivD (callF (consA (nv 4) (consA (nv 7) nilA)) m__law_drawn) (kst (.int 8))) (kst (.int 6))))))) (seqF (setF 6 (op2 addD (op2 addD (nv 5) (op2 ixD (kst (.str "defghijklmnopqrs")) (op2 fdivD (nv 3) (kst (.int 16))))) (op2 ixD (kst (.str "defghijklmnopqrs")) (op2 modD (nv 3) (kst (.int 16)))))) (seqF (appF 2 (ifV (tst (op2 (inV' true) (nv 5) (nv 2))) (nv 5) (nv 6))) nxF)))))
def b__law_names : Mr.Env → Res Fl := (seqF (setF 2 (kst (.lst []))) (seqF (forF (rng1 (consA (nv 1) nilA)) (nmG 3) L2__law_names) (seqF (retF (List.replicate 8 .dead) (nv 2)) nxF)))
def m__law_names : List D → Res D := mir 6 .fz b__law_names
theorem ok__law_names {P : Program} {w : World} {K : PySem.W.Frag} {mg : Str → Option Value} {base : Heap} {f : Addr} {fd : FuncData} (F : Fun K "_law_names" "_law_names" s__law_names f fd) (hm : mg "_law_names" = some (.ref f)) (h__law_drawn : Dok P w K mg base 1 "_law_drawn" ["_law_cell_here", "_law_k"] .fz m__law_drawn) (z_range : mg "range" = none) : Dok P w K mg base 2 "_law_names" ["_law_more", "_law_many"] .fz m__law_names :=
  ⟨f, fd, fun_ok (n := 2) (pad := 6) (ω0 := [.fz, .fz, .dead, .dead, .dead, .dead, .dead, .dead]) (ωr := (List.replicate 8 .dead)) (body := b__law_names) F sc__law_names rfl rfl rfl (by decide) fun cdv A outer s H E hr => ⟨(List.replicate 8 .dead), (bx_cons (sx_set 2 sc__law_names.nd (px_lst0 .fz)) (bx_cons (sx_for (passes_of (by rfl)) (by rfl) (ix_rng1 (pax_cons (px_v 1) pax_nil) (by rfl) z_range) (tg_name 3 sc__law_names.nd) (bx_wk [.fz, .fz, .own .fz, .dead, .dead, .dead, .dead, .dead] (bx_cons (sx_set 4 sc__law_names.nd (px_callD h__law_drawn (hr.mono (by decide)) (L2N.takes_of (by rfl) (by rfl) (by rfl) (by rfl)) (by rfl) (pax_cons (px_v 0) (pax_cons (px_add (PX.v px_int) (PX.v (px_v 3))) pax_nil)) (len_cons (len_cons len_nil)))) (bx_cons (sx_set 5 sc__law_names.nd (px_join px_str (PX.freeze (px_lc (own := [("_law_n", 7)]) (by rfl) sc__law_names.nd (ix_rng1 (pax_cons (px_add (PX.v px_int) (PX.v (px_mod (PX.v (px_v 4)) (PX.v px_int)))) pax_nil) (by rfl) z_range) (blkOk_by (by rfl)) (fun _ _ _ _ _ => (tc_name 7 sc__law_names.nd)) (fun _ _ _ _ _ => ttx_nil) (fun _ _ _ _ _ => (px_ix (u1 hr) (PX.v px_str) (px_mod (PX.v (px_fdiv (PX.v (px_callD h__law_drawn (hr.mono (by decide)) tk_no (by rfl) (pax_cons (px_v 4) (pax_cons (px_v 7) pax_nil)) (len_cons (len_cons len_nil)))) (PX.v px_int))) (PX.v px_int)))))))) (bx_cons (sx_set 6 sc__law_names.nd (px_add (PX.v (px_add (PX.v (px_v 5)) (PX.v (px_ix (u1 hr) (PX.v px_str) (px_fdiv (PX.v (px_v 3)) (PX.v px_int)))))) (PX.v (px_ix (u1 hr) (PX.v px_str) (px_mod (PX.v (px_v 3)) (PX.v px_int)))))) (bx_cons (sx_app 2 (px_if (ptx_nin (u1 hr) (px_v 5) (pv_o 2)) (px_v 5) (px_v 6))) bx_nil))))) (ng_name 3)) (bx_cons (sx_fz 2 (sx_ret (px_v 2))) bx_nil)))⟩, hm, F.kp, F.binds fun _ _ _ _ _ _ us hl => match us, hl with | [_, _], _ => rfl⟩
abbrev s__law_time : Stmt := topS 31
theorem sc__law_time : FnScope ["_law_more"] ["_law_more"] (defScope s__law_time) := ⟨rfl, rfl, rfl, by decide +kernel, rfl, by decide +kernel, by decide +kernel⟩
def b__law_time : Mr.Env → Res Fl := (seqF (retF (List.replicate 1 .dead) (op2 ixD (lstF (consA (op2 addD (kst (.int 5000)) (op2 modD (op2 fdivD (nv 0) (kst (.int 8))) (kst (.int 7)))) (consA (op2 addD (kst (.int 5000)) (op2 modD (op2 fdivD (nv 0) (kst (.int 8))) (kst (.int 200)))) (consA (op2 addD (kst (.int 1)) (op2 modD (op2 fdivD (nv 0) (kst (.int 8))) (kst (.int 359999)))) nilA)))) (op2 ixD (lstF (consA (kst (.int 0)) (consA (kst (.int 1)) (consA (kst (.int 0)) (consA (kst (.int 1)) (consA (kst (.int 1)) (consA (kst (.int 2)) nilA))))))) (op2 modD (nv 0) (kst (.int 6)))))) nxF)
def m__law_time : List D → Res D := mir 0 .fz b__law_time
theorem ok__law_time {P : Program} {w : World} {K : PySem.W.Frag} {mg : Str → Option Value} {base : Heap} {f : Addr} {fd : FuncData} (F : Fun K "_law_time" "_law_time" s__law_time f fd) (hm : mg "_law_time" = some (.ref f)) : Dok P w K mg base 1 "_law_time" ["_law_more"] .fz m__law_time :=
  ⟨f, fd, fun_ok (n := 1) (pad := 0) (ω0 := [.fz]) (ωr := (List.replicate 1 .dead)) (body := b__law_time) F sc__law_time rfl rfl rfl (by decide) fun cdv A outer s H E hr => ⟨(List.replicate 1 .dead), (bx_cons (sx_ret (px_ix (u1 hr) (PX.v (PX.freeze (px_lst (pax_cons (px_add (PX.v px_int) (PX.v (px_mod (PX.v (px_fdiv (PX.v (px_v 0)) (PX.v px_int))) (PX.v px_int)))) (pax_cons (px_add (PX.v px_int) (PX.v (px_mod (PX.v (px_fdiv (PX.v (px_v 0)) (PX.v px_int))) (PX.v px_int)))) (pax_cons (px_add (PX.v px_int) (PX.v (px_mod (PX.v (px_fdiv (PX.v (px_v 0)) (PX.v px_int))) (PX.v px_int)))) pax_nil)))))) (px_ix (u1 hr) (PX.v (PX.freeze (px_lst (pax_cons px_int (pax_cons px_int (pax_cons px_int (pax_cons px_int (pax_cons px_int (pax_cons px_int pax_nil))))))))) (px_mod (PX.v (px_v 0)) (PX.v px_int))))) bx_nil)⟩, hm, F.kp, F.binds fun _ _ _ _ _ _ us hl => match us, hl with | [_], _ => rfl⟩
abbrev s__law_swims : Stmt := topS 34
theorem sc__law_swims : FnScope ["_law_more", "_law_found", "_law_j", "_law_name", "_law_here"] ["_law_more"] (defScope s__law_swims) := ⟨rfl, rfl, rfl, by decide +kernel, rfl, by decide +kernel, by decide +kernel⟩
def L2__law_swims : Mr.Env → Res Fl := (wkF [.fz, .own .fz, .dead, .dead, .dead] (seqF (setF 4 (callF (consA (nv 0) (consA (op2 addD (kst (.int 200)) (nv 2)) nilA)) m__law_drawn)) (seqF (appF 1 (tupF (consA (nv 3) (consA (callF (consA (op2 fdivD (nv 4) (kst (.int 8))) nilA) m__law_time) (consA (op2 ixD (lstF (consA (kst (.str "pad")) (consA (kst (.str "shifted")) (consA (kst (.str "hands")) nilA)))) (op2 modD (op2 fdivD (nv 4) (op2 powD (kst (.int 2)) (kst (.int 30)))) (kst (.int 3)))) nilA))))) nxF)))
def b__law_swims : Mr.Env → Res Fl := (seqF (setF 1 (kst (.lst []))) (seqF (forF (enF (consA (callF (consA (nv 0) (consA (op2 modD (nv 0) (kst (.int 9))) nilA)) m__law_names) nilA)) (tupG 2 (consG (nmG 2) (consG (nmG 3) nilG))) L2__law_swims) (seqF (retF (List.replicate 5 .dead) (nv 1)) nxF)))
def m__law_swims : List D → Res D := mir 4 .fz b__law_swims
theorem ok__law_swims {P : Program} {w : World} {K : PySem.W.Frag} {mg : Str → Option Value} {base : Heap} {f : Addr} {fd : FuncData} (F : Fun K "_law_swims" "_law_swims" s__law_swims f fd) (hm : mg "_law_swims" = some (.ref f)) (h__law_names : Dok P w K mg base 2 "_law_names" ["_law_more", "_law_many"] .fz m__law_names) (h__law_drawn : Dok P w K mg base 1 "_law_drawn" ["_law_cell_here", "_law_k"] .fz m__law_drawn) (h__law_time : Dok P w K mg base 1 "_law_time" ["_law_more"] .fz m__law_time) (z_enumerate : mg "enumerate" = none) : Dok P w K mg base 3 "_law_swims" ["_law_more"] .fz m__law_swims :=
  ⟨f, fd, fun_ok (n := 1) (pad := 4) (ω0 := [.fz, .dead, .dead, .dead, .dead]) (ωr := (List.replicate 5 .dead)) (body := b__law_swims) F sc__law_swims rfl rfl rfl (by decide) fun cdv A outer s H E hr => ⟨(List.replicate 5 .dead), (bx_cons (sx_set 1 sc__law_swims.nd (px_lst0 .fz)) (bx_cons (sx_for (passes_of (by rfl)) (by rfl) (ix_enum (pax_cons (px_callD h__law_names (hr.mono (by decide)) (L2N.takes_of (by rfl) (by rfl) (by rfl) (by rfl)) (by rfl) (pax_cons (px_v 0) (pax_cons (px_mod (PX.v (px_v 0)) (PX.v px_int)) pax_nil)) (len_cons (len_cons len_nil))) pax_nil) (by rfl) z_enumerate) (tg_tup (by rfl) (tgs_cons (tg_name 2 sc__law_swims.nd) (tgs_cons (tg_name 3 sc__law_swims.nd) tgs_nil))) (bx_wk [.fz, .own .fz, .dead, .dead, .dead] (bx_cons (sx_set 4 sc__law_swims.nd (px_callD h__law_drawn (hr.mono (by decide)) (L2N.takes_of (by rfl) (by rfl) (by rfl) (by rfl)) (by rfl) (pax_cons (px_v 0) (pax_cons (px_add (PX.v px_int) (PX.v (px_v 2))) pax_nil)) (len_cons (len_cons len_nil)))) (bx_cons (sx_app 1 (px_tup (pax_cons (px_v 3) (pax_cons (px_callD h__law_time (hr.mono (by decide)) (L2N.takes_of (by rfl) (by rfl) (by rfl) (by rfl)) (by rfl) (pax_cons (px_fdiv (PX.v (px_v 4)) (PX.v px_int)) pax_nil) (len_cons len_nil)) (pax_cons (px_ix (u1 hr) (PX.v (PX.freeze (px_lst (pax_cons px_str (pax_cons px_str (pax_cons px_str pax_nil)))))) (px_mod (PX.v (px_fdiv (PX.v (px_v 4)) (PX.v (px_pow (PX.v px_int) (PX.v px_int))))) (PX.v px_int))) pax_nil))))) bx_nil))) (ng_tup (ngs_cons (ng_name 2) (ngs_cons (ng_name 3) ngs_nil)))) (bx_cons (sx_fz 1 (sx_ret (px_v 1))) bx_nil)))⟩, hm, F.kp, F.binds fun _ _ _ _ _ _ us hl => match us, hl with | [_], _ => rfl⟩
abbrev s__law_behind : Stmt := topS 33
theorem sc__law_behind : FnScope ["_law_record", "_law_sorts", "_law_swims_here", "_law_some", "_law_least", "_law_names_here", "_law_name", "_law_swim"] ["_law_record", "_law_sorts", "_law_swims_here"] (defScope s__law_behind) := ⟨rfl, rfl, rfl, by decide +kernel, rfl, by decide +kernel, by decide +kernel⟩
def b__law_behind : Mr.Env → Res Fl := (seqF (setF 3 (lcF (iterF (nv 2)) [7] (nmG 7) (noR (tst (op2 (inV' false) (op2 ixD (nv 7) (kst (.int 2))) (nv 1)))) (nv 7))) (seqF (ifF (tst (op2 eqA (nv 3) (kst (.lst [])))) (seqF (retF (List.replicate 8 .dead) (nv 0)) nxF) nxF) (seqF (setF 4 (callF (consA (lcF (iterF (nv 3)) [7] (nmG 7) yesR (op2 ixD (nv 7) (kst (.int 1)))) nilA) minD)) (seqF (setF 5 (lcF (iterF (nv 3)) [7] (nmG 7) (noR (tst (op2 eqA (op2 ixD (nv 7) (kst (.int 1))) (nv 4)))) (op2 ixD (nv 7) (kst (.int 0))))) (seqF (ifF (orR (tst (op2 isD (nv 0) (kst .non))) (tst (op2 ltD (nv 4) (op2 ixD (nv 0) (kst (.int 0)))))) (seqF (retF (List.replicate 8 .dead) (tupF (consA (nv 4) (consA (callF (consA (nv 5) nilA) tupleD) nilA)))) nxF) nxF) (seqF (ifF (tst (op2 eqA (nv 4) (op2 ixD (nv 0) (kst (.int 0))))) (seqF (retF (List.replicate 8 .dead) (tupF (consA (nv 4) (consA (op2 addD (op2 ixD (nv 0) (kst (.int 1))) (callF (consA (lcF (iterF (nv 5)) [6] (nmG 6) (noR (tst (op2 (inV' true) (nv 6) (op2 ixD (nv 0) (kst (.int 1)))))) (nv 6)) nilA) tupleD)) nilA)))) nxF) nxF) (seqF (retF (List.replicate 8 .dead) (nv 0)) nxF)))))))
def m__law_behind : List D → Res D := mir 5 .fz b__law_behind
theorem ok__law_behind {P : Program} {w : World} {K : PySem.W.Frag} {mg : Str → Option Value} {base : Heap} {f : Addr} {fd : FuncData} (F : Fun K "_law_behind" "_law_behind" s__law_behind f fd) (hm : mg "_law_behind" = some (.ref f)) (z_min : mg "min" = none) (z_tuple : mg "tuple" = none) : Dok P w K mg base 1 "_law_behind" ["_law_record", "_law_sorts", "_law_swims_here"] .fz m__law_behind :=
  ⟨f, fd, fun_ok (n := 3) (pad := 5) (ω0 := [.fz, .fz, .fz, .dead, .dead, .dead, .dead, .dead]) (ωr := (List.replicate 8 .dead)) (body := b__law_behind) F sc__law_behind rfl rfl rfl (by decide) fun cdv A outer s H E hr => ⟨(List.replicate 8 .dead), (bx_cons (sx_fzb 3 (sx_setLc 3 (own := [("_law_swim", 7)]) (by rfl) sc__law_behind.nd (ix_v (px_v 2)) (blkOk_by (by rfl)) (fun _ _ _ _ _ => (tc_name 7 sc__law_behind.nd)) (fun _ _ _ _ _ => (ttx_oneR (ptx_in (u1 hr) (px_ix (u1 hr) (PX.v (px_v 7)) px_int) (PX.v (px_v 1))))) (fun _ _ _ _ _ => (px_v 7)))) (bx_cons (sx_if (ptx_cmp (op_eqA hr) eqA_s eqA_ne (PX.v (px_v 3)) (PX.v (PX.freeze (px_lst0 .fz))) (nomark _)) (bx_cons (sx_ret (px_v 0)) bx_nil) bx_nil) (bx_cons (sx_set 4 sc__law_behind.nd (px_min (by rfl) (by rfl) z_min (pav_cons (PX.v (PX.freeze (px_lc (own := [("_law_swim", 7)]) (by rfl) sc__law_behind.nd (ix_v (px_v 3)) (blkOk_by (by rfl)) (fun _ _ _ _ _ => (tc_name 7 sc__law_behind.nd)) (fun _ _ _ _ _ => ttx_nil) (fun _ _ _ _ _ => (px_ix (u1 hr) (PX.v (px_v 7)) px_int))))) pav_nil))) (bx_cons (sx_fzb 5 (sx_setLc 5 (own := [("_law_swim", 7)]) (by rfl) sc__law_behind.nd (ix_v (px_v 3)) (blkOk_by (by rfl)) (fun _ _ _ _ _ => (tc_name 7 sc__law_behind.nd)) (fun _ _ _ _ _ => (ttx_oneR (ptx_cmp (op_eqA hr) eqA_s eqA_ne (PX.v (px_ix (u1 hr) (PX.v (px_v 7)) px_int)) (PX.v (px_v 4)) (nomark _)))) (fun _ _ _ _ _ => (px_ix (u1 hr) (PX.v (px_v 7)) px_int)))) (bx_cons (sx_if (PWX.pt (pwx_or (ptx_cmp op_isN is_s isD_ne (PX.v (px_v 0)) (PX.v px_non) (nomark _)) (pwx_or1 (ptx_cmp op_lt lt_s ltD_ne (PX.v (px_v 4)) (PX.v (px_ix (u1 hr) (PX.v (px_v 0)) px_int)) (nomark _))))) (bx_cons (sx_ret (px_tup (pax_cons (px_v 4) (pax_cons (px_tuple (by rfl) z_tuple (pav_cons (PX.v (px_v 5)) pav_nil)) pax_nil)))) bx_nil) bx_nil) (bx_cons (sx_if (ptx_cmp (op_eqA hr) eqA_s eqA_ne (PX.v (px_v 4)) (PX.v (px_ix (u1 hr) (PX.v (px_v 0)) px_int)) (nomark _)) (bx_cons (sx_ret (px_tup (pax_cons (px_v 4) (pax_cons (px_add (PX.v (px_ix (u1 hr) (PX.v (px_v 0)) px_int)) (PX.v (px_tuple (by rfl) z_tuple (pav_cons (PX.v (PX.freeze (px_lc (own := [("_law_name", 6)]) (by rfl) sc__law_behind.nd (ix_v (px_v 5)) (blkOk_by (by rfl)) (fun _ _ _ _ _ => (tc_name 6 sc__law_behind.nd)) (fun _ _ _ _ _ => (ttx_oneR (ptx_nin (u1 hr) (px_v 6) (PX.v (px_ix (u1 hr) (PX.v (px_v 0)) px_int))))) (fun _ _ _ _ _ => (px_v 6))))) pav_nil)))) pax_nil)))) bx_nil) bx_nil) (bx_cons (sx_ret (px_v 0)) bx_nil)))))))⟩, hm, F.kp, F.binds fun _ _ _ _ _ _ us hl => match us, hl with | [_, _, _], _ => rfl⟩
abbrev s_law : Stmt := topS 36
theorem sc_law : FnScope ["_law_script", "_law_k", "_law_more", "_law_j", "_law_here", "_law_record", "_law_sorts", "_law_heats", "_law_due", "_law_now", "_law_swims_here", "_law_later", "_law_kept", "_law_n"] ["_law_script"] (defScope s_law) := ⟨rfl, rfl, rfl, by decide +kernel, rfl, by decide +kernel, by decide +kernel⟩
def L9_law : Mr.Env → Res Fl := (wkF [.fz, .fz, .fz, .fz, .fz, .fz, .fz, .fz, .own .fz, .fz, .dead, .dead, .dead, .dead] (seqF (ifF (tst (op2 neA (callF (consA (nv 9) (consA (nv 6) (consA (nv 10) nilA))) m_behind) (callF (consA (nv 9) (consA (nv 6) (consA (nv 10) nilA))) m__law_behind))) (seqF (retF (List.replicate 14 .dead) (kst (.bl false))) nxF) nxF) (seqF (setF 11 (callF (consA (nv 9) (consA (nv 6) (consA (nv 10) nilA))) m__law_behind)) (seqF (ifF (andR (tst (op2 isnD (nv 9) (kst .non))) (tst (op2 gtD (op2 ixD (nv 11) (kst (.int 0))) (op2 ixD (nv 9) (kst (.int 0)))))) (seqF (retF (List.replicate 14 .dead) (kst (.bl false))) nxF) nxF) (seqF (ifF (tst (op2 neA (nv 11) (nv 9))) (seqF (appF 8 (nv 11)) nxF) nxF) (seqF (setF 9 (nv 11)) nxF))))))
def L3_law : Mr.Env → Res Fl := (wkF [.fz, .fz, .fz, .dead, .dead, .dead, .dead, .dead, .dead, .dead, .dead, .dead, .dead, .dead] (seqF (setF 4 (callF (consA (nv 2) (consA (op2 addD (kst (.int 10)) (nv 3)) nilA)) m__law_drawn)) (seqF (setF 5 (ifV (tst (op2 gtD (op2 modD (nv 4) (kst (.int 3))) (kst (.int 0)))) (tupF (consA (callF (consA (op2 fdivD (nv 4) (kst (.int 8))) nilA) m__law_time) (consA (callF (consA (callF (consA (op2 fdivD (nv 4) (kst (.int 64))) (consA (op2 addD (kst (.int 1)) (op2 modD (nv 4) (kst (.int 2)))) nilA)) m__law_names) nilA) tupleD) nilA))) (kst .non))) (seqF (setF 6 (op2 ixD (lstF (consA (tupF (consA (kst (.str "pad")) nilA)) (consA (tupF (consA (kst (.str "pad")) (consA (kst (.str "hands")) nilA))) (consA (tupF nilA) (consA (tupF (consA (kst (.str "shifted")) (consA (kst (.str "pad")) (consA (kst (.str "hands")) nilA)))) nilA))))) (op2 modD (op2 fdivD (nv 4) (kst (.int 1024))) (kst (.int 4))))) (seqF (setF 7 (lcF (rng1 (consA (op2 modD (op2 fdivD (nv 4) (kst (.int 4096))) (kst (.int 6))) nilA)) [13] (nmG 13) yesR (callF (consA (callF (consA (nv 4) (consA (nv 13) nilA)) m__law_drawn) nilA) m__law_swims))) (seqF (parF 8 9 (kst (.lst [])) (nv 5)) (seqF (forF (iterF (nv 7)) (nmG 10) L9_law) (seqF (setF 12 (callF (consA (nv 7) nilA) strLD)) (seqF (ifF (orR (tst (op2 neA (callF (consA (nv 5) (consA (nv 6) (consA (nv 7) nilA))) m_history) (nv 8))) (orR (tst (op2 neA (callF (consA (nv 5) (consA (nv 6) (consA (kst (.lst [])) nilA))) m_behind) (nv 5))) (tst (op2 neA (callF (consA (nv 7) nilA) strLD) (nv 12))))) (seqF (retF (List.replicate 14 .dead) (kst (.bl false))) nxF) nxF) (seqF (ifF (tst (op2 neA (callF (consA (nv 5) (consA (tupF nilA) (consA (callF (consA (nv 4) nilA) m__law_swims) nilA))) m_behind) (nv 5))) (seqF (retF (List.replicate 14 .dead) (kst (.bl false))) nxF) nxF) nxF))))))))))
def L1_law : Mr.Env → Res Fl := (wkF [.fz, .dead, .dead, .dead, .dead, .dead, .dead, .dead, .dead, .dead, .dead, .dead, .dead, .dead] (seqF (setF 2 (callF (consA (callF (consA (nv 0) (consA (nv 1) nilA)) m__law_cell) (consA (nv 1) nilA)) m__law_drawn)) (seqF (forF (rng1 (consA (kst (.int 4)) nilA)) (nmG 3) L3_law) (seqF (ifF (notR (tst (callF nilA m__law_none_let))) (seqF (retF (List.replicate 14 .dead) (kst (.bl false))) nxF) nxF) nxF))))
def b_law : Mr.Env → Res Fl := (seqF (forF (rng1 (consA (callF (consA (kst (.int 1)) (consA (callF (consA (kst (.int 4)) (consA (callF (consA (nv 0) nilA) lenD) nilA)) min2D) nilA)) max2D) nilA)) (nmG 1) L1_law) (seqF (retF (List.replicate 14 .dead) (kst (.bl true))) nxF))
def m_law : List D → Res D := mir 13 .fz b_law
theorem ok_law {P : Program} {w : World} {K : PySem.W.Frag} {mg : Str → Option Value} {base : Heap} {f : Addr} {fd : FuncData} {cdv : Value} (h__law_drawn : Dok P w K mg base 1 "_law_drawn" ["_law_cell_here", "_law_k"] .fz m__law_drawn) (h__law_cell : Dok P w K mg base 1 "_law_cell" ["_law_script", "_law_k"] .fz m__law_cell) (h__law_none_let : Dok P w K mg base 7 "_law_none_let" [] .fz m__law_none_let) (h__law_swims : Dok P w K mg base 3 "_law_swims" ["_law_more"] .fz m__law_swims) (h__law_behind : Dok P w K mg base 1 "_law_behind" ["_law_record", "_law_sorts", "_law_swims_here"] .fz m__law_behind) (h_behind : Dok P w K mg base 4 "behind" ["record", "sorts", "swims"] .fz m_behind) (h__law_time : Dok P w K mg base 1 "_law_time" ["_law_more"] .fz m__law_time) (h_history : Dok P w K mg base 4 "history" ["record", "sorts", "heats"] .fz m_history) (h__law_names : Dok P w K mg base 2 "_law_names" ["_law_more", "_law_many"] .fz m__law_names) (z_len : mg "len" = none) (z_max : mg "max" = none) (z_min : mg "min" = none) (z_range : mg "range" = none) (z_str : mg "str" = none) (z_tuple : mg "tuple" = none) (F : FunC K "law" "law" s_law f fd cdv) : FnG P w K mg base (L2N.CX P w) 8 f fd ["_law_script"] (SpL m_law K) :=
  law_okG (pad := 13) (ω0 := [.fz, .dead, .dead, .dead, .dead, .dead, .dead, .dead, .dead, .dead, .dead, .dead, .dead, .dead]) (ωr := (List.replicate 14 .dead)) (body := b_law) F sc_law rfl rfl fun A outer s H H0 E hr hgd => ⟨(List.replicate 14 .dead), (bx_cons (sx_for (passes_of (by rfl)) (by rfl) (ix_rng1 (pax_cons (px_max2 (by rfl) (by rfl) z_max (pav_cons (PX.v px_int) (pav_cons (PX.v (px_min2 (by rfl) (by rfl) z_min (pav_cons (PX.v px_int) (pav_cons (PX.v (px_len (by rfl) z_len (pav_cons (PX.v (px_v 0)) pav_nil))) pav_nil)))) pav_nil))) pax_nil) (by rfl) z_range) (tg_name 1 sc_law.nd) (bx_wk [.fz, .dead, .dead, .dead, .dead, .dead, .dead, .dead, .dead, .dead, .dead, .dead, .dead, .dead] (bx_cons (sx_set 2 sc_law.nd (px_callD h__law_drawn (hr.mono (by decide)) (L2N.takes_of (by rfl) (by rfl) (by rfl) (by rfl)) (by rfl) (pax_cons (px_callD h__law_cell (hr.mono (by decide)) (L2N.takes_of (by rfl) (by rfl) (by rfl) (by rfl)) (by rfl) (pax_cons (px_v 0) (pax_cons (px_v 1) pax_nil)) (len_cons (len_cons len_nil))) (pax_cons (px_v 1) pax_nil)) (len_cons (len_cons len_nil)))) (bx_cons (sx_for (passes_of (by rfl)) (by rfl) (ix_rng1 (pax_cons px_int pax_nil) (by rfl) z_range) (tg_name 3 sc_law.nd) (bx_wk [.fz, .fz, .fz, .dead, .dead, .dead, .dead, .dead, .dead, .dead, .dead, .dead, .dead, .dead] (bx_cons (sx_set 4 sc_law.nd (px_callD h__law_drawn (hr.mono (by decide)) (L2N.takes_of (by rfl) (by rfl) (by rfl) (by rfl)) (by rfl) (pax_cons (px_v 2) (pax_cons (px_add (PX.v px_int) (PX.v (px_v 3))) pax_nil)) (len_cons (len_cons len_nil)))) (bx_cons (sx_set 5 sc_law.nd (px_if (ptx_cmp op_gt gt_s gtD_ne (PX.v (px_mod (PX.v (px_v 4)) (PX.v px_int))) (PX.v px_int) (nomark _)) (px_tup (pax_cons (px_callD h__law_time (hr.mono (by decide)) (L2N.takes_of (by rfl) (by rfl) (by rfl) (by rfl)) (by rfl) (pax_cons (px_fdiv (PX.v (px_v 4)) (PX.v px_int)) pax_nil) (len_cons len_nil)) (pax_cons (px_tuple (by rfl) z_tuple (pav_cons (PX.v (px_callD h__law_names (hr.mono (by decide)) (L2N.takes_of (by rfl) (by rfl) (by rfl) (by rfl)) (by rfl) (pax_cons (px_fdiv (PX.v (px_v 4)) (PX.v px_int)) (pax_cons (px_add (PX.v px_int) (PX.v (px_mod (PX.v (px_v 4)) (PX.v px_int)))) pax_nil)) (len_cons (len_cons len_nil)))) pav_nil)) pax_nil))) px_non)) (bx_cons (sx_set 6 sc_law.nd (px_ix (u1 hr) (PX.v (PX.freeze (px_lst (pax_cons (px_tup (pax_cons px_str pax_nil)) (pax_cons (px_tup (pax_cons px_str (pax_cons px_str pax_nil))) (pax_cons (px_tup pax_nil) (pax_cons (px_tup (pax_cons px_str (pax_cons px_str (pax_cons px_str pax_nil)))) pax_nil))))))) (px_mod (PX.v (px_fdiv (PX.v (px_v 4)) (PX.v px_int))) (PX.v px_int)))) (bx_cons (sx_fzb 7 (sx_setLc 7 (own := [("_law_n", 13)]) (by rfl) sc_law.nd (ix_rng1 (pax_cons (px_mod (PX.v (px_fdiv (PX.v (px_v 4)) (PX.v px_int))) (PX.v px_int)) pax_nil) (by rfl) z_range) (blkOk_by (by rfl)) (fun _ _ _ _ _ => (tc_name 13 sc_law.nd)) (fun _ _ _ _ _ => ttx_nil) (fun _ _ _ _ _ => (px_callD h__law_swims (hr.mono (by decide)) tk_no (by rfl) (pax_cons (px_callD h__law_drawn (hr.mono (by decide)) tk_no (by rfl) (pax_cons (px_v 4) (pax_cons (px_v 13) pax_nil)) (len_cons (len_cons len_nil))) pax_nil) (len_cons len_nil))))) (bx_cons (sx_par 8 9 (by rfl) sc_law.nd (px_lst0 .fz) (px_v 5)) (bx_cons (sx_for (passes_of (by rfl)) (by rfl) (ix_v (px_v 7)) (tg_name 10 sc_law.nd) (bx_wk [.fz, .fz, .fz, .fz, .fz, .fz, .fz, .fz, .own .fz, .fz, .dead, .dead, .dead, .dead] (bx_cons (sx_if (ptx_cmp (op_neA hr) neA_s neA_ne (PX.v (px_callD h_behind (hr.mono (by decide)) (L2N.takes_of (by rfl) (by rfl) (by rfl) (by rfl)) (by rfl) (pax_cons (px_v 9) (pax_cons (px_v 6) (pax_cons (px_v 10) pax_nil))) (len_cons (len_cons (len_cons len_nil))))) (PX.v (px_callD h__law_behind (hr.mono (by decide)) (L2N.takes_of (by rfl) (by rfl) (by rfl) (by rfl)) (by rfl) (pax_cons (px_v 9) (pax_cons (px_v 6) (pax_cons (px_v 10) pax_nil))) (len_cons (len_cons (len_cons len_nil))))) (nomark _)) (bx_cons (sx_ret px_bl) bx_nil) bx_nil) (bx_cons (sx_set 11 sc_law.nd (px_callD h__law_behind (hr.mono (by decide)) (L2N.takes_of (by rfl) (by rfl) (by rfl) (by rfl)) (by rfl) (pax_cons (px_v 9) (pax_cons (px_v 6) (pax_cons (px_v 10) pax_nil))) (len_cons (len_cons (len_cons len_nil))))) (bx_cons (sx_if (PWX.pt (pwx_and (ptx_cmp op_notN isn_s isnD_ne (PX.v (px_v 9)) (PX.v px_non) (nomark _)) (pwx_and1 (ptx_cmp op_gt gt_s gtD_ne (PX.v (px_ix (u1 hr) (PX.v (px_v 11)) px_int)) (PX.v (px_ix (u1 hr) (PX.v (px_v 9)) px_int)) (nomark _))))) (bx_cons (sx_ret px_bl) bx_nil) bx_nil) (bx_cons (sx_if (ptx_cmp (op_neA hr) neA_s neA_ne (PX.v (px_v 11)) (PX.v (px_v 9)) (nomark _)) (bx_cons (sx_app 8 (px_v 11)) bx_nil) bx_nil) (bx_cons (sx_set 9 sc_law.nd (px_v 11)) bx_nil)))))) (ng_name 10)) (bx_cons (sx_set 12 sc_law.nd (px_strL hr hgd (by rfl) z_str (pav_cons (PX.v (px_v 7)) pav_nil))) (bx_cons (sx_if (PWX.pt (pwx_or (ptx_cmp (op_neA hr) neA_s neA_ne (PX.v (px_callD h_history (hr.mono (by decide)) (L2N.takes_of (by rfl) (by rfl) (by rfl) (by rfl)) (by rfl) (pax_cons (px_v 5) (pax_cons (px_v 6) (pax_cons (px_v 7) pax_nil))) (len_cons (len_cons (len_cons len_nil))))) (pv_o 8) (nomark _)) (pwx_or (ptx_cmp (op_neA hr) neA_s neA_ne (PX.v (px_callD h_behind (hr.mono (by decide)) (L2N.takes_of (by rfl) (by rfl) (by rfl) (by rfl)) (by rfl) (pax_cons (px_v 5) (pax_cons (px_v 6) (pax_cons (PX.freeze (px_lst0 .fz)) pax_nil))) (len_cons (len_cons (len_cons len_nil))))) (PX.v (px_v 5)) (nomark _)) (pwx_or1 (ptx_cmp (op_neA hr) neA_s neA_ne (PX.v (px_strL hr hgd (by rfl) z_str (pav_cons (PX.v (px_v 7)) pav_nil))) (PX.v (px_v 12)) (nomark _)))))) (bx_cons (sx_ret px_bl) bx_nil) bx_nil) (bx_cons (sx_if (ptx_cmp (op_neA hr) neA_s neA_ne (PX.v (px_callD h_behind (hr.mono (by decide)) (L2N.takes_of (by rfl) (by rfl) (by rfl) (by rfl)) (by rfl) (pax_cons (px_v 5) (pax_cons (px_tup pax_nil) (pax_cons (px_callD h__law_swims (hr.mono (by decide)) (L2N.takes_of (by rfl) (by rfl) (by rfl) (by rfl)) (by rfl) (pax_cons (px_v 4) pax_nil) (len_cons len_nil)) pax_nil))) (len_cons (len_cons (len_cons len_nil))))) (PX.v (px_v 5)) (nomark _)) (bx_cons (sx_ret px_bl) bx_nil) bx_nil) bx_nil)))))))))) (ng_name 3)) (bx_cons (sx_if (ptx_not (ptx_v (px_callD0 h__law_none_let (hr.mono (by decide)) (L2N.takes_of (by rfl) (by rfl) (by rfl) (by rfl)) (by rfl)))) (bx_cons (sx_ret px_bl) bx_nil) bx_nil) bx_nil)))) (ng_name 1)) (bx_cons (sx_ret px_bl) bx_nil))⟩

/-! ## draws -/
theorem drawn_ok (c k : Int) : ∃ d, m__law_drawn [.int c, .int k] = .ok (.int d) ∧ 0 ≤ d ∧ d < 340282366920938463463374607431768211507 := by
  generalize e1 : (c * 6364136223846793005 + (k + 1) * 1442695040888963407) % 340282366920938463463374607431768211507 = m1
  have hm1 : m1.natAbs < 2 ^ 129 := by
    have a := Int.emod_nonneg (c * 6364136223846793005 + (k + 1) * 1442695040888963407) (b := 340282366920938463463374607431768211507) (by decide)
    have b := Int.emod_lt_of_pos (c * 6364136223846793005 + (k + 1) * 1442695040888963407) (b := 340282366920938463463374607431768211507) (by decide)
    rw [e1] at a b
    omega
  generalize e2 : (m1 * m1) % 340282366920938463463374607431768211297 = m2
  have hm2 : 0 ≤ m2 ∧ m2 < 340282366920938463463374607431768211297 := by
    have a := Int.emod_nonneg (m1 * m1) (b := 340282366920938463463374607431768211297) (by decide)
    have b := Int.emod_lt_of_pos (m1 * m1) (b := 340282366920938463463374607431768211297) (by decide)
    rw [e2] at a b
    exact ⟨a, b⟩
  have hx : (m2 % 18446744073709551557 + 1).natAbs < 2 ^ 65 := by omega
  have hy : (m2 / 18446744073709551557 + 1).natAbs < 2 ^ 66 := by omega
  generalize e3 : m2 % 18446744073709551557 + 1 = x at hx
  generalize e4 : m2 / 18446744073709551557 + 1 = y at hy
  have hxy : (x * y).natAbs < 2 ^ 131 := by
    rw [Int.natAbs_mul, show (2 : Nat) ^ 131 = 2 ^ 65 * 2 ^ 66 from by rw [← Nat.pow_add]]
    exact Nat.mul_lt_mul'' hx hy
  have h1 : mulOk c 6364136223846793005 = true := mulOk_r (by decide)
  have h2 : mulOk (k + 1) 1442695040888963407 = true := mulOk_r (by decide)
  have h3 : mulOk m1 m1 = true := mulOk_b hm1 hm1 (by decide)
  have h4 : mulOk x y = true := mulOk_b hx hy (by decide)
  have h5 : mulOk (x * y) m2 = true := mulOk_b (b := 129) hxy (by omega) (by decide)
  refine ⟨(x * y * m2) % 340282366920938463463374607431768211507, ?_, Int.emod_nonneg _ (by decide), Int.emod_lt_of_pos _ (by decide)⟩
  simp [m__law_drawn, b__law_drawn, mulI_int h1, mulI_int h2, e1, e2, e3, e4, mulI_int h3, mulI_int h4, mulI_int h5]
theorem cell_ok (ns : List Int) (hl : ns.length ≤ 63) (k : Int) (h0 : 0 ≤ k) : ∃ c, m__law_cell [.scr ns, .int k] = .ok (.int c) := by
  by_cases hn : ns = []
  · subst hn
    have e := eqA_scr []
    have h1 : mulOk k 7919 = true := mulOk_r (by decide)
    refine ⟨k * 7919, ?_⟩
    simp [m__law_cell, b__law_cell, e, mulI_int h1]
  · have e := eqA_scr ns
    have hp : 0 < ns.length := List.length_pos_iff.mpr hn
    obtain ⟨x, hx, _⟩ := atI_mod (xs := ns) (i := k % ns.length) (Int.emod_nonneg _ (by omega)) (Int.emod_lt_of_pos _ (by omega))
    have h1 : mulOk (k / ns.length) 104729 = true := mulOk_r (by decide)
    have h2 : modD (.int k) (.int ns.length) = .ok (.int (k % ns.length)) := mod_ok (by omega)
    have h3 : fdivD (.int k) (.int ns.length) = .ok (.int (k / ns.length)) := fdiv_ok (by omega) (by omega)
    refine ⟨x + k / ns.length * 104729, ?_⟩
    simp [m__law_cell, b__law_cell, e, hn, h2, h3, hx, mulI_int h1]

/-! ### names -/
def mkS (cs : List Nat) : Str := ⟨cs.toArray⟩
theorem mkS_inj {a b : List Nat} (h : mkS a = mkS b) : a = b := by simpa [mkS] using h
theorem mkS_eq {a b : List Nat} : decide (mkS a = mkS b) = decide (a = b) := by
  by_cases h : a = b
  · subst h; simp
  · have : ¬ mkS a = mkS b := fun e => h (mkS_inj e)
    simp [h, this]
theorem mkS_len (a : List Nat) : (mkS a).length = a.length := by simp [mkS, Str.length]
theorem mkS_app (a b : List Nat) : mkS a ++ mkS b = mkS (a ++ b) := by
  show Str.append _ _ = _
  simp [Str.append, mkS]
def Few : List Nat := [97, 98, 99, 120, 121, 122]
def Short (cs : List Nat) : Prop := 1 ≤ cs.length ∧ cs.length ≤ 3 ∧ ∀ c ∈ cs, c ∈ Few
def Long (j : Nat) (cs : List Nat) : Prop := ∃ s, Short s ∧ cs = s ++ [100 + j / 16, 100 + j % 16]
def NmOk (cs : List Nat) : Prop := 1 ≤ cs.length ∧ cs.length ≤ 5 ∧ ∀ c ∈ cs, 97 ≤ c ∧ c ≤ 122
theorem few_le {c : Nat} (h : c ∈ Few) : 97 ≤ c ∧ c ≤ 122 ∧ (c < 100 ∨ 119 < c) := by
  simp only [Few, List.mem_cons, List.not_mem_nil, or_false] at h
  omega
theorem Short.ok {cs : List Nat} (h : Short cs) : NmOk cs := ⟨h.1, by have := h.2.1; omega, fun c hc => ⟨(few_le (h.2.2 c hc)).1, (few_le (h.2.2 c hc)).2.1⟩⟩
theorem Long.ok {j : Nat} {cs : List Nat} (hj : j < 256) (h : Long j cs) : NmOk cs := by
  obtain ⟨s, hs, rfl⟩ := h
  refine ⟨by simp, by have := hs.2.1; simp; omega, fun c hc => ?_⟩
  rcases List.mem_append.mp hc with hc | hc
  · exact ⟨(few_le (hs.2.2 c hc)).1, (few_le (hs.2.2 c hc)).2.1⟩
  · simp only [List.mem_cons, List.not_mem_nil, or_false] at hc
    omega
theorem long_not_short {j : Nat} {cs : List Nat} (h : Long j cs) : ¬ Short cs := fun hs => by
  obtain ⟨s, _, rfl⟩ := h
  have := (few_le (hs.2.2 (100 + j % 16) (by simp))).2.2
  omega
theorem long_one {i j : Nat} {cs : List Nat} (h : Long i cs) (h' : Long j cs) : i = j := by
  obtain ⟨s, _, rfl⟩ := h
  obtain ⟨s', _, e⟩ := h'
  have := List.append_inj_right' e rfl
  simp only [List.cons.injEq, and_true] at this
  omega
theorem pick_few {q : Int} (h : 0 ≤ q ∧ q < 6) : ∃ c ∈ Few, ixD (.str "abcxyz") (.int q) = .ok (.str (mkS [c])) := by
  have hq : q = 0 ∨ q = 1 ∨ q = 2 ∨ q = 3 ∨ q = 4 ∨ q = 5 := by omega
  rcases hq with hq | hq | hq | hq | hq | hq <;> subst hq
  · exact ⟨97, by decide, by kernel_rfl⟩
  · exact ⟨98, by decide, by kernel_rfl⟩
  · exact ⟨99, by decide, by kernel_rfl⟩
  · exact ⟨120, by decide, by kernel_rfl⟩
  · exact ⟨121, by decide, by kernel_rfl⟩
  · exact ⟨122, by decide, by kernel_rfl⟩
theorem pick_d (q : Int) (n : Nat) (e : q = n) (h : n < 16) : ixD (.str "defghijklmnopqrs") (.int q) = .ok (.str (mkS [100 + n])) := by
  subst e
  have hq : n = 0 ∨ n = 1 ∨ n = 2 ∨ n = 3 ∨ n = 4 ∨ n = 5 ∨ n = 6 ∨ n = 7 ∨ n = 8 ∨ n = 9 ∨ n = 10 ∨ n = 11 ∨ n = 12 ∨ n = 13 ∨ n = 14 ∨ n = 15 := by omega
  rcases hq with hq | hq | hq | hq | hq | hq | hq | hq | hq | hq | hq | hq | hq | hq | hq | hq <;> subst hq <;> kernel_rfl
theorem glue_fold : ∀ (cs : List Nat) (acc : Array Nat), (cs.map fun c => mkS [c]).foldl (fun acc p => acc ++ ("" : Str).cps ++ p.cps) acc = acc ++ cs.toArray
  | [], acc => by simp
  | c :: cs, acc => by
    rw [List.map_cons, List.foldl_cons, glue_fold cs]
    have : ("" : Str).cps = #[] := rfl
    rw [this]
    simp [mkS]
theorem join_one (cs : List Nat) : Txt.join "" (cs.map fun c => mkS [c]) = mkS cs := by
  cases cs with
  | nil => rfl
  | cons c cs =>
    have := glue_fold cs (mkS [c]).cps
    show (⟨(cs.map fun c => mkS [c]).foldl (fun acc p => acc ++ ("" : Str).cps ++ p.cps) (mkS [c]).cps⟩ : Str) = mkS (c :: cs)
    rw [this]
    simp [mkS]
theorem lcM_ex {g : D → Mr.Env → Res Mr.Env} {te : Mr.Env → Res D} {ρ : Mr.Env} {P : D → Prop} : ∀ {ds : List D}, (∀ d ∈ ds, ∃ ρ1 x, g d ρ = .ok ρ1 ∧ te ρ1 = .ok x ∧ P x) → ∃ xs : List D, xs.length = ds.length ∧ (∀ x ∈ xs, P x) ∧ lcM g yesR te ρ ds = .ok xs
  | [], _ => ⟨[], rfl, by simp, rfl⟩
  | d :: ds, h => by
    obtain ⟨ρ1, x, e1, e2, p⟩ := h d (by simp)
    obtain ⟨xs, l, ps, e⟩ := lcM_ex (ds := ds) fun d hd => h d (by simp [hd])
    refine ⟨x :: xs, by simp [l], fun y hy => ?_, ?_⟩
    · rcases List.mem_cons.mp hy with hy | hy
      · subst hy; exact p
      · exact ps y hy
    · simp [lcM, e1, e2, e]
theorem all_ex {α β : Type} {f : α → β} {P : α → Prop} : ∀ {ys : List β}, (∀ y ∈ ys, ∃ x, P x ∧ y = f x) → ∃ xs : List α, (∀ x ∈ xs, P x) ∧ ys = xs.map f
  | [], _ => ⟨[], by simp, rfl⟩
  | y :: ys, h => by
    obtain ⟨x, p, e⟩ := h y (by simp)
    obtain ⟨xs, ps, e2⟩ := all_ex (ys := ys) fun z hz => h z (by simp [hz])
    refine ⟨x :: xs, fun z hz => ?_, by simp [e, e2]⟩
    rcases List.mem_cons.mp hz with hz | hz
    · subst hz; exact p
    · exact ps z hz
def namesD (ns : List (List Nat)) : D := .lst (ns.map fun cs => .str (mkS cs))
theorem eqv_strs (a b : Str) : eqv (.str a) (.str b) = decide (a = b) := by
  simp only [eqv, D.toP, PyData.eqv]
  by_cases h : a = b <;> simp [h]
theorem any_strs (s : List Nat) : ∀ ns : List (List Nat), (ns.map fun cs => D.str (mkS cs)).any (fun z => eqv z (.str (mkS s))) = decide (s ∈ ns)
  | [] => rfl
  | n :: ns => by
    simp only [List.map_cons, List.any_cons, any_strs s ns, eqv_strs, mkS_eq]
    by_cases h : n = s
    · subst h; simp
    · have h' : ¬ s = n := fun e => h e.symm
      simp [h, h']
theorem in_names (s : List Nat) (ns : List (List Nat)) : inD (.str (mkS s)) (namesD ns) = .ok (decide (s ∈ ns)) := by
  have h : (ns.map fun cs => D.str (mkS cs)).all flat = true := by simp [flat]
  simp only [inD, namesD, show flat (.str (mkS s)) = true from rfl, h, Bool.and_self, if_true, any_strs]
theorem inV_names (neg : Bool) (s : List Nat) (ns : List (List Nat)) : inV' neg (.str (mkS s)) (namesD ns) = .ok (.bl (if neg then !decide (s ∈ ns) else decide (s ∈ ns))) := by
  simp [inV', in_names]
theorem addS {a b : List Nat} (h : a.length + b.length ≤ 1000) : addD (.str (mkS a)) (.str (mkS b)) = .ok (.str (mkS (a ++ b))) := by
  have : (mkS a).length + (mkS b).length ≤ sizeLine := by rw [mkS_len, mkS_len]; exact sz9 (by omega)
  rw [show addD (.str (mkS a)) (.str (mkS b)) = if (mkS a).length + (mkS b).length ≤ sizeLine then .ok (.str (mkS a ++ mkS b)) else .bad from rfl, if_pos this, mkS_app]
theorem ones_sum : ∀ cs : List Nat, ((cs.map fun c => mkS [c]).map (·.length)).sum = cs.length
  | [] => rfl
  | c :: cs => by
    simp only [List.map_cons, List.sum_cons, ones_sum cs, mkS_len, List.length_cons, List.length_nil]
    omega
theorem short_ok {here : Int} (h : 0 ≤ here) (a b c e f g : D) : ∃ s, Short s ∧ joinF (kst (.str "")) (lcF (rng1 (consA (op2 addD (kst (.int 1)) (op2 modD (nv 4) (kst (.int 3)))) nilA)) [7] (nmG 7) yesR (op2 ixD (kst (.str "abcxyz")) (op2 modD (op2 fdivD (callF (consA (nv 4) (consA (nv 7) nilA)) m__law_drawn) (kst (.int 8))) (kst (.int 6))))) [a, b, c, e, .int here, f, g, .non] = .ok (.str (mkS s)) := by
  have hr : rngK1 [.int (1 + here % 3)] = .ok ((upI 0 (1 + here % 3).toNat).map .int) := rngK1_ok (by omega) (by omega)
  obtain ⟨xs, l, ps, e1⟩ := lcM_ex (g := nmG 7) (te := op2 ixD (kst (.str "abcxyz")) (op2 modD (op2 fdivD (callF (consA (nv 4) (consA (nv 7) nilA)) m__law_drawn) (kst (.int 8))) (kst (.int 6)))) (ρ := [a, b, c, e, .int here, f, g, .non]) (P := fun x => ∃ cc, cc ∈ Few ∧ x = D.str (mkS [cc])) (ds := (upI 0 (1 + here % 3).toNat).map .int) fun d hd => by
    obtain ⟨k, hk, rfl⟩ := List.mem_map.mp hd
    obtain ⟨z, ez, z0, _⟩ := drawn_ok here k
    have f8 : fdivD (.int z) (.int 8) = .ok (.int (z / 8)) := fdiv_ok (by decide) (by decide)
    obtain ⟨cc, hc, ec⟩ := pick_few (q := z / 8 % 6) (by omega)
    exact ⟨_, .str (mkS [cc]), rfl, by simp [ez, f8, ec], cc, hc, rfl⟩
  obtain ⟨cs, pc, ec⟩ := all_ex ps
  have lc : cs.length = (1 + here % 3).toNat := by
    have := l
    rw [ec] at this
    simpa [upI_len] using this
  refine ⟨cs, ⟨by omega, by omega, pc⟩, ?_⟩
  have e2 : lcF (rng1 (consA (op2 addD (kst (.int 1)) (op2 modD (nv 4) (kst (.int 3)))) nilA)) [7] (nmG 7) yesR (op2 ixD (kst (.str "abcxyz")) (op2 modD (op2 fdivD (callF (consA (nv 4) (consA (nv 7) nilA)) m__law_drawn) (kst (.int 8))) (kst (.int 6)))) [a, b, c, e, .int here, f, g, .non] = .ok (.lst xs) := by
    rw [lcF_ap]
    simp only [rng1_ap, consA_ap, op2_ap, kst_ap, ok_bind, op2K_ap, nv_ap, gv_succ, gv_zero, mod_ok (show (0 : Int) < 3 by decide), addD_int, consK_ap, nilA_ap, consK2_ap, hr]
    exact lcK_ok (sz9 (by simp [upI_len]; omega)) e1
  rw [joinF_ap, kst_ap, ok_bind, joinK_str, e2, ok_bind, ec]
  have e3 : (cs.map fun c => D.str (mkS [c])) = (cs.map fun c => mkS [c]).map .str := by rw [List.map_map]; rfl
  rw [e3, joinK2_ok, join_one]
  rw [ones_sum]
  have h0 : ("" : Str).length = 0 := rfl
  rw [h0]
  omega
def NamesI (j : Nat) (acc : List (List Nat)) : Prop := acc.length = j ∧ acc.Nodup ∧ ∀ x ∈ acc, Short x ∨ ∃ i, i < j ∧ Long i x
theorem names_step {more : Int} (h : 0 ≤ more) {j : Nat} (hj : j < 256) {acc : List (List Nat)} (I : NamesI j acc) (many : D) : ∃ x, NamesI (j + 1) (acc ++ [x]) ∧ bodyF (nmG 3) L2__law_names (.int (j : Nat)) [.int more, many, namesD acc, .non, .non, .non, .non, .non] = .ok (.nx [.int more, many, namesD (acc ++ [x]), .non, .non, .non, .non, .non]) := by
  obtain ⟨here, hd, h0, _⟩ := drawn_ok more (60 + (j : Nat))
  obtain ⟨s, hs, es⟩ := short_ok h0 (.int more) many (namesD acc) (.int (j : Nat)) .non .non
  obtain ⟨I1, I2, I3⟩ := I
  have p1 := pick_d ((j : Int) / 16) (j / 16) (by omega) (by omega)
  have p2 := pick_d ((j : Int) % 16) (j % 16) (by omega) (by omega)
  have f16 : fdivD (.int (j : Int)) (.int 16) = .ok (.int ((j : Int) / 16)) := fdiv_ok (by decide) (by decide)
  have m16 : modD (.int (j : Int)) (.int 16) = .ok (.int ((j : Int) % 16)) := mod_ok (by decide)
  have a1 := addS (a := s) (b := [100 + j / 16]) (by have := hs.2.1; simp; omega)
  have a2 := addS (a := s ++ [100 + j / 16]) (b := [100 + j % 16]) (by have := hs.2.1; simp; omega)
  have hin := inV_names true s acc
  have hz : acc.length < sizeLine := Nat.lt_of_le_of_lt (show acc.length ≤ 256 by omega) (by decide)
  by_cases c : s ∈ acc
  · refine ⟨s ++ [100 + j / 16] ++ [100 + j % 16], ⟨by simp [I1], ?_, fun x hx => ?_⟩, ?_⟩
    · rw [List.nodup_append]
      refine ⟨I2, by simp, fun x hx y hy e => ?_⟩
      rw [List.mem_singleton] at hy
      subst e hy
      have L : Long j (s ++ [100 + j / 16] ++ [100 + j % 16]) := ⟨s, hs, by simp⟩
      rcases I3 _ hx with q | ⟨i, hi, q⟩
      · exact long_not_short L q
      · have := long_one q L; omega
    · rcases List.mem_append.mp hx with hx | hx
      · rcases I3 x hx with q | ⟨i, hi, q⟩
        · exact .inl q
        · exact .inr ⟨i, by omega, q⟩
      · rw [List.mem_singleton] at hx
        subst hx
        exact .inr ⟨j, by omega, s, hs, by simp⟩
    · simp only [c, decide_true, Bool.not_true, if_true] at hin
      simp only [namesD] at hin es ⊢
      simp [-joinF_ap, -lcF_ap, -List.append_assoc, L2__law_names, hd, es, f16, m16, p1, p2, a1, a2, hin, hz]
  · refine ⟨s, ⟨by simp [I1], ?_, fun x hx => ?_⟩, ?_⟩
    · rw [List.nodup_append]
      refine ⟨I2, by simp, fun x hx y hy e => ?_⟩
      rw [List.mem_singleton] at hy
      subst e hy
      exact c hx
    · rcases List.mem_append.mp hx with hx | hx
      · rcases I3 x hx with q | ⟨i, hi, q⟩
        · exact .inl q
        · exact .inr ⟨i, by omega, q⟩
      · rw [List.mem_singleton] at hx
        subst hx
        exact .inl hs
    · simp only [c, decide_false, Bool.not_false, if_true] at hin
      simp only [namesD] at hin es ⊢
      simp [-joinF_ap, -lcF_ap, -List.append_assoc, L2__law_names, hd, es, f16, m16, p1, p2, a1, a2, hin, hz]
theorem names_loop {more : Int} (h : 0 ≤ more) (many : D) : ∀ n : Nat, n ≤ 256 → ∃ ns, NamesI n ns ∧ forM (bodyF (nmG 3) L2__law_names) ((upI 0 n).map .int) [.int more, many, namesD [], .non, .non, .non, .non, .non] = .ok (.nx [.int more, many, namesD ns, .non, .non, .non, .non, .non])
  | 0, _ => ⟨[], ⟨rfl, by simp, by simp⟩, rfl⟩
  | n + 1, hn => by
    obtain ⟨ns, I, e⟩ := names_loop h many n (by omega)
    obtain ⟨x, I', e'⟩ := names_step h (j := n) (by omega) I many
    refine ⟨_, I', ?_⟩
    rw [upI_succ, List.map_append, forM_append, e, Int.zero_add]
    show forM _ [_] _ = _
    rw [forM_one]
    exact e'
theorem names_gen {more : Int} (h : 0 ≤ more) {many : Int} (h0 : 0 ≤ many) (h1 : many ≤ 256) : ∃ ns : List (List Nat), ns.length = many.toNat ∧ ns.Nodup ∧ (∀ x ∈ ns, NmOk x) ∧ m__law_names [.int more, .int many] = .ok (namesD ns) := by
  obtain ⟨ns, ⟨I1, I2, I3⟩, e⟩ := names_loop h (.int many) many.toNat (by omega)
  have hr : rngK1 [.int many] = .ok ((upI 0 many.toNat).map .int) := rngK1_ok (by omega) (by omega)
  refine ⟨ns, I1, I2, fun x hx => ?_, ?_⟩
  · rcases I3 x hx with q | ⟨i, hi, q⟩
    · exact q.ok
    · exact q.ok (by omega)
  · simp only [namesD, List.map_nil] at e
    simp [m__law_names, b__law_names, hr, e, namesD, finD]
theorem letter_in {c : Nat} (h : 97 ≤ c ∧ c ≤ 122) : inV' false (.str (mkS [c])) (.str "abcdefghijklmnopqrstuvwxyz") = .ok (.bl true) := by
  obtain ⟨k, rfl⟩ : ∃ k, c = 97 + k := ⟨c - 97, by omega⟩
  have hk : k < 26 := by omega
  have : k = 0 ∨ k = 1 ∨ k = 2 ∨ k = 3 ∨ k = 4 ∨ k = 5 ∨ k = 6 ∨ k = 7 ∨ k = 8 ∨ k = 9 ∨ k = 10 ∨ k = 11 ∨ k = 12 ∨ k = 13 ∨ k = 14 ∨ k = 15 ∨ k = 16 ∨ k = 17 ∨ k = 18 ∨ k = 19 ∨ k = 20 ∨ k = 21 ∨ k = 22 ∨ k = 23 ∨ k = 24 ∨ k = 25 := by omega
  rcases this with e | e | e | e | e | e | e | e | e | e | e | e | e | e | e | e | e | e | e | e | e | e | e | e | e | e <;> subst e <;> kernel_rfl
theorem is_name_ok {cs : List Nat} (h : NmOk cs) : m_is_name [.str (mkS cs)] = .ok (.bl true) := by
  obtain ⟨h1, h2, h3⟩ := h
  have l : lenD [.str (mkS cs)] = .ok (.int cs.length) := by
    show (if (mkS cs).length ≤ sizeLine then _ else _) = _
    rw [mkS_len, if_pos (sz9 (by omega))]
  have a1 : lcF (iterF (nv 0)) [1] (nmG 1) yesR (op2 (inV' false) (nv 1) (kst (.str "abcdefghijklmnopqrstuvwxyz"))) [.str (mkS cs), .non] = .ok (.lst ((cs.map fun _ => true).map .bl)) := by
    rw [lcF_ap, iterF_ap]
    have e : iterD (.str (mkS cs)) = .ok (cs.map fun c => .str (mkS [c])) := by simp [iterD, mkS]
    simp only [nv_ap, gv_zero, ok_bind, e]
    refine lcK_ok (sz9 (by simp; omega)) ?_
    rw [List.map_map]
    refine lcM_gen (fun c => D.str (mkS [c])) (D.bl ∘ fun _ => true) cs fun x hx => ⟨_, rfl, ?_⟩
    have := letter_in (h3 x hx)
    simp [this]
  have l1 : (1 : Int) ≤ cs.length := by omega
  have l2 : (cs.length : Int) ≤ 8 := by omega
  have g1 : (cs.map fun _ => true).all id = true := by simp
  generalize (cs.map fun _ => true) = A at a1 g1
  simp [-lcF_ap, -List.map_map, m_is_name, b_is_name, l, l1, l2, a1, allD_map, g1]

/-! ### lists: general -/
theorem lcM_ifg {α : Type} {g : D → Mr.Env → Res Mr.Env} {tt : Mr.Env → Res Bool} {te : Mr.Env → Res D} {ρ : Mr.Env} (k : α → D) (p : α → Bool) (h : α → D) : ∀ (xs : List α), (∀ x ∈ xs, ∃ ρ1, g (k x) ρ = .ok ρ1 ∧ tt ρ1 = .ok (p x) ∧ (p x = true → te ρ1 = .ok (h x))) → lcM g tt te ρ (xs.map k) = .ok ((xs.filter p).map h)
  | [], _ => rfl
  | x :: xs, q => by
    obtain ⟨ρ1, e1, e2, e3⟩ := q x (by simp)
    have ih := lcM_ifg k p h xs fun y hy => q y (by simp [hy])
    cases hp : p x with
    | true => simp [lcM, e1, e2, e3 hp, ih, hp]
    | false => simp [lcM, e1, e2, ih, hp]
theorem merge_same (d : D) : ∀ (ts : List Int), mergeD [] (ts.map fun t => (((.inl t : Key)), d)) = (SN.nb ts).map fun t => ((.inl t : Key), d) := by
  intro ts
  generalize hn : ts.length = n
  induction n generalizing ts with
  | zero =>
    rw [List.length_eq_zero_iff.mp hn]
    rfl
  | succ n ih =>
    have hne : ts ≠ [] := fun e => by rw [e] at hn; cases hn
    obtain ⟨l', y, rfl⟩ := List.eq_nil_or_concat ts |>.resolve_left hne
    simp only [List.concat_eq_append] at *
    have h' := ih l' (by simpa using hn)
    unfold mergeD at h' ⊢
    rw [List.map_append, List.foldl_append, h', SN.nb_snoc]
    show putK' _ (Sum.inl y : Key) d = _
    unfold putK'
    by_cases hy : y ∈ l'
    · have ha : (((SN.nb l').map fun t => ((.inl t : Key), d)).any fun kv => decide (kv.1 = .inl y)) = true := by
        rw [List.any_eq_true]
        exact ⟨(.inl y, d), List.mem_map.mpr ⟨y, (SN.nb_mem l' y).mpr hy, rfl⟩, by simp⟩
      rw [if_pos hy, if_pos ha, List.map_map]
      refine List.map_congr_left fun t _ => ?_
      show (if ((.inl t : Key)) = .inl y then ((.inl t : Key), d) else (.inl t, d)) = (.inl t, d)
      split <;> rfl
    · have ha : ¬ (((SN.nb l').map fun t => ((.inl t : Key), d)).any fun kv => decide (kv.1 = .inl y)) = true := fun z => by
        obtain ⟨kv, h1, h2⟩ := List.any_eq_true.mp z
        obtain ⟨t, ht, rfl⟩ := List.mem_map.mp h1
        have : t = y := by simpa using h2
        subst this
        exact hy ((SN.nb_mem l' t).mp ht)
      rw [if_neg hy, if_neg ha]
      simp
theorem times_once (ts : List Int) (hl : ts.length ≤ 1000) : (dictD [.lst (ts.map fun t => .tup [.int t, .bl true])]).bind (fun d => sortedD [d]) = .ok (.lst ((ssI ts).map .int)) := by
  have e : dictD [.lst (ts.map fun t => .tup [.int t, .bl true])] = .ok (.dct ((SN.nb ts).map .inl) ((SN.nb ts).map fun _ => .bl true)) := by
    have p := pairsOf_gen (fun t : Int => t) (fun _ => D.bl true) ts
    simp only [dictD]
    rw [p]
    dsimp only
    rw [merge_same]
    simp [unz, Function.comp_def]
  rw [e, ok_bind, sortedD_dct _ _ (sz9 (by have := SN.nb_le ts; omega))]
  rfl
theorem ssI_len (ns : List Int) : (ssI ns).length ≤ ns.length := by
  unfold ssI
  rw [List.length_mergeSort]
  exact SN.nb_le ns
theorem forM_cons {b : D → Mr.Env → Res Fl} {d : D} {ds : List D} {ρ : Mr.Env} : forM b (d :: ds) ρ = (b d ρ).bind (seqK (forM b ds)) := by
  show (b d ρ).bind _ = _
  congr 1
theorem nodup_le {α : Type} [DecidableEq α] : ∀ {xs ys : List α}, xs.Nodup → (∀ x ∈ xs, x ∈ ys) → xs.length ≤ ys.length
  | [], _, _, _ => Nat.zero_le _
  | x :: xs, ys, n, h => by
    have n := List.nodup_cons.mp n
    have hx := h x (by simp)
    have ih := nodup_le (ys := ys.erase x) n.2 fun y hy => (List.mem_erase_of_ne (fun e : y = x => n.1 (e ▸ hy))).mpr (h y (by simp [hy]))
    rw [List.length_erase_of_mem hx] at ih
    have := List.length_pos_of_mem hx
    simp
    omega

/-! ### texts sorted; dicts by texts -/
theorem leP_str (a b : List Nat) : leP (.str (mkS a)) (.str (mkS b)) = decide (a ≤ b) := by
  have := congrFun (congrFun (PySem.W.dataLe_str (fun b : D => match b with | .str x => x | _ => "")) (.str (mkS a))) (.str (mkS b))
  have e : leP (.str (mkS a)) (.str (mkS b)) = decide ((mkS a).cps.toList ≤ (mkS b).cps.toList) := this
  rw [e]
  exact decide_eq_decide.mpr (by simp [mkS])
def srtS (xs : List (List Nat)) : List (List Nat) := xs.mergeSort fun a b => decide (a ≤ b)
theorem srtS_perm0 (xs : List (List Nat)) : (srtS xs).Perm xs := List.mergeSort_perm _ _
theorem srtS_sorted (xs : List (List Nat)) : (srtS xs).Pairwise (· ≤ ·) := by
  have := List.pairwise_mergeSort (le := fun a b : List Nat => decide (a ≤ b)) (fun a b c h1 h2 => by
    simp only [decide_eq_true_eq] at h1 h2 ⊢
    exact List.le_trans h1 h2) (fun a b => by
    simp only [Bool.or_eq_true, decide_eq_true_eq]
    exact List.le_total a b) xs
  exact this.imp fun h => by simpa using h
theorem perm_le_unique {xs ys : List (List Nat)} (p : xs.Perm ys) (h1 : xs.Pairwise (· ≤ ·)) (h2 : ys.Pairwise (· ≤ ·)) : xs = ys := by
  induction xs generalizing ys with
  | nil => exact (List.nil_perm.mp p).symm
  | cons x xs ih =>
    cases ys with
    | nil => exact absurd p.length_eq (by simp)
    | cons y ys =>
      have a := List.pairwise_cons.mp h1
      have b := List.pairwise_cons.mp h2
      have e : x = y := by
        have hx : x ∈ y :: ys := p.subset (by simp)
        have hy : y ∈ x :: xs := p.symm.subset (by simp)
        rcases List.mem_cons.mp hx with q | q
        · exact q
        · rcases List.mem_cons.mp hy with r | r
          · exact r.symm
          · exact List.le_antisymm (a.1 y r) (b.1 x q)
      subst e
      rw [ih (List.Perm.cons_inv p) a.2 b.2]
theorem srtS_perm {xs ys : List (List Nat)} (p : xs.Perm ys) : srtS xs = srtS ys := perm_le_unique (((srtS_perm0 xs).trans p).trans (srtS_perm0 ys).symm) (srtS_sorted xs) (srtS_sorted ys)
theorem okSort_names (ns : List (List Nat)) (h : ns.length ≤ sizeLine) : okSort (ns.map fun cs => .str (mkS cs)) = true := by
  simp [okSort, h, D.noD, D.toP, PySem.W.alike, PyData.depth]
theorem sortedD_names (ns : List (List Nat)) (h : ns.length ≤ sizeLine) : sortedD [namesD ns] = .ok (namesD (srtS ns)) := by
  have e : (ns.map fun cs => D.str (mkS cs)).mergeSort leP = (srtS ns).map fun cs => .str (mkS cs) := by
    unfold srtS
    exact (List.map_mergeSort (fun a _ b _ => (leP_str a b).symm)).symm
  simp only [namesD, sortedD, itemsD, okSort_names ns h, e, if_pos]
theorem NmOk.str {cs : List Nat} (h : NmOk cs) : PyData.strOk (mkS cs) = true := by
  unfold PyData.strOk mkS
  simp only [List.all_toArray, List.all_eq_true, decide_eq_true_eq]
  intro c hc
  have := h.2.2 c hc
  omega
theorem names_lv {ns : List (List Nat)} (h : ∀ x ∈ ns, NmOk x) : lv 1 (namesD ns) = true := by
  simp only [namesD, lv, List.all_map, List.all_eq_true]
  intro x hx
  simp [lv, (h x hx).str]
theorem neA_names {ns : List (List Nat)} (h : ∀ x ∈ ns, NmOk x) : neA (namesD ns) (namesD ns) = .ok (.bl false) := neA_same 1 (by decide) (names_lv h)
theorem lookK_nodup {α κ : Type} [DecidableEq κ] (k : α → κ) (f : α → D) : ∀ {xs : List α} {x : α}, (xs.map k).Nodup → x ∈ xs → lookK (xs.map k) (xs.map f) (k x) = some (f x)
  | [], _, _, h => by cases h
  | y :: xs, x, n, h => by
    have n' := List.nodup_cons.mp n
    rcases List.mem_cons.mp h with e | e
    · subst e; simp [lookK]
    · have hne : ¬ k y = k x := fun q => n'.1 (by rw [q]; exact List.mem_map.mpr ⟨x, e, rfl⟩)
      simp only [List.map_cons, lookK, if_neg hne]
      exact lookK_nodup k f n'.2 e
def sdm {α : Type} (k : α → List Nat) (f : α → D) (xs : List α) : D := .dct (xs.map fun x => .inr (mkS (k x))) (xs.map f)
theorem keys_nodup {α : Type} (k : α → List Nat) {xs : List α} (n : (xs.map k).Nodup) : (xs.map fun x => (Sum.inr (mkS (k x)) : Key)).Nodup := by
  have e : (xs.map fun x => (Sum.inr (mkS (k x)) : Key)) = (xs.map k).map fun c => Sum.inr (mkS c) := by rw [List.map_map]; rfl
  rw [e]
  exact List.Pairwise.map _ (fun a b h e => h (mkS_inj (by simpa using e))) n
theorem ix_sdm {α : Type} {k : α → List Nat} {f : α → D} {xs : List α} {x : α} (n : (xs.map k).Nodup) (h : x ∈ xs) : ixD (sdm k f xs) (.str (mkS (k x))) = .ok (f x) := by
  have := lookK_nodup (fun x => (Sum.inr (mkS (k x)) : Key)) f (keys_nodup k n) h
  show oD (lookK _ _ (Sum.inr (mkS (k x)))) = _
  rw [this]
  rfl
theorem pairsOf_str {α : Type} (k : α → List Nat) (f : α → D) : ∀ (xs : List α), Mr.pairsOf (xs.map fun x => .tup [.str (mkS (k x)), f x]) = some (xs.map fun x => (.inr (mkS (k x)), f x))
  | [] => rfl
  | x :: xs => by simp [Mr.pairsOf, pairOf, two2, Mr.keyOf, pairsOf_str k f xs]
theorem dictD_str {α : Type} (k : α → List Nat) (f : α → D) (xs : List α) (n : (xs.map k).Nodup) : dictD [.lst (xs.map fun x => .tup [.str (mkS (k x)), f x])] = .ok (sdm k f xs) := by
  simp only [dictD, pairsOf_str]
  rw [mergeD_nodup]
  · simp only [List.nil_append, unz, sdm, List.map_map]
    rfl
  · simp only [List.nil_append, List.map_map]
    exact keys_nodup k n
theorem zip_sdm {α : Type} (k : α → List Nat) (f : α → D) : ∀ (xs : List α), (xs.map fun x => (Sum.inr (mkS (k x)) : Key)).zip (xs.map f) = xs.map fun x => (.inr (mkS (k x)), f x)
  | [] => rfl
  | x :: xs => by simp [zip_sdm k f xs]
theorem upd_sdm {α : Type} {k : α → List Nat} {f : α → D} {xs ys : List α} {i : Nat} {ρ : Mr.Env} (n : ((xs ++ ys).map k).Nodup) (hl : xs.length + ys.length ≤ 1000000) : updK2 i ρ (sdm k f ys) (sdm k f xs) = .ok (.non, ρ.set i (sdm k f (xs ++ ys))) := by
  have h := updK2_ok ρ i (xs.map f) (ys.map f) (ks := xs.map fun x => (Sum.inr (mkS (k x)) : Key)) (ls := ys.map fun x => (Sum.inr (mkS (k x)) : Key)) (by simpa using hl)
  refine h.trans ?_
  rw [zip_sdm, zip_sdm, mergeD_nodup]
  · simp [unz, sdm, Function.comp_def]
  · rw [← List.map_append, List.map_map]
    exact keys_nodup k n
theorem iter_sdm {α : Type} (k : α → List Nat) (f : α → D) (xs : List α) : iterD (sdm k f xs) = .ok (xs.map fun x => .str (mkS (k x))) := by
  simp only [sdm, iterD, List.map_map]
  rfl
theorem len_sdm {α : Type} (k : α → List Nat) (f : α → D) (xs : List α) : lenD [sdm k f xs] = .ok (.int xs.length) := by simp [sdm]

/-! ### == of plain data -/
mutual
def plD : D → Bool
  | .non => true | .int _ => true | .str _ => true | .tup ds => plL ds | .lst ds => plL ds | _ => false
def plL : List D → Bool
  | [] => true
  | d :: ds => plD d && plL ds
end
mutual
theorem eqv_iff : ∀ d e : D, plD d = true → plD e = true → (PyData.eqv d.toP e.toP = true ↔ d = e)
  | .non, e, _, h => by cases e <;> simp [plD] at h <;> simp [D.toP, PyData.eqv]
  | .int i, e, _, h => by cases e <;> simp [plD] at h <;> simp [D.toP, PyData.eqv]
  | .str i, e, _, h => by cases e <;> simp [plD] at h <;> simp [D.toP, PyData.eqv]
  | .tup ds, e, h1, h => by
    cases e <;> simp [plD] at h <;> simp [D.toP, PyData.eqv]
    exact eqvl_iff ds _ (by simpa [plD] using h1) h
  | .lst ds, e, h1, h => by
    cases e <;> simp [plD] at h <;> simp [D.toP, PyData.eqv]
    exact eqvl_iff ds _ (by simpa [plD] using h1) h
  | .bl _, _, h, _ => by simp [plD] at h
  | .dct _ _, _, h, _ => by simp [plD] at h
  | .dcT _ _, _, h, _ => by simp [plD] at h
  | .scr _, _, h, _ => by simp [plD] at h
  | .ctup _, _, h, _ => by simp [plD] at h
  | .adr _, _, h, _ => by simp [plD] at h
  | .ndc, _, h, _ => by simp [plD] at h
theorem eqvl_iff : ∀ ds es : List D, plL ds = true → plL es = true → (PyData.eqvAll (D.toPl ds) (D.toPl es) = true ↔ ds = es)
  | [], [], _, _ => by simp [D.toPl, PyData.eqvAll]
  | [], _ :: _, _, _ => by simp [D.toPl, PyData.eqvAll]
  | _ :: _, [], _, _ => by simp [D.toPl, PyData.eqvAll]
  | d :: ds, e :: es, h, h' => by
    simp only [plL, Bool.and_eq_true] at h h'
    simp [D.toPl, PyData.eqvAll, eqv_iff d e h.1 h'.1, eqvl_iff ds es h.2 h'.2]
end
theorem eqv_no {d e : D} (h : plD d = true) (h' : plD e = true) (n : d ≠ e) : eqv d e = false := by
  cases q : eqv d e with
  | false => rfl
  | true => exact absurd ((eqv_iff d e h h').mp q) n
theorem neA_no {d e : D} (n : Nat) (hn : n ≤ 60) (h1 : lv n d = true) (h2 : lv n e = true) (h : plD d = true) (h' : plD e = true) (q : d ≠ e) : neA d e = .ok (.bl true) := by
  rw [neA_sh n hn h1 h2, eqv_no h h' q]
  rfl
theorem eqA_no {d e : D} (n : Nat) (hn : n ≤ 60) (h1 : lv n d = true) (h2 : lv n e = true) (h : plD d = true) (h' : plD e = true) (q : d ≠ e) : eqA d e = .ok (.bl false) := by
  rw [eqA_sh n hn h1 h2, eqv_no h h' q]
theorem plL_map {α : Type} (f : α → D) : ∀ {xs : List α}, (∀ x ∈ xs, plD (f x) = true) → plL (xs.map f) = true
  | [], _ => by simp [plL]
  | x :: xs, h => by simp [plL, h x (by simp), plL_map f (xs := xs) fun y hy => h y (by simp [hy])]
theorem minI_le : ∀ {ns : List Int} {x : Int}, x ∈ ns → minI ns ≤ x
  | [a], x, h => by simp at h; subst h; exact Int.le_refl _
  | a :: b :: ns, x, h => by
    show min a (minI (b :: ns)) ≤ x
    rcases List.mem_cons.mp h with h | h
    · subst h; exact Int.min_le_left _ _
    · exact Int.le_trans (Int.min_le_right _ _) (minI_le h)
theorem minI_in : ∀ {ns : List Int}, ns ≠ [] → minI ns ∈ ns
  | [], h => absurd rfl h
  | [a], _ => by simp [minI]
  | a :: b :: ns, _ => by
    have := minI_in (ns := b :: ns) (by simp)
    show min a (minI (b :: ns)) ∈ _
    rcases Int.le_total a (minI (b :: ns)) with q | q
    · rw [Int.min_eq_left q]; simp
    · rw [Int.min_eq_right q]; exact List.mem_cons_of_mem _ this
theorem minD_ints (bs : List Int) (h : bs ≠ []) : minD [.lst (bs.map .int)] = .ok (.int (minI bs)) := by simp [minD, intsOf_map, List.length_pos_iff.mpr h]

/-! ### records -/
structure Sw where
  n : List Nat
  t : Int
  s : Str
abbrev Rec := Option (Int × List (List Nat))
def swD (w : Sw) : D := .tup [.str (mkS w.n), .int w.t, .str w.s]
def swsD (ws : List Sw) : D := .lst (ws.map swD)
def ntD (ns : List (List Nat)) : D := .tup (ns.map fun x => .str (mkS x))
def recD : Rec → D
  | none => .non
  | some (t, ns) => .tup [.int t, ntD ns]
def ssD (ss : List Str) : D := .tup (ss.map .str)
def cnt (ss : List Str) (ws : List Sw) : List Sw := ws.filter fun w => decide (w.s ∈ ss)
def lst (ss : List Str) (ws : List Sw) : Int := minI ((cnt ss ws).map (·.t))
def bst (ss : List Str) (ws : List Sw) : List (List Nat) := ((cnt ss ws).filter fun w => decide (w.t = lst ss ws)).map (·.n)
def beh (ss : List Str) (ws : List Sw) (r : Rec) : Rec :=
  if cnt ss ws = [] then r else match r with
    | none => some (lst ss ws, bst ss ws)
    | some (t, ns) => if lst ss ws < t then some (lst ss ws, bst ss ws) else if lst ss ws > t then some (t, ns) else some (lst ss ws, ns ++ (bst ss ws).filter fun x => !decide (x ∈ ns))
theorem any_tS (x : Str) : ∀ ss : List Str, (ss.map D.str).any (fun z => eqv z (.str x)) = decide (x ∈ ss)
  | [] => rfl
  | n :: ns => by
    simp only [List.map_cons, List.any_cons, any_tS x ns, eqv_strs]
    by_cases h : n = x
    · subst h; simp
    · have h' : ¬ x = n := fun e => h e.symm
      simp [h, h']
theorem inV_ss (neg : Bool) (x : Str) (ss : List Str) : inV' neg (.str x) (ssD ss) = .ok (.bl (if neg then !decide (x ∈ ss) else decide (x ∈ ss))) := by
  have h : (ss.map D.str).all flat = true := by simp [flat]
  simp only [inV', inD, ssD, show flat (.str x) = true from rfl, h, Bool.and_self, if_true, any_tS, ok_bind]
theorem inV_nt (neg : Bool) (s : List Nat) (ns : List (List Nat)) : inV' neg (.str (mkS s)) (ntD ns) = .ok (.bl (if neg then !decide (s ∈ ns) else decide (s ∈ ns))) := by
  have h : (ns.map fun cs => D.str (mkS cs)).all flat = true := by simp [flat]
  simp only [inV', inD, ntD, show flat (.str (mkS s)) = true from rfl, h, Bool.and_self, if_true, any_strs, ok_bind]
theorem filt_le {α : Type} (p : α → Bool) (xs : List α) : (xs.filter p).length ≤ xs.length := List.length_filter_le _ _
/-- what the program reckons -/
theorem behind_ok {ss : List Str} {ws : List Sw} {r : Rec} (hl : ws.length ≤ 1000) (hr : ∀ t ns, r = some (t, ns) → ns.length ≤ 1000) (hlv : ∀ w ∈ ws, PyData.strOk (mkS w.n) = true) : m_record_behind [recD r, ssD ss, swsD ws] = .ok (recD (beh ss ws r)) := by
  have cl : (cnt ss ws).length ≤ 1000 := Nat.le_trans (filt_le _ _) hl
  have a1 : lcF (iterF (nv 2)) [6, 8, 7] (tupG 3 (consG (nmG 6) (consG (nmG 8) (consG (nmG 7) nilG)))) (noR (tst (op2 (inV' false) (nv 7) (nv 1)))) (tupF (consA (nv 8) (consA (nv 6) nilA))) [recD r, ssD ss, swsD ws, .non, .non, .non, .non, .non, .non] = .ok (.lst ((cnt ss ws).map fun w => .tup [.int w.t, .str (mkS w.n)])) := by
    rw [lcF_ap, iterF_ap]
    simp only [nv_ap, gv_zero, gv_succ, ok_bind, swsD, iterD]
    refine lcK_ok (sz9 (by simp; omega)) ?_
    refine lcM_ifg swD (fun w => decide (w.s ∈ ss)) (fun w => .tup [.int w.t, .str (mkS w.n)]) ws fun w _ => ⟨_, by simp [swD]; rfl, ?_, fun _ => ?_⟩
    · have := inV_ss false w.s ss
      simp [this]
    · simp
  have lvC : lv 2 (.lst ((cnt ss ws).map fun w => D.tup [.int w.t, .str (mkS w.n)])) = true := by
    have h : ∀ w ∈ cnt ss ws, PyData.strOk (mkS w.n) = true := fun w hw => hlv w (List.mem_filter.mp hw).1
    simpa [lv] using h
  by_cases hc : cnt ss ws = []
  · have e : beh ss ws r = r := by simp [beh, hc]
    rw [hc] at a1
    rw [e]
    have e0 : eqA (.lst []) (.lst []) = .ok (.bl true) := by kernel_rfl
    simp only [List.map_nil] at a1
    simp [-lcF_ap, m_record_behind, b_record_behind, a1, e0]
  · have e1 : eqA (.lst ((cnt ss ws).map fun w => D.tup [.int w.t, .str (mkS w.n)])) (.lst []) = .ok (.bl false) := by
      rw [eqA_nil 2 (by decide) lvC]
      simp [hc]
    have a2 : ∀ A B, lcF (iterF (nv 3)) [8, 6] (tupG 2 (consG (nmG 8) (consG (nmG 6) nilG))) yesR (nv 8) [A, B, swsD ws, .lst ((cnt ss ws).map fun w => .tup [.int w.t, .str (mkS w.n)]), .non, .non, .non, .non, .non] = .ok (.lst (((cnt ss ws).map (·.t)).map .int)) := fun A B => by
      rw [lcF_ap, iterF_ap]
      simp only [nv_ap, gv_zero, gv_succ, ok_bind, iterD]
      refine lcK_ok (sz9 (by simp; omega)) ?_
      rw [List.map_map]
      exact lcM_gen (fun w : Sw => D.tup [.int w.t, .str (mkS w.n)]) (D.int ∘ fun w => w.t) (cnt ss ws) fun w _ => ⟨_, by simp; rfl, by simp⟩
    have a3 : ∀ A B, lcF (iterF (nv 3)) [8, 6] (tupG 2 (consG (nmG 8) (consG (nmG 6) nilG))) (noR (tst (op2 eqA (nv 8) (nv 4)))) (nv 6) [A, B, swsD ws, .lst ((cnt ss ws).map fun w => .tup [.int w.t, .str (mkS w.n)]), .int (lst ss ws), .non, .non, .non, .non] = .ok (.lst ((bst ss ws).map fun x => .str (mkS x))) := fun A B => by
      rw [lcF_ap, iterF_ap]
      simp only [nv_ap, gv_zero, gv_succ, ok_bind, iterD]
      refine lcK_ok (sz9 (by simp; omega)) ?_
      unfold bst
      rw [List.map_map]
      refine lcM_ifg (fun w : Sw => D.tup [.int w.t, .str (mkS w.n)]) (fun w => decide (w.t = lst ss ws)) ((fun x => D.str (mkS x)) ∘ fun w => w.n) (cnt ss ws) fun w _ => ⟨_, by simp; rfl, ?_, fun _ => by simp⟩
      simp
    have m1 : minD [.lst (((cnt ss ws).map (·.t)).map .int)] = .ok (.int (lst ss ws)) := minD_ints _ (by simpa using hc)
    have bl : (bst ss ws).length ≤ 1000 := by
      unfold bst
      rw [List.length_map]
      exact Nat.le_trans (filt_le _ _) cl
    cases r with
    | none =>
      have e2 : beh ss ws none = some (lst ss ws, bst ss ws) := by simp [beh, hc]
      rw [e2]
      have a2 := a2 (recD none) (ssD ss)
      have a3 := a3 (recD none) (ssD ss)
      simp only [recD] at a1 a2 a3 ⊢
      generalize (cnt ss ws).map (·.t) = ts at a2 m1
      generalize (cnt ss ws).map (fun w => D.tup [.int w.t, .str (mkS w.n)]) = C at a1 a2 a3 e1
      have tl : tupleD [.lst ((bst ss ws).map fun x => D.str (mkS x))] = .ok (ntD (bst ss ws)) := tupleD_lst _
      generalize (bst ss ws).map (fun x => D.str (mkS x)) = B at a3 tl
      simp [-lcF_ap, m_record_behind, b_record_behind, a1, a2, a3, e1, m1, tl]
    | some x =>
      obtain ⟨t, ns⟩ := x
      have hn := hr t ns rfl
      have tl : tupleD [.lst ((bst ss ws).map fun x => D.str (mkS x))] = .ok (ntD (bst ss ws)) := tupleD_lst _
      have tl2 : tupleD [.lst (((bst ss ws).filter fun x => !decide (x ∈ ns)).map fun x => D.str (mkS x))] = .ok (ntD ((bst ss ws).filter fun x => !decide (x ∈ ns))) := tupleD_lst _
      have ad : addD (ntD ns) (ntD ((bst ss ws).filter fun x => !decide (x ∈ ns))) = .ok (ntD (ns ++ (bst ss ws).filter fun x => !decide (x ∈ ns))) := by
        unfold ntD
        rw [List.map_append]
        exact addD_tup (by have := filt_le (fun x => !decide (x ∈ ns)) (bst ss ws); simp only [List.length_map]; omega)
      have a4 : lcF (iterF (nv 5)) [6] (nmG 6) (noR (tst (op2 (inV' true) (nv 6) (op2 ixD (nv 0) (kst (.int 1)))))) (nv 6) [recD (some (t, ns)), ssD ss, swsD ws, .lst ((cnt ss ws).map fun w => .tup [.int w.t, .str (mkS w.n)]), .int (lst ss ws), ntD (bst ss ws), .non, .non, .non] = .ok (.lst (((bst ss ws).filter fun x => !decide (x ∈ ns)).map fun x => .str (mkS x))) := by
        rw [lcF_ap, iterF_ap]
        simp only [nv_ap, gv_zero, gv_succ, ok_bind, ntD, iterD]
        refine lcK_ok (sz9 (by simp; omega)) ?_
        refine lcM_ifg (fun x => D.str (mkS x)) (fun x => !decide (x ∈ ns)) (fun x => D.str (mkS x)) (bst ss ws) fun x _ => ⟨_, rfl, ?_, fun _ => by simp⟩
        have := inV_nt true x ns
        simp [recD, this]
      have a2 := a2 (recD (some (t, ns))) (ssD ss)
      have a3 := a3 (recD (some (t, ns))) (ssD ss)
      have i0 : ixD (recD (some (t, ns))) (.int 0) = .ok (.int t) := by simp [recD]
      have i1 : ixD (recD (some (t, ns))) (.int 1) = .ok (ntD ns) := by simp [recD]
      have isn : isD (recD (some (t, ns))) .non = .ok (.bl false) := by simp [recD]
      generalize (cnt ss ws).map (·.t) = ts at a2 m1
      generalize (cnt ss ws).map (fun w => D.tup [.int w.t, .str (mkS w.n)]) = C at a1 a2 a3 a4 e1
      have e2 : beh ss ws (some (t, ns)) = if lst ss ws < t then some (lst ss ws, bst ss ws) else if lst ss ws > t then some (t, ns) else some (lst ss ws, ns ++ (bst ss ws).filter fun x => !decide (x ∈ ns)) := by simp [beh, hc]
      rw [e2]
      generalize lst ss ws = m at *
      generalize (bst ss ws).filter (fun x => !decide (x ∈ ns)) = F at *
      generalize bst ss ws = N at *
      generalize F.map (fun x => D.str (mkS x)) = FD at a4 tl2
      generalize N.map (fun x => D.str (mkS x)) = ND at a3 tl
      have eR : ∀ a b, recD (some (a, b)) = .tup [.int a, ntD b] := fun _ _ => rfl
      by_cases c1 : m < t
      · rw [if_pos c1, eR m N]
        generalize recD (some (t, ns)) = Rr at *
        simp [-lcF_ap, m_record_behind, b_record_behind, a1, a2, a3, e1, m1, tl, isn, i0, c1]
      · rw [if_neg c1]
        by_cases c2 : m > t
        · rw [if_pos c2]
          generalize recD (some (t, ns)) = Rr at *
          simp [-lcF_ap, m_record_behind, b_record_behind, a1, a2, a3, e1, m1, tl, isn, i0, c1, c2]
        · rw [if_neg c2, eR m]
          generalize recD (some (t, ns)) = Rr at *
          simp [-lcF_ap, m_record_behind, b_record_behind, a1, a2, a3, a4, e1, m1, tl, tl2, isn, i0, i1, c1, c2, ad]

/-! ### what a record is -/
structure Rep (r0 : Rec) (ss : List Str) (L : List Sw) (t : Int) (ns : List (List Nat)) : Prop where
  once : ns.Nodup
  ne : ns ≠ []
  le : ∀ w ∈ L, w.s ∈ ss → t ≤ w.t
  le0 : ∀ t0 n0, r0 = some (t0, n0) → t ≤ t0
  mem : ∀ x, x ∈ ns ↔ (∃ n0, r0 = some (t, n0) ∧ x ∈ n0) ∨ ∃ w ∈ L, w.s ∈ ss ∧ w.t = t ∧ w.n = x
def RepR (r0 : Rec) (ss : List Str) (L : List Sw) : Rec → Prop
  | none => r0 = none ∧ ∀ w ∈ L, w.s ∉ ss
  | some (t, ns) => Rep r0 ss L t ns
theorem rep0 {r0 : Rec} (ss : List Str) (h : ∀ t ns, r0 = some (t, ns) → ns.Nodup ∧ ns ≠ []) : RepR r0 ss [] r0 := by
  cases r0 with
  | none => exact ⟨rfl, by simp⟩
  | some x =>
    obtain ⟨t, ns⟩ := x
    obtain ⟨a, b⟩ := h t ns rfl
    refine ⟨a, b, by simp, fun t0 n0 e => by cases e; exact Int.le_refl _, fun x => ?_⟩
    constructor
    · intro hx; exact .inl ⟨ns, rfl, hx⟩
    · rintro (⟨n0, e, hx⟩ | ⟨w, hw, _⟩)
      · cases e; exact hx
      · simp at hw
theorem bst_mem {ss : List Str} {ws : List Sw} {x : List Nat} : x ∈ bst ss ws ↔ ∃ w ∈ ws, w.s ∈ ss ∧ w.t = lst ss ws ∧ w.n = x := by
  simp only [bst, cnt, List.mem_map, List.mem_filter, decide_eq_true_eq]
  constructor
  · rintro ⟨w, ⟨⟨a, b⟩, c⟩, d⟩; exact ⟨w, a, b, c, d⟩
  · rintro ⟨w, a, b, c, d⟩; exact ⟨w, ⟨⟨a, b⟩, c⟩, d⟩
theorem lst_le {ss : List Str} {ws : List Sw} {w : Sw} (h : w ∈ ws) (hs : w.s ∈ ss) : lst ss ws ≤ w.t :=
  minI_le (List.mem_map.mpr ⟨w, by simp [cnt, h, hs], rfl⟩)
theorem lst_is {ss : List Str} {ws : List Sw} (h : cnt ss ws ≠ []) : ∃ w ∈ ws, w.s ∈ ss ∧ w.t = lst ss ws := by
  have := minI_in (ns := (cnt ss ws).map (·.t)) (by simpa using h)
  obtain ⟨w, hw, e⟩ := List.mem_map.mp this
  simp only [cnt, List.mem_filter, decide_eq_true_eq] at hw
  exact ⟨w, hw.1, hw.2, e⟩
theorem cnt_nil {ss : List Str} {ws : List Sw} (h : cnt ss ws = []) : ∀ w ∈ ws, w.s ∉ ss := fun w hw hs => by
  have : w ∈ cnt ss ws := by simp [cnt, hw, hs]
  rw [h] at this
  simp at this
theorem bst_nodup {ss : List Str} {ws : List Sw} (n : (ws.map (·.n)).Nodup) : (bst ss ws).Nodup := by
  refine List.Nodup.sublist ?_ n
  exact ((List.filter_sublist).trans List.filter_sublist).map _
theorem bst_ne {ss : List Str} {ws : List Sw} (h : cnt ss ws ≠ []) : bst ss ws ≠ [] := fun e => by
  obtain ⟨w, a, b, c⟩ := lst_is h
  have : w.n ∈ bst ss ws := bst_mem.mpr ⟨w, a, b, c, rfl⟩
  rw [e] at this
  simp at this
theorem rep_step {r0 : Rec} {ss : List Str} {L ws : List Sw} {r : Rec} (h : RepR r0 ss L r) (n : (ws.map (·.n)).Nodup) : RepR r0 ss (L ++ ws) (beh ss ws r) := by
  unfold beh
  by_cases hc : cnt ss ws = []
  · rw [if_pos hc]
    have hn := cnt_nil hc
    cases r with
    | none =>
      exact ⟨h.1, fun w hw => (List.mem_append.mp hw).elim (h.2 w) (hn w)⟩
    | some x =>
      obtain ⟨t, ns⟩ := x
      obtain ⟨a, b, c, d, e⟩ := (show Rep r0 ss L t ns from h)
      refine ⟨a, b, fun w hw hs => ?_, d, fun x => ?_⟩
      · rcases List.mem_append.mp hw with q | q
        · exact c w q hs
        · exact absurd hs (hn w q)
      · rw [e x]
        constructor
        · rintro (q | ⟨w, hw, q⟩)
          · exact .inl q
          · exact .inr ⟨w, by simp [hw], q⟩
        · rintro (q | ⟨w, hw, q⟩)
          · exact .inl q
          · rcases List.mem_append.mp hw with hw | hw
            · exact .inr ⟨w, hw, q⟩
            · exact absurd q.1 (hn w hw)
  · rw [if_neg hc]
    have ld := fun w => lst_le (ss := ss) (ws := ws) (w := w)
    have bm := fun x => bst_mem (ss := ss) (ws := ws) (x := x)
    have bn := bst_nodup (ss := ss) n
    have be := bst_ne hc
    have li := lst_is hc
    generalize lst ss ws = m at *
    generalize bst ss ws = N at *
    have lower : (∀ t0 n0, r0 = some (t0, n0) → m < t0) → (∀ w ∈ L, w.s ∈ ss → m < w.t) → Rep r0 ss (L ++ ws) m N := fun h1 h2 => by
      refine ⟨bn, be, fun w hw hs => ?_, fun t0 n0 e => Int.le_of_lt (h1 t0 n0 e), fun x => ?_⟩
      · rcases List.mem_append.mp hw with q | q
        · exact Int.le_of_lt (h2 w q hs)
        · exact ld w q hs
      · rw [bm x]
        constructor
        · rintro ⟨w, a, b, c, d⟩; exact .inr ⟨w, by simp [a], b, c, d⟩
        · rintro (⟨n0, e, _⟩ | ⟨w, hw, b, c, d⟩)
          · exact absurd (h1 _ _ e) (Int.lt_irrefl _)
          · rcases List.mem_append.mp hw with q | q
            · exact absurd (h2 w q b) (by omega)
            · exact ⟨w, q, b, c, d⟩
    cases r with
    | none =>
      refine lower (fun t0 n0 e => ?_) fun w hw hs => absurd hs (h.2 w hw)
      have := h.1
      rw [this] at e
      cases e
    | some x =>
      obtain ⟨t, ns⟩ := x
      have h : Rep r0 ss L t ns := h
      obtain ⟨a, b, c, d, e⟩ := h
      dsimp only
      by_cases c1 : m < t
      · rw [if_pos c1]
        exact lower (fun t0 n0 q => by have := d t0 n0 q; omega) fun w hw hs => by have := c w hw hs; omega
      · rw [if_neg c1]
        by_cases c2 : m > t
        · rw [if_pos c2]
          refine ⟨a, b, fun w hw hs => ?_, d, fun x => ?_⟩
          · rcases List.mem_append.mp hw with q | q
            · exact c w q hs
            · have := ld w q hs; omega
          · rw [e x]
            constructor
            · rintro (q | ⟨w, hw, q⟩)
              · exact .inl q
              · exact .inr ⟨w, by simp [hw], q⟩
            · rintro (q | ⟨w, hw, q⟩)
              · exact .inl q
              · rcases List.mem_append.mp hw with hw | hw
                · exact .inr ⟨w, hw, q⟩
                · have := ld w hw q.1; omega
        · rw [if_neg c2]
          have em : m = t := by omega
          subst em
          refine ⟨?_, ?_, fun w hw hs => ?_, d, fun x => ?_⟩
          · refine List.nodup_append.mpr ⟨a, bn.filter _, fun x hx y hy q => ?_⟩
            subst q
            simp only [List.mem_filter, Bool.not_eq_true', decide_eq_false_iff_not] at hy
            exact hy.2 hx
          · simp [b]
          · rcases List.mem_append.mp hw with q | q
            · exact c w q hs
            · exact ld w q hs
          · simp only [List.mem_append, List.mem_filter, Bool.not_eq_true', decide_eq_false_iff_not]
            constructor
            · rintro (hx | ⟨hx, _⟩)
              · rcases (e x).mp hx with q | ⟨w, hw, q⟩
                · exact .inl q
                · exact .inr ⟨w, .inl hw, q⟩
              · obtain ⟨w, hw, q⟩ := (bm x).mp hx
                exact .inr ⟨w, .inr hw, q⟩
            · intro q
              by_cases hx : x ∈ ns
              · exact .inl hx
              · rcases q with q | ⟨w, hw | hw, q⟩
                · exact absurd ((e x).mpr (.inl q)) hx
                · exact absurd ((e x).mpr (.inr ⟨w, hw, q⟩)) hx
                · exact .inr ⟨(bm x).mpr ⟨w, hw, q⟩, hx⟩
theorem rep_le {r0 : Rec} {ss : List Str} {L L' : List Sw} {t t' : Int} {ns ns' : List (List Nat)} (h : Rep r0 ss L t ns) (h' : Rep r0 ss L' t' ns') (e : ∀ w, w ∈ L' → w ∈ L) : t ≤ t' := by
  obtain ⟨x, hx⟩ := List.exists_mem_of_ne_nil _ h'.ne
  rcases (h'.mem x).mp hx with ⟨n0, q, _⟩ | ⟨w, hw, hs, q, _⟩
  · exact h.le0 _ _ q
  · rw [← q]; exact h.le w (e w hw) hs
theorem perm_of_mem {xs ys : List (List Nat)} (a : xs.Nodup) (b : ys.Nodup) (h : ∀ x, x ∈ xs ↔ x ∈ ys) : xs.Perm ys := by
  rw [List.perm_iff_count]
  intro x
  rw [a.count, b.count]
  simp [h x]
/-- two records of the same -/
def Alike : Rec → Rec → Prop
  | none, none => True
  | some (t, ns), some (t', ns') => t = t' ∧ ns.Perm ns'
  | _, _ => False
theorem rep_one {r0 : Rec} {ss : List Str} {L L' : List Sw} {r r' : Rec} (h : RepR r0 ss L r) (h' : RepR r0 ss L' r') (e : ∀ w, w ∈ L ↔ w ∈ L') : Alike r r' := by
  cases r with
  | none =>
    cases r' with
    | none => trivial
    | some x =>
      obtain ⟨t, ns⟩ := x
      have h' : Rep r0 ss L' t ns := h'
      obtain ⟨x, hx⟩ := List.exists_mem_of_ne_nil _ h'.ne
      rcases (h'.mem x).mp hx with ⟨n0, q, _⟩ | ⟨w, hw, hs, q, _⟩
      · rw [h.1] at q; cases q
      · exact absurd hs (h.2 w ((e w).mpr hw))
  | some x =>
    obtain ⟨t, ns⟩ := x
    have h : Rep r0 ss L t ns := h
    cases r' with
    | none =>
      obtain ⟨x, hx⟩ := List.exists_mem_of_ne_nil _ h.ne
      rcases (h.mem x).mp hx with ⟨n0, q, _⟩ | ⟨w, hw, hs, q, _⟩
      · rw [h'.1] at q; cases q
      · exact absurd hs (h'.2 w ((e w).mp hw))
    | some x' =>
      obtain ⟨t', ns'⟩ := x'
      have h' : Rep r0 ss L' t' ns' := h'
      have et : t = t' := Int.le_antisymm (rep_le h h' fun w hw => (e w).mpr hw) (rep_le h' h fun w hw => (e w).mp hw)
      subst et
      refine ⟨rfl, perm_of_mem h.once h'.once fun x => ?_⟩
      rw [h.mem x, h'.mem x]
      simp only [e]
/-! ### many heats -/
def hist (ss : List Str) : List (List Sw) → Rec → List (Int × List (List Nat)) × Rec
  | [], r => ([], r)
  | w :: ws, r => match beh ss w r with
    | none => hist ss ws none
    | some x => (if r = some x then (hist ss ws (some x)).1 else x :: (hist ss ws (some x)).1, (hist ss ws (some x)).2)
theorem hist_rep {r0 : Rec} {ss : List Str} : ∀ {ws : List (List Sw)} {L : List Sw} {r : Rec}, RepR r0 ss L r → (∀ w ∈ ws, (w.map (·.n)).Nodup) → RepR r0 ss (L ++ ws.flatten) (hist ss ws r).2
  | [], L, r, h, _ => by simpa [hist] using h
  | w :: ws, L, r, h, n => by
    have s := rep_step h (n w (by simp))
    have k : ∀ y, beh ss w r = y → RepR r0 ss (L ++ (w :: ws).flatten) (hist ss ws y).2 := fun y e => by
      have := hist_rep (ws := ws) (e ▸ s) fun v hv => n v (by simp [hv])
      simpa using this
    unfold hist
    split
    · rename_i e; exact k _ e
    · rename_i x e; exact k _ e
/-- the last one told, or the first -/
def lastR (l : List (Int × List (List Nat))) (r : Rec) : Rec := match l.getLast? with
  | some x => some x
  | none => r
theorem beh_none {ss : List Str} {w : List Sw} {r : Rec} (h : beh ss w r = none) : r = none := by
  unfold beh at h
  split at h
  · exact h
  · cases r with
    | none => rfl
    | some x =>
      obtain ⟨t, ns⟩ := x
      dsimp only at h
      split at h
      · cases h
      · split at h <;> cases h
theorem hist_last {ss : List Str} : ∀ {ws : List (List Sw)} {r : Rec}, lastR (hist ss ws r).1 r = (hist ss ws r).2
  | [], r => rfl
  | w :: ws, r => by
    unfold hist
    split
    · rename_i e
      rw [beh_none e]
      exact hist_last
    · rename_i x e
      have ih := hist_last (ss := ss) (ws := ws) (r := some x)
      dsimp only
      rw [← ih]
      by_cases c : r = some x
      · rw [if_pos c, c]
      · rw [if_neg c]
        unfold lastR
        rw [List.getLast?_cons]
        cases (hist ss ws (some x)).1.getLast? <;> rfl
theorem beh_le {ss : List Str} {w : List Sw} {t t' : Int} {ns ns' : List (List Nat)} (h : beh ss w (some (t, ns)) = some (t', ns')) : t' ≤ t := by
  unfold beh at h
  split at h
  · cases h; exact Int.le_refl _
  · dsimp only at h
    split at h
    · cases h; omega
    · split at h
      · cases h; exact Int.le_refl _
      · cases h; omega
/-- told ones never get slower -/
theorem hist_down {ss : List Str} : ∀ {ws : List (List Sw)} {r : Rec}, (∀ t ns, r = some (t, ns) → ∀ x ∈ (hist ss ws r).1, x.1 ≤ t) ∧ (hist ss ws r).1.Pairwise (fun a b => b.1 ≤ a.1)
  | [], r => ⟨fun _ _ _ x hx => by simp [hist] at hx, by simp [hist]⟩
  | w :: ws, r => by
    unfold hist
    split
    · rename_i e
      obtain ⟨a, b⟩ := hist_down (ss := ss) (ws := ws) (r := none)
      exact ⟨fun t ns er => (by rw [beh_none e] at er; cases er), b⟩
    · rename_i x e
      obtain ⟨a, b⟩ := hist_down (ss := ss) (ws := ws) (r := some x)
      obtain ⟨t', ns'⟩ := x
      have a := a t' ns' rfl
      dsimp only
      refine ⟨fun t ns er y hy => ?_, ?_⟩
      · subst er
        have le := beh_le e
        split at hy
        · have := a y hy; omega
        · rcases List.mem_cons.mp hy with q | q
          · subst q; exact le
          · have := a y q; omega
      · split
        · exact b
        · exact List.pairwise_cons.mpr ⟨a, b⟩
theorem hist_fast {ss : List Str} {ns : List (List Nat)} {t : Int} : ∀ {ws : List (List Sw)}, (∀ h ∈ ws, ∀ w ∈ h, t < w.t) → hist ss ws (some (t, ns)) = ([], some (t, ns))
  | [], _ => rfl
  | w :: ws, h => by
    have e : beh ss w (some (t, ns)) = some (t, ns) := by
      unfold beh
      split
      · rfl
      · rename_i c
        obtain ⟨v, hv, _, q⟩ := lst_is c
        have := h w (by simp) v hv
        dsimp only
        rw [if_neg (by omega), if_pos (by omega)]
    unfold hist
    rw [e]
    simp [hist_fast (ss := ss) (ns := ns) (ws := ws) fun v hv => h v (by simp [hv])]

/-! ### what is let through -/
def lenR : Rec → Nat
  | none => 0
  | some (_, ns) => ns.length
def RecOk : Rec → Prop
  | none => True
  | some (t, ns) => (1 ≤ t ∧ t ≤ 359999) ∧ ns ≠ [] ∧ ∀ x ∈ ns, NmOk x
def words : List Str := ["pad", "shifted", "hands"]
def SwOk (w : Sw) : Prop := NmOk w.n ∧ (1 ≤ w.t ∧ w.t ≤ 359999) ∧ w.s ∈ words
theorem is_time_ok {t : Int} (h : 1 ≤ t ∧ t ≤ 359999) : m_is_time [.int t] = .ok (.bl true) := by
  simp [m_is_time, b_is_time, m_is_count, b_is_count, h.1, h.2]
theorem need_record_ok {r : Rec} (h : RecOk r) (hl : lenR r ≤ 1000) : m_need_record [recD r] = .ok .non := by
  cases r with
  | none => simp [m_need_record, b_need_record, recD]
  | some x =>
    obtain ⟨t, ns⟩ := x
    obtain ⟨ht, hn, hs⟩ := h
    have hl : ns.length ≤ 1000 := hl
    have a1 : ∀ A, lcF (iterF (nv 1)) [2] (nmG 2) yesR (callF (consA (nv 2) nilA) m_is_name) [A, ntD ns, .non] = .ok (.lst ((ns.map fun _ => true).map .bl)) := fun A => by
      rw [lcF_ap, iterF_ap]
      simp only [nv_ap, gv_zero, gv_succ, ok_bind, ntD, iterD]
      refine lcK_ok (sz9 (by simp; omega)) ?_
      rw [List.map_map]
      refine lcM_gen (fun x => D.str (mkS x)) (D.bl ∘ fun _ => true) ns fun x hx => ⟨_, rfl, ?_⟩
      have := is_name_ok (hs x hx)
      simp [this]
    have e0 : eqA (ntD ns) (.tup []) = .ok (.bl false) := by
      have l1 : lv 1 (ntD ns) = true := by
        simp only [ntD, lv_tup, List.all_map, List.all_eq_true]
        intro x hx
        simpa using (hs x hx).str
      have p1 : plD (ntD ns) = true := by
        simp only [ntD, plD]
        exact plL_map _ fun _ _ => rfl
      refine eqA_no 1 (by decide) l1 (by simp) p1 (by simp [plD, plL]) ?_
      intro e
      simp [ntD] at e
      exact hn e
    have it := is_time_ok ht
    have g1 : (ns.map fun _ => true).all id = true := by simp
    have ty : isi .tuple (ntD ns) = .ok true := nr rfl
    have a2 := a1 (.tup [.int t, ntD ns])
    have rr : recD (some (t, ns)) = .tup [.int t, ntD ns] := rfl
    rw [rr]
    generalize (ns.map fun _ => true) = A at a2 g1
    generalize ntD ns = N at *
    simp [-lcF_ap, -List.map_map, m_need_record, b_need_record, recD, it, e0, ty, a2, allD_map, g1]
theorem word_in {s : Str} (h : s ∈ words) : inV' true (.str s) (.ctup ["pad", "shifted", "hands"]) = .ok (.bl false) := by
  simp only [words, List.mem_cons, List.not_mem_nil, or_false] at h
  rcases h with rfl | rfl | rfl <;> kernel_rfl
theorem need_swims_ok {ws : List Sw} (h : ∀ w ∈ ws, SwOk w) : m_need_swims [swsD ws] = .ok .non := by
  have f : forM (bodyF (nmG 1) L3_need_swims) (ws.map swD) [swsD ws, .non] = .ok (.nx [swsD ws, .non]) := forM_same fun d hd => by
    obtain ⟨w, hw, rfl⟩ := List.mem_map.mp hd
    obtain ⟨a, b, c⟩ := h w hw
    have h1 := is_name_ok a
    have h2 := is_time_ok b
    have h3 := word_in c
    generalize swsD ws = S
    simp [L3_need_swims, swD, h1, h2, h3]
  have f' : forM (bodyF (nmG 1) L3_need_swims) (ws.map swD) [.lst (ws.map swD), .non] = .ok (.nx [.lst (ws.map swD), .non]) := f
  unfold swsD
  generalize ws.map swD = W at *
  simp [m_need_swims, b_need_swims, iterD, f']
theorem strs_inj : ∀ {ns ns' : List (List Nat)}, ns.map (fun x => D.str (mkS x)) = ns'.map (fun x => D.str (mkS x)) → ns = ns'
  | [], [], _ => rfl
  | [], _ :: _, h => by simp at h
  | _ :: _, [], h => by simp at h
  | x :: xs, y :: ys, h => by
    simp only [List.map_cons, List.cons.injEq] at h
    rw [mkS_inj (D.str.inj h.1), strs_inj h.2]
theorem hist_cons (ss : List Str) (w : List Sw) (ws : List (List Sw)) (r : Rec) : hist ss (w :: ws) r = match beh ss w r with
    | none => hist ss ws none
    | some x => (if r = some x then (hist ss ws (some x)).1 else x :: (hist ss ws (some x)).1, (hist ss ws (some x)).2) := by
  rw [hist] <;> cases beh ss w r <;> rfl
theorem recD_inj {a b : Rec} (h : recD a = recD b) : a = b := by
  cases a with
  | none =>
    cases b with
    | none => rfl
    | some y => cases h
  | some x =>
    cases b with
    | none => cases h
    | some y =>
      obtain ⟨t, ns⟩ := x
      obtain ⟨t', ns'⟩ := y
      simp only [recD, ntD, D.tup.injEq, List.cons.injEq, D.int.injEq, and_true] at h
      obtain ⟨h1, h2⟩ := h
      subst h1
      rw [strs_inj h2]
theorem recD_lv {r : Rec} (h : ∀ t ns, r = some (t, ns) → ∀ x ∈ ns, NmOk x) : lv 2 (recD r) = true := by
  cases r with
  | none => simp [recD]
  | some x =>
    obtain ⟨t, ns⟩ := x
    simp only [recD, ntD, lv_tup, List.all_cons, lv_int, List.all_nil, Bool.and_true, Bool.true_and, List.all_map, List.all_eq_true]
    intro x hx
    simpa using (h t ns rfl x hx).str
theorem recD_pl (r : Rec) : plD (recD r) = true := by
  cases r with
  | none => rfl
  | some x =>
    have : plL (x.2.map fun c => D.str (mkS c)) = true := plL_map _ fun _ _ => rfl
    simp [recD, ntD, plD, plL, this]
theorem neA_rec {a b : Rec} (h : ∀ t ns, a = some (t, ns) → ∀ x ∈ ns, NmOk x) (h' : ∀ t ns, b = some (t, ns) → ∀ x ∈ ns, NmOk x) : neA (recD a) (recD b) = .ok (.bl (!decide (a = b))) := by
  by_cases e : a = b
  · subst e
    rw [neA_same 2 (by decide) (recD_lv h)]
    simp
  · rw [neA_no 2 (by decide) (recD_lv h) (recD_lv h') (recD_pl a) (recD_pl b) fun q => e (recD_inj q)]
    simp [e]
theorem beh_names {ss : List Str} {w : List Sw} {r : Rec} (h : ∀ t ns, r = some (t, ns) → ∀ x ∈ ns, NmOk x) (hw : ∀ v ∈ w, NmOk v.n) : ∀ t ns, beh ss w r = some (t, ns) → ∀ x ∈ ns, NmOk x := by
  intro t ns e x hx
  have hb : ∀ x ∈ bst ss w, NmOk x := fun x hx => by
    obtain ⟨v, hv, _, _, rfl⟩ := bst_mem.mp hx
    exact hw v hv
  unfold beh at e
  split at e
  · exact h t ns e x hx
  · cases r with
    | none => cases e; exact hb x hx
    | some y =>
      obtain ⟨t', ns'⟩ := y
      dsimp only at e
      split at e
      · cases e; exact hb x hx
      · split at e
        · cases e; exact h _ _ rfl x hx
        · cases e
          rcases List.mem_append.mp hx with q | q
          · exact h _ _ rfl x q
          · exact hb x (List.mem_filter.mp q).1
theorem bst_len (ss : List Str) (w : List Sw) : (bst ss w).length ≤ w.length := by
  unfold bst cnt
  rw [List.length_map]
  exact Nat.le_trans (filt_le _ _) (filt_le _ _)
theorem beh_len (ss : List Str) (w : List Sw) (r : Rec) : lenR (beh ss w r) ≤ lenR r + w.length := by
  have := bst_len ss w
  unfold beh
  split
  · omega
  · cases r with
    | none => simp only [lenR]; omega
    | some y =>
      obtain ⟨t', ns'⟩ := y
      dsimp only
      split
      · simp only [lenR]; omega
      · split
        · simp only [lenR]; omega
        · have := filt_le (fun x => !decide (x ∈ ns')) (bst ss w)
          simp only [lenR, List.length_append]
          omega
def NmsR (r : Rec) : Prop := ∀ t ns, r = some (t, ns) → ∀ x ∈ ns, NmOk x
theorem hist_loop {ss : List Str} {H : D} : ∀ (ws : List (List Sw)) (r : Rec) (acc : List D), NmsR r → (∀ h ∈ ws, ∀ w ∈ h, NmOk w.n) → lenR r + ws.flatten.length ≤ 1000 → acc.length + ws.length ≤ 1000 →
    forM (bodyF (nmG 3) L8_history) (ws.map swsD) [recD r, ssD ss, H, .non, .lst acc, .non] = .ok (.nx [recD (hist ss ws r).2, ssD ss, H, .non, .lst (acc ++ (hist ss ws r).1.map fun x => recD (some x)), .non])
  | [], r, acc, _, _, _, _ => by simp [Mr.forM, hist]
  | w :: ws, r, acc, hr, hw, hl, ha => by
    simp only [List.flatten_cons, List.length_append, List.length_cons] at hl ha
    have b := behind_ok (ss := ss) (ws := w) (r := r) (by omega) (fun t ns e => by subst e; simp only [lenR] at hl; omega) fun v hv => (hw w (by simp) v hv).str
    have hr' := beh_names (ss := ss) (w := w) hr fun v hv => hw w (by simp) v hv
    have hn := neA_rec hr' hr
    have ln := beh_len ss w r
    have za : acc.length < sizeLine := Nat.lt_of_lt_of_le (show acc.length < 1000 by omega) (by decide)
    have st : bodyF (nmG 3) L8_history (swsD w) [recD r, ssD ss, H, .non, .lst acc, .non] = .ok (.nx [recD (beh ss w r), ssD ss, H, .non, .lst (if beh ss w r = r then acc else acc ++ [recD (beh ss w r)]), .non]) := by
      by_cases c : beh ss w r = r
      · rw [if_pos c]
        rw [c] at b hn ⊢
        simp only [decide_true, Bool.not_true] at hn
        generalize recD r = R at *
        generalize swsD w = S at *
        generalize ssD ss = SS at *
        simp [L8_history, b, hn]
      · rw [if_neg c]
        simp only [c, decide_false, Bool.not_false] at hn
        generalize recD r = R at *
        generalize recD (beh ss w r) = R' at *
        generalize swsD w = S at *
        generalize ssD ss = SS at *
        simp [L8_history, b, hn, za]
    rw [List.map_cons, forM_cons, st, ok_bind, seqK_nx]
    have ih := fun acc (h : acc.length + ws.length ≤ 1000) => hist_loop (ss := ss) (H := H) ws (beh ss w r) acc hr' (fun h hh => hw h (by simp [hh])) (by omega) h
    have la : (if beh ss w r = r then acc else acc ++ [recD (beh ss w r)]).length ≤ acc.length + 1 := by split <;> simp
    rw [ih _ (by omega), hist_cons]
    cases e : beh ss w r with
    | none =>
      have er := beh_none e
      simp [er]
    | some x =>
      by_cases c : r = some x
      · simp [c]
      · have c' : ¬ some x = r := fun q => c q.symm
        simp [c, c']
theorem hist_names {ss : List Str} : ∀ {ws : List (List Sw)} {r : Rec}, NmsR r → (∀ h ∈ ws, ∀ w ∈ h, NmOk w.n) → NmsR (hist ss ws r).2 ∧ ∀ x ∈ (hist ss ws r).1, NmsR (some x)
  | [], r, h, _ => ⟨h, by simp [hist]⟩
  | w :: ws, r, h, hw => by
    have k := beh_names (ss := ss) (w := w) h fun v hv => hw w (by simp) v hv
    obtain ⟨a, b⟩ := hist_names (ss := ss) (ws := ws) (r := beh ss w r) k fun h hh => hw h (by simp [hh])
    unfold hist
    cases e : beh ss w r with
    | none => rw [e] at a b; exact ⟨a, b⟩
    | some x =>
      rw [e] at a b k
      dsimp only
      refine ⟨a, ?_⟩
      split
      · exact b
      · intro y hy
        rcases List.mem_cons.mp hy with q | q
        · subst q; exact k
        · exact b y q
theorem hist_len {ss : List Str} : ∀ {ws : List (List Sw)} {r : Rec}, (hist ss ws r).1.length ≤ ws.length ∧ lenR (hist ss ws r).2 ≤ lenR r + ws.flatten.length
  | [], r => by simp [hist]
  | w :: ws, r => by
    obtain ⟨a, b⟩ := hist_len (ss := ss) (ws := ws) (r := beh ss w r)
    have := beh_len ss w r
    unfold hist
    cases e : beh ss w r with
    | none =>
      rw [e] at a b this
      simp only [List.flatten_cons, List.length_append, List.length_cons]
      omega
    | some x =>
      rw [e] at a b this
      simp only [List.flatten_cons, List.length_append, List.length_cons]
      split <;> (try simp only [List.length_cons]) <;> omega
def ordD (ws : List (List Sw)) : D := .lst (ws.map swsD)
def toldD (l : List (Int × List (List Nat))) : D := .lst (l.map fun x => recD (some x))
theorem history_ok {ss : List Str} {ws : List (List Sw)} {r : Rec} (hs : m_need_sorts [ssD ss] = .ok .non) (hr : RecOk r) (hw : ∀ h ∈ ws, ∀ w ∈ h, SwOk w) (hl : lenR r + ws.flatten.length ≤ 1000) (ha : ws.length ≤ 1000) : m_history [recD r, ssD ss, ordD ws] = .ok (toldD (hist ss ws r).1) := by
  have nr : NmsR r := fun t ns e => by subst e; exact hr.2.2
  have h1 := need_record_ok hr (by omega)
  have f : forM (bodyF (nmG 3) L5_history) (ws.map swsD) [recD r, ssD ss, ordD ws, .non, .non, .non] = .ok (.nx [recD r, ssD ss, ordD ws, .non, .non, .non]) := forM_same fun d hd => by
    obtain ⟨w, hw', rfl⟩ := List.mem_map.mp hd
    have := need_swims_ok (hw w hw')
    generalize recD r = R
    generalize ordD ws = O
    generalize ssD ss = S
    generalize swsD w = V at *
    simp [L5_history, this]
  have g := hist_loop (ss := ss) (H := ordD ws) ws r [] nr (fun h hh w hw' => (hw h hh w hw').1) hl (by simpa using ha)
  rw [List.nil_append] at g
  unfold toldD
  generalize (hist ss ws r).1.map (fun x => recD (some x)) = T at *
  generalize recD (hist ss ws r).2 = R' at *
  generalize recD r = R at *
  generalize ssD ss = S at *
  unfold ordD at *
  generalize ws.map swsD = W at *
  simp [m_history, b_history, h1, hs, iterD, f, g]
theorem behind_full {ss : List Str} {ws : List Sw} {r : Rec} (hs : m_need_sorts [ssD ss] = .ok .non) (hr : RecOk r) (hw : ∀ w ∈ ws, SwOk w) (hl : lenR r + ws.length ≤ 1000) : m_behind [recD r, ssD ss, swsD ws] = .ok (recD (beh ss ws r)) := by
  have h1 := need_record_ok hr (by omega)
  have h2 := need_swims_ok hw
  have h3 := behind_ok (ss := ss) (ws := ws) (r := r) (by omega) (fun t ns e => by subst e; simp only [lenR] at hl; omega) fun v hv => (hw v hv).1.str
  generalize recD (beh ss ws r) = R' at *
  generalize recD r = R at *
  generalize ssD ss = S at *
  generalize swsD ws = W at *
  simp [m_behind, b_behind, h1, hs, h2, h3]

/-! ### the law's own record behind a heat -/
theorem law_behind_ok {ss : List Str} {ws : List Sw} {r : Rec} (hl : ws.length ≤ 1000) (hr : ∀ t ns, r = some (t, ns) → ns.length ≤ 1000) (hlv : ∀ w ∈ ws, PyData.strOk (mkS w.n) = true ∧ PyData.strOk w.s = true) : m__law_behind [recD r, ssD ss, swsD ws] = .ok (recD (beh ss ws r)) := by
  have cl : (cnt ss ws).length ≤ 1000 := Nat.le_trans (filt_le _ _) hl
  have a1 : lcF (iterF (nv 2)) [7] (nmG 7) (noR (tst (op2 (inV' false) (op2 ixD (nv 7) (kst (.int 2))) (nv 1)))) (nv 7) [recD r, ssD ss, swsD ws, .non, .non, .non, .non, .non] = .ok (swsD (cnt ss ws)) := by
    rw [lcF_ap, iterF_ap]
    simp only [nv_ap, gv_zero, gv_succ, ok_bind, swsD, iterD]
    refine lcK_ok (sz9 (by simp; omega)) ?_
    refine lcM_ifg swD (fun w => decide (w.s ∈ ss)) swD ws fun w _ => ⟨_, rfl, ?_, fun _ => ?_⟩
    · have := inV_ss false w.s ss
      simp [swD, this]
    · simp
  have lvC : lv 2 (swsD (cnt ss ws)) = true := by
    have h : ∀ w ∈ cnt ss ws, PyData.strOk (mkS w.n) = true ∧ PyData.strOk w.s = true := fun w hw => hlv w (List.mem_filter.mp hw).1
    simpa [swsD, swD, lv] using h
  by_cases hc : cnt ss ws = []
  · have e : beh ss ws r = r := by simp [beh, hc]
    rw [hc] at a1
    rw [e]
    have e0 : eqA (.lst []) (.lst []) = .ok (.bl true) := by kernel_rfl
    rw [show swsD [] = .lst [] from rfl] at a1
    simp [-lcF_ap, m__law_behind, b__law_behind, a1, e0]
  · have e1 : eqA (swsD (cnt ss ws)) (.lst []) = .ok (.bl false) := by
      unfold swsD at lvC ⊢
      rw [eqA_nil 2 (by decide) lvC]
      simp [hc]
    have a2 : ∀ A B, lcF (iterF (nv 3)) [7] (nmG 7) yesR (op2 ixD (nv 7) (kst (.int 1))) [A, B, swsD ws, swsD (cnt ss ws), .non, .non, .non, .non] = .ok (.lst (((cnt ss ws).map (·.t)).map .int)) := fun A B => by
      rw [lcF_ap, iterF_ap]
      simp only [nv_ap, gv_zero, gv_succ, ok_bind]
      have it : iterD (swsD (cnt ss ws)) = .ok ((cnt ss ws).map swD) := rfl
      rw [it, ok_bind]
      refine lcK_ok (sz9 (by simp; omega)) ?_
      rw [List.map_map]
      exact lcM_gen swD (D.int ∘ fun w => w.t) (cnt ss ws) fun w _ => ⟨_, rfl, by simp [swD]⟩
    have a3 : ∀ A B, lcF (iterF (nv 3)) [7] (nmG 7) (noR (tst (op2 eqA (op2 ixD (nv 7) (kst (.int 1))) (nv 4)))) (op2 ixD (nv 7) (kst (.int 0))) [A, B, swsD ws, swsD (cnt ss ws), .int (lst ss ws), .non, .non, .non] = .ok (namesD (bst ss ws)) := fun A B => by
      rw [lcF_ap, iterF_ap]
      simp only [nv_ap, gv_zero, gv_succ, ok_bind]
      have it : iterD (swsD (cnt ss ws)) = .ok ((cnt ss ws).map swD) := rfl
      rw [it, ok_bind]
      refine lcK_ok (sz9 (by simp; omega)) ?_
      unfold bst
      rw [List.map_map]
      refine lcM_ifg swD (fun w => decide (w.t = lst ss ws)) ((fun x => D.str (mkS x)) ∘ fun w => w.n) (cnt ss ws) fun w _ => ⟨_, rfl, ?_, fun _ => by simp [swD]⟩
      simp [swD]
    have m1 : minD [.lst (((cnt ss ws).map (·.t)).map .int)] = .ok (.int (lst ss ws)) := minD_ints _ (by simpa using hc)
    have bl : (bst ss ws).length ≤ 1000 := by
      unfold bst
      rw [List.length_map]
      exact Nat.le_trans (filt_le _ _) cl
    have tl : tupleD [namesD (bst ss ws)] = .ok (ntD (bst ss ws)) := tupleD_lst _
    cases r with
    | none =>
      have e2 : beh ss ws none = some (lst ss ws, bst ss ws) := by simp [beh, hc]
      rw [e2]
      have a2 := a2 (recD none) (ssD ss)
      have a3 := a3 (recD none) (ssD ss)
      simp only [recD] at a1 a2 a3 ⊢
      generalize ((cnt ss ws).map (·.t)).map D.int = ts at a2 m1
      generalize swsD (cnt ss ws) = C at a1 a2 a3 e1
      generalize namesD (bst ss ws) = B at a3 tl
      simp [-lcF_ap, m__law_behind, b__law_behind, a1, a2, a3, e1, m1, tl]
    | some x =>
      obtain ⟨t, ns⟩ := x
      have hn := hr t ns rfl
      have tl2 : tupleD [namesD ((bst ss ws).filter fun x => !decide (x ∈ ns))] = .ok (ntD ((bst ss ws).filter fun x => !decide (x ∈ ns))) := tupleD_lst _
      have ad : addD (ntD ns) (ntD ((bst ss ws).filter fun x => !decide (x ∈ ns))) = .ok (ntD (ns ++ (bst ss ws).filter fun x => !decide (x ∈ ns))) := by
        unfold ntD
        rw [List.map_append]
        exact addD_tup (by have := filt_le (fun x => !decide (x ∈ ns)) (bst ss ws); simp only [List.length_map]; omega)
      have a4 : lcF (iterF (nv 5)) [6] (nmG 6) (noR (tst (op2 (inV' true) (nv 6) (op2 ixD (nv 0) (kst (.int 1)))))) (nv 6) [recD (some (t, ns)), ssD ss, swsD ws, swsD (cnt ss ws), .int (lst ss ws), namesD (bst ss ws), .non, .non] = .ok (namesD ((bst ss ws).filter fun x => !decide (x ∈ ns))) := by
        rw [lcF_ap, iterF_ap]
        simp only [nv_ap, gv_zero, gv_succ, ok_bind]
        have it : iterD (namesD (bst ss ws)) = .ok ((bst ss ws).map fun x => .str (mkS x)) := rfl
        rw [it, ok_bind]
        refine lcK_ok (sz9 (by simp; omega)) ?_
        refine lcM_ifg (fun x => D.str (mkS x)) (fun x => !decide (x ∈ ns)) (fun x => D.str (mkS x)) (bst ss ws) fun x _ => ⟨_, rfl, ?_, fun _ => by simp⟩
        have := inV_nt true x ns
        simp [recD, this]
      have a2 := a2 (recD (some (t, ns))) (ssD ss)
      have a3 := a3 (recD (some (t, ns))) (ssD ss)
      have i0 : ixD (recD (some (t, ns))) (.int 0) = .ok (.int t) := by simp [recD]
      have i1 : ixD (recD (some (t, ns))) (.int 1) = .ok (ntD ns) := by simp [recD]
      have isn : isD (recD (some (t, ns))) .non = .ok (.bl false) := by simp [recD]
      generalize ((cnt ss ws).map (·.t)).map D.int = ts at a2 m1
      generalize swsD (cnt ss ws) = C at a1 a2 a3 a4 e1
      have e2 : beh ss ws (some (t, ns)) = if lst ss ws < t then some (lst ss ws, bst ss ws) else if lst ss ws > t then some (t, ns) else some (lst ss ws, ns ++ (bst ss ws).filter fun x => !decide (x ∈ ns)) := by simp [beh, hc]
      rw [e2]
      generalize lst ss ws = m at *
      generalize (bst ss ws).filter (fun x => !decide (x ∈ ns)) = F at *
      generalize bst ss ws = N at *
      generalize namesD F = FD at a4 tl2
      generalize namesD N = ND at a3 a4 tl
      have eR : ∀ a b, recD (some (a, b)) = .tup [.int a, ntD b] := fun _ _ => rfl
      by_cases c1 : m < t
      · rw [if_pos c1, eR m N]
        generalize recD (some (t, ns)) = Rr at *
        simp [-lcF_ap, m__law_behind, b__law_behind, a1, a2, a3, e1, m1, tl, isn, i0, c1]
      · rw [if_neg c1]
        by_cases c2 : m > t
        · rw [if_pos c2]
          have c3 : ¬ m = t := by omega
          generalize recD (some (t, ns)) = Rr at *
          simp [-lcF_ap, m__law_behind, b__law_behind, a1, a2, a3, e1, m1, tl, isn, i0, c1, c3]
        · rw [if_neg c2, eR m]
          have c3 : m = t := by omega
          subst c3
          generalize recD (some (m, ns)) = Rr at *
          simp [-lcF_ap, m__law_behind, b__law_behind, a1, a2, a3, a4, e1, m1, tl, tl2, isn, i0, i1, ad]

/-! ### texts of heats -/
theorem text_from_le : ∀ (ts : List Str) (k : Nat) (acc : Str), (PySem.textFrom k acc ts).length ≤ acc.length + PySem.piled ts
  | [], k, acc => by simp [PySem.textFrom, PySem.piled]
  | t :: ts, k, acc => by
    have ih := text_from_le ts (k + 1) (acc ++ (if k > 0 then ", " else "" : String) ++ t)
    rw [PySem.piled_cons]
    have e : (acc ++ (if k > 0 then ", " else "" : String) ++ t).length ≤ acc.length + 2 + t.length := by
      rw [PySem.strLen_append, PySem.strLen_append]
      split
      · show acc.length + 2 + t.length ≤ _; omega
      · show acc.length + 0 + t.length ≤ _; omega
    show (PySem.textFrom (k + 1) _ ts).length ≤ _
    omega
theorem list_text_le (ts : List Str) : (PySem.listText ts).length ≤ PySem.piled ts + 2 := by
  unfold PySem.listText
  rw [PySem.strLen_append]
  have := text_from_le ts 0 "["
  have e1 : ("[" : Str).length = 1 := rfl
  have e2 : ("]" : Str).length = 1 := rfl
  omega
theorem tuple_text_le (ts : List Str) (h : ts ≠ []) : (PySem.tupleText ts).length ≤ PySem.piled ts + 3 := by
  unfold PySem.tupleText
  rw [PySem.strLen_append, PySem.strLen_append]
  have := PySem.join_length_add ts h
  have e1 : ("(" : Str).length = 1 := rfl
  have e2 : (Str.ofString (if ts.length == 1 then ",)" else ")" : String)).length ≤ 2 := by
    split
    · exact Nat.le_refl 2
    · show 1 ≤ 2; decide
  omega
theorem shown_all : ∀ ds : List PyData, PyData.shownAll ds = ds.map PyData.shown
  | [] => rfl
  | d :: ds => by simp [PyData.shownAll, shown_all ds]
theorem piled_le {N : Nat} : ∀ {ts : List Str}, (∀ t ∈ ts, t.length ≤ N) → PySem.piled ts ≤ ts.length * (N + 2)
  | [], _ => by simp [PySem.piled]
  | t :: ts, h => by
    have ih := piled_le (ts := ts) fun x hx => h x (by simp [hx])
    have := h t (by simp)
    rw [PySem.piled_cons, List.length_cons, Nat.succ_mul]
    omega
theorem toPl_map (ds : List D) : D.toPl ds = ds.map D.toP := by
  induction ds with
  | nil => rfl
  | cons d ds ih => simp [D.toPl, ih]
theorem list_shown_le {N : Nat} {ds : List D} (h : ∀ d ∈ ds, d.toP.shown.length ≤ N) : (D.lst ds).toP.shown.length ≤ ds.length * (N + 2) + 2 := by
  rw [show (D.lst ds).toP = .list (D.toPl ds) by rw [D.toP], PyData.shown, shown_all, toPl_map, List.map_map]
  refine Nat.le_trans (list_text_le _) ?_
  have := piled_le (N := N) (ts := ds.map (PyData.shown ∘ D.toP)) fun t ht => by
    obtain ⟨d, hd, rfl⟩ := List.mem_map.mp ht
    exact h d hd
  rw [List.length_map] at this
  omega
theorem sw_shown {w : Sw} (h : SwOk w) : (swD w).toP.shown.length ≤ 2200 := by
  obtain ⟨hn, ht, hs⟩ := h
  have e : (swD w).toP.shown = PySem.tupleText [PySem.reprText (mkS w.n), Str.ofString (toString w.t), PySem.reprText w.s] := by
    simp [swD, D.toP, D.toPl, PyData.shown, PyData.shownAll]
  rw [e]
  refine Nat.le_trans (tuple_text_le _ (by simp)) ?_
  rw [PySem.piled_cons, PySem.piled_cons, PySem.piled_cons, PySem.piled_nil]
  have l1 := PySem.StrLaws.reprText_len (mkS w.n) fun c hc => by
    have : c ∈ w.n := by simpa [mkS] using hc
    have := hn.2.2 c this
    have : (16 : Nat) ^ 8 = 4294967296 := by decide
    omega
  rw [mkS_len] at l1
  have l2 := int_text_len_1921 (i := w.t) (by
    have : w.t.natAbs < 2 ^ 20 := by have : (2 : Nat) ^ 20 = 1048576 := by decide
                                     omega
    have := (Nat.log2_lt (n := w.t.natAbs) (k := 20) (by omega)).mpr this
    omega)
  have l3 : (PySem.reprText w.s).length ≤ 72 := by
    simp only [words, List.mem_cons, List.not_mem_nil, or_false] at hs
    rcases hs with e | e | e <;> rw [e] <;> decide +kernel
  have := hn.2.1
  omega
theorem word_ok {s : Str} (h : s ∈ words) : PyData.strOk s = true := by
  simp only [words, List.mem_cons, List.not_mem_nil, or_false] at h
  rcases h with e | e | e <;> subst e <;> decide +kernel
theorem show_all : ∀ ds : List PyData, PyData.showableAll ds = ds.all PyData.showable
  | [] => rfl
  | d :: ds => by simp [PyData.showableAll, show_all ds]
theorem ok_app (a b : Str) : PyData.strOk (a ++ b) = (PyData.strOk a && PyData.strOk b) := by
  unfold PyData.strOk
  rw [Str.cps_append, Array.all_append]
theorem ok_of (s : String) : PyData.strOk (Str.ofString s) = true := by
  rw [Str.ofString_eq_toList]
  unfold PyData.strOk
  rw [← Array.all_toList, List.all_eq_true]
  intro c hc
  simp only [List.mem_map] at hc
  obtain ⟨ch, _, rfl⟩ := hc
  have := ch.valid
  simp only [decide_eq_true_eq]
  unfold UInt32.isValidChar Nat.isValidChar at this
  show ch.val.toNat < 1114112
  omega
theorem ok_join : ∀ ts : List Str, (∀ t ∈ ts, PyData.strOk t = true) → PyData.strOk (Str.join ", " ts) = true
  | [], _ => by decide +kernel
  | [x], h => h x (by simp)
  | x :: y :: r, h => by
    have ih := ok_join (y :: r) fun t ht => h t (by simp [ht])
    show PyData.strOk (x ++ ", " ++ Str.join ", " (y :: r)) = true
    rw [ok_app, ok_app, h x (by simp), ih, ok_of]
    rfl
theorem ok_from : ∀ (ts : List Str) (k : Nat) (acc : Str), PyData.strOk acc = true → (∀ t ∈ ts, PyData.strOk t = true) → PyData.strOk (PySem.textFrom k acc ts) = true
  | [], _, _, h, _ => h
  | t :: ts, k, acc, h, ht => by
    refine ok_from ts (k + 1) _ ?_ fun x hx => ht x (by simp [hx])
    rw [ok_app, ok_app, h, ok_of, ht t (by simp)]
    rfl
theorem ok_list {ds : List D} (h : ∀ d ∈ ds, PyData.strOk d.toP.shown = true) : PyData.strOk (D.lst ds).toP.shown = true := by
  rw [show (D.lst ds).toP = .list (D.toPl ds) by rw [D.toP], PyData.shown, shown_all, toPl_map, List.map_map]
  unfold PySem.listText
  rw [ok_app, ok_from _ _ _ (ok_of _) (fun t ht => by
    obtain ⟨d, hd, rfl⟩ := List.mem_map.mp ht
    exact h d hd), ok_of]
  rfl
theorem repr_az : ([34, 39].all fun q => (List.range 26).all fun k => Builtin.Str.reprChar q (97 + k) == [97 + k]) = true := by kernel_rfl
theorem ok_repr {cs : List Nat} (h : NmOk cs) : PyData.strOk (PySem.reprText (mkS cs)) = true := by
  have hq : PySem.reprQuote (mkS cs) = 34 ∨ PySem.reprQuote (mkS cs) = 39 := by
    unfold PySem.reprQuote
    split <;> simp
  generalize hQ : PySem.reprQuote (mkS cs) = q at hq
  have one : ∀ c ∈ cs, Builtin.Str.reprChar q c = [c] := fun c hc => by
    have hb := h.2.2 c hc
    have := List.all_eq_true.mp repr_az q (by simpa using hq)
    have := List.all_eq_true.mp this (c - 97) (List.mem_range.mpr (by omega))
    rw [show 97 + (c - 97) = c by omega] at this
    exact eq_of_beq this
  unfold PySem.reprText PyData.strOk
  rw [hQ]
  have fold : ∀ (cs : List Nat) (acc : Array Nat), (∀ c ∈ cs, Builtin.Str.reprChar q c = [c] ∧ c < 1114112) → acc.all (· < 1114112) = true → (cs.foldl (fun out c => out ++ (Builtin.Str.reprChar q c).toArray) acc).all (· < 1114112) = true := by
    intro cs
    induction cs with
    | nil => intro acc _ h; exact h
    | cons c cs ih =>
      intro acc hc ha
      rw [List.foldl_cons]
      refine ih _ (fun x hx => hc x (by simp [hx])) ?_
      rw [Array.all_append, ha, (hc c (by simp)).1]
      simpa using (hc c (by simp)).2
  have f := fold cs #[q] (fun c hc => ⟨one c hc, by have := h.2.2 c hc; omega⟩) (by rcases hq with e | e <;> subst e <;> simp)
  have e : (mkS cs).cps.foldl (fun out c => out ++ (Builtin.Str.reprChar q c).toArray) #[q] = cs.foldl (fun out c => out ++ (Builtin.Str.reprChar q c).toArray) #[q] := by simp [mkS]
  show (Array.push _ q).all (· < 1114112) = true
  rw [e, Array.all_push, f]
  rcases hq with e | e <;> subst e <;> simp
theorem ok_sw {w : Sw} (h : SwOk w) : PyData.strOk (swD w).toP.shown = true := by
  have e : (swD w).toP.shown = PySem.tupleText [PySem.reprText (mkS w.n), Str.ofString (toString w.t), PySem.reprText w.s] := by
    simp [swD, D.toP, D.toPl, PyData.shown, PyData.shownAll]
  rw [e]
  unfold PySem.tupleText
  have hs : PyData.strOk (PySem.reprText w.s) = true := by
    have := h.2.2
    simp only [words, List.mem_cons, List.not_mem_nil, or_false] at this
    rcases this with e | e | e <;> rw [e] <;> decide +kernel
  rw [ok_app, ok_app, ok_of, ok_of, ok_join _ (by simp [ok_repr h.1, ok_of, hs])]
  rfl
theorem heats_str {hs : List (List Sw)} (hl : hs.length ≤ 10) (h8 : ∀ h ∈ hs, h.length ≤ 8) (ok : ∀ h ∈ hs, ∀ w ∈ h, SwOk w) : ∃ z : Str, strLD [ordD hs] = .ok (.str z) ∧ neA (.str z) (.str z) = .ok (.bl false) := by
  have lvH : lv 3 (ordD hs) = true := by
    have : ∀ h ∈ hs, ∀ w ∈ h, PyData.strOk (mkS w.n) = true ∧ PyData.strOk w.s = true := fun h hh w hw => ⟨(ok h hh w hw).1.str, word_ok (ok h hh w hw).2.2⟩
    simpa [ordD, swsD, swD, lv] using this
  obtain ⟨n1, n2, n3⟩ := lv_sh 3 _ lvH
  have sl : (ordD hs).toP.shown.length ≤ sizeLine := by
    have := list_shown_le (N := 8 * 2202 + 2) (ds := hs.map swsD) fun d hd => by
      obtain ⟨h, hh, rfl⟩ := List.mem_map.mp hd
      have := list_shown_le (N := 2200) (ds := h.map swD) fun d hd => by
        obtain ⟨w, hw, rfl⟩ := List.mem_map.mp hd
        exact sw_shown (ok h hh w hw)
      rw [List.length_map] at this
      have l8 := h8 h hh
      have : h.length * (2200 + 2) ≤ 8 * 2202 := Nat.mul_le_mul_right _ l8
      unfold swsD
      omega
    rw [List.length_map] at this
    have q : hs.length * (8 * 2202 + 2 + 2) ≤ 10 * (8 * 2202 + 2 + 2) := Nat.mul_le_mul_right _ hl
    refine sz9 (Nat.le_trans this ?_)
    omega
  have sh : (ordD hs).toP.showable = true := by
    rw [show (ordD hs).toP = .list (D.toPl (hs.map swsD)) by unfold ordD; rw [D.toP], PyData.showable, show_all, toPl_map, List.map_map, List.all_map, List.all_eq_true]
    intro h hh
    show PyData.showable (swsD h).toP = true
    rw [show (swsD h).toP = .list (D.toPl (h.map swD)) by unfold swsD; rw [D.toP], PyData.showable, show_all, toPl_map, List.map_map, List.all_map, List.all_eq_true]
    intro w hw
    have := (ok h hh w hw).2.1
    have lg : w.t.natAbs.log2 < 1920 := by
      have : w.t.natAbs < 2 ^ 20 := by have : (2 : Nat) ^ 20 = 1048576 := by decide
                                       omega
      have := (Nat.log2_lt (n := w.t.natAbs) (k := 20) (by omega)).mpr this
      omega
    simp [swD, D.toP, D.toPl, PyData.showable, PyData.showableAll, lg]
  have okS : shOk (ordD hs) = true := by
    simp only [shOk, Bool.and_eq_true, Bool.not_eq_true', decide_eq_true_eq]
    exact ⟨n1, sh, PyData.hasDict_of_canLay _ n2, by omega, sl⟩
  refine ⟨(ordD hs).toP.shown, if_pos okS, ?_⟩
  have okz : PyData.strOk (ordD hs).toP.shown = true := ok_list fun d hd => by
    obtain ⟨h, hh, rfl⟩ := List.mem_map.mp hd
    exact ok_list fun d hd => by
      obtain ⟨w, hw, rfl⟩ := List.mem_map.mp hd
      exact ok_sw (ok h hh w hw)
  exact neA_same 0 (by decide) (by simpa using okz)

/-! ### swims drawn -/
theorem time_ok (z : Int) : ∃ t : Int, m__law_time [.int z] = .ok (.int t) ∧ 1 ≤ t ∧ t ≤ 359999 := by
  have f8 : fdivD (.int z) (.int 8) = .ok (.int (z / 8)) := fdiv_ok (by decide) (by decide)
  have h : z % 6 = 0 ∨ z % 6 = 1 ∨ z % 6 = 2 ∨ z % 6 = 3 ∨ z % 6 = 4 ∨ z % 6 = 5 := by omega
  rcases h with h | h | h | h | h | h
  · exact ⟨5000 + z / 8 % 7, by simp [m__law_time, b__law_time, f8, h], by omega, by omega⟩
  · exact ⟨5000 + z / 8 % 200, by simp [m__law_time, b__law_time, f8, h], by omega, by omega⟩
  · exact ⟨5000 + z / 8 % 7, by simp [m__law_time, b__law_time, f8, h], by omega, by omega⟩
  · exact ⟨5000 + z / 8 % 200, by simp [m__law_time, b__law_time, f8, h], by omega, by omega⟩
  · exact ⟨5000 + z / 8 % 200, by simp [m__law_time, b__law_time, f8, h], by omega, by omega⟩
  · exact ⟨1 + z / 8 % 359999, by simp [m__law_time, b__law_time, f8, h], by omega, by omega⟩
theorem pick_word (q : Int) (h : 0 ≤ q ∧ q < 3) : ∃ s ∈ words, ixD (.lst [.str "pad", .str "shifted", .str "hands"]) (.int q) = .ok (.str s) := by
  have : q = 0 ∨ q = 1 ∨ q = 2 := by omega
  rcases this with e | e | e <;> subst e
  · exact ⟨"pad", by simp [words], by simp⟩
  · exact ⟨"shifted", by simp [words], by simp⟩
  · exact ⟨"hands", by simp [words], by simp⟩
theorem pow30 : powD (.int 2) (.int 30) = .ok (.int 1073741824) := by kernel_rfl
theorem sw_loop {more : Int} : ∀ (ns : List (List Nat)) (j : Nat) (acc : List Sw), (∀ x ∈ ns, NmOk x) → acc.length + ns.length ≤ 1000 → ∃ ws : List Sw, ws.length = ns.length ∧ (∀ w ∈ ws, SwOk w) ∧
    forM (bodyF (tupG 2 (consG (nmG 2) (consG (nmG 3) nilG))) L2__law_swims) ((ns.zipIdx j).map fun p => .tup [.int (p.2 : Nat), .str (mkS p.1)]) [.int more, swsD acc, .non, .non, .non] = .ok (.nx [.int more, swsD (acc ++ ws), .non, .non, .non])
  | [], j, acc, _, _ => ⟨[], rfl, by simp, by simp [Mr.forM]⟩
  | x :: ns, j, acc, hn, hl => by
    simp only [List.length_cons] at hl
    obtain ⟨z, ez, z0, _⟩ := drawn_ok more (200 + (j : Nat))
    have f8 : fdivD (.int z) (.int 8) = .ok (.int (z / 8)) := fdiv_ok (by decide) (by decide)
    have f30 : fdivD (.int z) (.int 1073741824) = .ok (.int (z / 1073741824)) := fdiv_ok (by decide) (by decide)
    obtain ⟨t, et, t1, t2⟩ := time_ok (z / 8)
    obtain ⟨s, hs, es⟩ := pick_word (z / 1073741824 % 3) (by omega)
    obtain ⟨ws, h1, h2, h3⟩ := sw_loop (more := more) ns (j + 1) (acc ++ [⟨x, t, s⟩]) (fun y hy => hn y (by simp [hy])) (by simp; omega)
    refine ⟨⟨x, t, s⟩ :: ws, by simp [h1], fun w hw => ?_, ?_⟩
    · rcases List.mem_cons.mp hw with q | q
      · subst q
        exact ⟨hn x (by simp), ⟨t1, t2⟩, hs⟩
      · exact h2 w q
    · have za : (acc.map swD).length < sizeLine := Nat.lt_of_lt_of_le (show (acc.map swD).length < 1001 by simp; omega) (by decide)
      have st : bodyF (tupG 2 (consG (nmG 2) (consG (nmG 3) nilG))) L2__law_swims (.tup [.int (j : Nat), .str (mkS x)]) [.int more, swsD acc, .non, .non, .non] = .ok (.nx [.int more, swsD (acc ++ [⟨x, t, s⟩]), .non, .non, .non]) := by
        unfold swsD
        rw [List.map_append, List.map_cons, List.map_nil, show swD ⟨x, t, s⟩ = .tup [.str (mkS x), .int t, .str s] from rfl]
        generalize acc.map swD = A at *
        simp [L2__law_swims, ez, f8, et, pow30, f30, es, za]
      rw [List.zipIdx_cons, List.map_cons, forM_cons]
      dsimp only
      rw [st, ok_bind, seqK_nx, h3]
      simp
theorem swims_ok {z : Int} (h : 0 ≤ z) : ∃ ws : List Sw, m__law_swims [.int z] = .ok (swsD ws) ∧ (∀ w ∈ ws, SwOk w) ∧ ws.length ≤ 8 := by
  have md : modD (.int z) (.int 9) = .ok (.int (z % 9)) := mod_ok (by decide)
  obtain ⟨ns, l, _, ok, en⟩ := names_gen (more := z) h (many := z % 9) (by omega) (by omega)
  obtain ⟨ws, h1, h2, h3⟩ := sw_loop (more := z) ns 0 [] ok (by simp; omega)
  refine ⟨ws, ?_, h2, by omega⟩
  have ek : enK [namesD ns] = .ok ((ns.zipIdx 0).map fun p => .tup [.int (p.2 : Nat), .str (mkS p.1)]) := by
    unfold namesD
    rw [enK_lst, List.zipIdx_map, List.map_map]
    rfl
  rw [List.nil_append, show swsD [] = .lst [] from rfl] at h3
  generalize (ns.zipIdx 0).map (fun p => D.tup [.int (p.2 : Nat), .str (mkS p.1)]) = U at *
  generalize swsD ws = S at *
  generalize namesD ns = N at *
  simp [m__law_swims, b__law_swims, md, en, ek, h3]
/-! ### records let through -/
theorem beh_ok {ss : List Str} {ws : List Sw} {r : Rec} (h : RecOk r) (hw : ∀ w ∈ ws, SwOk w) : RecOk (beh ss ws r) := by
  have bn : ∀ x ∈ bst ss ws, NmOk x := fun x hx => by
    obtain ⟨w, h1, _, _, rfl⟩ := bst_mem.mp hx
    exact (hw w h1).1
  unfold beh
  by_cases c : cnt ss ws = []
  · rw [if_pos c]; exact h
  · rw [if_neg c]
    obtain ⟨w, w1, _, w3⟩ := lst_is c
    have lt := (hw w w1).2.1
    rw [w3] at lt
    cases r with
    | none => exact ⟨lt, bst_ne c, bn⟩
    | some x =>
      obtain ⟨t, ns⟩ := x
      dsimp only
      split
      · exact ⟨lt, bst_ne c, bn⟩
      · split
        · exact h
        · refine ⟨lt, ?_, fun x hx => ?_⟩
          · have := h.2.1
            cases ns with
            | nil => exact absurd rfl this
            | cons a as => simp
          · rcases List.mem_append.mp hx with q | q
            · exact h.2.2 x q
            · exact bn x (List.mem_filter.mp q).1
theorem rec_nms {r : Rec} (h : RecOk r) : NmsR r := fun t ns e => by subst e; exact h.2.2
theorem heat_step {ss : List Str} (hs : m_need_sorts [ssD ss] = .ok .non) {a0 a1 a2 a3 a4 a5 a7 : D} {w : List Sw} {r : Rec} {acc : List D} (hr : RecOk r) (hw : ∀ v ∈ w, SwOk v) (hl : lenR r + w.length ≤ 1000) (ha : acc.length < 1000) :
    bodyF (nmG 10) L9_law (swsD w) [a0, a1, a2, a3, a4, a5, ssD ss, a7, .lst acc, recD r, .non, .non, .non, .non] = .ok (.nx [a0, a1, a2, a3, a4, a5, ssD ss, a7, .lst (if beh ss w r = r then acc else acc ++ [recD (beh ss w r)]), recD (beh ss w r), .non, .non, .non, .non]) := by
  have b1 := behind_full hs hr hw hl
  have b2 := law_behind_ok (ss := ss) (ws := w) (r := r) (by omega) (fun t ns e => by subst e; simp only [lenR] at hl; omega) fun v hv => ⟨(hw v hv).1.str, word_ok (hw v hv).2.2⟩
  have nb := rec_nms (beh_ok (ss := ss) hr hw)
  have nr := rec_nms hr
  have n0 := neA_rec nb nb
  have n1 := neA_rec nb nr
  rw [show decide (beh ss w r = beh ss w r) = true by simp, Bool.not_true] at n0
  have za : acc.length < sizeLine := Nat.lt_of_lt_of_le ha (by decide)
  have gt : andR (tst (op2 isnD (nv 9) (kst .non))) (tst (op2 gtD (op2 ixD (nv 11) (kst (.int 0))) (op2 ixD (nv 9) (kst (.int 0))))) [a0, a1, a2, a3, a4, a5, ssD ss, a7, .lst acc, recD r, swsD w, recD (beh ss w r), .non, .non] = .ok false := by
    cases r with
    | none => simp [recD]
    | some x =>
      obtain ⟨t, ns⟩ := x
      cases e : beh ss w (some (t, ns)) with
      | none => exact absurd (beh_none e) (by simp)
      | some y =>
        obtain ⟨t', ns'⟩ := y
        have := beh_le e
        have c : ¬ t' > t := by omega
        generalize swsD w = W
        generalize ssD ss = S
        simp [recD, c]
  by_cases c : beh ss w r = r
  · rw [if_pos c]
    rw [show decide (beh ss w r = r) = true by simpa using c, Bool.not_true] at n1
    generalize recD (beh ss w r) = R' at *
    generalize recD r = R at *
    generalize swsD w = W at *
    generalize ssD ss = S at *
    unfold L9_law
    generalize hG : andR (tst (op2 isnD (nv 9) (kst .non))) (tst (op2 gtD (op2 ixD (nv 11) (kst (.int 0))) (op2 ixD (nv 9) (kst (.int 0))))) = G at *
    simp [b1, b2, n0, gt, n1]
  · rw [if_neg c]
    rw [show decide (beh ss w r = r) = false by simpa using c, Bool.not_false] at n1
    generalize recD (beh ss w r) = R' at *
    generalize recD r = R at *
    generalize swsD w = W at *
    generalize ssD ss = S at *
    unfold L9_law
    generalize hG : andR (tst (op2 isnD (nv 9) (kst .non))) (tst (op2 gtD (op2 ixD (nv 11) (kst (.int 0))) (op2 ixD (nv 9) (kst (.int 0))))) = G at *
    simp [b1, b2, n0, gt, n1, za]
theorem heat_loop {ss : List Str} (hs : m_need_sorts [ssD ss] = .ok .non) {a0 a1 a2 a3 a4 a5 a7 : D} : ∀ (ws : List (List Sw)) (r : Rec) (acc : List D), RecOk r → (∀ h ∈ ws, ∀ w ∈ h, SwOk w) → lenR r + ws.flatten.length ≤ 1000 → acc.length + ws.length ≤ 1000 →
    forM (bodyF (nmG 10) L9_law) (ws.map swsD) [a0, a1, a2, a3, a4, a5, ssD ss, a7, .lst acc, recD r, .non, .non, .non, .non] = .ok (.nx [a0, a1, a2, a3, a4, a5, ssD ss, a7, .lst (acc ++ (hist ss ws r).1.map fun x => recD (some x)), recD (hist ss ws r).2, .non, .non, .non, .non])
  | [], r, acc, _, _, _, _ => by simp [Mr.forM, hist]
  | w :: ws, r, acc, hr, hw, hl, ha => by
    simp only [List.flatten_cons, List.length_append, List.length_cons] at hl ha
    have ln := beh_len ss w r
    have st := heat_step hs (a0 := a0) (a1 := a1) (a2 := a2) (a3 := a3) (a4 := a4) (a5 := a5) (a7 := a7) (w := w) (r := r) (acc := acc) hr (hw w (by simp)) (by omega) (by omega)
    have ih := fun acc (h : acc.length + ws.length ≤ 1000) => heat_loop hs (a0 := a0) (a1 := a1) (a2 := a2) (a3 := a3) (a4 := a4) (a5 := a5) (a7 := a7) ws (beh ss w r) acc (beh_ok hr (hw w (by simp))) (fun h hh => hw h (by simp [hh])) (by omega) h
    have la : (if beh ss w r = r then acc else acc ++ [recD (beh ss w r)]).length ≤ acc.length + 1 := by split <;> simp
    rw [List.map_cons, forM_cons, st, ok_bind, seqK_nx, ih _ (by omega), hist_cons]
    cases e : beh ss w r with
    | none =>
      have er := beh_none e
      simp [er]
    | some x =>
      by_cases c : r = some x
      · simp [c]
      · have c' : ¬ some x = r := fun q => c q.symm
        simp [c, c']

/-! ### the law -/
theorem none_let (u : Unit) : (match m__law_none_let [] with | .ok (.bl true) => true | _ => false) = true := by kernel_rfl
theorem none_let_eq : m__law_none_let [] = .ok (.bl true) := by
  have := none_let ()
  revert this
  cases m__law_none_let [] with
  | ok x =>
    cases x with
    | bl b => cases b <;> simp
    | _ => simp
  | ex c => simp
  | bad => simp
theorem sorts_ok {q : Int} (h : 0 ≤ q ∧ q < 4) : ∃ ss : List Str, ixD (.lst [.tup [.str "pad"], .tup [.str "pad", .str "hands"], .tup [], .tup [.str "shifted", .str "pad", .str "hands"]]) (.int q) = .ok (ssD ss) ∧ m_need_sorts [ssD ss] = .ok .non := by
  have : q = 0 ∨ q = 1 ∨ q = 2 ∨ q = 3 := by omega
  rcases this with e | e | e | e <;> subst e
  · exact ⟨["pad"], by kernel_rfl, by kernel_rfl⟩
  · exact ⟨["pad", "hands"], by kernel_rfl, by kernel_rfl⟩
  · exact ⟨[], by kernel_rfl, by kernel_rfl⟩
  · exact ⟨["shifted", "pad", "hands"], by kernel_rfl, by kernel_rfl⟩
theorem record_gen {here : Int} (h : 0 ≤ here) {a0 a1 a2 a3 : D} : ∃ r : Rec, RecOk r ∧ lenR r ≤ 2 ∧ ifV (tst (op2 gtD (op2 modD (nv 4) (kst (.int 3))) (kst (.int 0)))) (tupF (consA (callF (consA (op2 fdivD (nv 4) (kst (.int 8))) nilA) m__law_time) (consA (callF (consA (callF (consA (op2 fdivD (nv 4) (kst (.int 64))) (consA (op2 addD (kst (.int 1)) (op2 modD (nv 4) (kst (.int 2)))) nilA)) m__law_names) nilA) tupleD) nilA))) (kst .non) [a0, a1, a2, a3, .int here, .non, .non, .non, .non, .non, .non, .non, .non, .non] = .ok (recD r) := by
  by_cases c : here % 3 > 0
  · have f8 : fdivD (.int here) (.int 8) = .ok (.int (here / 8)) := fdiv_ok (by decide) (by decide)
    have f64 : fdivD (.int here) (.int 64) = .ok (.int (here / 64)) := fdiv_ok (by decide) (by decide)
    obtain ⟨t, et, tb⟩ := time_ok (here / 8)
    obtain ⟨ns, l, _, ok, en⟩ := names_gen (more := here / 64) (by omega) (many := 1 + here % 2) (by omega) (by omega)
    have tl : tupleD [namesD ns] = .ok (ntD ns) := tupleD_lst _
    refine ⟨some (t, ns), ⟨tb, fun e => ?_, ok⟩, ?_, ?_⟩
    · rw [e] at l; simp at l; omega
    · show ns.length ≤ 2; omega
    · rw [show recD (some (t, ns)) = .tup [.int t, ntD ns] from rfl]
      generalize namesD ns = N at *
      generalize ntD ns = N2 at *
      simp [c, f8, f64, et, en, tl]
  · exact ⟨none, trivial, Nat.zero_le _, by simp [c, recD]⟩
theorem toldD_ne {l : List (Int × List (List Nat))} (h : ∀ x ∈ l, NmsR (some x)) : neA (toldD l) (toldD l) = .ok (.bl false) := by
  refine neA_same 3 (by decide) ?_
  simp only [toldD, lv_lst, List.all_map, List.all_eq_true]
  intro x hx
  exact recD_lv (h x hx)
theorem flat_le {N : Nat} : ∀ {hs : List (List Sw)}, (∀ h ∈ hs, h.length ≤ N) → hs.flatten.length ≤ hs.length * N
  | [], _ => by simp
  | h :: hs, k => by
    have ih := flat_le (hs := hs) fun x hx => k x (by simp [hx])
    have := k h (by simp)
    rw [List.flatten_cons, List.length_append, List.length_cons, Nat.succ_mul]
    omega
theorem step3 {more : Int} {a0 a1 : D} (j : Int) : bodyF (nmG 3) L3_law (.int j) [a0, a1, .int more, .non, .non, .non, .non, .non, .non, .non, .non, .non, .non, .non] = .ok (.nx [a0, a1, .int more, .non, .non, .non, .non, .non, .non, .non, .non, .non, .non, .non]) := by
  obtain ⟨here, hh, h0, _⟩ := drawn_ok more (10 + j)
  obtain ⟨r, hr, lr, er⟩ := record_gen (here := here) h0 (a0 := a0) (a1 := a1) (a2 := .int more) (a3 := .int j)
  have f1 : fdivD (.int here) (.int 1024) = .ok (.int (here / 1024)) := fdiv_ok (by decide) (by decide)
  have f2 : fdivD (.int here) (.int 4096) = .ok (.int (here / 4096)) := fdiv_ok (by decide) (by decide)
  obtain ⟨ss, es, hs⟩ := sorts_ok (q := here / 1024 % 4) (by omega)
  have hr1 : rngK1 [.int (here / 4096 % 6)] = .ok ((upI 0 (here / 4096 % 6).toNat).map .int) := rngK1_ok (by omega) (by omega)
  obtain ⟨hs', hl, hw, eh⟩ : ∃ hs' : List (List Sw), hs'.length ≤ 5 ∧ (∀ h ∈ hs', (∀ w ∈ h, SwOk w) ∧ h.length ≤ 8) ∧ lcF (rng1 (consA (op2 modD (op2 fdivD (nv 4) (kst (.int 4096))) (kst (.int 6))) nilA)) [13] (nmG 13) yesR (callF (consA (callF (consA (nv 4) (consA (nv 13) nilA)) m__law_drawn) nilA) m__law_swims) [a0, a1, .int more, .int j, .int here, recD r, ssD ss, .non, .non, .non, .non, .non, .non, .non] = .ok (ordD hs') := by
    obtain ⟨xs, xl, xp, xe⟩ := lcM_ex (g := nmG 13) (te := callF (consA (callF (consA (nv 4) (consA (nv 13) nilA)) m__law_drawn) nilA) m__law_swims) (ρ := [a0, a1, .int more, .int j, .int here, recD r, ssD ss, .non, .non, .non, .non, .non, .non, .non]) (P := fun d => ∃ ws : List Sw, ((∀ w ∈ ws, SwOk w) ∧ ws.length ≤ 8) ∧ d = swsD ws) (ds := (upI 0 (here / 4096 % 6).toNat).map .int) fun d hd => by
      obtain ⟨n, _, rfl⟩ := List.mem_map.mp hd
      obtain ⟨z, ez, z0, _⟩ := drawn_ok here n
      obtain ⟨ws, e, ok, l8⟩ := swims_ok z0
      refine ⟨_, swsD ws, rfl, ?_, ws, ⟨ok, l8⟩, rfl⟩
      generalize recD r = R
      generalize ssD ss = S
      generalize swsD ws = W at *
      simp [ez, e]
    obtain ⟨hs', h1, rfl⟩ := all_ex xp
    have ll : hs'.length ≤ 5 := by
      rw [List.length_map, List.length_map] at xl
      rw [xl]
      simp [upI]
      omega
    refine ⟨hs', ll, h1, ?_⟩
    rw [lcF_ap]
    have it : rng1 (consA (op2 modD (op2 fdivD (nv 4) (kst (.int 4096))) (kst (.int 6))) nilA) [a0, a1, .int more, .int j, .int here, recD r, ssD ss, .non, .non, .non, .non, .non, .non, .non] = .ok ((upI 0 (here / 4096 % 6).toNat).map .int) := by
      generalize recD r = R
      generalize ssD ss = S
      simp [f2, hr1]
    rw [it, ok_bind]
    exact lcK_ok (sz9 (by simp [upI]; omega)) xe
  have ok : ∀ h ∈ hs', ∀ w ∈ h, SwOk w := fun h hh => (hw h hh).1
  have fl := flat_le (N := 8) fun h hh => (hw h hh).2
  have lp := heat_loop hs (a0 := a0) (a1 := a1) (a2 := .int more) (a3 := .int j) (a4 := .int here) (a5 := recD r) (a7 := ordD hs') hs' r [] hr ok (by omega) (by simp; omega)
  rw [List.nil_append] at lp
  obtain ⟨z, ez, nz⟩ := heats_str (hs := hs') (by omega) (fun h hh => (hw h hh).2) ok
  have hi := history_ok (ss := ss) (ws := hs') (r := r) hs hr ok (by omega) (by omega)
  have nm := (hist_names (ss := ss) (ws := hs') (rec_nms hr) fun h hh w hw => (ok h hh w hw).1).2
  have nt := toldD_ne nm
  have bf : ∀ w : List Sw, (∀ v ∈ w, SwOk v) → w.length ≤ 8 → cnt ss w = [] → m_behind [recD r, ssD ss, swsD w] = .ok (recD r) := fun w h1 h2 h3 => by
    rw [behind_full hs hr h1 (by omega)]
    simp [beh, h3]
  have b0 : m_behind [recD r, ssD ss, .lst []] = .ok (recD r) := bf [] (by simp) (by simp) rfl
  obtain ⟨w, ew, ow, l8⟩ := swims_ok h0
  have s0 : m_need_sorts [ssD []] = .ok .non := by kernel_rfl
  have b1 : m_behind [recD r, .tup [], swsD w] = .ok (recD r) := by
    have := behind_full (ss := []) s0 hr ow (by omega)
    rw [show ssD [] = .tup [] from rfl] at this
    rw [this]
    have c0 : cnt [] w = [] := by simp [cnt]
    simp [beh, c0]
  have nr := neA_rec (rec_nms hr) (rec_nms hr)
  rw [show decide (r = r) = true by simp, Bool.not_true] at nr
  have it : iterD (ordD hs') = .ok (hs'.map swsD) := rfl
  rw [show (D.lst ((hist ss hs' r).1.map fun x => recD (some x))) = toldD (hist ss hs' r).1 from rfl] at lp
  clear bf nm fl hw hl ok hs
  generalize toldD (hist ss hs' r).1 = T at *
  generalize recD (hist ss hs' r).2 = R2 at *
  generalize hs'.map swsD = U at *
  generalize ordD hs' = O at *
  generalize recD r = R at *
  generalize ssD ss = S at *
  generalize swsD w = V at *
  unfold L3_law
  simp only [List.replicate]
  simp [-lcF_ap, -ifV_ap, hh, er, f1, es, eh, it, lp, ez, nz, hi, nt, b0, nr, ew, b1]

theorem step1 (ns : List Int) (hl0 : ns.length ≤ 63) (k : Int) (h0 : 0 ≤ k) : bodyF (nmG 1) L1_law (.int k) (.scr ns :: List.replicate 13 .non) = .ok (.nx (.scr ns :: List.replicate 13 .non)) := by
  obtain ⟨c, hc⟩ := cell_ok ns hl0 k h0
  obtain ⟨more, hm, hm0, _⟩ := drawn_ok c k
  have hr : rngK1 [.int 4] = .ok ((upI 0 4).map .int) := rngK1_ok (by decide) (by decide)
  have lp : forM (bodyF (nmG 3) L3_law) ((upI 0 4).map .int) [.scr ns, .int k, .int more, .non, .non, .non, .non, .non, .non, .non, .non, .non, .non, .non] = .ok (.nx [.scr ns, .int k, .int more, .non, .non, .non, .non, .non, .non, .non, .non, .non, .non, .non]) := forM_same fun d hd => by
    obtain ⟨j, _, rfl⟩ := List.mem_map.mp hd
    exact step3 j
  have nl := none_let_eq
  generalize (upI 0 4).map D.int = U at *
  simp only [List.replicate]
  simp [L1_law, hc, hm, hr, lp, nl]
theorem math : ∀ ns : List Int, ns.length ≤ 63 → (∀ z ∈ ns, Builtin.Int.intBits z ≤ 1048576) → m_law [.scr ns] = .ok (.bl true) := by
  intro ns hl _
  have hf : ∀ n : Nat, forM (bodyF (nmG 1) L1_law) ((upI 0 n).map .int) (.scr ns :: List.replicate 13 .non) = .ok (.nx (.scr ns :: List.replicate 13 .non)) := fun n => forM_same fun d hd => by
    obtain ⟨j, hj, rfl⟩ := List.mem_map.mp hd
    exact step1 ns hl j (upI_mem.mp hj).1
  generalize e1 : (if ((ns.length : Nat) : Int) < 4 then ((ns.length : Nat) : Int) else 4) = a
  generalize e2 : (if a > 1 then a else 1) = b
  have hb : 1 ≤ b ∧ b ≤ 4 := by
    have : a ≤ 4 := by rw [← e1]; split <;> omega
    rw [← e2]; split <;> omega
  have hr : rngK1 [.int b] = .ok ((upI 0 b.toNat).map .int) := rngK1_ok (by omega) (by omega)
  have hf' := hf b.toNat
  simp only [List.replicate] at hf'
  simp [m_law, b_law, List.replicate, e1, e2, hr, hf']

theorem all_mk {l : PySem.W.OpenLaw} {q : Program} {w : World} {K : PySem.W.Frag} {h : Heap} {mg : Str → Option Value} {fa : Addr} (X : K.In h) (G : h.Ns mainGlobals mg) (hfa : mg "law" = some (.ref fa)) (FR : Mh.Fresh q K mg h)
    {f__law_drawn : Addr} {od__law_drawn an__law_drawn : Option Addr} {sl__law_drawn : Array (Option Value)} {oc__law_drawn kV__law_drawn dc__law_drawn pm__law_drawn cd__law_drawn ct__law_drawn : Value}
    (a__law_drawn : PySem.W.nsIn K mainGlobals "_law_drawn" = some (some (.ref f__law_drawn))) (l__law_drawn : K.lookup f__law_drawn = some ⟨oc__law_drawn, od__law_drawn, .func (PySem.W.fnOf "_law_drawn" "_law_drawn" (defArgs s__law_drawn) (defBody s__law_drawn) (defScope s__law_drawn) .none kV__law_drawn dc__law_drawn pm__law_drawn an__law_drawn cd__law_drawn ct__law_drawn), sl__law_drawn⟩) (e__law_drawn : PySem.W.codeIn K cd__law_drawn "_law_drawn" = true) (k__law_drawn : PySem.W.keepIn K (.ref f__law_drawn) = true)
    {f__law_cell : Addr} {od__law_cell an__law_cell : Option Addr} {sl__law_cell : Array (Option Value)} {oc__law_cell kV__law_cell dc__law_cell pm__law_cell cd__law_cell ct__law_cell : Value}
    (a__law_cell : PySem.W.nsIn K mainGlobals "_law_cell" = some (some (.ref f__law_cell))) (l__law_cell : K.lookup f__law_cell = some ⟨oc__law_cell, od__law_cell, .func (PySem.W.fnOf "_law_cell" "_law_cell" (defArgs s__law_cell) (defBody s__law_cell) (defScope s__law_cell) .none kV__law_cell dc__law_cell pm__law_cell an__law_cell cd__law_cell ct__law_cell), sl__law_cell⟩) (e__law_cell : PySem.W.codeIn K cd__law_cell "_law_cell" = true) (k__law_cell : PySem.W.keepIn K (.ref f__law_cell) = true)
    {f__law_word : Addr} {od__law_word an__law_word : Option Addr} {sl__law_word : Array (Option Value)} {oc__law_word kV__law_word dc__law_word pm__law_word cd__law_word ct__law_word : Value}
    (a__law_word : PySem.W.nsIn K mainGlobals "_law_word" = some (some (.ref f__law_word))) (l__law_word : K.lookup f__law_word = some ⟨oc__law_word, od__law_word, .func (PySem.W.fnOf "_law_word" "_law_word" (defArgs s__law_word) (defBody s__law_word) (defScope s__law_word) .none kV__law_word dc__law_word pm__law_word an__law_word cd__law_word ct__law_word), sl__law_word⟩) (e__law_word : PySem.W.codeIn K cd__law_word "_law_word" = true) (k__law_word : PySem.W.keepIn K (.ref f__law_word) = true)
    {f__law_told : Addr} {od__law_told an__law_told : Option Addr} {sl__law_told : Array (Option Value)} {oc__law_told kV__law_told dc__law_told pm__law_told cd__law_told ct__law_told : Value}
    (a__law_told : PySem.W.nsIn K mainGlobals "_law_told" = some (some (.ref f__law_told))) (l__law_told : K.lookup f__law_told = some ⟨oc__law_told, od__law_told, .func (PySem.W.fnOf "_law_told" "_law_told" (defArgs s__law_told) (defBody s__law_told) (defScope s__law_told) .none kV__law_told dc__law_told pm__law_told an__law_told cd__law_told ct__law_told), sl__law_told⟩) (e__law_told : PySem.W.codeIn K cd__law_told "_law_told" = true) (k__law_told : PySem.W.keepIn K (.ref f__law_told) = true)
    {f_is_count : Addr} {od_is_count an_is_count : Option Addr} {sl_is_count : Array (Option Value)} {oc_is_count kV_is_count dc_is_count pm_is_count cd_is_count ct_is_count : Value}
    (a_is_count : PySem.W.nsIn K mainGlobals "is_count" = some (some (.ref f_is_count))) (l_is_count : K.lookup f_is_count = some ⟨oc_is_count, od_is_count, .func (PySem.W.fnOf "is_count" "is_count" (defArgs s_is_count) (defBody s_is_count) (defScope s_is_count) .none kV_is_count dc_is_count pm_is_count an_is_count cd_is_count ct_is_count), sl_is_count⟩) (e_is_count : PySem.W.codeIn K cd_is_count "is_count" = true) (k_is_count : PySem.W.keepIn K (.ref f_is_count) = true)
    {f_is_time : Addr} {od_is_time an_is_time : Option Addr} {sl_is_time : Array (Option Value)} {oc_is_time kV_is_time dc_is_time pm_is_time cd_is_time ct_is_time : Value}
    (a_is_time : PySem.W.nsIn K mainGlobals "is_time" = some (some (.ref f_is_time))) (l_is_time : K.lookup f_is_time = some ⟨oc_is_time, od_is_time, .func (PySem.W.fnOf "is_time" "is_time" (defArgs s_is_time) (defBody s_is_time) (defScope s_is_time) .none kV_is_time dc_is_time pm_is_time an_is_time cd_is_time ct_is_time), sl_is_time⟩) (e_is_time : PySem.W.codeIn K cd_is_time "is_time" = true) (k_is_time : PySem.W.keepIn K (.ref f_is_time) = true)
    {f_is_name : Addr} {od_is_name an_is_name : Option Addr} {sl_is_name : Array (Option Value)} {oc_is_name kV_is_name dc_is_name pm_is_name cd_is_name ct_is_name : Value}
    (a_is_name : PySem.W.nsIn K mainGlobals "is_name" = some (some (.ref f_is_name))) (l_is_name : K.lookup f_is_name = some ⟨oc_is_name, od_is_name, .func (PySem.W.fnOf "is_name" "is_name" (defArgs s_is_name) (defBody s_is_name) (defScope s_is_name) .none kV_is_name dc_is_name pm_is_name an_is_name cd_is_name ct_is_name), sl_is_name⟩) (e_is_name : PySem.W.codeIn K cd_is_name "is_name" = true) (k_is_name : PySem.W.keepIn K (.ref f_is_name) = true)
    {f_need_record : Addr} {od_need_record an_need_record : Option Addr} {sl_need_record : Array (Option Value)} {oc_need_record kV_need_record dc_need_record pm_need_record cd_need_record ct_need_record : Value}
    (a_need_record : PySem.W.nsIn K mainGlobals "need_record" = some (some (.ref f_need_record))) (l_need_record : K.lookup f_need_record = some ⟨oc_need_record, od_need_record, .func (PySem.W.fnOf "need_record" "need_record" (defArgs s_need_record) (defBody s_need_record) (defScope s_need_record) .none kV_need_record dc_need_record pm_need_record an_need_record cd_need_record ct_need_record), sl_need_record⟩) (e_need_record : PySem.W.codeIn K cd_need_record "need_record" = true) (k_need_record : PySem.W.keepIn K (.ref f_need_record) = true)
    {f_need_sorts : Addr} {od_need_sorts an_need_sorts : Option Addr} {sl_need_sorts : Array (Option Value)} {oc_need_sorts kV_need_sorts dc_need_sorts pm_need_sorts cd_need_sorts ct_need_sorts : Value}
    (a_need_sorts : PySem.W.nsIn K mainGlobals "need_sorts" = some (some (.ref f_need_sorts))) (l_need_sorts : K.lookup f_need_sorts = some ⟨oc_need_sorts, od_need_sorts, .func (PySem.W.fnOf "need_sorts" "need_sorts" (defArgs s_need_sorts) (defBody s_need_sorts) (defScope s_need_sorts) .none kV_need_sorts dc_need_sorts pm_need_sorts an_need_sorts cd_need_sorts ct_need_sorts), sl_need_sorts⟩) (e_need_sorts : PySem.W.codeIn K cd_need_sorts "need_sorts" = true) (k_need_sorts : PySem.W.keepIn K (.ref f_need_sorts) = true)
    {f_need_swims : Addr} {od_need_swims an_need_swims : Option Addr} {sl_need_swims : Array (Option Value)} {oc_need_swims kV_need_swims dc_need_swims pm_need_swims cd_need_swims ct_need_swims : Value}
    (a_need_swims : PySem.W.nsIn K mainGlobals "need_swims" = some (some (.ref f_need_swims))) (l_need_swims : K.lookup f_need_swims = some ⟨oc_need_swims, od_need_swims, .func (PySem.W.fnOf "need_swims" "need_swims" (defArgs s_need_swims) (defBody s_need_swims) (defScope s_need_swims) .none kV_need_swims dc_need_swims pm_need_swims an_need_swims cd_need_swims ct_need_swims), sl_need_swims⟩) (e_need_swims : PySem.W.codeIn K cd_need_swims "need_swims" = true) (k_need_swims : PySem.W.keepIn K (.ref f_need_swims) = true)
    {f_record_behind : Addr} {od_record_behind an_record_behind : Option Addr} {sl_record_behind : Array (Option Value)} {oc_record_behind kV_record_behind dc_record_behind pm_record_behind cd_record_behind ct_record_behind : Value}
    (a_record_behind : PySem.W.nsIn K mainGlobals "record_behind" = some (some (.ref f_record_behind))) (l_record_behind : K.lookup f_record_behind = some ⟨oc_record_behind, od_record_behind, .func (PySem.W.fnOf "record_behind" "record_behind" (defArgs s_record_behind) (defBody s_record_behind) (defScope s_record_behind) .none kV_record_behind dc_record_behind pm_record_behind an_record_behind cd_record_behind ct_record_behind), sl_record_behind⟩) (e_record_behind : PySem.W.codeIn K cd_record_behind "record_behind" = true) (k_record_behind : PySem.W.keepIn K (.ref f_record_behind) = true)
    {f_history : Addr} {od_history an_history : Option Addr} {sl_history : Array (Option Value)} {oc_history kV_history dc_history pm_history cd_history ct_history : Value}
    (a_history : PySem.W.nsIn K mainGlobals "history" = some (some (.ref f_history))) (l_history : K.lookup f_history = some ⟨oc_history, od_history, .func (PySem.W.fnOf "history" "history" (defArgs s_history) (defBody s_history) (defScope s_history) .none kV_history dc_history pm_history an_history cd_history ct_history), sl_history⟩) (e_history : PySem.W.codeIn K cd_history "history" = true) (k_history : PySem.W.keepIn K (.ref f_history) = true)
    {f_behind : Addr} {od_behind an_behind : Option Addr} {sl_behind : Array (Option Value)} {oc_behind kV_behind dc_behind pm_behind cd_behind ct_behind : Value}
    (a_behind : PySem.W.nsIn K mainGlobals "behind" = some (some (.ref f_behind))) (l_behind : K.lookup f_behind = some ⟨oc_behind, od_behind, .func (PySem.W.fnOf "behind" "behind" (defArgs s_behind) (defBody s_behind) (defScope s_behind) .none kV_behind dc_behind pm_behind an_behind cd_behind ct_behind), sl_behind⟩) (e_behind : PySem.W.codeIn K cd_behind "behind" = true) (k_behind : PySem.W.keepIn K (.ref f_behind) = true)
    {f__law_none_let : Addr} {od__law_none_let an__law_none_let : Option Addr} {sl__law_none_let : Array (Option Value)} {oc__law_none_let kV__law_none_let dc__law_none_let pm__law_none_let  ct__law_none_let : Value} {c__law_none_let P__law_none_let : Addr}
    (a__law_none_let : PySem.W.nsIn K mainGlobals "_law_none_let" = some (some (.ref f__law_none_let))) (l__law_none_let : K.lookup f__law_none_let = some ⟨oc__law_none_let, od__law_none_let, .func (PySem.W.fnOf "_law_none_let" "_law_none_let" (defArgs s__law_none_let) (defBody s__law_none_let) (defScope s__law_none_let) .none kV__law_none_let dc__law_none_let pm__law_none_let an__law_none_let (.ref c__law_none_let) ct__law_none_let), sl__law_none_let⟩) (e__law_none_let : PySem.W.codeIn K (.ref c__law_none_let) "_law_none_let" = true) (k__law_none_let : PySem.W.keepIn K (.ref f__law_none_let) = true)
    {oc2__law_none_let : Value} {od2__law_none_let : Option Addr} {vs__law_none_let : Array Value} {sl2__law_none_let : Array (Option Value)} (lc__law_none_let : K.lookup c__law_none_let = some ⟨oc2__law_none_let, od2__law_none_let, .fields vs__law_none_let, sl2__law_none_let⟩) (v11__law_none_let : vs__law_none_let[11]? = some (.ref P__law_none_let)) (hd__law_none_let : PySem.W.codeHdIn K c__law_none_let P__law_none_let = true) (np__law_none_let : K.lookup P__law_none_let = none) (rec__law_none_let : ((PyProof.Rows.recsOf q).any fun e => e.name == "_law_none_let") = true)
    {f__law_names : Addr} {od__law_names an__law_names : Option Addr} {sl__law_names : Array (Option Value)} {oc__law_names kV__law_names dc__law_names pm__law_names cd__law_names ct__law_names : Value}
    (a__law_names : PySem.W.nsIn K mainGlobals "_law_names" = some (some (.ref f__law_names))) (l__law_names : K.lookup f__law_names = some ⟨oc__law_names, od__law_names, .func (PySem.W.fnOf "_law_names" "_law_names" (defArgs s__law_names) (defBody s__law_names) (defScope s__law_names) .none kV__law_names dc__law_names pm__law_names an__law_names cd__law_names ct__law_names), sl__law_names⟩) (e__law_names : PySem.W.codeIn K cd__law_names "_law_names" = true) (k__law_names : PySem.W.keepIn K (.ref f__law_names) = true)
    {f__law_time : Addr} {od__law_time an__law_time : Option Addr} {sl__law_time : Array (Option Value)} {oc__law_time kV__law_time dc__law_time pm__law_time cd__law_time ct__law_time : Value}
    (a__law_time : PySem.W.nsIn K mainGlobals "_law_time" = some (some (.ref f__law_time))) (l__law_time : K.lookup f__law_time = some ⟨oc__law_time, od__law_time, .func (PySem.W.fnOf "_law_time" "_law_time" (defArgs s__law_time) (defBody s__law_time) (defScope s__law_time) .none kV__law_time dc__law_time pm__law_time an__law_time cd__law_time ct__law_time), sl__law_time⟩) (e__law_time : PySem.W.codeIn K cd__law_time "_law_time" = true) (k__law_time : PySem.W.keepIn K (.ref f__law_time) = true)
    {f__law_swims : Addr} {od__law_swims an__law_swims : Option Addr} {sl__law_swims : Array (Option Value)} {oc__law_swims kV__law_swims dc__law_swims pm__law_swims cd__law_swims ct__law_swims : Value}
    (a__law_swims : PySem.W.nsIn K mainGlobals "_law_swims" = some (some (.ref f__law_swims))) (l__law_swims : K.lookup f__law_swims = some ⟨oc__law_swims, od__law_swims, .func (PySem.W.fnOf "_law_swims" "_law_swims" (defArgs s__law_swims) (defBody s__law_swims) (defScope s__law_swims) .none kV__law_swims dc__law_swims pm__law_swims an__law_swims cd__law_swims ct__law_swims), sl__law_swims⟩) (e__law_swims : PySem.W.codeIn K cd__law_swims "_law_swims" = true) (k__law_swims : PySem.W.keepIn K (.ref f__law_swims) = true)
    {f__law_behind : Addr} {od__law_behind an__law_behind : Option Addr} {sl__law_behind : Array (Option Value)} {oc__law_behind kV__law_behind dc__law_behind pm__law_behind cd__law_behind ct__law_behind : Value}
    (a__law_behind : PySem.W.nsIn K mainGlobals "_law_behind" = some (some (.ref f__law_behind))) (l__law_behind : K.lookup f__law_behind = some ⟨oc__law_behind, od__law_behind, .func (PySem.W.fnOf "_law_behind" "_law_behind" (defArgs s__law_behind) (defBody s__law_behind) (defScope s__law_behind) .none kV__law_behind dc__law_behind pm__law_behind an__law_behind cd__law_behind ct__law_behind), sl__law_behind⟩) (e__law_behind : PySem.W.codeIn K cd__law_behind "_law_behind" = true) (k__law_behind : PySem.W.keepIn K (.ref f__law_behind) = true)
    {f_law : Addr} {od_law an_law : Option Addr} {sl_law : Array (Option Value)} {oc_law kV_law dc_law pm_law cd_law ct_law : Value}
    (a_law : PySem.W.nsIn K mainGlobals "law" = some (some (.ref f_law))) (l_law : K.lookup f_law = some ⟨oc_law, od_law, .func (PySem.W.fnOf "law" "law" (defArgs s_law) (defBody s_law) (defScope s_law) .none kV_law dc_law pm_law an_law cd_law ct_law), sl_law⟩) (e_law : PySem.W.codeIn K cd_law "law" = true) (k_law : PySem.W.keepIn K (.ref f_law) = true)
    (z_ValueError : PySem.W.nsIn K mainGlobals "ValueError" = some none)
    (z_all : PySem.W.nsIn K mainGlobals "all" = some none)
    (z_bool : PySem.W.nsIn K mainGlobals "bool" = some none)
    (z_enumerate : PySem.W.nsIn K mainGlobals "enumerate" = some none)
    (z_int : PySem.W.nsIn K mainGlobals "int" = some none)
    (z_isinstance : PySem.W.nsIn K mainGlobals "isinstance" = some none)
    (z_len : PySem.W.nsIn K mainGlobals "len" = some none)
    (z_list : PySem.W.nsIn K mainGlobals "list" = some none)
    (z_max : PySem.W.nsIn K mainGlobals "max" = some none)
    (z_min : PySem.W.nsIn K mainGlobals "min" = some none)
    (z_range : PySem.W.nsIn K mainGlobals "range" = some none)
    (z_str : PySem.W.nsIn K mainGlobals "str" = some none)
    (z_sum : PySem.W.nsIn K mainGlobals "sum" = some none)
    (z_tuple : PySem.W.nsIn K mainGlobals "tuple" = some none)
    {t_LETTERS : Tok} (c_LETTERS : PySem.W.nsIn K mainGlobals "LETTERS" = some (some (.str "abcdefghijklmnopqrstuvwxyz" t_LETTERS)))
    {t_MOST_TIME : Tok} (c_MOST_TIME : PySem.W.nsIn K mainGlobals "MOST_TIME" = some (some (.int 359999 t_MOST_TIME)))
    {g_SORTS : Addr} {ob_SORTS : PySem.Obj} (c_SORTS : PySem.W.nsIn K mainGlobals "SORTS" = some (some (.ref g_SORTS))) (lo_SORTS : K.lookup g_SORTS = some ob_SORTS) (CT_SORTS : CTob ob_SORTS ["pad", "shifted", "hands"])
    {C_BadEntry : Addr} (m_BadEntry : PySem.W.nsIn K mainGlobals "BadEntry" = some (some (.ref C_BadEntry)))
    {C_BadHeat : Addr} (m_BadHeat : PySem.W.nsIn K mainGlobals "BadHeat" = some (some (.ref C_BadHeat)))
    {C_BadJudges : Addr} (m_BadJudges : PySem.W.nsIn K mainGlobals "BadJudges" = some (some (.ref C_BadJudges)))
    {C_BadNumber : Addr} (m_BadNumber : PySem.W.nsIn K mainGlobals "BadNumber" = some (some (.ref C_BadNumber)))
    {C_BadRecord : Addr} (m_BadRecord : PySem.W.nsIn K mainGlobals "BadRecord" = some (some (.ref C_BadRecord)))
    {C_BadRules : Addr} (m_BadRules : PySem.W.nsIn K mainGlobals "BadRules" = some (some (.ref C_BadRules)))
    {C_BadText : Addr} (m_BadText : PySem.W.nsIn K mainGlobals "BadText" = some (some (.ref C_BadText)))
    {C_BadTime : Addr} (m_BadTime : PySem.W.nsIn K mainGlobals "BadTime" = some (some (.ref C_BadTime)))
    {C_Nothing : Addr} (m_Nothing : PySem.W.nsIn K mainGlobals "Nothing" = some (some (.ref C_Nothing)))
    {C_HeatError : Addr} (m_HeatError : PySem.W.nsIn K mainGlobals "HeatError" = some (some (.ref C_HeatError)))
    (q_BadEntry : PySem.W.excIn K C_BadEntry [.type "ValueError", .type "Exception", .type "BaseException", .type "object"] "ValueError.__new__" = true) (kk_BadEntry : PySem.W.keepIn K (.ref C_BadEntry) = true) (s_BadEntry : PySem.W.subIn K (.ref C_BadEntry) (.type "BaseException") = some true) (t_BadEntry : PySem.W.typeIn K (.ref C_BadEntry) = some (.type "type"))
    (q_BadHeat : PySem.W.excIn K C_BadHeat [.type "ValueError", .type "Exception", .type "BaseException", .type "object"] "ValueError.__new__" = true) (kk_BadHeat : PySem.W.keepIn K (.ref C_BadHeat) = true) (s_BadHeat : PySem.W.subIn K (.ref C_BadHeat) (.type "BaseException") = some true) (t_BadHeat : PySem.W.typeIn K (.ref C_BadHeat) = some (.type "type"))
    (q_BadJudges : PySem.W.excIn K C_BadJudges [.type "ValueError", .type "Exception", .type "BaseException", .type "object"] "ValueError.__new__" = true) (kk_BadJudges : PySem.W.keepIn K (.ref C_BadJudges) = true) (s_BadJudges : PySem.W.subIn K (.ref C_BadJudges) (.type "BaseException") = some true) (t_BadJudges : PySem.W.typeIn K (.ref C_BadJudges) = some (.type "type"))
    (q_BadNumber : PySem.W.excIn K C_BadNumber [.type "ValueError", .type "Exception", .type "BaseException", .type "object"] "ValueError.__new__" = true) (kk_BadNumber : PySem.W.keepIn K (.ref C_BadNumber) = true) (s_BadNumber : PySem.W.subIn K (.ref C_BadNumber) (.type "BaseException") = some true) (t_BadNumber : PySem.W.typeIn K (.ref C_BadNumber) = some (.type "type"))
    (q_BadRecord : PySem.W.excIn K C_BadRecord [.type "ValueError", .type "Exception", .type "BaseException", .type "object"] "ValueError.__new__" = true) (kk_BadRecord : PySem.W.keepIn K (.ref C_BadRecord) = true) (s_BadRecord : PySem.W.subIn K (.ref C_BadRecord) (.type "BaseException") = some true) (t_BadRecord : PySem.W.typeIn K (.ref C_BadRecord) = some (.type "type"))
    (q_BadRules : PySem.W.excIn K C_BadRules [.type "ValueError", .type "Exception", .type "BaseException", .type "object"] "ValueError.__new__" = true) (kk_BadRules : PySem.W.keepIn K (.ref C_BadRules) = true) (s_BadRules : PySem.W.subIn K (.ref C_BadRules) (.type "BaseException") = some true) (t_BadRules : PySem.W.typeIn K (.ref C_BadRules) = some (.type "type"))
    (q_BadText : PySem.W.excIn K C_BadText [.type "ValueError", .type "Exception", .type "BaseException", .type "object"] "ValueError.__new__" = true) (kk_BadText : PySem.W.keepIn K (.ref C_BadText) = true) (s_BadText : PySem.W.subIn K (.ref C_BadText) (.type "BaseException") = some true) (t_BadText : PySem.W.typeIn K (.ref C_BadText) = some (.type "type"))
    (q_BadTime : PySem.W.excIn K C_BadTime [.type "ValueError", .type "Exception", .type "BaseException", .type "object"] "ValueError.__new__" = true) (kk_BadTime : PySem.W.keepIn K (.ref C_BadTime) = true) (s_BadTime : PySem.W.subIn K (.ref C_BadTime) (.type "BaseException") = some true) (t_BadTime : PySem.W.typeIn K (.ref C_BadTime) = some (.type "type"))
    (q_Nothing : PySem.W.excIn K C_Nothing [.type "ValueError", .type "Exception", .type "BaseException", .type "object"] "ValueError.__new__" = true) (kk_Nothing : PySem.W.keepIn K (.ref C_Nothing) = true) (s_Nothing : PySem.W.subIn K (.ref C_Nothing) (.type "BaseException") = some true) (t_Nothing : PySem.W.typeIn K (.ref C_Nothing) = some (.type "type"))
    (E1_BadTime : PySem.W.findIn K (.ref C_BadTime) "__getattribute__" = some (some (.builtin "BaseException.__getattribute__"))) (E2_BadTime : PySem.W.findIn K (.ref C_BadTime) "__getattr__" = some none) (E3_BadTime : PySem.W.hasDictIn K C_BadTime = true) (E4_BadTime : PySem.W.findIn K (.ref C_BadTime) "__class__" = some (some (.builtin "object.__class__"))) (E5_BadTime : PySem.W.mroIn K C_BadTime (.type "object") = some true) (V_BadTime : PySem.W.kitOne K (.ref C_BadTime) (.type "ValueError") = some true) (X_BadTime : PySem.W.exmOne K (.ref C_BadTime) (.ref C_HeatError) = some true)
    (K_BadTime_BadTime : PySem.W.kitOne K (.ref C_BadTime) (.ref C_BadTime) = some true)
    (K_BadTime_BadText : PySem.W.kitOne K (.ref C_BadTime) (.ref C_BadText) = some false)
    (K_BadTime_BadRules : PySem.W.kitOne K (.ref C_BadTime) (.ref C_BadRules) = some false)
    (K_BadTime_BadHeat : PySem.W.kitOne K (.ref C_BadTime) (.ref C_BadHeat) = some false)
    (K_BadTime_BadJudges : PySem.W.kitOne K (.ref C_BadTime) (.ref C_BadJudges) = some false)
    (K_BadTime_BadEntry : PySem.W.kitOne K (.ref C_BadTime) (.ref C_BadEntry) = some false)
    (K_BadTime_BadNumber : PySem.W.kitOne K (.ref C_BadTime) (.ref C_BadNumber) = some false)
    (K_BadTime_BadRecord : PySem.W.kitOne K (.ref C_BadTime) (.ref C_BadRecord) = some false)
    (K_BadTime_Nothing : PySem.W.kitOne K (.ref C_BadTime) (.ref C_Nothing) = some false)
    (E1_BadText : PySem.W.findIn K (.ref C_BadText) "__getattribute__" = some (some (.builtin "BaseException.__getattribute__"))) (E2_BadText : PySem.W.findIn K (.ref C_BadText) "__getattr__" = some none) (E3_BadText : PySem.W.hasDictIn K C_BadText = true) (E4_BadText : PySem.W.findIn K (.ref C_BadText) "__class__" = some (some (.builtin "object.__class__"))) (E5_BadText : PySem.W.mroIn K C_BadText (.type "object") = some true) (V_BadText : PySem.W.kitOne K (.ref C_BadText) (.type "ValueError") = some true) (X_BadText : PySem.W.exmOne K (.ref C_BadText) (.ref C_HeatError) = some true)
    (K_BadText_BadTime : PySem.W.kitOne K (.ref C_BadText) (.ref C_BadTime) = some false)
    (K_BadText_BadText : PySem.W.kitOne K (.ref C_BadText) (.ref C_BadText) = some true)
    (K_BadText_BadRules : PySem.W.kitOne K (.ref C_BadText) (.ref C_BadRules) = some false)
    (K_BadText_BadHeat : PySem.W.kitOne K (.ref C_BadText) (.ref C_BadHeat) = some false)
    (K_BadText_BadJudges : PySem.W.kitOne K (.ref C_BadText) (.ref C_BadJudges) = some false)
    (K_BadText_BadEntry : PySem.W.kitOne K (.ref C_BadText) (.ref C_BadEntry) = some false)
    (K_BadText_BadNumber : PySem.W.kitOne K (.ref C_BadText) (.ref C_BadNumber) = some false)
    (K_BadText_BadRecord : PySem.W.kitOne K (.ref C_BadText) (.ref C_BadRecord) = some false)
    (K_BadText_Nothing : PySem.W.kitOne K (.ref C_BadText) (.ref C_Nothing) = some false)
    (E1_BadRules : PySem.W.findIn K (.ref C_BadRules) "__getattribute__" = some (some (.builtin "BaseException.__getattribute__"))) (E2_BadRules : PySem.W.findIn K (.ref C_BadRules) "__getattr__" = some none) (E3_BadRules : PySem.W.hasDictIn K C_BadRules = true) (E4_BadRules : PySem.W.findIn K (.ref C_BadRules) "__class__" = some (some (.builtin "object.__class__"))) (E5_BadRules : PySem.W.mroIn K C_BadRules (.type "object") = some true) (V_BadRules : PySem.W.kitOne K (.ref C_BadRules) (.type "ValueError") = some true) (X_BadRules : PySem.W.exmOne K (.ref C_BadRules) (.ref C_HeatError) = some true)
    (K_BadRules_BadTime : PySem.W.kitOne K (.ref C_BadRules) (.ref C_BadTime) = some false)
    (K_BadRules_BadText : PySem.W.kitOne K (.ref C_BadRules) (.ref C_BadText) = some false)
    (K_BadRules_BadRules : PySem.W.kitOne K (.ref C_BadRules) (.ref C_BadRules) = some true)
    (K_BadRules_BadHeat : PySem.W.kitOne K (.ref C_BadRules) (.ref C_BadHeat) = some false)
    (K_BadRules_BadJudges : PySem.W.kitOne K (.ref C_BadRules) (.ref C_BadJudges) = some false)
    (K_BadRules_BadEntry : PySem.W.kitOne K (.ref C_BadRules) (.ref C_BadEntry) = some false)
    (K_BadRules_BadNumber : PySem.W.kitOne K (.ref C_BadRules) (.ref C_BadNumber) = some false)
    (K_BadRules_BadRecord : PySem.W.kitOne K (.ref C_BadRules) (.ref C_BadRecord) = some false)
    (K_BadRules_Nothing : PySem.W.kitOne K (.ref C_BadRules) (.ref C_Nothing) = some false)
    (E1_BadHeat : PySem.W.findIn K (.ref C_BadHeat) "__getattribute__" = some (some (.builtin "BaseException.__getattribute__"))) (E2_BadHeat : PySem.W.findIn K (.ref C_BadHeat) "__getattr__" = some none) (E3_BadHeat : PySem.W.hasDictIn K C_BadHeat = true) (E4_BadHeat : PySem.W.findIn K (.ref C_BadHeat) "__class__" = some (some (.builtin "object.__class__"))) (E5_BadHeat : PySem.W.mroIn K C_BadHeat (.type "object") = some true) (V_BadHeat : PySem.W.kitOne K (.ref C_BadHeat) (.type "ValueError") = some true) (X_BadHeat : PySem.W.exmOne K (.ref C_BadHeat) (.ref C_HeatError) = some true)
    (K_BadHeat_BadTime : PySem.W.kitOne K (.ref C_BadHeat) (.ref C_BadTime) = some false)
    (K_BadHeat_BadText : PySem.W.kitOne K (.ref C_BadHeat) (.ref C_BadText) = some false)
    (K_BadHeat_BadRules : PySem.W.kitOne K (.ref C_BadHeat) (.ref C_BadRules) = some false)
    (K_BadHeat_BadHeat : PySem.W.kitOne K (.ref C_BadHeat) (.ref C_BadHeat) = some true)
    (K_BadHeat_BadJudges : PySem.W.kitOne K (.ref C_BadHeat) (.ref C_BadJudges) = some false)
    (K_BadHeat_BadEntry : PySem.W.kitOne K (.ref C_BadHeat) (.ref C_BadEntry) = some false)
    (K_BadHeat_BadNumber : PySem.W.kitOne K (.ref C_BadHeat) (.ref C_BadNumber) = some false)
    (K_BadHeat_BadRecord : PySem.W.kitOne K (.ref C_BadHeat) (.ref C_BadRecord) = some false)
    (K_BadHeat_Nothing : PySem.W.kitOne K (.ref C_BadHeat) (.ref C_Nothing) = some false)
    (E1_BadJudges : PySem.W.findIn K (.ref C_BadJudges) "__getattribute__" = some (some (.builtin "BaseException.__getattribute__"))) (E2_BadJudges : PySem.W.findIn K (.ref C_BadJudges) "__getattr__" = some none) (E3_BadJudges : PySem.W.hasDictIn K C_BadJudges = true) (E4_BadJudges : PySem.W.findIn K (.ref C_BadJudges) "__class__" = some (some (.builtin "object.__class__"))) (E5_BadJudges : PySem.W.mroIn K C_BadJudges (.type "object") = some true) (V_BadJudges : PySem.W.kitOne K (.ref C_BadJudges) (.type "ValueError") = some true) (X_BadJudges : PySem.W.exmOne K (.ref C_BadJudges) (.ref C_HeatError) = some true)
    (K_BadJudges_BadTime : PySem.W.kitOne K (.ref C_BadJudges) (.ref C_BadTime) = some false)
    (K_BadJudges_BadText : PySem.W.kitOne K (.ref C_BadJudges) (.ref C_BadText) = some false)
    (K_BadJudges_BadRules : PySem.W.kitOne K (.ref C_BadJudges) (.ref C_BadRules) = some false)
    (K_BadJudges_BadHeat : PySem.W.kitOne K (.ref C_BadJudges) (.ref C_BadHeat) = some false)
    (K_BadJudges_BadJudges : PySem.W.kitOne K (.ref C_BadJudges) (.ref C_BadJudges) = some true)
    (K_BadJudges_BadEntry : PySem.W.kitOne K (.ref C_BadJudges) (.ref C_BadEntry) = some false)
    (K_BadJudges_BadNumber : PySem.W.kitOne K (.ref C_BadJudges) (.ref C_BadNumber) = some false)
    (K_BadJudges_BadRecord : PySem.W.kitOne K (.ref C_BadJudges) (.ref C_BadRecord) = some false)
    (K_BadJudges_Nothing : PySem.W.kitOne K (.ref C_BadJudges) (.ref C_Nothing) = some false)
    (E1_BadEntry : PySem.W.findIn K (.ref C_BadEntry) "__getattribute__" = some (some (.builtin "BaseException.__getattribute__"))) (E2_BadEntry : PySem.W.findIn K (.ref C_BadEntry) "__getattr__" = some none) (E3_BadEntry : PySem.W.hasDictIn K C_BadEntry = true) (E4_BadEntry : PySem.W.findIn K (.ref C_BadEntry) "__class__" = some (some (.builtin "object.__class__"))) (E5_BadEntry : PySem.W.mroIn K C_BadEntry (.type "object") = some true) (V_BadEntry : PySem.W.kitOne K (.ref C_BadEntry) (.type "ValueError") = some true) (X_BadEntry : PySem.W.exmOne K (.ref C_BadEntry) (.ref C_HeatError) = some true)
    (K_BadEntry_BadTime : PySem.W.kitOne K (.ref C_BadEntry) (.ref C_BadTime) = some false)
    (K_BadEntry_BadText : PySem.W.kitOne K (.ref C_BadEntry) (.ref C_BadText) = some false)
    (K_BadEntry_BadRules : PySem.W.kitOne K (.ref C_BadEntry) (.ref C_BadRules) = some false)
    (K_BadEntry_BadHeat : PySem.W.kitOne K (.ref C_BadEntry) (.ref C_BadHeat) = some false)
    (K_BadEntry_BadJudges : PySem.W.kitOne K (.ref C_BadEntry) (.ref C_BadJudges) = some false)
    (K_BadEntry_BadEntry : PySem.W.kitOne K (.ref C_BadEntry) (.ref C_BadEntry) = some true)
    (K_BadEntry_BadNumber : PySem.W.kitOne K (.ref C_BadEntry) (.ref C_BadNumber) = some false)
    (K_BadEntry_BadRecord : PySem.W.kitOne K (.ref C_BadEntry) (.ref C_BadRecord) = some false)
    (K_BadEntry_Nothing : PySem.W.kitOne K (.ref C_BadEntry) (.ref C_Nothing) = some false)
    (E1_BadNumber : PySem.W.findIn K (.ref C_BadNumber) "__getattribute__" = some (some (.builtin "BaseException.__getattribute__"))) (E2_BadNumber : PySem.W.findIn K (.ref C_BadNumber) "__getattr__" = some none) (E3_BadNumber : PySem.W.hasDictIn K C_BadNumber = true) (E4_BadNumber : PySem.W.findIn K (.ref C_BadNumber) "__class__" = some (some (.builtin "object.__class__"))) (E5_BadNumber : PySem.W.mroIn K C_BadNumber (.type "object") = some true) (V_BadNumber : PySem.W.kitOne K (.ref C_BadNumber) (.type "ValueError") = some true) (X_BadNumber : PySem.W.exmOne K (.ref C_BadNumber) (.ref C_HeatError) = some true)
    (K_BadNumber_BadTime : PySem.W.kitOne K (.ref C_BadNumber) (.ref C_BadTime) = some false)
    (K_BadNumber_BadText : PySem.W.kitOne K (.ref C_BadNumber) (.ref C_BadText) = some false)
    (K_BadNumber_BadRules : PySem.W.kitOne K (.ref C_BadNumber) (.ref C_BadRules) = some false)
    (K_BadNumber_BadHeat : PySem.W.kitOne K (.ref C_BadNumber) (.ref C_BadHeat) = some false)
    (K_BadNumber_BadJudges : PySem.W.kitOne K (.ref C_BadNumber) (.ref C_BadJudges) = some false)
    (K_BadNumber_BadEntry : PySem.W.kitOne K (.ref C_BadNumber) (.ref C_BadEntry) = some false)
    (K_BadNumber_BadNumber : PySem.W.kitOne K (.ref C_BadNumber) (.ref C_BadNumber) = some true)
    (K_BadNumber_BadRecord : PySem.W.kitOne K (.ref C_BadNumber) (.ref C_BadRecord) = some false)
    (K_BadNumber_Nothing : PySem.W.kitOne K (.ref C_BadNumber) (.ref C_Nothing) = some false)
    (E1_BadRecord : PySem.W.findIn K (.ref C_BadRecord) "__getattribute__" = some (some (.builtin "BaseException.__getattribute__"))) (E2_BadRecord : PySem.W.findIn K (.ref C_BadRecord) "__getattr__" = some none) (E3_BadRecord : PySem.W.hasDictIn K C_BadRecord = true) (E4_BadRecord : PySem.W.findIn K (.ref C_BadRecord) "__class__" = some (some (.builtin "object.__class__"))) (E5_BadRecord : PySem.W.mroIn K C_BadRecord (.type "object") = some true) (V_BadRecord : PySem.W.kitOne K (.ref C_BadRecord) (.type "ValueError") = some true) (X_BadRecord : PySem.W.exmOne K (.ref C_BadRecord) (.ref C_HeatError) = some true)
    (K_BadRecord_BadTime : PySem.W.kitOne K (.ref C_BadRecord) (.ref C_BadTime) = some false)
    (K_BadRecord_BadText : PySem.W.kitOne K (.ref C_BadRecord) (.ref C_BadText) = some false)
    (K_BadRecord_BadRules : PySem.W.kitOne K (.ref C_BadRecord) (.ref C_BadRules) = some false)
    (K_BadRecord_BadHeat : PySem.W.kitOne K (.ref C_BadRecord) (.ref C_BadHeat) = some false)
    (K_BadRecord_BadJudges : PySem.W.kitOne K (.ref C_BadRecord) (.ref C_BadJudges) = some false)
    (K_BadRecord_BadEntry : PySem.W.kitOne K (.ref C_BadRecord) (.ref C_BadEntry) = some false)
    (K_BadRecord_BadNumber : PySem.W.kitOne K (.ref C_BadRecord) (.ref C_BadNumber) = some false)
    (K_BadRecord_BadRecord : PySem.W.kitOne K (.ref C_BadRecord) (.ref C_BadRecord) = some true)
    (K_BadRecord_Nothing : PySem.W.kitOne K (.ref C_BadRecord) (.ref C_Nothing) = some false)
    (E1_Nothing : PySem.W.findIn K (.ref C_Nothing) "__getattribute__" = some (some (.builtin "BaseException.__getattribute__"))) (E2_Nothing : PySem.W.findIn K (.ref C_Nothing) "__getattr__" = some none) (E3_Nothing : PySem.W.hasDictIn K C_Nothing = true) (E4_Nothing : PySem.W.findIn K (.ref C_Nothing) "__class__" = some (some (.builtin "object.__class__"))) (E5_Nothing : PySem.W.mroIn K C_Nothing (.type "object") = some true) (V_Nothing : PySem.W.kitOne K (.ref C_Nothing) (.type "ValueError") = some true) (X_Nothing : PySem.W.exmOne K (.ref C_Nothing) (.ref C_HeatError) = some true)
    (K_Nothing_BadTime : PySem.W.kitOne K (.ref C_Nothing) (.ref C_BadTime) = some false)
    (K_Nothing_BadText : PySem.W.kitOne K (.ref C_Nothing) (.ref C_BadText) = some false)
    (K_Nothing_BadRules : PySem.W.kitOne K (.ref C_Nothing) (.ref C_BadRules) = some false)
    (K_Nothing_BadHeat : PySem.W.kitOne K (.ref C_Nothing) (.ref C_BadHeat) = some false)
    (K_Nothing_BadJudges : PySem.W.kitOne K (.ref C_Nothing) (.ref C_BadJudges) = some false)
    (K_Nothing_BadEntry : PySem.W.kitOne K (.ref C_Nothing) (.ref C_BadEntry) = some false)
    (K_Nothing_BadNumber : PySem.W.kitOne K (.ref C_Nothing) (.ref C_BadNumber) = some false)
    (K_Nothing_BadRecord : PySem.W.kitOne K (.ref C_Nothing) (.ref C_BadRecord) = some false)
    (K_Nothing_Nothing : PySem.W.kitOne K (.ref C_Nothing) (.ref C_Nothing) = some true)
    (En : PySem.W.specialIn K (.builtin "object.__class__") "__get__" = some (some (.builtin "getset_descriptor.__get__"))) (Et : PySem.W.takesIn K (.builtin "object.__class__") = some true) :
    Mr.LawAtG l w K 8 63 "_law_script" mg fa h := by
  have e := hfa.symm.trans (PySem.W.mg_of X G a_law)
  cases e
  letI : TabsOf := ⟨[(P__law_none_let, (("_law_none_let" : Str) ++ ".<locals>.") ++ "<lambda>")]⟩
  have z_ValueError := PySem.W.mg_none_of X G z_ValueError
  have z_all := PySem.W.mg_none_of X G z_all
  have z_bool := PySem.W.mg_none_of X G z_bool
  have z_enumerate := PySem.W.mg_none_of X G z_enumerate
  have z_int := PySem.W.mg_none_of X G z_int
  have z_isinstance := PySem.W.mg_none_of X G z_isinstance
  have z_len := PySem.W.mg_none_of X G z_len
  have z_list := PySem.W.mg_none_of X G z_list
  have z_max := PySem.W.mg_none_of X G z_max
  have z_min := PySem.W.mg_none_of X G z_min
  have z_range := PySem.W.mg_none_of X G z_range
  have z_str := PySem.W.mg_none_of X G z_str
  have z_sum := PySem.W.mg_none_of X G z_sum
  have z_tuple := PySem.W.mg_none_of X G z_tuple
  have c_LETTERS := (⟨t_LETTERS, PySem.W.mg_of X G c_LETTERS⟩ : ∃ t, mg "LETTERS" = some (.str "abcdefghijklmnopqrstuvwxyz" t))
  have c_MOST_TIME := (⟨t_MOST_TIME, PySem.W.mg_of X G c_MOST_TIME⟩ : ∃ t, mg "MOST_TIME" = some (.int 359999 t))
  have c_SORTS := CTup.of (PySem.W.mg_of X G c_SORTS) lo_SORTS CT_SORTS
  have M_BadEntry := PySem.W.mg_of X G m_BadEntry
  have M_BadHeat := PySem.W.mg_of X G m_BadHeat
  have M_BadJudges := PySem.W.mg_of X G m_BadJudges
  have M_BadNumber := PySem.W.mg_of X G m_BadNumber
  have M_BadRecord := PySem.W.mg_of X G m_BadRecord
  have M_BadRules := PySem.W.mg_of X G m_BadRules
  have M_BadText := PySem.W.mg_of X G m_BadText
  have M_BadTime := PySem.W.mg_of X G m_BadTime
  have M_Nothing := PySem.W.mg_of X G m_Nothing
  have M_HeatError := PySem.W.mg_of X G m_HeatError
  have x_BadEntry : Exn K mg "BadEntry" := ⟨C_BadEntry, M_BadEntry, q_BadEntry, kk_BadEntry, s_BadEntry, t_BadEntry⟩
  have x_BadHeat : Exn K mg "BadHeat" := ⟨C_BadHeat, M_BadHeat, q_BadHeat, kk_BadHeat, s_BadHeat, t_BadHeat⟩
  have x_BadJudges : Exn K mg "BadJudges" := ⟨C_BadJudges, M_BadJudges, q_BadJudges, kk_BadJudges, s_BadJudges, t_BadJudges⟩
  have x_BadNumber : Exn K mg "BadNumber" := ⟨C_BadNumber, M_BadNumber, q_BadNumber, kk_BadNumber, s_BadNumber, t_BadNumber⟩
  have x_BadRecord : Exn K mg "BadRecord" := ⟨C_BadRecord, M_BadRecord, q_BadRecord, kk_BadRecord, s_BadRecord, t_BadRecord⟩
  have x_BadRules : Exn K mg "BadRules" := ⟨C_BadRules, M_BadRules, q_BadRules, kk_BadRules, s_BadRules, t_BadRules⟩
  have x_BadText : Exn K mg "BadText" := ⟨C_BadText, M_BadText, q_BadText, kk_BadText, s_BadText, t_BadText⟩
  have x_BadTime : Exn K mg "BadTime" := ⟨C_BadTime, M_BadTime, q_BadTime, kk_BadTime, s_BadTime, t_BadTime⟩
  have x_Nothing : Exn K mg "Nothing" := ⟨C_Nothing, M_Nothing, q_Nothing, kk_Nothing, s_Nothing, t_Nothing⟩
  have hn : ∀ c ∈ wn, ∀ C, mg c = some (.ref C) → WTp K mg wn C c ∧ PySem.W.exmOne K (.ref C) (.ref C_HeatError) = some true :=
    (fa_cons (fun C hC => by
      cases hC.symm.trans M_BadTime
      exact ⟨⟨by decide, ⟨E1_BadTime, E2_BadTime, s_BadTime, E3_BadTime, E4_BadTime, En, Et, E5_BadTime⟩, (fa_cons ⟨_, M_BadTime, K_BadTime_BadTime.trans (by decide)⟩ (fa_cons ⟨_, M_BadText, K_BadTime_BadText.trans (by decide)⟩ (fa_cons ⟨_, M_BadRules, K_BadTime_BadRules.trans (by decide)⟩ (fa_cons ⟨_, M_BadHeat, K_BadTime_BadHeat.trans (by decide)⟩ (fa_cons ⟨_, M_BadJudges, K_BadTime_BadJudges.trans (by decide)⟩ (fa_cons ⟨_, M_BadEntry, K_BadTime_BadEntry.trans (by decide)⟩ (fa_cons ⟨_, M_BadNumber, K_BadTime_BadNumber.trans (by decide)⟩ (fa_cons ⟨_, M_BadRecord, K_BadTime_BadRecord.trans (by decide)⟩ (fa_cons ⟨_, M_Nothing, K_BadTime_Nothing.trans (by decide)⟩ fa_nil))))))))), V_BadTime⟩, X_BadTime⟩) (fa_cons (fun C hC => by
      cases hC.symm.trans M_BadText
      exact ⟨⟨by decide, ⟨E1_BadText, E2_BadText, s_BadText, E3_BadText, E4_BadText, En, Et, E5_BadText⟩, (fa_cons ⟨_, M_BadTime, K_BadText_BadTime.trans (by decide)⟩ (fa_cons ⟨_, M_BadText, K_BadText_BadText.trans (by decide)⟩ (fa_cons ⟨_, M_BadRules, K_BadText_BadRules.trans (by decide)⟩ (fa_cons ⟨_, M_BadHeat, K_BadText_BadHeat.trans (by decide)⟩ (fa_cons ⟨_, M_BadJudges, K_BadText_BadJudges.trans (by decide)⟩ (fa_cons ⟨_, M_BadEntry, K_BadText_BadEntry.trans (by decide)⟩ (fa_cons ⟨_, M_BadNumber, K_BadText_BadNumber.trans (by decide)⟩ (fa_cons ⟨_, M_BadRecord, K_BadText_BadRecord.trans (by decide)⟩ (fa_cons ⟨_, M_Nothing, K_BadText_Nothing.trans (by decide)⟩ fa_nil))))))))), V_BadText⟩, X_BadText⟩) (fa_cons (fun C hC => by
      cases hC.symm.trans M_BadRules
      exact ⟨⟨by decide, ⟨E1_BadRules, E2_BadRules, s_BadRules, E3_BadRules, E4_BadRules, En, Et, E5_BadRules⟩, (fa_cons ⟨_, M_BadTime, K_BadRules_BadTime.trans (by decide)⟩ (fa_cons ⟨_, M_BadText, K_BadRules_BadText.trans (by decide)⟩ (fa_cons ⟨_, M_BadRules, K_BadRules_BadRules.trans (by decide)⟩ (fa_cons ⟨_, M_BadHeat, K_BadRules_BadHeat.trans (by decide)⟩ (fa_cons ⟨_, M_BadJudges, K_BadRules_BadJudges.trans (by decide)⟩ (fa_cons ⟨_, M_BadEntry, K_BadRules_BadEntry.trans (by decide)⟩ (fa_cons ⟨_, M_BadNumber, K_BadRules_BadNumber.trans (by decide)⟩ (fa_cons ⟨_, M_BadRecord, K_BadRules_BadRecord.trans (by decide)⟩ (fa_cons ⟨_, M_Nothing, K_BadRules_Nothing.trans (by decide)⟩ fa_nil))))))))), V_BadRules⟩, X_BadRules⟩) (fa_cons (fun C hC => by
      cases hC.symm.trans M_BadHeat
      exact ⟨⟨by decide, ⟨E1_BadHeat, E2_BadHeat, s_BadHeat, E3_BadHeat, E4_BadHeat, En, Et, E5_BadHeat⟩, (fa_cons ⟨_, M_BadTime, K_BadHeat_BadTime.trans (by decide)⟩ (fa_cons ⟨_, M_BadText, K_BadHeat_BadText.trans (by decide)⟩ (fa_cons ⟨_, M_BadRules, K_BadHeat_BadRules.trans (by decide)⟩ (fa_cons ⟨_, M_BadHeat, K_BadHeat_BadHeat.trans (by decide)⟩ (fa_cons ⟨_, M_BadJudges, K_BadHeat_BadJudges.trans (by decide)⟩ (fa_cons ⟨_, M_BadEntry, K_BadHeat_BadEntry.trans (by decide)⟩ (fa_cons ⟨_, M_BadNumber, K_BadHeat_BadNumber.trans (by decide)⟩ (fa_cons ⟨_, M_BadRecord, K_BadHeat_BadRecord.trans (by decide)⟩ (fa_cons ⟨_, M_Nothing, K_BadHeat_Nothing.trans (by decide)⟩ fa_nil))))))))), V_BadHeat⟩, X_BadHeat⟩) (fa_cons (fun C hC => by
      cases hC.symm.trans M_BadJudges
      exact ⟨⟨by decide, ⟨E1_BadJudges, E2_BadJudges, s_BadJudges, E3_BadJudges, E4_BadJudges, En, Et, E5_BadJudges⟩, (fa_cons ⟨_, M_BadTime, K_BadJudges_BadTime.trans (by decide)⟩ (fa_cons ⟨_, M_BadText, K_BadJudges_BadText.trans (by decide)⟩ (fa_cons ⟨_, M_BadRules, K_BadJudges_BadRules.trans (by decide)⟩ (fa_cons ⟨_, M_BadHeat, K_BadJudges_BadHeat.trans (by decide)⟩ (fa_cons ⟨_, M_BadJudges, K_BadJudges_BadJudges.trans (by decide)⟩ (fa_cons ⟨_, M_BadEntry, K_BadJudges_BadEntry.trans (by decide)⟩ (fa_cons ⟨_, M_BadNumber, K_BadJudges_BadNumber.trans (by decide)⟩ (fa_cons ⟨_, M_BadRecord, K_BadJudges_BadRecord.trans (by decide)⟩ (fa_cons ⟨_, M_Nothing, K_BadJudges_Nothing.trans (by decide)⟩ fa_nil))))))))), V_BadJudges⟩, X_BadJudges⟩) (fa_cons (fun C hC => by
      cases hC.symm.trans M_BadEntry
      exact ⟨⟨by decide, ⟨E1_BadEntry, E2_BadEntry, s_BadEntry, E3_BadEntry, E4_BadEntry, En, Et, E5_BadEntry⟩, (fa_cons ⟨_, M_BadTime, K_BadEntry_BadTime.trans (by decide)⟩ (fa_cons ⟨_, M_BadText, K_BadEntry_BadText.trans (by decide)⟩ (fa_cons ⟨_, M_BadRules, K_BadEntry_BadRules.trans (by decide)⟩ (fa_cons ⟨_, M_BadHeat, K_BadEntry_BadHeat.trans (by decide)⟩ (fa_cons ⟨_, M_BadJudges, K_BadEntry_BadJudges.trans (by decide)⟩ (fa_cons ⟨_, M_BadEntry, K_BadEntry_BadEntry.trans (by decide)⟩ (fa_cons ⟨_, M_BadNumber, K_BadEntry_BadNumber.trans (by decide)⟩ (fa_cons ⟨_, M_BadRecord, K_BadEntry_BadRecord.trans (by decide)⟩ (fa_cons ⟨_, M_Nothing, K_BadEntry_Nothing.trans (by decide)⟩ fa_nil))))))))), V_BadEntry⟩, X_BadEntry⟩) (fa_cons (fun C hC => by
      cases hC.symm.trans M_BadNumber
      exact ⟨⟨by decide, ⟨E1_BadNumber, E2_BadNumber, s_BadNumber, E3_BadNumber, E4_BadNumber, En, Et, E5_BadNumber⟩, (fa_cons ⟨_, M_BadTime, K_BadNumber_BadTime.trans (by decide)⟩ (fa_cons ⟨_, M_BadText, K_BadNumber_BadText.trans (by decide)⟩ (fa_cons ⟨_, M_BadRules, K_BadNumber_BadRules.trans (by decide)⟩ (fa_cons ⟨_, M_BadHeat, K_BadNumber_BadHeat.trans (by decide)⟩ (fa_cons ⟨_, M_BadJudges, K_BadNumber_BadJudges.trans (by decide)⟩ (fa_cons ⟨_, M_BadEntry, K_BadNumber_BadEntry.trans (by decide)⟩ (fa_cons ⟨_, M_BadNumber, K_BadNumber_BadNumber.trans (by decide)⟩ (fa_cons ⟨_, M_BadRecord, K_BadNumber_BadRecord.trans (by decide)⟩ (fa_cons ⟨_, M_Nothing, K_BadNumber_Nothing.trans (by decide)⟩ fa_nil))))))))), V_BadNumber⟩, X_BadNumber⟩) (fa_cons (fun C hC => by
      cases hC.symm.trans M_BadRecord
      exact ⟨⟨by decide, ⟨E1_BadRecord, E2_BadRecord, s_BadRecord, E3_BadRecord, E4_BadRecord, En, Et, E5_BadRecord⟩, (fa_cons ⟨_, M_BadTime, K_BadRecord_BadTime.trans (by decide)⟩ (fa_cons ⟨_, M_BadText, K_BadRecord_BadText.trans (by decide)⟩ (fa_cons ⟨_, M_BadRules, K_BadRecord_BadRules.trans (by decide)⟩ (fa_cons ⟨_, M_BadHeat, K_BadRecord_BadHeat.trans (by decide)⟩ (fa_cons ⟨_, M_BadJudges, K_BadRecord_BadJudges.trans (by decide)⟩ (fa_cons ⟨_, M_BadEntry, K_BadRecord_BadEntry.trans (by decide)⟩ (fa_cons ⟨_, M_BadNumber, K_BadRecord_BadNumber.trans (by decide)⟩ (fa_cons ⟨_, M_BadRecord, K_BadRecord_BadRecord.trans (by decide)⟩ (fa_cons ⟨_, M_Nothing, K_BadRecord_Nothing.trans (by decide)⟩ fa_nil))))))))), V_BadRecord⟩, X_BadRecord⟩) (fa_cons (fun C hC => by
      cases hC.symm.trans M_Nothing
      exact ⟨⟨by decide, ⟨E1_Nothing, E2_Nothing, s_Nothing, E3_Nothing, E4_Nothing, En, Et, E5_Nothing⟩, (fa_cons ⟨_, M_BadTime, K_Nothing_BadTime.trans (by decide)⟩ (fa_cons ⟨_, M_BadText, K_Nothing_BadText.trans (by decide)⟩ (fa_cons ⟨_, M_BadRules, K_Nothing_BadRules.trans (by decide)⟩ (fa_cons ⟨_, M_BadHeat, K_Nothing_BadHeat.trans (by decide)⟩ (fa_cons ⟨_, M_BadJudges, K_Nothing_BadJudges.trans (by decide)⟩ (fa_cons ⟨_, M_BadEntry, K_Nothing_BadEntry.trans (by decide)⟩ (fa_cons ⟨_, M_BadNumber, K_Nothing_BadNumber.trans (by decide)⟩ (fa_cons ⟨_, M_BadRecord, K_Nothing_BadRecord.trans (by decide)⟩ (fa_cons ⟨_, M_Nothing, K_Nothing_Nothing.trans (by decide)⟩ fa_nil))))))))), V_Nothing⟩, X_Nothing⟩) fa_nil)))))))))
  refine ⟨PySem.W.fnOf "law" "law" (defArgs s_law) (defBody s_law) (defScope s_law) .none kV_law dc_law pm_law an_law cd_law ct_law, [(c__law_none_let, P__law_none_let)], Mr.SpL m_law K, (fa_cons (FR "_law_none_let" f__law_none_let rec__law_none_let (PySem.W.mg_of X G a__law_none_let) c__law_none_let P__law_none_let _ _ _ _ _ _ l__law_none_let rfl rfl lc__law_none_let v11__law_none_let) fa_nil), (fa_cons np__law_none_let fa_nil), (fa_cons (PySem.W.codeHd_of_K X hd__law_none_let) fa_nil), fun s v => .of_eq rfl, fun H a ns hl hb hT hS => Mr.law_sp (by decide) LW.math H a ns hl hb (Mh.tb_of hT (fa_cons ⟨(c__law_none_let, P__law_none_let), by simp, rfl⟩ fa_nil)) hS, fun base KB GB TB => ?_⟩
  have TB__law_none_let : LamX.TabB base mg c__law_none_let P__law_none_let := TB (c__law_none_let, P__law_none_let) (by simp)
  have mT__law_none_let : (P__law_none_let, (("_law_none_let" : Str) ++ ".<locals>.") ++ "<lambda>") ∈ TabsOf.T := by show _ ∈ [(P__law_none_let, (("_law_none_let" : Str) ++ ".<locals>.") ++ "<lambda>")]; simp
  have uT__law_none_let : ∀ p ∈ TabsOf.T, p.1 = P__law_none_let → p.2 = (("_law_none_let" : Str) ++ ".<locals>.") ++ "<lambda>" := (fa_cons (fun _ => rfl) fa_nil)
  have h__law_drawn := ok__law_drawn (P := l.prog) (w := w) (mg := mg) (base := base) (fun_mk (st := s__law_drawn) l__law_drawn e__law_drawn k__law_drawn) (PySem.W.mg_of X G a__law_drawn) 
  have h__law_cell := ok__law_cell (P := l.prog) (w := w) (mg := mg) (base := base) (fun_mk (st := s__law_cell) l__law_cell e__law_cell k__law_cell) (PySem.W.mg_of X G a__law_cell) z_len
  have Fn__law_word := fun_mk (st := s__law_word) l__law_word e__law_word k__law_word
  have Fw := ok__law_word (P := l.prog) (w := w) (mg := mg) (base := base) Fn__law_word z_ValueError z_int z_isinstance z_sum
  have h__law_told := ok__law_told (P := l.prog) (w := w) (mg := mg) (base := base) (fun_mk (st := s__law_told) l__law_told e__law_told k__law_told) (PySem.W.mg_of X G a__law_told) M_HeatError (PySem.W.mg_of X G a__law_word) Fn__law_word Fw hn
  have h_is_count := ok_is_count (P := l.prog) (w := w) (mg := mg) (base := base) (fun_mk (st := s_is_count) l_is_count e_is_count k_is_count) (PySem.W.mg_of X G a_is_count) z_bool z_int z_isinstance
  have h_is_time := ok_is_time (P := l.prog) (w := w) (mg := mg) (base := base) (fun_mk (st := s_is_time) l_is_time e_is_time k_is_time) (PySem.W.mg_of X G a_is_time) h_is_count c_MOST_TIME
  have h_is_name := ok_is_name (P := l.prog) (w := w) (mg := mg) (base := base) (fun_mk (st := s_is_name) l_is_name e_is_name k_is_name) (PySem.W.mg_of X G a_is_name) z_all z_isinstance z_len z_str c_LETTERS
  have h_need_record := ok_need_record (P := l.prog) (w := w) (mg := mg) (base := base) (fun_mk (st := s_need_record) l_need_record e_need_record k_need_record) (PySem.W.mg_of X G a_need_record) h_is_time h_is_name z_all z_isinstance z_len z_tuple x_BadRecord
  have h_need_sorts := ok_need_sorts (P := l.prog) (w := w) (mg := mg) (base := base) (fun_mk (st := s_need_sorts) l_need_sorts e_need_sorts k_need_sorts) (PySem.W.mg_of X G a_need_sorts) z_all z_isinstance z_str z_tuple c_SORTS x_BadRecord
  have h_need_swims := ok_need_swims (P := l.prog) (w := w) (mg := mg) (base := base) (fun_mk (st := s_need_swims) l_need_swims e_need_swims k_need_swims) (PySem.W.mg_of X G a_need_swims) h_is_name h_is_time z_isinstance z_len z_list z_str z_tuple c_SORTS x_BadHeat
  have h_record_behind := ok_record_behind (P := l.prog) (w := w) (mg := mg) (base := base) (fun_mk (st := s_record_behind) l_record_behind e_record_behind k_record_behind) (PySem.W.mg_of X G a_record_behind) z_min z_tuple
  have h_history := ok_history (P := l.prog) (w := w) (mg := mg) (base := base) (fun_mk (st := s_history) l_history e_history k_history) (PySem.W.mg_of X G a_history) h_need_record h_need_sorts h_need_swims h_record_behind z_isinstance z_list x_BadHeat
  have h_behind := ok_behind (P := l.prog) (w := w) (mg := mg) (base := base) (fun_mk (st := s_behind) l_behind e_behind k_behind) (PySem.W.mg_of X G a_behind) h_need_record h_need_sorts h_need_swims h_record_behind
  have h__law_none_let := ok__law_none_let (P := l.prog) (w := w) (mg := mg) (base := base) TB__law_none_let mT__law_none_let uT__law_none_let h__law_told h_history h_behind (funC_mk (st := s__law_none_let) l__law_none_let e__law_none_let k__law_none_let) (PySem.W.mg_of X G a__law_none_let)
  have h__law_names := ok__law_names (P := l.prog) (w := w) (mg := mg) (base := base) (fun_mk (st := s__law_names) l__law_names e__law_names k__law_names) (PySem.W.mg_of X G a__law_names) h__law_drawn z_range
  have h__law_time := ok__law_time (P := l.prog) (w := w) (mg := mg) (base := base) (fun_mk (st := s__law_time) l__law_time e__law_time k__law_time) (PySem.W.mg_of X G a__law_time) 
  have h__law_swims := ok__law_swims (P := l.prog) (w := w) (mg := mg) (base := base) (fun_mk (st := s__law_swims) l__law_swims e__law_swims k__law_swims) (PySem.W.mg_of X G a__law_swims) h__law_names h__law_drawn h__law_time z_enumerate
  have h__law_behind := ok__law_behind (P := l.prog) (w := w) (mg := mg) (base := base) (fun_mk (st := s__law_behind) l__law_behind e__law_behind k__law_behind) (PySem.W.mg_of X G a__law_behind) z_min z_tuple
  exact ok_law h__law_drawn h__law_cell h__law_none_let h__law_swims h__law_behind h_behind h__law_time h_history h__law_names z_len z_max z_min z_range z_str z_tuple (funC_mk (st := s_law) l_law e_law k_law)
end LW
open PySem PySem.W PyProof.Rows
set_option maxHeartbeats 0 in
theorem PySem.Challenge.cw_heatclocks_k60_whole_records_holds : PySem.Challenge.rw_heatclocks_k60_whole_records.Holds := by
  w_on; o_law; k_head; (case hw => w_witness2)
  k_fill
  refine Mr.walk_freshG (l := PySem.Challenge.rw_heatclocks_k60_whole_records) (n := 63) (k := 8) (x := "_law_script") rfl (by decide) rfl ⟨rfl, by decide, by decide⟩ (fun w h Y => by first | exact PySem.W.km_in_of Y | exact PySem.W.kIn_of Y) ?F
  case F =>
    intro w mg fa h Y KX G hmg FR
    refine' LW.all_mk KX G hmg FR ?a__law_drawn ?l__law_drawn ?e__law_drawn ?k__law_drawn ?a__law_cell ?l__law_cell ?e__law_cell ?k__law_cell ?a__law_word ?l__law_word ?e__law_word ?k__law_word ?a__law_told ?l__law_told ?e__law_told ?k__law_told ?a_is_count ?l_is_count ?e_is_count ?k_is_count ?a_is_time ?l_is_time ?e_is_time ?k_is_time ?a_is_name ?l_is_name ?e_is_name ?k_is_name ?a_need_record ?l_need_record ?e_need_record ?k_need_record ?a_need_sorts ?l_need_sorts ?e_need_sorts ?k_need_sorts ?a_need_swims ?l_need_swims ?e_need_swims ?k_need_swims ?a_record_behind ?l_record_behind ?e_record_behind ?k_record_behind ?a_history ?l_history ?e_history ?k_history ?a_behind ?l_behind ?e_behind ?k_behind ?a__law_none_let ?l__law_none_let ?e__law_none_let ?k__law_none_let ?lc__law_none_let ?v11__law_none_let ?hd__law_none_let ?np__law_none_let ?rec__law_none_let ?a__law_names ?l__law_names ?e__law_names ?k__law_names ?a__law_time ?l__law_time ?e__law_time ?k__law_time ?a__law_swims ?l__law_swims ?e__law_swims ?k__law_swims ?a__law_behind ?l__law_behind ?e__law_behind ?k__law_behind ?a_law ?l_law ?e_law ?k_law ?z_ValueError ?z_all ?z_bool ?z_enumerate ?z_int ?z_isinstance ?z_len ?z_list ?z_max ?z_min ?z_range ?z_str ?z_sum ?z_tuple ?c_LETTERS ?c_MOST_TIME ?c_SORTS ?lo_SORTS ?CT_SORTS ?m_BadEntry ?m_BadHeat ?m_BadJudges ?m_BadNumber ?m_BadRecord ?m_BadRules ?m_BadText ?m_BadTime ?m_Nothing ?m_HeatError ?q_BadEntry ?kk_BadEntry ?s_BadEntry ?t_BadEntry ?q_BadHeat ?kk_BadHeat ?s_BadHeat ?t_BadHeat ?q_BadJudges ?kk_BadJudges ?s_BadJudges ?t_BadJudges ?q_BadNumber ?kk_BadNumber ?s_BadNumber ?t_BadNumber ?q_BadRecord ?kk_BadRecord ?s_BadRecord ?t_BadRecord ?q_BadRules ?kk_BadRules ?s_BadRules ?t_BadRules ?q_BadText ?kk_BadText ?s_BadText ?t_BadText ?q_BadTime ?kk_BadTime ?s_BadTime ?t_BadTime ?q_Nothing ?kk_Nothing ?s_Nothing ?t_Nothing ?E1_BadTime ?E2_BadTime ?E3_BadTime ?E4_BadTime ?E5_BadTime ?V_BadTime ?X_BadTime ?K_BadTime_BadTime ?K_BadTime_BadText ?K_BadTime_BadRules ?K_BadTime_BadHeat ?K_BadTime_BadJudges ?K_BadTime_BadEntry ?K_BadTime_BadNumber ?K_BadTime_BadRecord ?K_BadTime_Nothing ?E1_BadText ?E2_BadText ?E3_BadText ?E4_BadText ?E5_BadText ?V_BadText ?X_BadText ?K_BadText_BadTime ?K_BadText_BadText ?K_BadText_BadRules ?K_BadText_BadHeat ?K_BadText_BadJudges ?K_BadText_BadEntry ?K_BadText_BadNumber ?K_BadText_BadRecord ?K_BadText_Nothing ?E1_BadRules ?E2_BadRules ?E3_BadRules ?E4_BadRules ?E5_BadRules ?V_BadRules ?X_BadRules ?K_BadRules_BadTime ?K_BadRules_BadText ?K_BadRules_BadRules ?K_BadRules_BadHeat ?K_BadRules_BadJudges ?K_BadRules_BadEntry ?K_BadRules_BadNumber ?K_BadRules_BadRecord ?K_BadRules_Nothing ?E1_BadHeat ?E2_BadHeat ?E3_BadHeat ?E4_BadHeat ?E5_BadHeat ?V_BadHeat ?X_BadHeat ?K_BadHeat_BadTime ?K_BadHeat_BadText ?K_BadHeat_BadRules ?K_BadHeat_BadHeat ?K_BadHeat_BadJudges ?K_BadHeat_BadEntry ?K_BadHeat_BadNumber ?K_BadHeat_BadRecord ?K_BadHeat_Nothing ?E1_BadJudges ?E2_BadJudges ?E3_BadJudges ?E4_BadJudges ?E5_BadJudges ?V_BadJudges ?X_BadJudges ?K_BadJudges_BadTime ?K_BadJudges_BadText ?K_BadJudges_BadRules ?K_BadJudges_BadHeat ?K_BadJudges_BadJudges ?K_BadJudges_BadEntry ?K_BadJudges_BadNumber ?K_BadJudges_BadRecord ?K_BadJudges_Nothing ?E1_BadEntry ?E2_BadEntry ?E3_BadEntry ?E4_BadEntry ?E5_BadEntry ?V_BadEntry ?X_BadEntry ?K_BadEntry_BadTime ?K_BadEntry_BadText ?K_BadEntry_BadRules ?K_BadEntry_BadHeat ?K_BadEntry_BadJudges ?K_BadEntry_BadEntry ?K_BadEntry_BadNumber ?K_BadEntry_BadRecord ?K_BadEntry_Nothing ?E1_BadNumber ?E2_BadNumber ?E3_BadNumber ?E4_BadNumber ?E5_BadNumber ?V_BadNumber ?X_BadNumber ?K_BadNumber_BadTime ?K_BadNumber_BadText ?K_BadNumber_BadRules ?K_BadNumber_BadHeat ?K_BadNumber_BadJudges ?K_BadNumber_BadEntry ?K_BadNumber_BadNumber ?K_BadNumber_BadRecord ?K_BadNumber_Nothing ?E1_BadRecord ?E2_BadRecord ?E3_BadRecord ?E4_BadRecord ?E5_BadRecord ?V_BadRecord ?X_BadRecord ?K_BadRecord_BadTime ?K_BadRecord_BadText ?K_BadRecord_BadRules ?K_BadRecord_BadHeat ?K_BadRecord_BadJudges ?K_BadRecord_BadEntry ?K_BadRecord_BadNumber ?K_BadRecord_BadRecord ?K_BadRecord_Nothing ?E1_Nothing ?E2_Nothing ?E3_Nothing ?E4_Nothing ?E5_Nothing ?V_Nothing ?X_Nothing ?K_Nothing_BadTime ?K_Nothing_BadText ?K_Nothing_BadRules ?K_Nothing_BadHeat ?K_Nothing_BadJudges ?K_Nothing_BadEntry ?K_Nothing_BadNumber ?K_Nothing_BadRecord ?K_Nothing_Nothing ?En ?Et
    (case a__law_drawn => k_is); (case l__law_drawn => k_is); (case e__law_drawn => k_is); (case k__law_drawn => k_is); (case a__law_cell => k_is); (case l__law_cell => k_is); (case e__law_cell => k_is); (case k__law_cell => k_is); (case a__law_word => k_is); (case l__law_word => k_is); (case e__law_word => k_is); (case k__law_word => k_is); (case a__law_told => k_is); (case l__law_told => k_is); (case e__law_told => k_is); (case k__law_told => k_is); (case a_is_count => k_is); (case l_is_count => k_is); (case e_is_count => k_is); (case k_is_count => k_is); (case a_is_time => k_is); (case l_is_time => k_is); (case e_is_time => k_is); (case k_is_time => k_is); (case a_is_name => k_is); (case l_is_name => k_is); (case e_is_name => k_is); (case k_is_name => k_is); (case a_need_record => k_is); (case l_need_record => k_is); (case e_need_record => k_is); (case k_need_record => k_is); (case a_need_sorts => k_is); (case l_need_sorts => k_is); (case e_need_sorts => k_is); (case k_need_sorts => k_is); (case a_need_swims => k_is); (case l_need_swims => k_is); (case e_need_swims => k_is); (case k_need_swims => k_is); (case a_record_behind => k_is); (case l_record_behind => k_is); (case e_record_behind => k_is); (case k_record_behind => k_is); (case a_history => k_is); (case l_history => k_is); (case e_history => k_is); (case k_history => k_is); (case a_behind => k_is); (case l_behind => k_is); (case e_behind => k_is); (case k_behind => k_is); (case a__law_none_let => k_is); (case l__law_none_let => k_is); (case e__law_none_let => k_is); (case k__law_none_let => k_is); (case lc__law_none_let => k_is); (case v11__law_none_let => rfl); (case hd__law_none_let => (first | k_is | exact rfl | decide)); (case np__law_none_let => (first | exact rfl | decide | simp)); (case rec__law_none_let => (first | exact rfl | decide +kernel)); (case a__law_names => k_is); (case l__law_names => k_is); (case e__law_names => k_is); (case k__law_names => k_is); (case a__law_time => k_is); (case l__law_time => k_is); (case e__law_time => k_is); (case k__law_time => k_is); (case a__law_swims => k_is); (case l__law_swims => k_is); (case e__law_swims => k_is); (case k__law_swims => k_is); (case a__law_behind => k_is); (case l__law_behind => k_is); (case e__law_behind => k_is); (case k__law_behind => k_is); (case a_law => k_is); (case l_law => k_is); (case e_law => k_is); (case k_law => k_is); (case z_ValueError => k_is); (case z_all => k_is); (case z_bool => k_is); (case z_enumerate => k_is); (case z_int => k_is); (case z_isinstance => k_is); (case z_len => k_is); (case z_list => k_is); (case z_max => k_is); (case z_min => k_is); (case z_range => k_is); (case z_str => k_is); (case z_sum => k_is); (case z_tuple => k_is); (case c_LETTERS => k_is); (case c_MOST_TIME => k_is); (case c_SORTS => k_is); (case lo_SORTS => k_is); (case CT_SORTS => (first | decide +kernel | exact rfl)); (case m_BadEntry => k_is); (case m_BadHeat => k_is); (case m_BadJudges => k_is); (case m_BadNumber => k_is); (case m_BadRecord => k_is); (case m_BadRules => k_is); (case m_BadText => k_is); (case m_BadTime => k_is); (case m_Nothing => k_is); (case m_HeatError => k_is); (case q_BadEntry => k_exc); (case kk_BadEntry => k_is); (case s_BadEntry => k_is); (case t_BadEntry => k_is); (case q_BadHeat => k_exc); (case kk_BadHeat => k_is); (case s_BadHeat => k_is); (case t_BadHeat => k_is); (case q_BadJudges => k_exc); (case kk_BadJudges => k_is); (case s_BadJudges => k_is); (case t_BadJudges => k_is); (case q_BadNumber => k_exc); (case kk_BadNumber => k_is); (case s_BadNumber => k_is); (case t_BadNumber => k_is); (case q_BadRecord => k_exc); (case kk_BadRecord => k_is); (case s_BadRecord => k_is); (case t_BadRecord => k_is); (case q_BadRules => k_exc); (case kk_BadRules => k_is); (case s_BadRules => k_is); (case t_BadRules => k_is); (case q_BadText => k_exc); (case kk_BadText => k_is); (case s_BadText => k_is); (case t_BadText => k_is); (case q_BadTime => k_exc); (case kk_BadTime => k_is); (case s_BadTime => k_is); (case t_BadTime => k_is); (case q_Nothing => k_exc); (case kk_Nothing => k_is); (case s_Nothing => k_is); (case t_Nothing => k_is); (case E1_BadTime => k_is); (case E2_BadTime => k_is); (case E3_BadTime => k_is); (case E4_BadTime => k_is); (case E5_BadTime => k_is); (case V_BadTime => kit_is); (case X_BadTime => kts_exm); (case K_BadTime_BadTime => kit_is); (case K_BadTime_BadText => kit_is); (case K_BadTime_BadRules => kit_is); (case K_BadTime_BadHeat => kit_is); (case K_BadTime_BadJudges => kit_is); (case K_BadTime_BadEntry => kit_is); (case K_BadTime_BadNumber => kit_is); (case K_BadTime_BadRecord => kit_is); (case K_BadTime_Nothing => kit_is); (case E1_BadText => k_is); (case E2_BadText => k_is); (case E3_BadText => k_is); (case E4_BadText => k_is); (case E5_BadText => k_is); (case V_BadText => kit_is); (case X_BadText => kts_exm); (case K_BadText_BadTime => kit_is); (case K_BadText_BadText => kit_is); (case K_BadText_BadRules => kit_is); (case K_BadText_BadHeat => kit_is); (case K_BadText_BadJudges => kit_is); (case K_BadText_BadEntry => kit_is); (case K_BadText_BadNumber => kit_is); (case K_BadText_BadRecord => kit_is); (case K_BadText_Nothing => kit_is); (case E1_BadRules => k_is); (case E2_BadRules => k_is); (case E3_BadRules => k_is); (case E4_BadRules => k_is); (case E5_BadRules => k_is); (case V_BadRules => kit_is); (case X_BadRules => kts_exm); (case K_BadRules_BadTime => kit_is); (case K_BadRules_BadText => kit_is); (case K_BadRules_BadRules => kit_is); (case K_BadRules_BadHeat => kit_is); (case K_BadRules_BadJudges => kit_is); (case K_BadRules_BadEntry => kit_is); (case K_BadRules_BadNumber => kit_is); (case K_BadRules_BadRecord => kit_is); (case K_BadRules_Nothing => kit_is); (case E1_BadHeat => k_is); (case E2_BadHeat => k_is); (case E3_BadHeat => k_is); (case E4_BadHeat => k_is); (case E5_BadHeat => k_is); (case V_BadHeat => kit_is); (case X_BadHeat => kts_exm); (case K_BadHeat_BadTime => kit_is); (case K_BadHeat_BadText => kit_is); (case K_BadHeat_BadRules => kit_is); (case K_BadHeat_BadHeat => kit_is); (case K_BadHeat_BadJudges => kit_is); (case K_BadHeat_BadEntry => kit_is); (case K_BadHeat_BadNumber => kit_is); (case K_BadHeat_BadRecord => kit_is); (case K_BadHeat_Nothing => kit_is); (case E1_BadJudges => k_is); (case E2_BadJudges => k_is); (case E3_BadJudges => k_is); (case E4_BadJudges => k_is); (case E5_BadJudges => k_is); (case V_BadJudges => kit_is); (case X_BadJudges => kts_exm); (case K_BadJudges_BadTime => kit_is); (case K_BadJudges_BadText => kit_is); (case K_BadJudges_BadRules => kit_is); (case K_BadJudges_BadHeat => kit_is); (case K_BadJudges_BadJudges => kit_is); (case K_BadJudges_BadEntry => kit_is); (case K_BadJudges_BadNumber => kit_is); (case K_BadJudges_BadRecord => kit_is); (case K_BadJudges_Nothing => kit_is); (case E1_BadEntry => k_is); (case E2_BadEntry => k_is); (case E3_BadEntry => k_is); (case E4_BadEntry => k_is); (case E5_BadEntry => k_is); (case V_BadEntry => kit_is); (case X_BadEntry => kts_exm); (case K_BadEntry_BadTime => kit_is); (case K_BadEntry_BadText => kit_is); (case K_BadEntry_BadRules => kit_is); (case K_BadEntry_BadHeat => kit_is); (case K_BadEntry_BadJudges => kit_is); (case K_BadEntry_BadEntry => kit_is); (case K_BadEntry_BadNumber => kit_is); (case K_BadEntry_BadRecord => kit_is); (case K_BadEntry_Nothing => kit_is); (case E1_BadNumber => k_is); (case E2_BadNumber => k_is); (case E3_BadNumber => k_is); (case E4_BadNumber => k_is); (case E5_BadNumber => k_is); (case V_BadNumber => kit_is); (case X_BadNumber => kts_exm); (case K_BadNumber_BadTime => kit_is); (case K_BadNumber_BadText => kit_is); (case K_BadNumber_BadRules => kit_is); (case K_BadNumber_BadHeat => kit_is); (case K_BadNumber_BadJudges => kit_is); (case K_BadNumber_BadEntry => kit_is); (case K_BadNumber_BadNumber => kit_is); (case K_BadNumber_BadRecord => kit_is); (case K_BadNumber_Nothing => kit_is); (case E1_BadRecord => k_is); (case E2_BadRecord => k_is); (case E3_BadRecord => k_is); (case E4_BadRecord => k_is); (case E5_BadRecord => k_is); (case V_BadRecord => kit_is); (case X_BadRecord => kts_exm); (case K_BadRecord_BadTime => kit_is); (case K_BadRecord_BadText => kit_is); (case K_BadRecord_BadRules => kit_is); (case K_BadRecord_BadHeat => kit_is); (case K_BadRecord_BadJudges => kit_is); (case K_BadRecord_BadEntry => kit_is); (case K_BadRecord_BadNumber => kit_is); (case K_BadRecord_BadRecord => kit_is); (case K_BadRecord_Nothing => kit_is); (case E1_Nothing => k_is); (case E2_Nothing => k_is); (case E3_Nothing => k_is); (case E4_Nothing => k_is); (case E5_Nothing => k_is); (case V_Nothing => kit_is); (case X_Nothing => kts_exm); (case K_Nothing_BadTime => kit_is); (case K_Nothing_BadText => kit_is); (case K_Nothing_BadRules => kit_is); (case K_Nothing_BadHeat => kit_is); (case K_Nothing_BadJudges => kit_is); (case K_Nothing_BadEntry => kit_is); (case K_Nothing_BadNumber => kit_is); (case K_Nothing_BadRecord => kit_is); (case K_Nothing_Nothing => kit_is); (case En => k_is); (case Et => k_is)

