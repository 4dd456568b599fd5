import PyProof.Rows.All
import Wide.All
import OpenK.AllK
import Wide.FinOn
import HandS.ForMost
import HandS.ForExc
import HandS.Deep
import HandS.TupAny
import HandS.IsInst
import HandS.WrittenGet
import HandS.More
import HandS.RaiseMore
import HandS.FStr
import HandS.Codes
import PySem.Challenge.RW_leastreader_k27_whole_tables
import KE.SortData
import KE.DataMinMax
import HandS.SetKeys
import HandS.DictComp
import HandS.Property
import HandS.Text
import KE.KExcSuper
import HandS.ExcOwn
import KE.GoesMore
import PyProof.Rows.StrIntSpec
import PyProof.FString3
import HandS.DeepEq
import HandS.OwnEq
import KE.KDictCopyH
import KE.KDictList
import HandS.Sort
import HandS.MakeKwOnly
import HandS.TryMany
import HandS.ExcField
import KE.KTryMore
set_option Elab.async false
set_option maxRecDepth 100000
set_option maxHeartbeats 4000000
set_option linter.all false
/-! Data without a heap: D; how a value stands for it: Rp; frames: Env; worlds: Wd; what a reading gives: EvP, EvAP, EvTP. -/
namespace Lr
open PySem L2

inductive D where
  | non
  | bl (b : Bool)
  | int (i : Int)
  | str (x : Str)
  | lst (ds : List D)
  | tup (ds : List D)
  | dic (kvs : List (Str × D))
  | ins (fs : List (Str × D))
  | adr (a : Addr)

def stiff : HO → Bool
  | .tup _ => true
  | .frz _ _ => true
  | _ => false

section
variable (K : PySem.W.Frag) (C : Addr)
mutual
inductive Rp (N : Addr → Prop) (H : Hp) : V → D → Prop
  | non : Rp N H .non .non
  | bl (b : Bool) : Rp N H (.bl b) (.bl b)
  | int (i : Int) : Rp N H (.int i) (.int i)
  | str (x : Str) : Rp N H (.str x) (.str x)
  | adr (a : Addr) : Rp N H (.ref a) (.adr a)
  | lst {a : Addr} {xs : List V} {ds : List D} : N a → H a = some (.lst xs) → RpAll N H xs ds → Rp N H (.ref a) (.lst ds)
  | tup {a : Addr} {xs : List V} {ds : List D} : SqT K H a xs → RpAll N H xs ds → Rp N H (.ref a) (.tup ds)
  | dic {a : Addr} {kvs : List (Key × V)} {ds : List (Str × D)} : N a → H a = some (.dK kvs) → RpKv N H kvs ds → Rp N H (.ref a) (.dic ds)
  | ins {a dx : Addr} {fs : List (Str × V)} {ds : List (Str × D)} : N a → H a = some (.ins C dx fs) → RpF N H fs ds → Rp N H (.ref a) (.ins ds)
inductive RpAll (N : Addr → Prop) (H : Hp) : List V → List D → Prop
  | nil : RpAll N H [] []
  | cons {v : V} {d : D} {vs : List V} {ds : List D} : Rp N H v d → RpAll N H vs ds → RpAll N H (v :: vs) (d :: ds)
inductive RpKv (N : Addr → Prop) (H : Hp) : List (Key × V) → List (Str × D) → Prop
  | nil : RpKv N H [] []
  | cons {k : Str} {v : V} {d : D} {vs : List (Key × V)} {ds : List (Str × D)} : Rp N H v d → RpKv N H vs ds → RpKv N H ((Sum.inr k, v) :: vs) ((k, d) :: ds)
inductive RpF (N : Addr → Prop) (H : Hp) : List (Str × V) → List (Str × D) → Prop
  | nil : RpF N H [] []
  | cons {k : Str} {v : V} {d : D} {vs : List (Str × V)} {ds : List (Str × D)} : Rp N H v d → RpF N H vs ds → RpF N H ((k, v) :: vs) ((k, d) :: ds)
end
end

/-- what is carried from one heap to another -/
structure Car (N N' : Addr → Prop) (H H' : Hp) : Prop where
  ns : ∀ a o, H a = some o → N a → H' a = some o ∧ N' a
  st : ∀ a o, H a = some o → stiff o = true → H' a = some o
theorem Car.sqT {N N' : Addr → Prop} {H H' : Hp} (c : Car N N' H H') {K : PySem.W.Frag} {a : Addr} {xs : List V} (h : SqT K H a xs) : SqT K H' a xs := by
  rcases h with (h | ⟨o, h⟩) | h
  · exact .inl (.inl (c.st _ _ h rfl))
  · exact .inl (.inr ⟨o, c.st _ _ h rfl⟩)
  · exact .inr h
section
variable {K : PySem.W.Frag} {C : Addr} {N N' : Addr → Prop} {H H' : Hp}
mutual
theorem Rp.car (c : Car N N' H H') : ∀ {v : V} {d : D}, Rp K C N H v d → Rp K C N' H' v d
  | _, _, .non => .non
  | _, _, .bl b => .bl b
  | _, _, .int i => .int i
  | _, _, .str x => .str x
  | _, _, .adr a => .adr a
  | _, _, .lst n h r => .lst (c.ns _ _ h n).2 (c.ns _ _ h n).1 (RpAll.car c r)
  | _, _, .tup h r => .tup (c.sqT h) (RpAll.car c r)
  | _, _, .dic n h r => .dic (c.ns _ _ h n).2 (c.ns _ _ h n).1 (RpKv.car c r)
  | _, _, .ins n h r => .ins (c.ns _ _ h n).2 (c.ns _ _ h n).1 (RpF.car c r)
theorem RpAll.car (c : Car N N' H H') : ∀ {v : List V} {d : List D}, RpAll K C N H v d → RpAll K C N' H' v d
  | _, _, .nil => .nil
  | _, _, .cons r t => .cons (Rp.car c r) (RpAll.car c t)
theorem RpKv.car (c : Car N N' H H') : ∀ {v : List (Key × V)} {d : List (Str × D)}, RpKv K C N H v d → RpKv K C N' H' v d
  | _, _, .nil => .nil
  | _, _, .cons r t => .cons (Rp.car c r) (RpKv.car c t)
theorem RpF.car (c : Car N N' H H') : ∀ {v : List (Str × V)} {d : List (Str × D)}, RpF K C N H v d → RpF K C N' H' v d
  | _, _, .nil => .nil
  | _, _, .cons r t => .cons (Rp.car c r) (RpF.car c t)
end
end
end Lr
set_option Elab.async false
set_option maxRecDepth 100000
set_option maxHeartbeats 4000000
set_option linter.all false
set_option autoImplicit false
namespace Lr
open PySem L2

section
variable {K : PySem.W.Frag} {C : Addr} {N N' : Addr → Prop} {H H' : Hp}
theorem Same.car (e : Same H H') : Car N N H H' := ⟨fun _ _ h n => ⟨e _ _ h, n⟩, fun _ _ h _ => e _ _ h⟩
theorem Rp.mono (n : ∀ a, N a → N' a) {v : V} {d : D} (r : Rp K C N H v d) : Rp K C N' H v d := r.car ⟨fun _ _ h z => ⟨h, n _ z⟩, fun _ _ h _ => h⟩
theorem RpAll.mono (n : ∀ a, N a → N' a) {v : List V} {d : List D} (r : RpAll K C N H v d) : RpAll K C N' H v d := r.car ⟨fun _ _ h z => ⟨h, n _ z⟩, fun _ _ h _ => h⟩
theorem RpAll.len : ∀ {vs : List V} {ds : List D}, RpAll K C N H vs ds → vs.length = ds.length
  | _, _, .nil => rfl
  | _, _, .cons _ t => congrArg Nat.succ t.len
theorem RpAll.get : ∀ {vs : List V} {ds : List D} {i : Nat} {d : D}, RpAll K C N H vs ds → ds[i]? = some d → ∃ v, vs[i]? = some v ∧ Rp K C N H v d
  | _, _, _, _, .nil, e => by simp at e
  | _, _, 0, _, .cons r _, e => by simp at e; subst e; exact ⟨_, rfl, r⟩
  | _, _, i + 1, d, .cons _ t, e => by
    obtain ⟨v, h1, h2⟩ := RpAll.get (i := i) (d := d) t (by simpa using e)
    exact ⟨v, by simpa using h1, h2⟩
theorem RpAll.getV : ∀ {vs : List V} {ds : List D} {i : Nat} {v : V}, RpAll K C N H vs ds → vs[i]? = some v → ∃ d, ds[i]? = some d ∧ Rp K C N H v d
  | _, _, _, _, .nil, e => by simp at e
  | _, _, 0, _, .cons r _, e => by simp at e; subst e; exact ⟨_, rfl, r⟩
  | _, _, i + 1, d, .cons _ t, e => by
    obtain ⟨v, h1, h2⟩ := RpAll.getV (i := i) (v := d) t (by simpa using e)
    exact ⟨v, by simpa using h1, h2⟩
theorem RpAll.append : ∀ {vs ws : List V} {ds es : List D}, RpAll K C N H vs ds → RpAll K C N H ws es → RpAll K C N H (vs ++ ws) (ds ++ es)
  | _, _, _, _, .nil, s => s
  | _, _, _, _, .cons r t, s => .cons r (t.append s)
theorem RpAll.one {v : V} {d : D} (r : Rp K C N H v d) : RpAll K C N H [v] [d] := .cons r .nil
theorem RpAll.take : ∀ (n : Nat) {vs : List V} {ds : List D}, RpAll K C N H vs ds → RpAll K C N H (vs.take n) (ds.take n)
  | 0, _, _, _ => .nil
  | _ + 1, _, _, .nil => .nil
  | n + 1, _, _, .cons r t => .cons r (t.take n)
theorem RpAll.drop : ∀ (n : Nat) {vs : List V} {ds : List D}, RpAll K C N H vs ds → RpAll K C N H (vs.drop n) (ds.drop n)
  | 0, _, _, r => r
  | _ + 1, _, _, .nil => .nil
  | n + 1, _, _, .cons _ t => t.drop n
theorem RpAll.set {v : V} {d : D} (r : Rp K C N H v d) : ∀ (n : Nat) {vs : List V} {ds : List D}, RpAll K C N H vs ds → RpAll K C N H (vs.set n v) (ds.set n d)
  | _, _, _, .nil => .nil
  | 0, _, _, .cons _ t => .cons r t
  | n + 1, _, _, .cons q t => .cons q (t.set r n)
theorem RpAll.ints : ∀ (ns : List Int), RpAll K C N H (ns.map V.int) (ns.map D.int)
  | [] => .nil
  | n :: r => .cons (.int n) (RpAll.ints r)
theorem RpAll.strs : ∀ (ns : List Str), RpAll K C N H (ns.map V.str) (ns.map D.str)
  | [] => .nil
  | n :: r => .cons (.str n) (RpAll.strs r)
theorem RpAll.ints_inv : ∀ {ns : List Int} {vs : List V}, RpAll K C N H vs (ns.map D.int) → vs = ns.map V.int
  | [], _, h => by cases h; rfl
  | n :: r, _, h => by
    cases h with
    | cons a t => cases a; rw [RpAll.ints_inv t]; rfl
theorem RpAll.strs_inv : ∀ {ns : List Str} {vs : List V}, RpAll K C N H vs (ns.map D.str) → vs = ns.map V.str
  | [], _, h => by cases h; rfl
  | n :: r, _, h => by
    cases h with
    | cons a t => cases a; rw [RpAll.strs_inv t]; rfl
theorem cutV_eq {vs : List V} {ds : List D} (r : RpAll K C N H vs ds) (lo hi : Option Int) : RpAll K C N H (cutV vs lo hi) ((ds.drop (HT.sIx ds.length 0 lo)).take (HT.sIx ds.length ds.length hi - HT.sIx ds.length 0 lo)) := by
  unfold cutV
  rw [r.len]
  exact (r.drop _).take _
end

/-- the frame's slots -/
inductive Slots (K : PySem.W.Frag) (C : Addr) (N : Addr → Prop) (H : Hp) : St → List (Option D) → Prop
  | nil : Slots K C N H [] []
  | skip {s : Option V} {σ : St} {δ : List (Option D)} : Slots K C N H σ δ → Slots K C N H (s :: σ) (none :: δ)
  | cons {v : V} {d : D} {σ : St} {δ : List (Option D)} : Rp K C N H v d → Slots K C N H σ δ → Slots K C N H (some v :: σ) (some d :: δ)
section
variable {K : PySem.W.Frag} {C : Addr} {N N' : Addr → Prop} {H H' : Hp}
theorem Slots.car (c : Car N N' H H') : ∀ {σ : St} {δ : List (Option D)}, Slots K C N H σ δ → Slots K C N' H' σ δ
  | _, _, .nil => .nil
  | _, _, .skip e => .skip (e.car c)
  | _, _, .cons r e => .cons (r.car c) (e.car c)
theorem Slots.len : ∀ {σ : St} {δ : List (Option D)}, Slots K C N H σ δ → σ.length = δ.length
  | _, _, .nil => rfl
  | _, _, .skip e => congrArg Nat.succ e.len
  | _, _, .cons _ e => congrArg Nat.succ e.len
theorem Slots.get : ∀ {σ : St} {δ : List (Option D)} {i : Nat} {d : D}, Slots K C N H σ δ → δ[i]? = some (some d) → ∃ v, σ[i]? = some (some v) ∧ Rp K C N H v d
  | _, _, _, _, .nil, e => by simp at e
  | _, _, 0, _, .skip _, e => by simp at e
  | _, _, 0, _, .cons r _, e => by simp at e; subst e; exact ⟨_, rfl, r⟩
  | _, _, i + 1, d, .skip t, e => by
    obtain ⟨v, h1, h2⟩ := Slots.get (i := i) (d := d) t (by simpa using e)
    exact ⟨v, by simpa using h1, h2⟩
  | _, _, i + 1, d, .cons _ t, e => by
    obtain ⟨v, h1, h2⟩ := Slots.get (i := i) (d := d) t (by simpa using e)
    exact ⟨v, by simpa using h1, h2⟩
theorem Slots.set {v : V} {d : D} (r : Rp K C N H v d) : ∀ (i : Nat) {σ : St} {δ : List (Option D)}, Slots K C N H σ δ → Slots K C N H (σ.set i (some v)) (δ.set i (some d))
  | _, _, _, .nil => .nil
  | 0, _, _, .skip e => .cons r e
  | 0, _, _, .cons _ e => .cons r e
  | i + 1, _, _, .skip e => .skip (e.set r i)
  | i + 1, _, _, .cons q e => .cons q (e.set r i)
theorem Slots.unset (s : Option V) : ∀ (i : Nat) {σ : St} {δ : List (Option D)}, Slots K C N H σ δ → Slots K C N H (σ.set i s) (δ.set i none)
  | _, _, _, .nil => .nil
  | 0, _, _, .skip e => .skip e
  | 0, _, _, .cons _ e => .skip e
  | i + 1, _, _, .skip e => .skip (e.unset s i)
  | i + 1, _, _, .cons q e => .cons q (e.unset s i)
theorem Slots.forget : ∀ (i : Nat) {σ : St} {δ : List (Option D)}, Slots K C N H σ δ → Slots K C N H σ (δ.set i none)
  | _, _, _, .nil => .nil
  | 0, _, _, .skip e => .skip e
  | 0, _, _, .cons _ e => .skip e
  | i + 1, _, _, .skip e => .skip (e.forget i)
  | i + 1, _, _, .cons q e => .cons q (e.forget i)
def wipeD (δ : List (Option D)) : List Nat → List (Option D)
  | [] => δ
  | v :: vs => (wipeD δ vs).set v none
theorem Slots.wipe {σ : St} {δ : List (Option D)} (e : Slots K C N H σ δ) : ∀ vs : List Nat, Slots K C N H (L2.wipe σ vs) (wipeD δ vs)
  | [] => e
  | v :: vs => (e.wipe vs).unset none v
theorem Slots.nones : ∀ n : Nat, Slots K C N H (List.replicate n none) (List.replicate n none)
  | 0 => .nil
  | n + 1 => .skip (Slots.nones n)
theorem Slots.args : ∀ {vs : List V} {ds : List D} (n : Nat), RpAll K C N H vs ds → Slots K C N H (vs.map some ++ List.replicate n none) (ds.map some ++ List.replicate n none)
  | _, _, n, .nil => Slots.nones n
  | _, _, n, .cons r t => .cons r (Slots.args n t)
/-- a def's entry -/
def startD (N : List Str) (ds : List D) : List (Option D) := ds.map some ++ List.replicate (N.length - ds.length) none
theorem Slots.start {vs : List V} {ds : List D} (names : List Str) (r : RpAll K C N H vs ds) : Slots K C N H (L2.start names vs) (startD names ds) := by
  unfold L2.start startD
  rw [r.len]
  exact Slots.args _ r
end

/-- a world: which addresses data may name, which may change, what holds of the heap -/
structure Wd where
  K : PySem.W.Frag
  C : Addr
  N : Addr → Prop
  Z : Addr → Prop
  I : Hp → Prop
structure Wd.Ok (w : Wd) : Prop where
  zn : ∀ a, w.Z a → ¬ w.N a
  ext : ∀ H H', w.I H → Same H H' → w.I H'
  fr : ∀ H a, w.I H → H a = none → w.N a
def Ex (Z : Addr → Prop) (H H' : Hp) : Prop := ∀ a o, H a = some o → (¬ Z a ∨ stiff o = true) → H' a = some o
theorem Ex.refl {Z : Addr → Prop} (H : Hp) : Ex Z H H := fun _ _ h _ => h
theorem Ex.trans {Z : Addr → Prop} {H H1 H2 : Hp} (a : Ex Z H H1) (b : Ex Z H1 H2) : Ex Z H H2 := fun _ _ h z => b _ _ (a _ _ h z) z
theorem Ex.same {Z : Addr → Prop} {H H1 : Hp} (a : Same H H1) : Ex Z H H1 := fun _ _ h _ => a _ _ h
theorem same_new {H : Hp} {p : Addr} {o : HO} (h : H p = none) : Same H (upd H p o) := fun _ _ e => by rw [upd_ne (ne_of_none e h)]; exact e
theorem Ex.car {w : Wd} (ok : w.Ok) {H H' : Hp} (e : Ex w.Z H H') : Car w.N w.N H H' :=
  ⟨fun _ _ h n => ⟨e _ _ h (.inl fun z => ok.zn _ z n), n⟩, fun _ _ h s => e _ _ h (.inr s)⟩
abbrev Wd.Env (w : Wd) (H : Hp) (σ : St) (δ : List (Option D)) : Prop := Lr.Slots w.K w.C w.N H σ δ
abbrev Wd.Rp (w : Wd) (H : Hp) (v : V) (d : D) : Prop := Lr.Rp w.K w.C w.N H v d
abbrev Wd.RpAll (w : Wd) (H : Hp) (v : List V) (d : List D) : Prop := Lr.RpAll w.K w.C w.N H v d

def EvP (w : Wd) (te : TE) (δ : List (Option D)) (P : D → Prop) : Prop :=
  w.Ok → ∀ σ H, w.Env H σ δ → w.I H → ∀ Q : VK, (∀ d v H2, P d → Ex w.Z H H2 → w.I H2 → w.Rp H2 v d → Q v H2) → te σ H Q
abbrev Ev (w : Wd) (te : TE) (δ : List (Option D)) (d : D) : Prop := EvP w te δ (fun x => x = d)
def EvAP (w : Wd) (ta : TA) (δ : List (Option D)) (P : List D → Prop) : Prop :=
  w.Ok → ∀ σ H, w.Env H σ δ → w.I H → ∀ Q : List V → Hp → Prop, (∀ ds vs H2, P ds → Ex w.Z H H2 → w.I H2 → w.RpAll H2 vs ds → Q vs H2) → ta σ H Q
abbrev EvA (w : Wd) (ta : TA) (δ : List (Option D)) (ds : List D) : Prop := EvAP w ta δ (fun x => x = ds)
def EvTP (w : Wd) (tt : TT) (δ : List (Option D)) (P : Bool → Prop) : Prop :=
  w.Ok → ∀ σ H, w.Env H σ δ → w.I H → ∀ Q : Bool → Hp → Prop, (∀ b H2, P b → Ex w.Z H H2 → w.I H2 → Q b H2) → tt σ H Q
abbrev EvT (w : Wd) (tt : TT) (δ : List (Option D)) (b : Bool) : Prop := EvTP w tt δ (fun x => x = b)
/-- rules by values -/
def R2P (w : Wd) (r : R2) (a b : D) (P : D → Prop) : Prop :=
  w.Ok → ∀ H x y, w.I H → w.Rp H x a → w.Rp H y b → ∀ Q : VK, (∀ d v H2, P d → Ex w.Z H H2 → w.I H2 → w.Rp H2 v d → Q v H2) → r x y H Q
def RCP (w : Wd) (r : List V → Hp → VK → Prop) (as : List D) (P : D → Prop) : Prop :=
  w.Ok → ∀ H xs, w.I H → w.RpAll H xs as → ∀ Q : VK, (∀ d v H2, P d → Ex w.Z H H2 → w.I H2 → w.Rp H2 v d → Q v H2) → r xs H Q

section
variable {w : Wd} {δ : List (Option D)} {ta tb tc te : TE} {tl : TA} {t u : TT} {P P' Pa : D → Prop} {Pb Pc : D → D → Prop} {a b c d : D} {r : R2}
theorem EvP.imp (h : EvP w te δ P) (i : ∀ d, P d → P' d) : EvP w te δ P' := fun ok σ H e I Q q => h ok σ H e I Q fun d v H2 p => q d v H2 (i d p)
theorem EvTP.imp {P P' : Bool → Prop} (h : EvTP w t δ P) (i : ∀ d, P d → P' d) : EvTP w t δ P' := fun ok σ H e I Q q => h ok σ H e I Q fun d H2 p => q d H2 (i d p)
theorem ev_is (h : Ev w te δ a) (e : a = b) : Ev w te δ b := e ▸ h
theorem et_is {x y : Bool} (h : EvT w t δ x) (e : x = y) : EvT w t δ y := e ▸ h
theorem ev_var {i : Nat} (h : δ[i]? = some (some d)) : Ev w (tVar i) δ d := fun ok σ H e I Q q => by
  obtain ⟨v, h1, h2⟩ := e.get h
  exact ⟨v, h1, q d v H rfl (Ex.refl H) I h2⟩
theorem ev_int {i : Int} : Ev w (tC (.int i)) δ (.int i) := fun ok σ H e I Q q => q _ _ H rfl (Ex.refl H) I (.int i)
theorem ev_str {i : Str} : Ev w (tC (.str i)) δ (.str i) := fun ok σ H e I Q q => q _ _ H rfl (Ex.refl H) I (.str i)
theorem ev_bl {i : Bool} : Ev w (tC (.bl i)) δ (.bl i) := fun ok σ H e I Q q => q _ _ H rfl (Ex.refl H) I (.bl i)
theorem ev_non : Ev w (tC .non) δ .non := fun ok σ H e I Q q => q _ _ H rfl (Ex.refl H) I .non
theorem evp_op (ha : EvP w ta δ Pa) (hb : ∀ a, Pa a → EvP w tb δ (Pb a)) (hr : ∀ a b, Pa a → Pb a b → R2P w r a b P) : EvP w (tOp r ta tb) δ P := fun ok σ H e I Q q =>
  ha ok σ H e I _ fun a x H1 pa e1 I1 ra => hb a pa ok σ H1 (e.car (Ex.car ok e1)) I1 _ fun b y H2 pb e2 I2 rb =>
    hr a b pa pb ok H2 x y I2 (ra.car (Ex.car ok e2)) rb Q fun d v H3 p e3 I3 rv => q d v H3 p (e1.trans (e2.trans e3)) I3 rv
theorem ev_op (ha : Ev w ta δ a) (hb : Ev w tb δ b) (hr : R2P w r a b P) : EvP w (tOp r ta tb) δ P := evp_op ha (fun _ _ => hb) fun _ _ e1 e2 => e1 ▸ e2 ▸ hr
theorem ea_nil : EvA w tNil δ [] := fun ok σ H e I Q q => q [] [] H rfl (Ex.refl H) I .nil
theorem ea_consP {Pl : D → List D → Prop} {PA : List D → Prop} (ha : EvP w ta δ Pa) (hl : ∀ a, Pa a → EvAP w tl δ (Pl a)) (h : ∀ a as, Pa a → Pl a as → PA (a :: as)) : EvAP w (tCons ta tl) δ PA := fun ok σ H e I Q q =>
  ha ok σ H e I _ fun a x H1 pa e1 I1 ra => hl a pa ok σ H1 (e.car (Ex.car ok e1)) I1 _ fun as xs H2 pl e2 I2 rl => q (a :: as) (x :: xs) H2 (h a as pa pl) (e1.trans e2) I2 (.cons (ra.car (Ex.car ok e2)) rl)
theorem ea_cons {as : List D} (ha : Ev w ta δ a) (hl : EvA w tl δ as) : EvA w (tCons ta tl) δ (a :: as) := ea_consP ha (fun _ _ => hl) fun _ _ e1 e2 => by rw [e1, e2]
theorem rp_tup {H : Hp} {p : Addr} {vs : List V} {ds : List D} (ok : w.Ok) (I : w.I H) (hp : H p = none) (r : w.RpAll H vs ds) : w.Rp (upd H p (.tup vs)) (.ref p) (.tup ds) :=
  .tup (SqT.of upd_same) (r.car (Same.car (same_new hp)))
theorem rp_lst {H : Hp} {p : Addr} {vs : List V} {ds : List D} (ok : w.Ok) (I : w.I H) (hp : H p = none) (r : w.RpAll H vs ds) : w.Rp (upd H p (.lst vs)) (.ref p) (.lst ds) :=
  .lst (ok.fr _ _ I hp) upd_same (r.car (Same.car (same_new hp)))
theorem evp_tup {PA : List D → Prop} (h : EvAP w tl δ PA) (hn : ∀ ds, PA ds → ds.length ≤ 100000) (hP : ∀ ds, PA ds → P (.tup ds)) : EvP w (tTup tl) δ P := fun ok σ H e I Q q =>
  h ok σ H e I _ fun ds vs H1 p e1 I1 r => ⟨by rw [r.len, sizeLine_eq]; exact Nat.le_trans (hn ds p) (by decide), fun a ha => q _ _ _ (hP ds p) (e1.trans (Ex.same (same_new ha))) (ok.ext _ _ I1 (same_new ha)) (rp_tup ok I1 ha r)⟩
theorem ev_tup {ds : List D} (h : EvA w tl δ ds) (hn : ds.length ≤ 100000 := by first | decide | (simp only [List.length_cons, List.length_nil]; omega)) : Ev w (tTup tl) δ (.tup ds) := evp_tup h (fun _ e => e ▸ hn) fun _ e => by rw [e]
theorem evp_lst {PA : List D → Prop} (h : EvAP w tl δ PA) (hn : ∀ ds, PA ds → ds.length ≤ 100000) (hP : ∀ ds, PA ds → P (.lst ds)) : EvP w (tLst tl) δ P := fun ok σ H e I Q q =>
  h ok σ H e I _ fun ds vs H1 p e1 I1 r => ⟨by rw [r.len, sizeLine_eq]; exact Nat.le_trans (hn ds p) (by decide), fun a ha => q _ _ _ (hP ds p) (e1.trans (Ex.same (same_new ha))) (ok.ext _ _ I1 (same_new ha)) (rp_lst ok I1 ha r)⟩
theorem ev_lst {ds : List D} (h : EvA w tl δ ds) (hn : ds.length ≤ 100000 := by first | decide | (simp only [List.length_cons, List.length_nil]; omega)) : Ev w (tLst tl) δ (.lst ds) := evp_lst h (fun _ e => e ▸ hn) fun _ e => by rw [e]
theorem evp_cb {PA : List D → Prop} {rc : List V → Hp → VK → Prop} (h : EvAP w tl δ PA) (hr : ∀ ds, PA ds → RCP w rc ds P) : EvP w (tCB rc tl) δ P := fun ok σ H e I Q q =>
  h ok σ H e I _ fun ds vs H1 p e1 I1 r => hr ds p ok H1 vs I1 r Q fun d v H2 p2 e2 I2 rv => q d v H2 p2 (e1.trans e2) I2 rv
theorem ev_cb {ds : List D} {rc : List V → Hp → VK → Prop} (h : EvA w tl δ ds) (hr : RCP w rc ds P) : EvP w (tCB rc tl) δ P := evp_cb h fun _ e => e ▸ hr
/-! tests -/
theorem et_test {P : Bool → Prop} (h : EvP w te δ fun d => ∃ b, d = .bl b ∧ P b) : EvTP w (tTest te) δ P := fun ok σ H e I Q q =>
  h ok σ H e I _ fun d v H1 p e1 I1 r => by
    obtain ⟨b, rfl, p⟩ := p
    cases r
    exact ⟨b, rfl, q b H1 p e1 I1⟩
theorem et_testd {b : Bool} (h : Ev w te δ (.bl b)) : EvT w (tTest te) δ b := et_test (h.imp fun _ e => ⟨b, e, rfl⟩)
theorem et_B {P : Bool → Prop} (h : EvP w te δ fun d => ∃ b, d = .bl b ∧ P b) : EvTP w (tB te) δ P := fun ok σ H e I Q q =>
  h ok σ H e I _ fun d v H1 p e1 I1 r => by
    obtain ⟨b, rfl, p⟩ := p
    cases r
    exact ⟨b, rfl, q b H1 p e1 I1⟩
theorem et_Bd {b : Bool} (h : Ev w te δ (.bl b)) : EvT w (tB te) δ b := et_B (h.imp fun _ e => ⟨b, e, rfl⟩)
theorem et_not {P : Bool → Prop} (h : EvTP w t δ fun b => P (!b)) : EvTP w (tNot t) δ P := fun ok σ H e I Q q => h ok σ H e I _ fun b H1 p => q (!b) H1 p
theorem et_notd {b : Bool} (h : EvT w t δ b) : EvT w (tNot t) δ (!b) := et_not (h.imp fun _ e => by rw [e])
theorem et_and {P1 P : Bool → Prop} (h : EvTP w t δ P1) (hf : P1 false → P false) (h2 : P1 true → EvTP w u δ P) : EvTP w (tAnd t u) δ P := fun ok σ H e I Q q =>
  h ok σ H e I _ fun b H1 p e1 I1 => by
    cases b
    · exact iteF (q false H1 (hf p) e1 I1)
    · exact iteT (h2 p ok σ H1 (e.car (Ex.car ok e1)) I1 Q fun b H2 p2 e2 I2 => q b H2 p2 (e1.trans e2) I2)
theorem et_or {P1 P : Bool → Prop} (h : EvTP w t δ P1) (hf : P1 true → P true) (h2 : P1 false → EvTP w u δ P) : EvTP w (tOr t u) δ P := fun ok σ H e I Q q =>
  h ok σ H e I _ fun b H1 p e1 I1 => by
    cases b
    · exact iteF (h2 p ok σ H1 (e.car (Ex.car ok e1)) I1 Q fun b H2 p2 e2 I2 => q b H2 p2 (e1.trans e2) I2)
    · exact iteT (q true H1 (hf p) e1 I1)
theorem et_andd {x y : Bool} (h : EvT w t δ x) (h2 : x = true → EvT w u δ y) : EvT w (tAnd t u) δ (x && y) :=
  et_and h (fun e => by rw [← e]; rfl) fun e => et_is (h2 e.symm) (by rw [← e]; rfl)
theorem et_ord {x y : Bool} (h : EvT w t δ x) (h2 : x = false → EvT w u δ y) : EvT w (tOr t u) δ (x || y) :=
  et_or h (fun e => by rw [← e]; rfl) fun e => et_is (h2 e.symm) (by rw [← e]; rfl)
theorem ev_andV {x y : Bool} (h : Ev w ta δ (.bl x)) (h2 : x = true → Ev w tb δ (.bl y)) : Ev w (tAndV ta tb) δ (.bl (x && y)) := fun ok σ H e I Q q =>
  h ok σ H e I _ fun d v H1 p e1 I1 r => by
    subst p
    cases r
    refine ⟨x, rfl, ?_⟩
    cases x
    · exact iteF (q _ _ H1 rfl e1 I1 (.bl _))
    · exact iteT (h2 rfl ok σ H1 (e.car (Ex.car ok e1)) I1 Q fun d v H2 p2 e2 I2 r2 => q d v H2 (by rw [p2]; rfl) (e1.trans e2) I2 r2)
theorem ev_orV {x y : Bool} (h : Ev w ta δ (.bl x)) (h2 : x = false → Ev w tb δ (.bl y)) : Ev w (tOrV ta tb) δ (.bl (x || y)) := fun ok σ H e I Q q =>
  h ok σ H e I _ fun d v H1 p e1 I1 r => by
    subst p
    cases r
    refine ⟨x, rfl, ?_⟩
    cases x
    · exact iteF (h2 rfl ok σ H1 (e.car (Ex.car ok e1)) I1 Q fun d v H2 p2 e2 I2 r2 => q d v H2 (by rw [p2]; rfl) (e1.trans e2) I2 r2)
    · exact iteT (q _ _ H1 rfl e1 I1 (.bl _))
theorem ev_notV {x : Bool} (h : Ev w ta δ (.bl x)) : Ev w (tNotV ta) δ (.bl (!x)) := fun ok σ H e I Q q =>
  h ok σ H e I _ fun d v H1 p e1 I1 r => by
    subst p
    cases r
    exact ⟨x, rfl, q _ _ H1 rfl e1 I1 (.bl _)⟩
theorem ev_one (h : EvP w te δ P) : EvP w te δ P := h
theorem ev_chain {r' : R2} {x y : Bool} (ha : Ev w ta δ a) (hb : Ev w tb δ b) (hr : R2P w r a b fun d => d = .bl x) (hc : x = true → Ev w tc δ c) (hr' : x = true → R2P w r' b c fun d => d = .bl y) : Ev w (tChain r r' ta tb tc) δ (.bl (x && y)) := fun ok σ H e I Q q =>
  ha ok σ H e I _ fun a' x' H1 pa e1 I1 ra => hb ok σ H1 (e.car (Ex.car ok e1)) I1 _ fun b' y' H2 pb e2 I2 rb => by
    subst pa
    subst pb
    refine hr ok H2 _ _ I2 (ra.car (Ex.car ok e2)) rb _ fun d z H3 p e3 I3 rz => ?_
    subst p
    cases rz
    refine ⟨x, rfl, ?_⟩
    cases x
    · exact iteF (q _ _ H3 rfl (e1.trans (e2.trans e3)) I3 (.bl _))
    · refine iteT (hc rfl ok σ H3 (e.car (Ex.car ok (e1.trans (e2.trans e3)))) I3 _ fun c' w' H4 pc e4 I4 rc => ?_)
      subst pc
      exact hr' rfl ok H4 _ _ I4 (rb.car (Ex.car ok (e3.trans e4))) rc Q fun d v H5 p5 e5 I5 r5 => q d v H5 (by rw [p5]; rfl) (e1.trans (e2.trans (e3.trans (e4.trans e5)))) I5 r5
theorem ev_if {x : Bool} (h : EvT w t δ x) (h1 : x = true → EvP w ta δ P) (h2 : x = false → EvP w tb δ P) : EvP w (tIf t ta tb) δ P := fun ok σ H e I Q q =>
  h ok σ H e I _ fun b H1 p e1 I1 => by
    subst p
    cases b
    · exact iteF (h2 rfl ok σ H1 (e.car (Ex.car ok e1)) I1 Q fun d v H2 p2 e2 I2 r2 => q d v H2 p2 (e1.trans e2) I2 r2)
    · exact iteT (h1 rfl ok σ H1 (e.car (Ex.car ok e1)) I1 Q fun d v H2 p2 e2 I2 r2 => q d v H2 p2 (e1.trans e2) I2 r2)
/-! operators -/
theorem R2P.val {z : V} {dz : D} (hz : ∀ H, w.Rp H z dz) (h : ∀ H x y, w.I H → w.Rp H x a → w.Rp H y b → ∀ Q : VK, Q z H → r x y H Q) (hp : P dz) : R2P w r a b P := fun ok H x y I ra rb Q q =>
  h H x y I ra rb Q (q dz z H hp (Ex.refl H) I (hz H))
theorem r2_i0 {g : Int → Int → Int} {i j : Int} : R2P w (rI0 fun i j => .int (g i j)) (.int i) (.int j) fun d => d = .int (g i j) :=
  R2P.val (fun H => .int _) (fun H x y _ ra rb Q q => by cases ra; cases rb; exact ⟨i, j, rfl, rfl, q⟩) rfl
theorem r2_b0 {g : Int → Int → Bool} {i j : Int} : R2P w (rI0 fun i j => .bl (g i j)) (.int i) (.int j) fun d => d = .bl (g i j) :=
  R2P.val (fun H => .bl _) (fun H x y _ ra rb Q q => by cases ra; cases rb; exact ⟨i, j, rfl, rfl, q⟩) rfl
theorem r2_i {Cn : Int → Int → Prop} {g : Int → Int → Int} {i j : Int} (h : Cn i j) : R2P w (rI Cn fun i j => .int (g i j)) (.int i) (.int j) fun d => d = .int (g i j) :=
  R2P.val (fun H => .int _) (fun H x y _ ra rb Q q => by cases ra; cases rb; exact ⟨i, j, rfl, rfl, h, q⟩) rfl
theorem dec_vi {i j : Int} : decide (V.int i = V.int j) = decide (i = j) := by
  by_cases h : i = j
  · subst h; simp
  · rw [decide_eq_false h, decide_eq_false fun e => h (V.int.inj e)]
theorem dec_vs {i j : Str} : decide (V.str i = V.str j) = decide (i = j) := by
  by_cases h : i = j
  · subst h; simp
  · rw [decide_eq_false h, decide_eq_false fun e => h (V.str.inj e)]
theorem dec_vb {i j : Bool} : decide (V.bl i = V.bl j) = decide (i = j) := by
  by_cases h : i = j
  · subst h; simp
  · rw [decide_eq_false h, decide_eq_false fun e => h (V.bl.inj e)]
theorem r2_eqI {i j : Int} : R2P w rEq (.int i) (.int j) fun d => d = .bl (decide (i = j)) :=
  R2P.val (z := .bl (decide (V.int i = V.int j))) (fun H => .bl _) (fun H x y _ ra rb Q q => by cases ra; cases rb; exact ⟨rfl, q⟩) (by rw [dec_vi])
theorem r2_eqS {i j : Str} : R2P w rEq (.str i) (.str j) fun d => d = .bl (decide (i = j)) :=
  R2P.val (z := .bl (decide (V.str i = V.str j))) (fun H => .bl _) (fun H x y _ ra rb Q q => by cases ra; cases rb; exact ⟨rfl, q⟩) (by rw [dec_vs])
theorem r2_eqB {i j : Bool} : R2P w rEq (.bl i) (.bl j) fun d => d = .bl (decide (i = j)) :=
  R2P.val (z := .bl (decide (V.bl i = V.bl j))) (fun H => .bl _) (fun H x y _ ra rb Q q => by cases ra; cases rb; exact ⟨rfl, q⟩) (by rw [dec_vb])
theorem r2_neI {i j : Int} : R2P w rNe (.int i) (.int j) fun d => d = .bl (!decide (i = j)) :=
  R2P.val (z := .bl (!decide (V.int i = V.int j))) (fun H => .bl _) (fun H x y _ ra rb Q q => by cases ra; cases rb; exact ⟨rfl, q⟩) (by rw [dec_vi])
theorem r2_neS {i j : Str} : R2P w rNe (.str i) (.str j) fun d => d = .bl (!decide (i = j)) :=
  R2P.val (z := .bl (!decide (V.str i = V.str j))) (fun H => .bl _) (fun H x y _ ra rb Q q => by cases ra; cases rb; exact ⟨rfl, q⟩) (by rw [dec_vs])
theorem r2_neNS {j : Str} : R2P w rNe .non (.str j) fun d => d = .bl true :=
  R2P.val (z := .bl (!decide (V.non = V.str j))) (fun H => .bl _) (fun H x y _ ra rb Q q => by cases ra; cases rb; exact ⟨rfl, q⟩) (by simp)
theorem r2_neSN {j : Str} : R2P w rNe (.str j) .non fun d => d = .bl true :=
  R2P.val (z := .bl (!decide (V.str j = V.non))) (fun H => .bl _) (fun H x y _ ra rb Q q => by cases ra; cases rb; exact ⟨rfl, q⟩) (by simp)
theorem r2_isN {f : D} {k : Bool} (hk : ∀ N H v, Rp w.K w.C N H v f → decide (v = V.non) = k) : R2P w (fun x y H Q => y = .non ∧ Q (.bl (decide (x = .non))) H) f .non fun d => d = .bl k := fun ok H x y I ra rb Q q => by
  cases rb
  exact ⟨rfl, by rw [hk _ _ _ ra]; exact q _ _ H rfl (Ex.refl H) I (.bl k)⟩
theorem r2_notN {f : D} {k : Bool} (hk : ∀ N H v, Rp w.K w.C N H v f → decide (v = V.non) = !k) : R2P w (fun x y H Q => y = .non ∧ Q (.bl (!decide (x = .non))) H) f .non fun d => d = .bl k := fun ok H x y I ra rb Q q => by
  cases rb
  exact ⟨rfl, by rw [hk _ _ _ ra, Bool.not_not]; exact q _ _ H rfl (Ex.refl H) I (.bl k)⟩
/-- whether data is None -/
def isN : D → Bool
  | .non => true
  | _ => false
theorem isN_v {K : PySem.W.Frag} {C : Addr} {N : Addr → Prop} {H : Hp} {v : V} {f : D} (r : Rp K C N H v f) : decide (v = V.non) = isN f := by
  cases r <;> simp [isN]
theorem r2_addS {i j : Str} (h : i.length + j.length ≤ 100000) : R2P w (fun x y H Q => ∃ i j, x = .str i ∧ y = .str j ∧ i.length + j.length ≤ sizeLine ∧ Q (.str (i ++ j)) H) (.str i) (.str j) fun d => d = .str (i ++ j) :=
  R2P.val (fun H => .str _) (fun H x y _ ra rb Q q => by cases ra; cases rb; exact ⟨i, j, rfl, rfl, by rw [sizeLine_eq]; exact Nat.le_trans h (by decide), q⟩) rfl
theorem atI_rp {α β : Type} {xs : List α} {ys : List β} {i : Int} {y : β} (hl : xs.length = ys.length) (h : atI ys i = some y) : ∃ (j : Nat) (x : α), ys[j]? = some y ∧ xs[j]? = some x ∧ atI xs i = some x := by
  unfold atI at h ⊢
  rw [hl]
  cases e : ixN ys.length i with
  | none => rw [e] at h; cases h
  | some j =>
    rw [e] at h
    have h : ys[j]? = some y := h
    have hj : j < xs.length := hl ▸ (List.getElem?_eq_some_iff.mp h).1
    exact ⟨j, xs[j], h, List.getElem?_eq_getElem hj, by show xs[j]? = _; exact List.getElem?_eq_getElem hj⟩
theorem r2_ixT {ds : List D} {i : Int} (h : atI ds i = some d) : R2P w (rIxT w.K) (.tup ds) (.int i) fun x => x = d := fun ok H x y I ra rb Q q => by
  cases rb
  cases ra with
  | tup hs r =>
    obtain ⟨j, v, h1, h2, h3⟩ := atI_rp r.len h
    obtain ⟨v', h4, r'⟩ := r.get h1
    rw [h2] at h4
    cases h4
    exact ⟨_, _, i, v, rfl, rfl, hs, h3, q _ _ H rfl (Ex.refl H) I r'⟩
theorem r2_ixL {ds : List D} {i : Int} (h : atI ds i = some d) : R2P w (rIxL w.K) (.lst ds) (.int i) fun x => x = d := fun ok H x y I ra rb Q q => by
  cases rb
  cases ra with
  | lst n hs r =>
    obtain ⟨j, v, h1, h2, h3⟩ := atI_rp r.len h
    obtain ⟨v', h4, r'⟩ := r.get h1
    rw [h2] at h4
    cases h4
    exact ⟨_, _, i, v, rfl, rfl, SqL.of hs, h3, q _ _ H rfl (Ex.refl H) I r'⟩
theorem r2_or1 {r r' : R2} (h : R2P w r a b P) : R2P w (fun x y H Q => r x y H Q ∨ r' x y H Q) a b P := fun ok H x y I ra rb Q q => .inl (h ok H x y I ra rb Q q)
theorem r2_or2 {r r' : R2} (h : R2P w r' a b P) : R2P w (fun x y H Q => r x y H Q ∨ r' x y H Q) a b P := fun ok H x y I ra rb Q q => .inr (h ok H x y I ra rb Q q)
end
end Lr
set_option Elab.async false
set_option maxRecDepth 100000
set_option maxHeartbeats 4000000
set_option linter.all false
set_option autoImplicit false
/-! Statements: a base world, the def's own lists and dicts (M), the slots (δ). -/
namespace Lr
open PySem L2

/-- what a def's own changing object holds -/
inductive MO where
  | lst (ds : List D)
  | dic (kvs : List (Str × D))
  | ins (fs : List (Str × D))
abbrev ML := List (Addr × MO)
def MOk (K : PySem.W.Frag) (C : Addr) (N : Addr → Prop) (H : Hp) (p : Addr) : MO → Prop
  | .lst ds => ∃ vs, H p = some (.lst vs) ∧ RpAll K C N H vs ds
  | .dic ds => ∃ kvs, H p = some (.dK kvs) ∧ RpKv K C N H kvs ds
  | .ins ds => ∃ dx fs, H p = some (.ins C dx fs) ∧ RpF K C N H fs ds
theorem MOk.car {K : PySem.W.Frag} {C : Addr} {N N' : Addr → Prop} {H H' : Hp} {p : Addr} {m : MO} (c : Car N N' H H') (k : ∀ o, H p = some o → H' p = some o) (h : MOk K C N H p m) : MOk K C N' H' p m := by
  cases m with
  | lst ds => obtain ⟨vs, e, r⟩ := h; exact ⟨vs, k _ e, r.car c⟩
  | dic ds => obtain ⟨vs, e, r⟩ := h; exact ⟨vs, k _ e, r.car c⟩
  | ins ds => obtain ⟨dx, vs, e, r⟩ := h; exact ⟨dx, vs, k _ e, r.car c⟩
theorem MOk.there {K : PySem.W.Frag} {C : Addr} {N : Addr → Prop} {H : Hp} {p : Addr} {m : MO} (h : MOk K C N H p m) : ∃ o, H p = some o ∧ stiff o = false := by
  cases m with
  | lst ds => obtain ⟨vs, e, r⟩ := h; exact ⟨_, e, rfl⟩
  | dic ds => obtain ⟨vs, e, r⟩ := h; exact ⟨_, e, rfl⟩
  | ins ds => obtain ⟨dx, vs, e, r⟩ := h; exact ⟨_, e, rfl⟩
def ads (M : ML) : List Addr := M.map (·.1)
/-- the world with the def's own objects -/
def Wd.wi (b : Wd) (M : ML) : Wd where
  K := b.K
  C := b.C
  N := fun a => b.N a ∧ a ∉ ads M
  Z := b.Z
  I := fun H => b.I H ∧ ∀ m ∈ M, ¬ b.Z m.1 ∧ MOk b.K b.C (fun a => b.N a ∧ a ∉ ads M) H m.1 m.2
theorem Wd.Ok.wi {b : Wd} (ok : b.Ok) (M : ML) : (b.wi M).Ok where
  zn := fun a z n => ok.zn a z n.1
  ext := fun H H' I s => ⟨ok.ext _ _ I.1 s, fun m hm => ⟨(I.2 m hm).1, (I.2 m hm).2.car (Same.car s) fun o e => s _ _ e⟩⟩
  fr := fun H a I h => ⟨ok.fr _ _ I.1 h, fun hm => by
    obtain ⟨m, hm, e⟩ := List.mem_map.mp hm
    obtain ⟨o, ho, _⟩ := (I.2 m hm).2.there
    rw [e, h] at ho
    cases ho⟩
/-- a base world: what may be changed by the def is not touched by I -/
structure Wd.Base (b : Wd) (H0 : Hp) : Prop where
  ok : b.Ok
  zok : ∀ H a, b.I H → H a = none → ¬ b.Z a
  mu : ∀ H p o, b.I H → H0 p = none → ¬ b.Z p → b.I (upd H p o)
  h0 : ∀ H p, b.I H → H p = none → H0 p = none
/-- the state in a def's body: H0 is the heap at its entry -/
structure Pt (b : Wd) (H0 : Hp) (Γ : List (V × D)) (M : ML) (δ : List (Option D)) (σ : St) (H : Hp) : Prop where
  env : (b.wi M).Env H σ δ
  inv : (b.wi M).I H
  ex : Ex b.Z H0 H
  new : ∀ a ∈ ads M, H0 a = none
  gh : ∀ x ∈ Γ, (b.wi M).Rp H x.1 x.2
def Go (b : Wd) (H0 : Hp) (Γ : List (V × D)) (M : ML) (δ : List (Option D)) (ts : TS) (D : Ends) : Prop := ∀ σ H, Pt b H0 Γ M δ σ H → ts D σ H
theorem Pt.step {b : Wd} {H0 : Hp} {Γ : List (V × D)} {M : ML} {δ : List (Option D)} {σ : St} {H H1 : Hp} (ok : b.Ok) (p : Pt b H0 Γ M δ σ H) (e : Ex b.Z H H1) (I : (b.wi M).I H1) : Pt b H0 Γ M δ σ H1 :=
  ⟨p.env.car (Ex.car (ok.wi M) e), I, p.ex.trans e, p.new, fun x hx => (p.gh x hx).car (Ex.car (ok.wi M) e)⟩
/-- behind data is returned -/
theorem rp_out {b : Wd} {M : ML} {H : Hp} {v : V} {d : D} (r : (b.wi M).Rp H v d) : b.Rp H v d := r.mono fun _ h => h.1
section
variable {b : Wd} {H0 : Hp} {Γ : List (V × D)} {M : ML} {δ : List (Option D)} {te tb tj : TE} {tt : TT} {tl : TA} {P : D → Prop} {tu tw tz : TS} {g : TG} {De : Ends}
theorem go_asg {i : Nat} (ok : b.Ok) (h : EvP (b.wi M) te δ P) (k : ∀ d, P d → Go b H0 Γ M (δ.set i (some d)) tz De) : Go b H0 Γ M δ (tSeq (tAsg te (gName i)) tz) De := fun σ H p =>
  h (ok.wi M) σ H p.env p.inv _ fun d v H1 pd e1 I1 r => k d pd _ _ ⟨((p.step ok e1 I1).env).set r i, I1, p.ex.trans e1, p.new, (p.step ok e1 I1).gh⟩
theorem go_asg' {i : Nat} (ok : b.Ok) (h : EvP (b.wi M) te δ P) (k : ∀ d, P d → Go b H0 Γ M (δ.set i (some d)) tNext De) : Go b H0 Γ M δ (tAsg te (gName i)) De := fun σ H p =>
  h (ok.wi M) σ H p.env p.inv _ fun d v H1 pd e1 I1 r => k d pd _ _ ⟨((p.step ok e1 I1).env).set r i, I1, p.ex.trans e1, p.new, (p.step ok e1 I1).gh⟩
theorem go_ret (ok : b.Ok) (h : EvP (b.wi M) te δ P) (k : ∀ d v H, P d → Ex b.Z H0 H → (b.wi M).I H → b.Rp H v d → De.rt v H) : Go b H0 Γ M δ (tRet te) De := fun σ H p =>
  h (ok.wi M) σ H p.env p.inv _ fun d v H1 pd e1 I1 r => k d v H1 pd (p.ex.trans e1) I1 (rp_out r)
theorem go_retN (k : ∀ H, Ex b.Z H0 H → (b.wi M).I H → De.rt .non H) : Go b H0 Γ M δ tRetN De := fun σ H p => k H p.ex p.inv
theorem go_drop (ok : b.Ok) (h : EvP (b.wi M) te δ P) (k : (∃ d, P d) → Go b H0 Γ M δ tz De) : Go b H0 Γ M δ (tSeq (tDrop te) tz) De := fun σ H p =>
  h (ok.wi M) σ H p.env p.inv _ fun d v H1 pd e1 I1 r => k ⟨d, pd⟩ _ _ (p.step ok e1 I1)
theorem go_drop' (ok : b.Ok) (h : EvP (b.wi M) te δ P) (k : (∃ d, P d) → Go b H0 Γ M δ tNext De) : Go b H0 Γ M δ (tDrop te) De := fun σ H p =>
  h (ok.wi M) σ H p.env p.inv _ fun d v H1 pd e1 I1 r => k ⟨d, pd⟩ _ _ (p.step ok e1 I1)
theorem go_if {Pb : Bool → Prop} (ok : b.Ok) (h : EvTP (b.wi M) tt δ Pb) (h1 : Pb true → Go b H0 Γ M δ tu De) (h2 : Pb false → Go b H0 Γ M δ tw De) : Go b H0 Γ M δ (tIfS tt tu tw) De := fun σ H p =>
  h (ok.wi M) σ H p.env p.inv _ fun k H1 pd e1 I1 => by
    cases k
    · exact iteF (h2 pd _ _ (p.step ok e1 I1))
    · exact iteT (h1 pd _ _ (p.step ok e1 I1))
theorem go_seq (h : Go b H0 Γ M δ tu { De with nx := tz De }) : Go b H0 Γ M δ (tSeq tu tz) De := h
theorem go_ifq {Pb : Bool → Prop} (ok : b.Ok) (h : EvTP (b.wi M) tt δ Pb) (h1 : Pb true → Go b H0 Γ M δ tu ⟨tz De, De.rt, De.bk, De.ct⟩) (h2 : Pb false → Go b H0 Γ M δ tw ⟨tz De, De.rt, De.bk, De.ct⟩) : Go b H0 Γ M δ (tSeq (tIfS tt tu tw) tz) De := fun σ H p =>
  h (ok.wi M) σ H p.env p.inv _ fun k H1 pd e1 I1 => by
    cases k
    · exact iteF (h2 pd _ _ (p.step ok e1 I1))
    · exact iteT (h1 pd _ _ (p.step ok e1 I1))
theorem go_when {Pb : Bool → Prop} (ok : b.Ok) (h : EvTP (b.wi M) tt δ Pb) (h1 : Pb true → Go b H0 Γ M δ tu ⟨tz De, De.rt, De.bk, De.ct⟩) (h2 : Pb false → Go b H0 Γ M δ tz De) : Go b H0 Γ M δ (tSeq (tIfS tt tu tNext) tz) De :=
  go_ifq ok h h1 fun p σ H q => h2 p σ H q
theorem go_when' {Pb : Bool → Prop} (ok : b.Ok) (h : EvTP (b.wi M) tt δ Pb) (h1 : Pb true → Go b H0 Γ M δ tu De) (h2 : Pb false → Go b H0 Γ M δ tNext De) : Go b H0 Γ M δ (tIfS tt tu tNext) De := go_if ok h h1 h2
/-- a statement whose ways meet: J holds behind it -/
theorem go_cut (J : List (Option D) → ML → Prop) (h : ∀ nx : St → Hp → Prop, (∀ δ' M', J δ' M' → ∀ σ H, Pt b H0 Γ M' δ' σ H → nx σ H) → Go b H0 Γ M δ tu ⟨nx, De.rt, De.bk, De.ct⟩) (k : ∀ δ' M', J δ' M' → Go b H0 Γ M' δ' tz De) : Go b H0 Γ M δ (tSeq tu tz) De :=
  fun σ H p => h (tz De) (fun δ' M' j σ H p => k δ' M' j σ H p) σ H p
theorem go_out {J : List (Option D) → ML → Prop} {nx : St → Hp → Prop} {rt : VK} {bk ct : St → Hp → Prop} (hj : ∀ δ' M', J δ' M' → ∀ σ H, Pt b H0 Γ M' δ' σ H → nx σ H) (j : J δ M) : Go b H0 Γ M δ tNext ⟨nx, rt, bk, ct⟩ := fun σ H p => hj δ M j σ H p
/-- what follows the block -/
theorem go_thru {rt : VK} {bk ct : St → Hp → Prop} {De' : Ends} (h : Go b H0 Γ M δ tz De') : Go b H0 Γ M δ tNext ⟨tz De', rt, bk, ct⟩ := h
theorem go_next (h : ∀ σ H, Pt b H0 Γ M δ σ H → De.nx σ H) : Go b H0 Γ M δ tNext De := h
/-- falling through to what follows -/
theorem go_on (h : Go b H0 Γ M δ tz De) : Go b H0 Γ M δ tNext { De with nx := tz De } := h
theorem go_on' {nx : St → Hp → Prop} {De : Ends} (h : Go b H0 Γ M δ tz De) (e : nx = tz De) : Go b H0 Γ M δ tNext { De with nx := nx } := fun σ H p => by
  subst e
  exact h σ H p
theorem go_cont (h : ∀ σ H, Pt b H0 Γ M δ σ H → De.ct σ H) : Go b H0 Γ M δ tCont De := h
theorem go_brk (h : ∀ σ H, Pt b H0 Γ M δ σ H → De.bk σ H) : Go b H0 Γ M δ tBreak De := h
theorem Pt.forget {σ : St} {H : Hp} {i : Nat} (p : Pt b H0 Γ M δ σ H) : Pt b H0 Γ M (δ.set i none) σ H := ⟨p.env.forget i, p.inv, p.ex, p.new, p.gh⟩
theorem go_forget (i : Nat) (h : Go b H0 Γ M (δ.set i none) tu De) : Go b H0 Γ M δ tu De := fun σ H p => h σ H p.forget
/-! ### a new list of one's own -/
/-- a reading that lays a new list -/
def EvN (w : Wd) (te : TE) (δ : List (Option D)) (PA : List D → Prop) : Prop :=
  w.Ok → ∀ σ H, w.Env H σ δ → w.I H → ∀ Q : VK, (∀ ds p vs H1 H2, PA ds → Ex w.Z H H1 → w.I H1 → H1 p = none → Ex w.Z H1 H2 → w.I H2 → H2 p = some (.lst vs) → Lr.RpAll w.K w.C (fun a => w.N a ∧ a ≠ p) H2 vs ds → Q (.ref p) H2) → te σ H Q
theorem evn_lst {w : Wd} {PA : List D → Prop} (h : EvAP w tl δ PA) (hn : ∀ ds, PA ds → ds.length ≤ 100000) : EvN w (tLst tl) δ PA := fun ok σ H e I Q q =>
  h ok σ H e I _ fun ds vs H1 pa e1 I1 r => ⟨by rw [r.len, sizeLine_eq]; exact Nat.le_trans (hn ds pa) (by decide), fun p hp =>
    q ds p vs H1 _ pa e1 I1 hp (Ex.same (same_new hp)) (ok.ext _ _ I1 (same_new hp)) upd_same (r.car ⟨fun a o ho n => ⟨by rw [upd_ne (ne_of_none ho hp)]; exact ho, n, ne_of_none ho hp⟩, fun a o ho _ => by rw [upd_ne (ne_of_none ho hp)]; exact ho⟩)⟩
theorem evn_nil {w : Wd} : EvN w (tLst tNil) δ (fun ds => ds = []) := evn_lst ea_nil fun _ e => by rw [e]; exact Nat.zero_le _
theorem EvN.imp {w : Wd} {PA PB : List D → Prop} (h : EvN w te δ PA) (i : ∀ ds, PA ds → PB ds) : EvN w te δ PB := fun ok σ H e I Q q => h ok σ H e I Q fun ds p vs H1 H2 pa => q ds p vs H1 H2 (i ds pa)
/-- a new list as data -/
theorem EvN.ev {w : Wd} {PA : List D → Prop} (h : EvN w te δ PA) (hP : ∀ ds, PA ds → P (.lst ds)) : EvP w te δ P := fun ok σ H e I Q q =>
  h ok σ H e I Q fun ds p vs H1 H2 pa e1 I1 np e2 I2 e3 r => q (.lst ds) (.ref p) H2 (hP ds pa) (e1.trans e2) I2 (.lst (ok.fr _ _ I1 np) e3 (r.mono fun _ z => z.1))
theorem car_new {N Z : Addr → Prop} {p : Addr} {l : List Addr} {H1 H2 : Hp} (zn : ∀ a, Z a → ¬ N a) (np : H1 p = none) (k : Ex Z H1 H2) : Car (fun a => N a ∧ a ∉ l) (fun a => N a ∧ a ∉ p :: l) H1 H2 where
  ns := fun a o ho n => ⟨k a o ho (.inl fun z => zn a z n.1), n.1, fun hm => by
    rcases List.mem_cons.mp hm with rfl | hm
    · rw [np] at ho; cases ho
    · exact n.2 hm⟩
  st := fun a o ho s => k a o ho (.inr s)
theorem pt_new {PA : List D → Prop} {i : Nat} (bb : b.Base H0) (h : EvN (b.wi M) te δ PA) {σ : St} {H : Hp} (p : Pt b H0 Γ M δ σ H) {R : St → Hp → Prop}
    (k : ∀ ds q, PA ds → b.N q → q ∉ ads M → ∀ σ' H', Pt b H0 Γ ((q, .lst ds) :: M) (δ.set i (some (.adr q))) σ' H' → R σ' H') : tAsg te (gName i) { nx := R, rt := De.rt, bk := De.bk, ct := De.ct } σ H :=
  h (bb.ok.wi M) σ H p.env p.inv _ fun ds q vs H1 H2 pa e1 I1 np e2 I2 e3 r => by
    have p1 := p.step bb.ok e1 I1
    have h0 : H0 q = none := bb.h0 _ _ I1.1 np
    have c : Car (fun a => b.N a ∧ a ∉ ads M) (fun a => b.N a ∧ a ∉ ads ((q, .lst ds) :: M)) H1 H2 := car_new bb.ok.zn np e2
    have nm : q ∉ ads M := ((bb.ok.wi M).fr _ _ I1 np).2
    refine k ds q pa (bb.ok.fr _ _ I1.1 np) nm _ _ ⟨(p1.env.car c).set (.adr q) i, ⟨I2.1, fun m hm => ?_⟩, p1.ex.trans e2, fun a ha => ?_, fun x hx => (p1.gh x hx).car c⟩
    · rcases List.mem_cons.mp hm with rfl | hm
      · exact ⟨bb.zok _ _ I1.1 np, vs, e3, r.mono fun a z => ⟨z.1.1, fun hm => by
          rcases List.mem_cons.mp hm with rfl | hm
          · exact z.2 rfl
          · exact z.1.2 hm⟩⟩
      · obtain ⟨z1, z2⟩ := I1.2 m hm
        obtain ⟨o, ho, _⟩ := z2.there
        exact ⟨z1, z2.car c fun o ho => e2 _ o ho (.inl z1)⟩
    · rcases List.mem_cons.mp ha with rfl | ha
      · exact h0
      · exact p1.new a ha
theorem go_new {PA : List D → Prop} {i : Nat} (bb : b.Base H0) (h : EvN (b.wi M) te δ PA)
    (k : ∀ ds q, PA ds → b.N q → q ∉ ads M → Go b H0 Γ ((q, .lst ds) :: M) (δ.set i (some (.adr q))) tz De) : Go b H0 Γ M δ (tSeq (tAsg te (gName i)) tz) De := fun σ H p =>
  pt_new (De := { De with nx := tz De }) bb h p fun ds q pa h0 hm σ' H' p' => k ds q pa h0 hm σ' H' p'
theorem car_mut {N : Addr → Prop} {l : List Addr} {p : Addr} {H : Hp} {o o' : HO} (ho : H p = some o) (hs : stiff o = false) : Car (fun a => N a ∧ a ∉ p :: l) (fun a => N a ∧ a ∉ p :: l) H (upd H p o') :=
  ⟨fun a o' h n => ⟨by
      have : a ≠ p := fun z => n.2 (by subst z; exact List.mem_cons_self)
      rw [upd_ne this]; exact h, n⟩, fun a o2 h9 st => by
      have : a ≠ p := fun z => by subst z; rw [ho] at h9; cases h9; rw [hs] at st; cases st
      rw [upd_ne this]; exact h9⟩
/-- an own object is changed -/
theorem pt_mut {σ : St} {H : Hp} {p : Addr} {m m' : MO} {o : HO} {M' : ML} (bb : b.Base H0) (q : Pt b H0 Γ ((p, m) :: M') δ σ H) (np : p ∉ ads M')
    (new : MOk b.K b.C (fun a => b.N a ∧ a ∉ ads ((p, m') :: M')) (upd H p o) p m') : Pt b H0 Γ ((p, m') :: M') δ σ (upd H p o) := by
  obtain ⟨oo, ho, hs⟩ := (q.inv.2 _ List.mem_cons_self).2.there
  have c : Car (fun a => b.N a ∧ a ∉ ads ((p, m) :: M')) (fun a => b.N a ∧ a ∉ ads ((p, m') :: M')) H (upd H p o) :=
    ⟨fun a o' h n => ⟨by
      have : a ≠ p := fun z => n.2 (by subst z; exact List.mem_cons_self)
      rw [upd_ne this]; exact h, n⟩, fun a o' h st => by
      have : a ≠ p := fun z => by subst z; rw [ho] at h; cases h; rw [hs] at st; cases st
      rw [upd_ne this]; exact h⟩
  have zp : ¬ b.Z p := (q.inv.2 _ List.mem_cons_self).1
  have np0 : H0 p = none := q.new p List.mem_cons_self
  refine ⟨q.env.car c, ⟨bb.mu _ _ _ q.inv.1 np0 zp, fun x hx => ?_⟩, fun a o' h z => ?_, q.new, fun x hx => (q.gh x hx).car c⟩
  · rcases List.mem_cons.mp hx with rfl | hx
    · exact ⟨zp, new⟩
    · obtain ⟨z1, z2⟩ := q.inv.2 x (List.mem_cons_of_mem _ hx)
      refine ⟨z1, z2.car c fun o' h => ?_⟩
      have : x.1 ≠ p := fun z => np (by rw [← z]; exact List.mem_map_of_mem hx)
      rw [upd_ne this]; exact h
  · have : a ≠ p := fun y => by
      subst y
      rw [np0] at h
      cases h
    rw [upd_ne this]
    exact q.ex _ _ h z
/-- what an own list holds -/
theorem Pt.lst {σ : St} {H : Hp} {p : Addr} {ds : List D} {M' : ML} (q : Pt b H0 Γ ((p, .lst ds) :: M') δ σ H) : ∃ vs, H p = some (.lst vs) ∧ (b.wi ((p, .lst ds) :: M')).RpAll H vs ds := (q.inv.2 _ List.mem_cons_self).2
theorem Pt.dic {σ : St} {H : Hp} {p : Addr} {ds : List (Str × D)} {M' : ML} (q : Pt b H0 Γ ((p, .dic ds) :: M') δ σ H) : ∃ vs, H p = some (.dK vs) ∧ RpKv b.K b.C (fun a => b.N a ∧ a ∉ ads ((p, .dic ds) :: M')) H vs ds := (q.inv.2 _ List.mem_cons_self).2
theorem Pt.N_same {b : Wd} {p : Addr} {m m' : MO} {M' : ML} : ads ((p, m) :: M') = ads ((p, m') :: M') := rfl
/-- xs.append(e), xs one's own -/
theorem pt_app {i : Nat} {p : Addr} {ds : List D} {M' : ML} {K : PySem.W.Frag} (bb : b.Base H0) (hi : δ[i]? = some (some (.adr p))) (np : p ∉ ads M') (h : EvP (b.wi ((p, .lst ds) :: M')) te δ P) (hn : ds.length < 100000) {σ : St} {H : Hp} (q : Pt b H0 Γ ((p, .lst ds) :: M') δ σ H)
    {R : St → Hp → Prop} (k : ∀ d, P d → ∀ σ' H', Pt b H0 Γ ((p, .lst (ds ++ [d])) :: M') δ σ' H' → R σ' H') : tDrop (tBM K "list" rAppend (tVar i) (tCons te tNil)) { nx := R, rt := De.rt, bk := De.bk, ct := De.ct } σ H := by
  obtain ⟨v, h1, h2⟩ := q.env.get hi
  cases h2
  obtain ⟨vs0, hv0, _⟩ := q.lst
  refine ⟨_, h1, .inl ⟨rfl, vs0, SqL.of hv0⟩, ?_⟩
  refine h (bb.ok.wi _) σ H q.env q.inv _ fun d y H1 pd e1 I1 r => ?_
  have q1 := q.step bb.ok e1 I1
  obtain ⟨vs, hv, rv⟩ := q1.lst
  refine ⟨p, vs, y, rfl, rfl, hv, by rw [rv.len, sizeLine_eq]; exact Nat.lt_of_lt_of_le hn (by decide), k d pd _ _ (pt_mut bb q1 np ⟨_, upd_same, ?_⟩)⟩
  have c : Car (fun a => b.N a ∧ a ∉ ads ((p, .lst ds) :: M')) (fun a => b.N a ∧ a ∉ ads ((p, .lst (ds ++ [d])) :: M')) H1 (upd H1 p (.lst (vs ++ [y]))) := car_mut hv rfl
  exact (rv.append (.one r)).car c
theorem go_app {i : Nat} {p : Addr} {ds : List D} {M' : ML} {K : PySem.W.Frag} (bb : b.Base H0) (hi : δ[i]? = some (some (.adr p))) (np : p ∉ ads M') (h : EvP (b.wi ((p, .lst ds) :: M')) te δ P) (hn : ds.length < 100000)
    (k : ∀ d, P d → Go b H0 Γ ((p, .lst (ds ++ [d])) :: M') δ tz De) : Go b H0 Γ ((p, .lst ds) :: M') δ (tSeq (tDrop (tBM K "list" rAppend (tVar i) (tCons te tNil))) tz) De := fun σ H q =>
  pt_app (De := De) bb hi np h hn q fun d pd σ' H' q' => k d pd σ' H' q'
theorem go_app' {i : Nat} {p : Addr} {ds : List D} {M' : ML} {K : PySem.W.Frag} (bb : b.Base H0) (hi : δ[i]? = some (some (.adr p))) (np : p ∉ ads M') (h : EvP (b.wi ((p, .lst ds) :: M')) te δ P) (hn : ds.length < 100000)
    (k : ∀ d, P d → Go b H0 Γ ((p, .lst (ds ++ [d])) :: M') δ tNext De) : Go b H0 Γ ((p, .lst ds) :: M') δ (tDrop (tBM K "list" rAppend (tVar i) (tCons te tNil))) De := fun σ H q =>
  pt_app (De := De) bb hi np h hn q fun d pd σ' H' q' => k d pd σ' H' q'
/-- xs[i] = e, xs one's own -/
theorem pt_setL {i : Nat} {p : Addr} {ds : List D} {M' : ML} {j : Nat} (bb : b.Base H0) (hi : δ[i]? = some (some (.adr p))) (np : p ∉ ads M') (h : EvP (b.wi ((p, .lst ds) :: M')) te δ P) (hj : ∀ d, P d → Ev (b.wi ((p, .lst ds) :: M')) tj δ (.int (j : Int))) (hl : j < ds.length)
    {σ : St} {H : Hp} (q : Pt b H0 Γ ((p, .lst ds) :: M') δ σ H)
    {R : St → Hp → Prop} (k : ∀ d, P d → ∀ σ' H', Pt b H0 Γ ((p, .lst (ds.set j d)) :: M') δ σ' H' → R σ' H') : tAsg te (gSub (tVar i) tj rSetL) { nx := R, rt := De.rt, bk := De.bk, ct := De.ct } σ H := by
  refine h (bb.ok.wi _) σ H q.env q.inv _ fun d y H1 pd e1 I1 r => ?_
  have q1 := q.step bb.ok e1 I1
  obtain ⟨v, h1, h2⟩ := q1.env.get hi
  cases h2
  refine ⟨_, h1, ?_⟩
  refine hj d pd (bb.ok.wi _) σ H1 q1.env I1 _ fun dj x H2 pj e2 I2 rj => ?_
  subst pj
  cases rj
  have q2 := q1.step bb.ok e2 I2
  have r2 := r.car (Ex.car (bb.ok.wi _) e2)
  obtain ⟨vs, hv, rv⟩ := q2.lst
  refine ⟨p, vs, _, j, rfl, rfl, hv, ?_, k d pd _ _ (pt_mut bb q2 np ⟨_, upd_same, ?_⟩)⟩
  · unfold ixN
    rw [rv.len, if_pos (Int.natCast_nonneg j), if_pos (by omega)]
    rfl
  have c : Car (fun a => b.N a ∧ a ∉ ads ((p, .lst ds) :: M')) (fun a => b.N a ∧ a ∉ ads ((p, .lst (ds.set j d)) :: M')) H2 (upd H2 p (.lst (vs.set j y))) := car_mut hv rfl
  exact (rv.set r2 j).car c
theorem go_setL {i : Nat} {p : Addr} {ds : List D} {M' : ML} {j : Nat} (bb : b.Base H0) (hi : δ[i]? = some (some (.adr p))) (np : p ∉ ads M') (h : EvP (b.wi ((p, .lst ds) :: M')) te δ P) (hj : ∀ d, P d → Ev (b.wi ((p, .lst ds) :: M')) tj δ (.int (j : Int))) (hl : j < ds.length)
    (k : ∀ d, P d → Go b H0 Γ ((p, .lst (ds.set j d)) :: M') δ tz De) : Go b H0 Γ ((p, .lst ds) :: M') δ (tSeq (tAsg te (gSub (tVar i) tj rSetL)) tz) De := fun σ H q =>
  pt_setL (De := De) bb hi np h hj hl q fun d pd σ' H' q' => k d pd σ' H' q'
theorem go_setL' {i : Nat} {p : Addr} {ds : List D} {M' : ML} {j : Nat} (bb : b.Base H0) (hi : δ[i]? = some (some (.adr p))) (np : p ∉ ads M') (h : EvP (b.wi ((p, .lst ds) :: M')) te δ P) (hj : ∀ d, P d → Ev (b.wi ((p, .lst ds) :: M')) tj δ (.int (j : Int))) (hl : j < ds.length)
    (k : ∀ d, P d → Go b H0 Γ ((p, .lst (ds.set j d)) :: M') δ tNext De) : Go b H0 Γ ((p, .lst ds) :: M') δ (tAsg te (gSub (tVar i) tj rSetL)) De := fun σ H q =>
  pt_setL (De := De) bb hi np h hj hl q fun d pd σ' H' q' => k d pd σ' H' q'
/-- an own list becomes data again (for a return, for a loop over it) -/
theorem pt_freeze {p : Addr} {ds : List D} {M' : ML} (bb : b.Base H0) {σ : St} {H : Hp} (q : Pt b H0 Γ ((p, .lst ds) :: M') δ σ H) (np : p ∉ ads M') (hN : b.N p) : Pt b H0 Γ M' δ σ H ∧ (b.wi M').Rp H (.ref p) (.lst ds) := by
  obtain ⟨vs, hv, rv⟩ := q.lst
  have c : Car (fun a => b.N a ∧ a ∉ ads ((p, .lst ds) :: M')) (fun a => b.N a ∧ a ∉ ads M') H H := ⟨fun a o h n => ⟨h, n.1, fun hm => n.2 (List.mem_cons_of_mem _ hm)⟩, fun a o h _ => h⟩
  exact ⟨⟨q.env.car c, ⟨q.inv.1, fun m hm => ⟨(q.inv.2 m (List.mem_cons_of_mem _ hm)).1, (q.inv.2 m (List.mem_cons_of_mem _ hm)).2.car c fun o h => h⟩⟩, q.ex, fun a ha => q.new a (List.mem_cons_of_mem _ ha), fun x hx => (q.gh x hx).car c⟩, .lst ⟨hN, np⟩ hv (rv.car c)⟩
theorem go_freeze {i : Nat} {p : Addr} {ds : List D} {M' : ML} (bb : b.Base H0) (hi : δ[i]? = some (some (.adr p))) (np : p ∉ ads M') (hN : b.N p) (k : Go b H0 Γ M' (δ.set i (some (.lst ds))) tu De) : Go b H0 Γ ((p, .lst ds) :: M') δ tu De := fun σ H q => by
  obtain ⟨q1, r⟩ := pt_freeze bb q np hN
  obtain ⟨v, h1, h2⟩ := q1.env.get hi
  cases h2
  refine k _ _ ⟨?_, q1.inv, q1.ex, q1.new, q1.gh⟩
  have e := q1.env.set r i
  have : σ.set i (some (.ref p)) = σ := by
    have hlt := (List.getElem?_eq_some_iff.mp h1).1
    have he := (List.getElem?_eq_some_iff.mp h1).2
    rw [← he]
    exact List.set_getElem_self hlt
  rw [this] at e
  exact e
end
end Lr
set_option Elab.async false
set_option maxRecDepth 100000
set_option maxHeartbeats 4000000
set_option linter.all false
set_option autoImplicit false
/-! Loops over data, targets, calls of defs. -/
namespace Lr
open PySem L2

/-- a target: where data goes -/
def EvG (w : Wd) (g : TG) (d : D) (δ δ' : List (Option D)) : Prop :=
  ∀ σ H v, w.Env H σ δ → w.Rp H v d → ∀ Q : St → Hp → Prop, (∀ σ', w.Env H σ' δ' → Q σ' H) → g v σ H Q
def EvGs (w : Wd) (g : TGs) (ds : List D) (δ δ' : List (Option D)) : Prop :=
  ∀ σ H vs, w.Env H σ δ → w.RpAll H vs ds → ∀ Q : St → Hp → Prop, (∀ σ', w.Env H σ' δ' → Q σ' H) → g vs σ H Q
section
variable {w : Wd} {δ δ1 δ2 : List (Option D)} {d : D} {ds : List D}
theorem eg_name {i : Nat} : EvG w (gName i) d δ (δ.set i (some d)) := fun σ H v e r Q q => q _ (e.set r i)
theorem eg_nil : EvGs w gNil [] δ δ := fun σ H vs e r Q q => by cases r; exact ⟨rfl, q _ e⟩
theorem eg_cons {g : TG} {gs : TGs} (h : EvG w g d δ δ1) (hs : EvGs w gs ds δ1 δ2) : EvGs w (gCons g gs) (d :: ds) δ δ2 := fun σ H vs e r Q q => by
  cases r with
  | cons r t => exact ⟨_, _, rfl, h σ H _ e r _ fun σ' e' => hs σ' H _ e' t Q q⟩
theorem eg_tup {gs : TGs} {n : Nat} (h : EvGs w gs ds δ δ1) (hn : ds.length = n := by rfl) : EvG w (gTup w.K n gs) (.tup ds) δ δ1 := fun σ H v e r Q q => by
  cases r with
  | tup hs rr => exact ⟨_, _, rfl, hs, rr.len.trans hn, h σ H _ e rr Q q⟩
end

/-- an iterator yields data ds, while the value gv stands for gd -/
structure Walks (K : PySem.W.Frag) (C : Addr) (J : It) (ds : List D) (gv : V) (gd : D) : Prop where
  go : ∀ N H i, Rp K C N H gv gd → i < ds.length → J.go i H
  yld : ∀ N H i x H', Rp K C N H gv gd → i < ds.length → J.yld i H x H' → Same H H' ∧ ∃ d, ds[i]? = some d ∧ Rp K C N H' x d
  stop : ∀ N H i, Rp K C N H gv gd → i = ds.length → J.stop i H
def EvI (w : Wd) (wi : TI) (δ : List (Option D)) (ds : List D) : Prop :=
  w.Ok → ∀ σ H, w.Env H σ δ → w.I H → ∀ R : It → Hp → Prop, (∀ J H1 gv gd, Ex w.Z H H1 → w.I H1 → Walks w.K w.C J ds gv gd → w.Rp H1 gv gd → R J H1) → wi σ H R
section
variable {w : Wd} {δ : List (Option D)} {te : TE} {ta : TA} {ds : List D} {K : PySem.W.Frag} {C : Addr}
theorem walks_tup {a : Addr} : Walks K C (Itt K a) ds (.ref a) (.tup ds) where
  go := fun N H i r hi => by
    cases r with
    | @tup _ xs _ hs rr =>
      have : i < xs.length := by rw [rr.len]; exact hi
      exact ⟨xs, xs[i], hs, List.getElem?_eq_getElem this⟩
  yld := fun N H i x H' r hi y => by
    cases r with
    | @tup _ xs _ hs rr =>
      obtain ⟨rfl, y⟩ := y
      obtain ⟨d, h1, h2⟩ := rr.getV (y xs hs)
      exact ⟨Same.refl _, d, h1, h2⟩
  stop := fun N H i r hi' => by
    have hi := Nat.le_of_eq hi'.symm
    cases r with
    | @tup _ xs _ hs rr => exact ⟨xs, hs, by rw [rr.len]; exact hi⟩
theorem walks_lst {a : Addr} : Walks K C (Itl K a) ds (.ref a) (.lst ds) where
  go := fun N H i r hi => by
    cases r with
    | @lst _ xs _ n hs rr =>
      have : i < xs.length := by rw [rr.len]; exact hi
      exact ⟨xs, xs[i], SqL.of hs, List.getElem?_eq_getElem this⟩
  yld := fun N H i x H' r hi y => by
    cases r with
    | @lst _ xs _ n hs rr =>
      obtain ⟨rfl, y⟩ := y
      obtain ⟨d, h1, h2⟩ := rr.getV (y xs (SqL.of hs))
      exact ⟨Same.refl _, d, h1, h2⟩
  stop := fun N H i r hi' => by
    have hi := Nat.le_of_eq hi'.symm
    cases r with
    | @lst _ xs _ n hs rr => exact ⟨xs, SqL.of hs, by rw [rr.len]; exact hi⟩
theorem ei_tup (h : Ev w te δ (.tup ds)) : EvI w (iTup w.K te) δ ds := fun ok σ H e I R q =>
  h ok σ H e I _ fun d v H1 p e1 I1 r => by
    subst p
    cases r with
    | @tup a xs _ hs rr => exact ⟨a, rfl, ⟨xs, hs⟩, q _ H1 _ _ e1 I1 walks_tup (.tup hs rr)⟩
theorem ei_lst (h : Ev w te δ (.lst ds)) : EvI w (iList w.K te) δ ds := fun ok σ H e I R q =>
  h ok σ H e I _ fun d v H1 p e1 I1 r => by
    subst p
    cases r with
    | @lst a xs _ n hs rr => exact ⟨a, rfl, ⟨xs, SqL.of hs⟩, q _ H1 _ _ e1 I1 walks_lst (.lst n hs rr)⟩
def upto (lo : Int) (n : Nat) : List D := (List.range n).map fun (i : Nat) => D.int (lo + (i : Int))
theorem upto_len (lo : Int) (n : Nat) : (upto lo n).length = n := by simp [upto]
theorem upto_get {lo : Int} {n i : Nat} {d : D} (h : (upto lo n)[i]? = some d) : i < n ∧ d = .int (lo + (i : Int)) := by
  unfold upto at h
  rw [List.getElem?_map] at h
  by_cases hi : i < n
  · rw [List.getElem?_range hi] at h
    exact ⟨hi, (Option.some.inj h).symm⟩
  · rw [List.getElem?_eq_none (by simpa using hi)] at h
    cases h
theorem walks_rng (lo : Int) (n : Nat) : Walks K C (Itr lo n) (upto lo n) .non .non :=
  ⟨fun N H i _ h => by rw [upto_len] at h; exact h, fun N H i x H' _ h y => by
    obtain ⟨rfl, rfl⟩ := y
    rw [upto_len] at h
    exact ⟨Same.refl _, .int (lo + (i : Int)), by simp [upto, h], .int _⟩, fun N H i _ h' => by have h := Nat.le_of_eq h'.symm; rw [upto_len] at h; exact h⟩
theorem ei_rng1 {n : Int} (h : EvA w ta δ [.int n]) (h1 : -100000 ≤ n) (h2 : n ≤ 100000) : EvI w (iRng1 ta) δ (upto 0 n.toNat) := fun ok σ H e I R q =>
  h ok σ H e I _ fun ds vs H1 p e1 I1 r => by
    subst p
    cases r with
    | cons r t =>
      cases t
      cases r
      exact ⟨n, rfl, by omega, by omega, q _ H1 _ _ e1 I1 (walks_rng 0 n.toNat) .non⟩
theorem ei_rng2 {m n : Int} (h : EvA w ta δ [.int m, .int n]) (h0 : -100000 ≤ m ∧ m ≤ 100000) (h1 : -100000 ≤ n) (h2 : n ≤ 100000) : EvI w (iRng2 ta) δ (upto m (n - m).toNat) := fun ok σ H e I R q =>
  h ok σ H e I _ fun ds vs H1 p e1 I1 r => by
    subst p
    cases r with
    | cons r t =>
      cases t with
      | cons r2 t =>
        cases t
        cases r
        cases r2
        exact ⟨m, n, rfl, ⟨by omega, by omega, by omega, by omega⟩, q _ H1 _ _ e1 I1 (walks_rng m (n - m).toNat) .non⟩
def signsD (x : Str) : List D := x.cps.toList.map fun c => D.str ⟨#[c]⟩
theorem walks_str (x : Str) : Walks K C (Its x) (signsD x) .non .non := by
  have hl : (signsD x).length = x.cps.size := by simp [signsD]
  refine ⟨fun N H i _ hi => by rw [hl] at hi; exact hi, fun N H i y H' _ hi z => ?_, fun N H i _ hi' => by have hi := Nat.le_of_eq hi'.symm; rw [hl] at hi; exact hi⟩
  obtain ⟨rfl, c, h1, rfl⟩ := z
  refine ⟨Same.refl _, .str ⟨#[c]⟩, ?_, .str _⟩
  unfold signsD
  rw [List.getElem?_map, Array.getElem?_toList, h1]
  rfl
theorem ei_str {x : Str} (h : Ev w te δ (.str x)) : EvI w (iStr te) δ (signsD x) := fun ok σ H e I R q =>
  h ok σ H e I _ fun d v H1 p e1 I1 r => by
    subst p
    cases r
    exact ⟨x, rfl, q _ H1 _ _ e1 I1 (walks_str x) .non⟩
/-- pairs (i, item) -/
def numbered (ds : List D) : List D := ds.mapIdx fun i d => D.tup [.int ((i : Nat) : Int), d]
theorem numbered_len (ds : List D) : (numbered ds).length = ds.length := by simp [numbered]
theorem numbered_get {ds : List D} {i : Nat} {d : D} (h : ds[i]? = some d) : (numbered ds)[i]? = some (.tup [.int (i : Int), d]) := by
  unfold numbered
  rw [List.getElem?_mapIdx, h]
  rfl
theorem walks_enumL {a : Addr} : Walks K C (Ite K a) (numbered ds) (.ref a) (.lst ds) where
  go := fun N H i r hi => by
    cases r with
    | @lst _ xs _ n hs rr =>
      have : i < xs.length := by rw [rr.len]; rw [numbered_len] at hi; exact hi
      exact ⟨xs, xs[i], SqL.of hs, List.getElem?_eq_getElem this⟩
  yld := fun N H i x H' r hi y => by
    cases r with
    | @lst _ xs _ n hs rr =>
      obtain ⟨T, x', rfl, hT, rfl, y⟩ := y
      obtain ⟨d, h1, h2⟩ := rr.getV (y xs (SqL.of hs))
      exact ⟨same_new hT, _, numbered_get h1, .tup (SqT.of upd_same) (.cons (.int _) (.cons (h2.car (Same.car (same_new hT))) .nil))⟩
  stop := fun N H i r hi' => by
    have hi := Nat.le_of_eq hi'.symm
    cases r with
    | @lst _ xs _ n hs rr => exact ⟨xs, SqL.of hs, by rw [rr.len]; rw [numbered_len] at hi; exact hi⟩
theorem ei_enumL (h : EvA w ta δ [.lst ds]) : EvI w (iEnum w.K ta) δ (numbered ds) := fun ok σ H e I R q =>
  h ok σ H e I _ fun as vs H1 p e1 I1 r => by
    subst p
    cases r with
    | cons r t =>
      cases t
      cases r with
      | @lst a xs _ n hs rr => exact ⟨a, xs, rfl, SqL.of hs, q _ H1 _ _ e1 I1 walks_enumL (.lst n hs rr)⟩
end

section
variable {b : Wd} {H0 : Hp} {Γ : List (V × D)} {M : ML} {δ : List (Option D)} {te tb tj : TE} {tt : TT} {tl : TA} {P : D → Prop} {tu tw tz : TS} {g : TG} {De : Ends} {ds : List D} {wi : TI}
theorem wi_N {b : Wd} {M M' : ML} (h : ads M = ads M') : (b.wi M).N = (b.wi M').N := by
  show (fun a => b.N a ∧ a ∉ ads M) = (fun a => b.N a ∧ a ∉ ads M')
  rw [h]
/-- what is kept between two turns: the slots and the def's own objects, by a word Pv of both -/
def Kept (b : Wd) (H0 : Hp) (Γ : List (V × D)) (A : List Addr) (Pv : List (Option D) → ML → Prop) : St → Hp → Prop := fun σ H => ∃ δ M, ads M = A ∧ Pv δ M ∧ Pt b H0 Γ M δ σ H
theorem Pt.same {σ : St} {H H1 : Hp} (bb : b.Base H0) (p : Pt b H0 Γ M δ σ H) (s : Same H H1) : Pt b H0 Γ M δ σ H1 := p.step bb.ok (Ex.same s) ((bb.ok.wi M).ext _ _ p.inv s)
theorem Pt.slots {σ σ' : St} {H : Hp} {δ' : List (Option D)} (p : Pt b H0 Γ M δ σ H) (e : (b.wi M).Env H σ' δ') : Pt b H0 Γ M δ' σ' H := ⟨e, p.inv, p.ex, p.new, p.gh⟩
/-- a loop by its word Pv: the turn, the slots, the own objects (their addresses stay). The body is read with one ghost more (what is walked) -/
theorem pt_for (bb : b.Base H0) (h : EvI (b.wi M) wi δ ds) (Pv : Nat → List (Option D) → ML → Prop) (h0 : Pv 0 δ M) {σ : St} {H : Hp} (p : Pt b H0 Γ M δ σ H)
    (hs : ∀ x, ∀ i d δ' M', ds[i]? = some d → ads M' = ads M → Pv i δ' M' → ∃ δ'', EvG (b.wi M') g d δ' δ'' ∧ Go b H0 (x :: Γ) M' δ'' tu { De with nx := Kept b H0 (x :: Γ) (ads M) (Pv (i + 1)), ct := Kept b H0 (x :: Γ) (ads M) (Pv (i + 1)), bk := De.nx })
    (hd : ∀ δ' M' σ' H', ads M' = ads M → Pv ds.length δ' M' → Pt b H0 Γ M' δ' σ' H' → De.nx σ' H') : tFor wi g tu De σ H := by
  refine h (bb.ok.wi M) σ H p.env p.inv _ fun J H1 gv gd e1 I1 wk l1 => ?_
  have p1 := p.step bb.ok e1 I1
  refine ⟨fun i m σ' H' => m = ds.length - i ∧ i ≤ ds.length ∧ Kept b H0 ((gv, gd) :: Γ) (ads M) (Pv i) σ' H', ⟨_, rfl, Nat.zero_le _, δ, M, rfl, h0, p1.env, p1.inv, p1.ex, p1.new, fun x hx => ?_⟩, fun i m σ' H' hw => ?_⟩
  · rcases List.mem_cons.mp hx with rfl | hx
    · exact l1
    · exact p1.gh x hx
  obtain ⟨rfl, hi, δ', M', ea, pv, p'⟩ := hw
  have r : Rp b.K b.C (b.wi M').N H' gv gd := p'.gh (gv, gd) List.mem_cons_self
  by_cases hlt : i < ds.length
  · refine .inr ⟨wk.go _ H' i r hlt, Kept b H0 ((gv, gd) :: Γ) (ads M) (Pv (i + 1)), fun σ2 H2 n => ⟨_, by omega, rfl, hlt, n⟩, fun x H2 y => ?_⟩
    obtain ⟨s, d, hd1, rx⟩ := wk.yld _ H' i x H2 r hlt y
    obtain ⟨δ'', eg, k⟩ := hs (gv, gd) i d δ' M' hd1 ea pv
    have p2 := p'.same bb s
    exact eg σ' H2 x p2.env rx _ fun σ3 e3 => k σ3 H2 (p2.slots e3)
  · have : i = ds.length := by omega
    subst this
    exact .inl ⟨wk.stop _ H' _ r rfl, hd δ' M' σ' H' ea pv ⟨p'.env, p'.inv, p'.ex, p'.new, fun x hx => p'.gh x (List.mem_cons_of_mem _ hx)⟩⟩
theorem go_for (bb : b.Base H0) (h : EvI (b.wi M) wi δ ds) (Pv : Nat → List (Option D) → ML → Prop) (h0 : Pv 0 δ M)
    (hs : ∀ x, ∀ i d δ' M', ds[i]? = some d → ads M' = ads M → Pv i δ' M' → ∃ δ'', EvG (b.wi M') g d δ' δ'' ∧ Go b H0 (x :: Γ) M' δ'' tu { De with nx := Kept b H0 (x :: Γ) (ads M) (Pv (i + 1)), ct := Kept b H0 (x :: Γ) (ads M) (Pv (i + 1)), bk := tz De })
    (hd : ∀ δ' M', ads M' = ads M → Pv ds.length δ' M' → Go b H0 Γ M' δ' tz De) : Go b H0 Γ M δ (tSeq (tFor wi g tu) tz) De := fun σ H p =>
  pt_for (De := { De with nx := tz De }) bb h Pv h0 p hs fun δ' M' σ' H' ea pv p' => hd δ' M' ea pv σ' H' p'
theorem go_for' (bb : b.Base H0) (h : EvI (b.wi M) wi δ ds) (Pv : Nat → List (Option D) → ML → Prop) (h0 : Pv 0 δ M)
    (hs : ∀ x, ∀ i d δ' M', ds[i]? = some d → ads M' = ads M → Pv i δ' M' → ∃ δ'', EvG (b.wi M') g d δ' δ'' ∧ Go b H0 (x :: Γ) M' δ'' tu { De with nx := Kept b H0 (x :: Γ) (ads M) (Pv (i + 1)), ct := Kept b H0 (x :: Γ) (ads M) (Pv (i + 1)), bk := De.nx })
    (hd : ∀ δ' M', ads M' = ads M → Pv ds.length δ' M' → Go b H0 Γ M' δ' tNext De) : Go b H0 Γ M δ (tFor wi g tu) De := fun σ H p =>
  pt_for bb h Pv h0 p hs fun δ' M' σ' H' ea pv p' => hd δ' M' ea pv σ' H' p'
/-- the end of a turn -/
theorem go_kept {Pv : List (Option D) → ML → Prop} {A : List Addr} {rt : VK} {bk ct : St → Hp → Prop} (ea : ads M = A) (pv : Pv δ M) : Go b H0 Γ M δ tNext ⟨Kept b H0 Γ A Pv, rt, bk, ct⟩ := fun σ H p => ⟨δ, M, ea, pv, p⟩
end

/-! ### promises -/
/-- the base world of such a def's body -/
def pureW (K : PySem.W.Frag) (C : Addr) (N : Addr → Prop) (H0 : Hp) : Wd := { K := K, C := C, N := N, Z := fun _ => False, I := fun H => (∀ a, H a = none → N a) ∧ Same H0 H }
theorem pure_base {K : PySem.W.Frag} {C : Addr} {N : Addr → Prop} {H0 : Hp} : (pureW K C N H0).Base H0 where
  ok := ⟨fun _ z => z.elim, fun H H' I s => ⟨fun a h => I.1 a (s.free h), I.2.trans s⟩, fun H a I h => I.1 a h⟩
  zok := fun _ _ _ _ z => z
  h0 := fun H p I h => I.2.free h
  mu := fun H p o I n _ => ⟨fun a h => I.1 a (by
    by_cases z : a = p
    · subst z; rw [upd_same] at h; cases h
    · rw [upd_ne z] at h; exact h), fun a o' h => by
      rw [upd_ne (ne_of_none h n)]
      exact I.2 _ _ h⟩
end Lr
set_option Elab.async false
set_option maxRecDepth 100000
set_option maxHeartbeats 4000000
set_option linter.all false
set_option autoImplicit false
/-! Comprehensions; promises of defs; calls. -/
namespace Lr
open PySem L2

/-- a target within a comprehension: only the block's names vs are stored -/
def EvGw (w : Wd) (g : TG) (d : D) (δ δ' : List (Option D)) (vs : List Nat) : Prop :=
  ∀ σ H v, w.Env H σ δ → w.Rp H v d → ∀ Q : St → Hp → Prop, (∀ σ', w.Env H σ' δ' → L2.wipe σ' vs = L2.wipe σ vs → Q σ' H) → g v σ H Q
def EvGsw (w : Wd) (g : TGs) (ds : List D) (δ δ' : List (Option D)) (vs : List Nat) : Prop :=
  ∀ σ H us, w.Env H σ δ → w.RpAll H us ds → ∀ Q : St → Hp → Prop, (∀ σ', w.Env H σ' δ' → L2.wipe σ' vs = L2.wipe σ vs → Q σ' H) → g us σ H Q
theorem wipe_set_comm {σ : St} {i v : Nat} {s : Option V} (h : i ≠ v) : (σ.set i s).set v none = (σ.set v none).set i s := List.set_comm _ _ h
theorem wipe_put {i : Nat} {s : Option V} : ∀ {vs : List Nat} {σ : St}, i ∈ vs → L2.wipe (σ.set i s) vs = L2.wipe σ vs
  | [], _, h => by cases h
  | v :: vs, σ, h => by
    show (L2.wipe (σ.set i s) vs).set v none = (L2.wipe σ vs).set v none
    by_cases hv : i ∈ vs
    · rw [wipe_put hv]
    · have e : i = v := by
        rcases List.mem_cons.mp h with e | e
        · exact e
        · exact absurd e hv
      subst e
      have : ∀ (ws : List Nat) (τ : St), i ∉ ws → L2.wipe (τ.set i s) ws = (L2.wipe τ ws).set i s := by
        intro ws
        induction ws with
        | nil => intro τ _; rfl
        | cons u us ih =>
          intro τ hn
          show (L2.wipe (τ.set i s) us).set u none = ((L2.wipe τ us).set u none).set i s
          rw [ih τ (fun z => hn (List.mem_cons_of_mem _ z)), wipe_set_comm (fun z => hn (by rw [z]; exact List.mem_cons_self))]
      rw [this vs σ hv, List.set_set]
theorem wipe_wipe {σ : St} {vs : List Nat} : L2.wipe (L2.wipe σ vs) vs = L2.wipe σ vs := by
  have : ∀ (ws : List Nat), (∀ v ∈ ws, v ∈ vs) → L2.wipe (L2.wipe σ ws) vs = L2.wipe σ vs := by
    intro ws
    induction ws with
    | nil => intro _; rfl
    | cons u us ih =>
      intro h
      show L2.wipe ((L2.wipe σ us).set u none) vs = _
      rw [wipe_put (h u List.mem_cons_self), ih fun v hv => h v (List.mem_cons_of_mem _ hv)]
  exact this vs fun _ h => h
section
variable {w : Wd} {δ δ1 δ2 : List (Option D)} {d : D} {ds : List D} {vs : List Nat}
theorem gw_name {i : Nat} (hi : i ∈ vs := by decide) : EvGw w (gName i) d δ (δ.set i (some d)) vs := fun σ H v e r Q q => q _ (e.set r i) (wipe_put hi)
theorem gw_nil : EvGsw w gNil [] δ δ vs := fun σ H us e r Q q => by cases r; exact ⟨rfl, q _ e rfl⟩
theorem gw_cons {g : TG} {gs : TGs} (h : EvGw w g d δ δ1 vs) (hs : EvGsw w gs ds δ1 δ2 vs) : EvGsw w (gCons g gs) (d :: ds) δ δ2 vs := fun σ H us e r Q q => by
  cases r with
  | cons r t => exact ⟨_, _, rfl, h σ H _ e r _ fun σ' e' w1 => hs σ' H _ e' t Q fun σ2 e2 w2 => q σ2 e2 (w2.trans w1)⟩
theorem gw_tup {gs : TGs} {n : Nat} (h : EvGsw w gs ds δ δ1 vs) (hn : ds.length = n := by rfl) : EvGw w (gTup w.K n gs) (.tup ds) δ δ1 vs := fun σ H v e r Q q => by
  cases r with
  | tup hs rr => exact ⟨_, _, rfl, hs, rr.len.trans hn, h σ H _ e rr Q q⟩
end
section
variable {b : Wd} {H0 : Hp} {M : ML} {δ : List (Option D)} {te : TE} {tt : TT} {P : D → Prop} {g : TG} {ds : List D} {wi : TI} {vs : List Nat}
/-- [e for target in iter if test] -/
theorem evn_lc (bb : b.Base H0) (hi : EvI (b.wi M) wi δ ds) (hn : ds.length ≤ 100000) (Pv : Nat → List D → Prop) (h0 : Pv 0 [])
    (hs : ∀ i d, ds[i]? = some d → ∀ p acc, p ∉ ads M → acc.length ≤ i → Pv i acc → ∃ δ' k Pe, EvGw (b.wi ((p, .lst acc) :: M)) g d (wipeD δ vs) δ' vs ∧ EvT (b.wi ((p, .lst acc) :: M)) tt δ' k ∧
      (k = true → EvP (b.wi ((p, .lst acc) :: M)) te δ' Pe ∧ ∀ e, Pe e → Pv (i + 1) (acc ++ [e])) ∧ (k = false → Pv (i + 1) acc)) :
    EvN (b.wi M) (tLc wi g tt te vs) δ (fun es => Pv ds.length es) := fun ok σ H e I Q q => by
  refine hi ok σ H e I _ fun J H1 gv gd e1 I1 wk l1 => ?_
  have env1 := e.car (Ex.car ok e1)
  intro p np
  have hp0 : H0 p = none := bb.h0 _ _ I1.1 np
  have zp : ¬ b.Z p := bb.zok _ _ I1.1 np
  have npM : p ∉ ads M := (ok.fr _ _ I1 np).2
  -- what stands at each turn
  let St' : List D → Hp → Prop := fun acc H' => Ex b.Z H1 H' ∧ (b.wi ((p, .lst acc) :: M)).I H' ∧ (b.wi ((p, .lst acc) :: M)).Env H' σ δ ∧ (b.wi ((p, .lst acc) :: M)).Rp H' gv gd
  have start : St' [] (upd H1 p (.lst [])) := by
    have c : Car (fun a => b.N a ∧ a ∉ ads M) (fun a => b.N a ∧ a ∉ ads ((p, .lst []) :: M)) H1 (upd H1 p (.lst [])) := car_new bb.ok.zn np (Ex.same (Z := b.Z) (same_new np))
    refine ⟨Ex.same (same_new np), ⟨bb.ok.ext _ _ I1.1 (same_new np), fun m hm => ?_⟩, env1.car c, l1.car c⟩
    rcases List.mem_cons.mp hm with rfl | hm
    · exact ⟨zp, [], upd_same, .nil⟩
    · obtain ⟨z1, z2⟩ := I1.2 m hm
      obtain ⟨o, ho, _⟩ := z2.there
      exact ⟨z1, z2.car c fun o ho => by rw [upd_ne (ne_of_none ho np)]; exact ho⟩
  refine ⟨fun i m H' => m = ds.length - i ∧ i ≤ ds.length ∧ ∃ acc, acc.length ≤ i ∧ Pv i acc ∧ St' acc H', ⟨_, rfl, Nat.zero_le _, [], Nat.le_refl _, h0, start⟩, fun i m H' hw => ?_⟩
  obtain ⟨rfl, hil, acc, hacc, pv, s1, s2, s3, s4⟩ := hw
  have okp := bb.ok.wi ((p, .lst acc) :: M)
  by_cases hlt : i < ds.length
  · refine .inr ⟨wk.go _ H' i s4 hlt, fun H2 => ∃ acc, acc.length ≤ i + 1 ∧ Pv (i + 1) acc ∧ St' acc H2, fun H2 ⟨acc, z1, z2, z3⟩ => ⟨_, by omega, rfl, hlt, acc, z1, z2, z3⟩, fun x H2 y => ?_⟩
    obtain ⟨s, d, hd, rx⟩ := wk.yld _ H' i x H2 s4 hlt y
    obtain ⟨δ', k, Pe, hg, ht, hk, hk2⟩ := hs i d hd p acc npM hacc pv
    have c2 := Same.car (N := (b.wi ((p, .lst acc) :: M)).N) s
    have I2 := okp.ext _ _ s2 s
    refine hg (L2.wipe σ vs) H2 x ((s3.car c2).wipe vs) rx _ fun σ2 e2 w2 => ⟨w2.trans wipe_wipe, ?_⟩
    refine ht okp σ2 H2 e2 I2 _ fun kk H3 pk e3 I3 => ?_
    subst pk
    have c3 := (Ex.car okp e3)
    cases kk with
    | false => exact iteF ⟨acc, Nat.le_succ_of_le hacc, hk2 rfl, (s1.trans (Ex.same s)).trans e3, I3, (s3.car c2).car c3, (s4.car c2).car c3⟩
    | true =>
      refine iteT ?_
      obtain ⟨he, hv⟩ := hk rfl
      refine he okp σ2 H3 (e2.car c3) I3 _ fun dd yv H4 pe e4 I4 ry => ?_
      have c4 := Ex.car okp e4
      obtain ⟨zz, us, hu, ru⟩ := I4.2 _ List.mem_cons_self
      refine ⟨us, hu, by rw [ru.len, sizeLine_eq]; omega, acc ++ [dd], by rw [List.length_append]; exact Nat.succ_le_succ hacc, hv dd pe, ?_⟩
      have cm : Car (fun a => b.N a ∧ a ∉ ads ((p, .lst acc) :: M)) (fun a => b.N a ∧ a ∉ ads ((p, .lst (acc ++ [dd])) :: M)) H4 (upd H4 p (.lst (us ++ [yv]))) := car_mut hu rfl
      refine ⟨fun a o ho z => ?_, ⟨bb.mu _ _ _ I4.1 hp0 zp, fun m hm => ?_⟩, (((s3.car c2).car c3).car c4).car cm, (((s4.car c2).car c3).car c4).car cm⟩
      · rw [upd_ne (ne_of_none ho np)]
        exact ((s1.trans (Ex.same s)).trans (e3.trans e4)) _ _ ho z
      · rcases List.mem_cons.mp hm with rfl | hm
        · exact ⟨zp, _, upd_same, (ru.append (.one ry)).car cm⟩
        · obtain ⟨z1, z2⟩ := I4.2 m (List.mem_cons_of_mem _ hm)
          refine ⟨z1, z2.car cm fun o ho => ?_⟩
          have : m.1 ≠ p := fun z => npM (by rw [← z]; exact List.mem_map_of_mem hm)
          rw [upd_ne this]; exact ho
  · have : i = ds.length := by omega
    subst this
    refine .inl ⟨wk.stop _ H' _ s4 rfl, ?_⟩
    obtain ⟨zz, us, hu, ru⟩ := s2.2 _ List.mem_cons_self
    refine q acc p us H1 H' pv e1 I1 np s1 ⟨s2.1, fun m hm => ?_⟩ hu ?_
    · obtain ⟨z1, z2⟩ := s2.2 m (List.mem_cons_of_mem _ hm)
      exact ⟨z1, z2.car ⟨fun a o ho n => ⟨ho, n.1, fun z => n.2 (List.mem_cons_of_mem _ z)⟩, fun a o ho _ => ho⟩ fun o ho => ho⟩
    · exact ru.mono fun a n => ⟨⟨n.1, fun z => n.2 (List.mem_cons_of_mem _ z)⟩, fun z => n.2 (by subst z; exact List.mem_cons_self)⟩
theorem et_yes {w : Wd} : EvT w tYes δ true := fun ok σ H e I Q q => q true H rfl (Ex.refl H) I
theorem take_succ' {α : Type} {l : List α} {i : Nat} {x : α} (h : l[i]? = some x) : l.take (i + 1) = l.take i ++ [x] := by
  rw [List.take_add_one, h]
  rfl
/-- [f(i, x) for the i-th item x] -/
theorem evn_lcmap (bb : b.Base H0) (hi : EvI (b.wi M) wi δ ds) (hn : ds.length ≤ 100000) (es : List D) (hl : es.length = ds.length)
    (hs : ∀ (i : Nat) (d e : D), ds[i]? = some d → es[i]? = some e → ∀ p acc, p ∉ ads M → ∃ δ', EvGw (b.wi ((p, .lst acc) :: M)) g d (wipeD δ vs) δ' vs ∧ Ev (b.wi ((p, .lst acc) :: M)) te δ' e) :
    EvN (b.wi M) (tLc wi g tYes te vs) δ (fun x => x = es) := by
  refine (evn_lc bb hi hn (fun i acc => acc = es.take i) (by simp) fun i d hd p acc np _ pv => ?_).imp fun x hx => by rw [hx, ← hl, List.take_length]
  have hlt : i < es.length := by rw [hl]; exact (List.getElem?_eq_some_iff.mp hd).1
  obtain ⟨δ', h1, h2⟩ := hs i d es[i] hd (List.getElem?_eq_getElem hlt) p acc np
  exact ⟨δ', true, _, h1, et_yes, fun _ => ⟨h2, fun e he => by rw [he, pv, take_succ' (List.getElem?_eq_getElem hlt)]⟩, fun z => by cases z⟩
theorem ev_lcmap (bb : b.Base H0) (hi : EvI (b.wi M) wi δ ds) (hn : ds.length ≤ 100000) (es : List D) (hl : es.length = ds.length)
    (hs : ∀ (i : Nat) (d e : D), ds[i]? = some d → es[i]? = some e → ∀ p acc, p ∉ ads M → ∃ δ', EvGw (b.wi ((p, .lst acc) :: M)) g d (wipeD δ vs) δ' vs ∧ Ev (b.wi ((p, .lst acc) :: M)) te δ' e) :
    Ev (b.wi M) (tLc wi g tYes te vs) δ (.lst es) := (evn_lcmap bb hi hn es hl hs).ev fun _ e => by rw [e]
end
end Lr
set_option Elab.async false
set_option maxRecDepth 100000
set_option maxHeartbeats 4000000
set_option linter.all false
set_option autoImplicit false
/-! Operators whose kinds are told by the data; == of data; slices; len, sum and their like; isinstance. -/
namespace Lr
open PySem L2

mutual
def pd : D → PyData
  | .non => .none
  | .bl b => .bool b
  | .int i => .int i
  | .str x => .str x
  | .lst ds => .list (pds ds)
  | .tup ds => .tuple (pds ds)
  | .dic _ => .none
  | .ins _ => .none
  | .adr _ => .none
def pds : List D → List PyData
  | [] => []
  | d :: ds => pd d :: pds ds
end
mutual
def okD : D → Bool
  | .non => true
  | .bl _ => true
  | .int _ => true
  | .str _ => true
  | .lst ds => okDs ds
  | .tup ds => okDs ds
  | .dic _ => false
  | .ins _ => false
  | .adr _ => false
def okDs : List D → Bool
  | [] => true
  | d :: ds => okD d && okDs ds
end
section
variable {K : PySem.W.Frag} {C : Addr} {N : Addr → Prop} {H : Hp}
mutual
theorem Rp.dp : ∀ {v : V} {d : D}, Rp K C N H v d → okD d = true → Dp K H v (pd d)
  | _, _, .non, _ => .non
  | _, _, .bl b, _ => .bl b
  | _, _, .int i, _ => .int i
  | _, _, .str x, _ => .str x
  | _, _, .adr a, h => by simp [okD] at h
  | _, _, .lst n h r, k => by rw [pd]; exact .lst (SqL.of h) (RpAll.dp r (by rw [okD] at k; exact k))
  | _, _, .tup h r, k => by rw [pd]; exact .tup h (RpAll.dp r (by rw [okD] at k; exact k))
  | _, _, .dic n h r, k => by simp [okD] at k
  | _, _, .ins n h r, k => by simp [okD] at k
theorem RpAll.dp : ∀ {v : List V} {d : List D}, RpAll K C N H v d → okDs d = true → DpAll K H v (pds d)
  | _, _, .nil, _ => .nil
  | _, _, .cons r t, k => by
    rw [okDs, Bool.and_eq_true] at k
    rw [pds]
    exact .cons (Rp.dp r k.1) (RpAll.dp t k.2)
end
end
/-- data that == may compare -/
def eqOk (d : D) : Bool := okD d && SeqAt.shaped (pd d)
def deq (a b : D) : Bool := PyData.eqv (pd a) (pd b)
theorem deq_refl {d : D} (h : eqOk d = true) : deq d d = true := by
  unfold eqOk at h
  rw [Bool.and_eq_true] at h
  exact SeqAt.eqv_refl _ (SeqAt.canLay_of_shaped h.2)

def rLenU (K : PySem.W.Frag) : List V → Hp → VK → Prop := fun xs H Q => ∃ x n, xs = [x] ∧ LenV K x H n ∧ Q (.int (n : Nat)) H
def rAbsU : List V → Hp → VK → Prop := fun xs H Q => ∃ i, xs = [.int i] ∧ Q (.int (if i < 0 then -i else i)) H
def rIntU : List V → Hp → VK → Prop := fun xs H Q => (∃ i, xs = [.int i] ∧ Q (.int i) H) ∨ ∃ k, xs = [.bl k] ∧ Q (.int (if k then 1 else 0)) H
def rStrU : List V → Hp → VK → Prop := fun xs H Q => ∃ i, xs = [.int i] ∧ i.natAbs.log2 < 1920 ∧ Q (.str (toString i)) H
def rListU (K : PySem.W.Frag) : List V → Hp → VK → Prop := fun xs H Q => ∃ p ys, xs = [.ref p] ∧ (SqL K H p ys ∨ SqT K H p ys) ∧ ∀ l, H l = none → Q (.ref l) (upd H l (.lst ys))
def rTupU (K : PySem.W.Frag) : List V → Hp → VK → Prop := fun xs H Q => ∃ p ys, xs = [.ref p] ∧ ((SqL K H p ys ∧ ∀ l, H l = none → Q (.ref l) (upd H l (.tup ys))) ∨ (SqT K H p ys ∧ Q (.ref p) H))
section
variable {X : Cx}
theorem xLen (K : PySem.W.Frag) (hK : X.K = K := by rfl) : CallR X (.builtin "len") (rLenU K) := hK ▸ call_len
theorem xAbs : CallR X (.builtin "abs") rAbsU := call_abs
theorem xInt : CallR X (.type "int") rIntU := call_int1
theorem xStr : CallR X (.type "str") rStrU := call_str_int
theorem xList (K : PySem.W.Frag) (hK : X.K = K := by rfl) : CallR X (.type "list") (rListU K) := hK ▸ call_list_of
theorem xTuple (K : PySem.W.Frag) (hK : X.K = K := by rfl) : CallR X (.type "tuple") (rTupU K) := hK ▸ call_tuple_of
end
section
variable {w : Wd} {δ : List (Option D)} {ta tb tc te : TE} {tl : TA} {t u : TT} {P : D → Prop} {a b c d : D} {r : R2}
theorem r2_eqD (ha : eqOk a = true) (hb : eqOk b = true) : R2P w (rEqD w.K) a b fun x => x = .bl (deq a b) := fun ok H x y I ra rb Q q => by
  unfold eqOk at ha hb
  rw [Bool.and_eq_true] at ha hb
  exact ⟨_, _, ra.dp ha.1, rb.dp hb.1, ha.2, hb.2, q _ _ H rfl (Ex.refl H) I (.bl _)⟩
theorem r2_neD (ha : eqOk a = true) (hb : eqOk b = true) : R2P w (rNeD w.K) a b fun x => x = .bl (!deq a b) := fun ok H x y I ra rb Q q => by
  unfold eqOk at ha hb
  rw [Bool.and_eq_true] at ha hb
  exact ⟨_, _, ra.dp ha.1, rb.dp hb.1, ha.2, hb.2, q _ _ H rfl (Ex.refl H) I (.bl _)⟩
theorem r2_inD {ds : List D} (ha : eqOk a = true) (hb : eqOk (.lst ds) = true) : R2P w (rInD w.K) a (.lst ds) fun x => x = .bl ((pds ds).any fun z => PyData.eqv z (pd a)) := fun ok H x y I ra rb Q q => by
  unfold eqOk at ha hb
  rw [Bool.and_eq_true] at ha hb
  have h2 := rb.dp hb.1
  rw [pd] at h2 hb
  exact ⟨_, _, ra.dp ha.1, h2, ha.2, hb.2, q _ _ H rfl (Ex.refl H) I (.bl _)⟩
theorem r2_notInD {ds : List D} (ha : eqOk a = true) (hb : eqOk (.lst ds) = true) : R2P w (rNotInD w.K) a (.lst ds) fun x => x = .bl (!(pds ds).any fun z => PyData.eqv z (pd a)) := fun ok H x y I ra rb Q q => by
  unfold eqOk at ha hb
  rw [Bool.and_eq_true] at ha hb
  have h2 := rb.dp hb.1
  rw [pd] at h2 hb
  exact ⟨_, _, ra.dp ha.1, h2, ha.2, hb.2, q _ _ H rfl (Ex.refl H) I (.bl _)⟩
/-! concatenation, repetition -/
theorem r2_catL {xs ys : List D} (h : xs.length + ys.length ≤ 100000) : R2P w rCat (.lst xs) (.lst ys) fun x => x = .lst (xs ++ ys) := fun ok H x y I ra rb Q q => by
  cases ra with
  | lst n1 h1 r1 =>
    cases rb with
    | lst n2 h2 r2 =>
      refine ⟨_, _, _, _, rfl, rfl, h1, h2, by rw [r1.len, r2.len, sizeLine_eq]; exact Nat.le_trans h (by decide), fun p np => ?_⟩
      exact q _ _ _ rfl (Ex.same (same_new np)) (ok.ext _ _ I (same_new np)) (rp_lst ok I np (r1.append r2))
theorem r2_catT {xs ys : List D} (h : xs.length + ys.length ≤ 100000) : R2P w (rCatA w.K) (.tup xs) (.tup ys) fun x => x = .tup (xs ++ ys) := fun ok H x y I ra rb Q q => by
  cases ra with
  | @tup a vs _ h1 r1 =>
    cases rb with
    | @tup b ws _ h2 r2 =>
      refine ⟨a, b, vs, ws, rfl, rfl, h1, h2, by rw [r1.len, r2.len, sizeLine_eq]; exact Nat.le_trans h (by decide), fun e => ?_, fun _ e => ?_, fun _ _ p np => ?_⟩
      · subst e
        cases r1
        exact q _ _ H rfl (Ex.refl H) I (.tup h2 r2)
      · subst e
        cases r2
        rw [List.append_nil] at q
        exact q _ _ H rfl (Ex.refl H) I (.tup h1 r1)
      · exact q _ _ _ rfl (Ex.same (same_new np)) (ok.ext _ _ I (same_new np)) (rp_tup ok I np (r1.append r2))
theorem RpAll.rep {K : PySem.W.Frag} {C : Addr} {N : Addr → Prop} {H : Hp} {vs : List V} {ds : List D} (h : RpAll K C N H vs ds) : ∀ k : Nat, RpAll K C N H (List.replicate k vs).flatten (List.replicate k ds).flatten
  | 0 => .nil
  | k + 1 => by
    rw [List.replicate_succ, List.replicate_succ, List.flatten_cons, List.flatten_cons]
    exact h.append (RpAll.rep h k)
theorem r2_rep {xs : List D} {k : Int} (h1 : 0 ≤ k) (h2 : k ≤ 1000) (h : xs.length ≤ 1000) : R2P w rRep (.lst xs) (.int k) fun x => x = .lst (List.replicate k.toNat xs).flatten := fun ok H x y I ra rb Q q => by
  cases rb
  cases ra with
  | lst n1 e1 r1 =>
    refine ⟨_, _, _, rfl, rfl, e1, by omega, by omega, ?_, fun p np => ?_⟩
    · rw [r1.len, sizeLine_eq]
      have : xs.length * k.toNat ≤ 1000 * 1000 := Nat.mul_le_mul h (by omega)
      omega
    · exact q _ _ _ rfl (Ex.same (same_new np)) (ok.ext _ _ I (same_new np)) (rp_lst ok I np (r1.rep _))
/-! slices -/
def cutD (ds : List D) (lo hi : Option Int) : List D := (ds.drop (HT.sIx ds.length 0 lo)).take (HT.sIx ds.length ds.length hi - HT.sIx ds.length 0 lo)
def EvO (w : Wd) (to : TO) (δ : List (Option D)) (o : Option Int) : Prop :=
  w.Ok → ∀ σ H, w.Env H σ δ → w.I H → ∀ Q : Option Int → Hp → Prop, (∀ H2, Ex w.Z H H2 → w.I H2 → Q o H2) → to σ H Q
theorem eo_none : EvO w tNoPart δ none := fun ok σ H e I Q q => q H (Ex.refl H) I
theorem eo_some {i : Int} (h : Ev w te δ (.int i)) : EvO w (tPart te) δ (some i) := fun ok σ H e I Q q => h ok σ H e I _ fun d v H1 p e1 I1 r => by
  subst p
  cases r
  exact ⟨i, rfl, q H1 e1 I1⟩
abbrev RSl := V → Option Int → Option Int → Hp → VK → Prop
def RSP (w : Wd) (r : RSl) (a : D) (lo hi : Option Int) (P : D → Prop) : Prop :=
  w.Ok → ∀ H x, w.I H → w.Rp H x a → ∀ Q : VK, (∀ d v H2, P d → Ex w.Z H H2 → w.I H2 → w.Rp H2 v d → Q v H2) → r x lo hi H Q
theorem ev_sl {r : RSl} {tlo thi : TO} {lo hi : Option Int} (ha : Ev w te δ a) (hl : EvO w tlo δ lo) (hh : EvO w thi δ hi) (hr : RSP w r a lo hi P) : EvP w (tSl r te tlo thi) δ P := fun ok σ H e I Q q =>
  ha ok σ H e I _ fun d v H1 p e1 I1 rv => by
    subst p
    refine hl ok σ H1 (e.car (Ex.car ok e1)) I1 _ fun H2 e2 I2 => hh ok σ H2 (e.car (Ex.car ok (e1.trans e2))) I2 _ fun H3 e3 I3 => ?_
    exact hr ok H3 v I3 (rv.car (Ex.car ok (e2.trans e3))) Q fun d v H4 p e4 I4 r4 => q d v H4 p (e1.trans (e2.trans (e3.trans e4))) I4 r4
theorem rs_lst {ds : List D} {lo hi : Option Int} : RSP w (rSlL w.K) (.lst ds) lo hi fun x => x = .lst (cutD ds lo hi) := fun ok H x I ra Q q => by
  cases ra with
  | lst n h r => exact ⟨_, _, rfl, SqL.of h, fun p np => q _ _ _ rfl (Ex.same (same_new np)) (ok.ext _ _ I (same_new np)) (rp_lst ok I np (cutV_eq r lo hi))⟩
theorem rs_tup {ds : List D} {lo hi : Option Int} : RSP w (rSlA w.K) (.tup ds) lo hi fun x => x = .tup (cutD ds lo hi) := fun ok H x I ra Q q => by
  cases ra with
  | @tup a vs _ h r =>
    refine ⟨a, vs, rfl, h, fun e => ?_, fun _ p np => q _ _ _ rfl (Ex.same (same_new np)) (ok.ext _ _ I (same_new np)) (rp_tup ok I np (cutV_eq r lo hi))⟩
    have e' : cutD ds lo hi = ds := by
      unfold cutD
      rw [← r.len, e.1, e.2, List.drop_zero, Nat.sub_zero, List.take_of_length_le (by rw [r.len]; exact Nat.le_refl _)]
    rw [e'] at q
    exact q _ _ H rfl (Ex.refl H) I (.tup h r)
theorem rs_str {z : Str} {lo hi : Option Int} (hz : z.length ≤ 100000) : RSP w rSlS (.str z) lo hi fun x => x = .str (cutS z lo hi) := fun ok H x I ra Q q => by
  cases ra
  exact ⟨z, rfl, by rw [sizeLine_eq]; exact Nat.le_trans hz (by decide), q _ _ H rfl (Ex.refl H) I (.str _)⟩
theorem rs_or1 {r r' : RSl} {lo hi : Option Int} (h : RSP w r a lo hi P) : RSP w (fun x lo hi H Q => r x lo hi H Q ∨ r' x lo hi H Q) a lo hi P := fun ok H x I ra Q q => .inl (h ok H x I ra Q q)
theorem rs_or2 {r r' : RSl} {lo hi : Option Int} (h : RSP w r' a lo hi P) : RSP w (fun x lo hi H Q => r x lo hi H Q ∨ r' x lo hi H Q) a lo hi P := fun ok H x I ra Q q => .inr (h ok H x I ra Q q)
/-! built-in functions -/
def lenD : D → Option Nat
  | .str x => if x.length ≤ 100000 then some x.length else none
  | .lst ds => some ds.length
  | .tup ds => some ds.length
  | _ => none
theorem rc_len {n : Nat} (h : lenD a = some n) : RCP w (rLenU w.K) [a] fun d => d = .int (n : Int) := fun ok H xs I r Q q => by
  cases r with
  | cons r t =>
    cases t
    refine ⟨_, n, rfl, ?_, q _ _ H rfl (Ex.refl H) I (.int _)⟩
    cases r with
    | str x =>
      have h' : (if x.length ≤ 100000 then some x.length else none) = some n := h
      by_cases hx : x.length ≤ 100000
      · rw [if_pos hx] at h'
        cases h'
        exact ⟨by rw [sizeLine_eq]; exact Nat.le_trans hx (by decide), rfl⟩
      · rw [if_neg hx] at h'
        cases h'
    | lst n' h' r' => cases h; exact .inl ⟨_, SqL.of h', r'.len.symm⟩
    | tup h' r' => cases h; exact .inr ⟨_, h', r'.len.symm⟩
    | non => cases h
    | bl => cases h
    | int => cases h
    | adr => cases h
    | dic => cases h
    | ins => cases h
theorem rc_abs {i : Int} : RCP w rAbsU [.int i] fun d => d = .int (if i < 0 then -i else i) := fun ok H xs I r Q q => by
  cases r with
  | cons r t => cases t; cases r; exact ⟨i, rfl, q _ _ H rfl (Ex.refl H) I (.int _)⟩
theorem rc_intI {i : Int} : RCP w rIntU [.int i] fun d => d = .int i := fun ok H xs I r Q q => by
  cases r with
  | cons r t => cases t; cases r; exact .inl ⟨i, rfl, q _ _ H rfl (Ex.refl H) I (.int _)⟩
theorem rc_intB {k : Bool} : RCP w rIntU [.bl k] fun d => d = .int (if k then 1 else 0) := fun ok H xs I r Q q => by
  cases r with
  | cons r t => cases t; cases r; exact .inr ⟨k, rfl, q _ _ H rfl (Ex.refl H) I (.int _)⟩
theorem rc_strI {i : Int} (h : i.natAbs.log2 < 1920) : RCP w rStrU [.int i] fun d => d = .str (toString i) := fun ok H xs I r Q q => by
  cases r with
  | cons r t => cases t; cases r; exact ⟨i, rfl, h, q _ _ H rfl (Ex.refl H) I (.str _)⟩
theorem rc_sum {ns : List Int} : RCP w (rSum w.K) [.lst (ns.map .int)] fun d => d = .int ns.sum := fun ok H xs I r Q q => by
  cases r with
  | cons r t =>
    cases t
    cases r with
    | @lst a vs _ n h rr =>
      have e := rr.ints_inv
      subst e
      exact ⟨a, ns, rfl, SqL.of h, q _ _ H rfl (Ex.refl H) I (.int _)⟩
/-- list(xs) -/
theorem rc_listL {ds : List D} : RCP w (rListU w.K) [.lst ds] fun d => d = .lst ds := fun ok H xs I r Q q => by
  cases r with
  | cons r t =>
    cases t
    cases r with
    | @lst a vs _ n h rr => exact ⟨a, vs, rfl, .inl (SqL.of h), fun p np => q _ _ _ rfl (Ex.same (same_new np)) (ok.ext _ _ I (same_new np)) (rp_lst ok I np rr)⟩
theorem rc_listT {ds : List D} : RCP w (rListU w.K) [.tup ds] fun d => d = .lst ds := fun ok H xs I r Q q => by
  cases r with
  | cons r t =>
    cases t
    cases r with
    | @tup a vs _ h rr => exact ⟨a, vs, rfl, .inr h, fun p np => q _ _ _ rfl (Ex.same (same_new np)) (ok.ext _ _ I (same_new np)) (rp_lst ok I np rr)⟩
theorem rc_tupL {ds : List D} : RCP w (rTupU w.K) [.lst ds] fun d => d = .tup ds := fun ok H xs I r Q q => by
  cases r with
  | cons r t =>
    cases t
    cases r with
    | @lst a vs _ n h rr => exact ⟨a, vs, rfl, .inl ⟨SqL.of h, fun p np => q _ _ _ rfl (Ex.same (same_new np)) (ok.ext _ _ I (same_new np)) (rp_tup ok I np rr)⟩⟩
theorem rc_tupT {ds : List D} : RCP w (rTupU w.K) [.tup ds] fun d => d = .tup ds := fun ok H xs I r Q q => by
  cases r with
  | cons r t =>
    cases t
    cases r with
    | @tup a vs _ h rr => exact ⟨a, vs, rfl, .inr ⟨h, q _ _ H rfl (Ex.refl H) I (.tup h rr)⟩⟩
/-! isinstance -/
/-- the built-in type of data -/
def tyD : D → Option String
  | .non => some "NoneType"
  | .bl _ => some "bool"
  | .int _ => some "int"
  | .str _ => some "str"
  | .lst _ => some "list"
  | .tup _ => some "tuple"
  | .dic _ => some "dict"
  | .ins _ => none
  | .adr _ => none
theorem ty_of {K : PySem.W.Frag} {C : Addr} {N : Addr → Prop} {H : Hp} {v : V} {d : D} {T : String} (r : Rp K C N H v d) (h : tyD d = some T) : TyX K H v (.type T) := by
  cases r with
  | non => cases h; exact .base .non
  | bl b => cases h; exact .base (.bl b)
  | int i => cases h; exact .base (.int i)
  | str x => cases h; exact .base (.str x)
  | lst n e r => cases h; exact .base (.lst e)
  | dic n e r => cases h; exact .base (.dK e)
  | adr => cases h
  | ins => cases h
  | tup e r =>
    cases h
    rcases e with (e | ⟨o, e⟩) | ⟨o, its, n, e, c, _⟩
    · exact .base (.tup e)
    · exact .fTuple e
    · exact .kTuple e c
/-- isinstance(x, T) -/
theorem ev_isi {T : String} {Tn : String} {k : Bool} (ha : Ev w te δ a) (h : tyD a = some T) (hk : kitB T Tn = some k) : Ev w (tCB (rIsi w.K) (tCons te (tCons (tC (.ty Tn)) tNil))) δ (.bl k) := fun ok σ H e I Q q =>
  ha ok σ H e I _ fun d v H1 p e1 I1 r => by
    subst p
    exact ⟨v, .ty Tn, _, _, k, rfl, .ty Tn, ty_of r h, kit_ty hk, q _ _ H1 rfl e1 I1 (.bl k)⟩
/-- isinstance(x, (T, U)) -/
theorem ev_isi2 {T : String} {T1 T2 : String} {k1 k2 : Bool} (ha : Ev w te δ a) (h : tyD a = some T) (h1 : kitB T T1 = some k1) (h2 : kitB T T2 = some k2) :
    Ev w (tCB (rIsiT w.K) (tCons te (tCons (tTup (tCons (tC (.ty T1)) (tCons (tC (.ty T2)) tNil))) tNil))) δ (.bl (k1 || k2)) := fun ok σ H e I Q q =>
  ha ok σ H e I _ fun d v H1 p e1 I1 r => by
    subst p
    refine ⟨by show 2 ≤ sizeLine; decide, fun tp np => ?_⟩
    have s := same_new (o := .tup [.ty T1, .ty T2]) np
    refine ⟨v, tp, _, .type T, _, k1 || k2, rfl, upd_same, .cons (.ty T1) (.cons (.ty T2) .nil), ty_of (r.car (Same.car s)) h, ?_, q _ _ _ rfl (e1.trans (Ex.same s)) (ok.ext _ _ I1 s) (.bl _)⟩
    refine kitAny_cons (kit_ty h1) (fun e => ?_) fun e => by rw [e]; rfl
    subst e
    exact kitAny_cons (kit_ty h2) (fun e => by subst e; exact kitAny_nil) fun e => by rw [e]; rfl
end
end Lr
set_option Elab.async false
set_option maxRecDepth 100000
set_option maxHeartbeats 4000000
set_option linter.all false
set_option autoImplicit false
/-! Promises, calls, errors, match. -/
namespace Lr
open PySem L2 PyProof.Rows

/-- what the program raises -/
inductive Er where
  | size | token | sign | table | full (at_ : Int) | less (l : Int) | large (n : Int)
/-- where the classes of errors stand -/
structure ExAds where
  size : Addr
  token : Addr
  sign : Addr
  table : Addr
  full : Addr
  less : Addr
  large : Addr
def ErAt (X : ExAds) : Er → Value → Option Addr → Hp → Prop
  | .size, c, _, _ => c = .ref X.size
  | .token, c, _, _ => c = .ref X.token
  | .sign, c, _, _ => c = .ref X.sign
  | .table, c, _, _ => c = .ref X.table
  | .full n, c, d, H => c = .ref X.full ∧ ∃ a, d = some a ∧ H a = some (.xd [("at", .int n)])
  | .less n, c, d, H => c = .ref X.less ∧ ∃ a, d = some a ∧ H a = some (.xd [("letter", .int n)])
  | .large n, c, d, H => c = .ref X.large ∧ ∃ a, d = some a ∧ H a = some (.xd [("limit", .int n)])
abbrev Spec := List D → (D → Prop) → (Er → Prop) → Prop
/-- a def that changes nothing that stood: S says which data it takes, what it may give (P) and what it may raise (PE) -/
def spX (K : PySem.W.Frag) (C : Addr) (X : ExAds) (S : Spec) : Sp := fun vs H Q E =>
  ∃ (N : Addr → Prop) (ds : List D) (P : D → Prop) (PE : Er → Prop), RpAll K C N H vs ds ∧ (∀ a, H a = none → N a) ∧ S ds P PE ∧ (∀ d v H', P d → Same H H' → Rp K C N H' v d → Q v H') ∧ ∀ er c dx H', PE er → Same H H' → ErAt X er c dx H' → E c dx H'
/-- a def of the module by its name -/
structure Df (K : PySem.W.Frag) (mg : Str → Option Value) (x : Str) (st : Stmt) (ps : List Str) : Prop where
  ex : ∃ (f : Addr) (fd : FuncData), mg x = some (.ref f) ∧ Fun K x x st f fd ∧ Binds K fd ps []
structure Cal (P : Program) (w : World) (K : PySem.W.Frag) (mg : Str → Option Value) (base : Heap) (k : Nat) (x : Str) (sp : Sp) : Prop where
  ex : ∃ (f : Addr) (fd : FuncData) (ps : List Str), mg x = some (.ref f) ∧ PySem.W.keepIn K (.ref f) = true ∧ Binds K fd ps [] ∧ FnOk P w K mg base (L2.CX P w) k f fd ps sp
section
variable {P : Program} {w : World} {K : PySem.W.Frag} {mg : Str → Option Value} {base : Heap}
theorem Cal.mono {j k : Nat} {x : Str} {sp : Sp} (c : Cal P w K mg base j x sp) (h : j ≤ k) : Cal P w K mg base k x sp := by
  obtain ⟨f, fd, ps, h1, h2, h3, h4⟩ := c.ex
  exact ⟨f, fd, ps, h1, h2, h3, h4.mono h⟩
/-- a def by its body, over data -/
theorem fn_X {x : Str} {st : Stmt} {names ps : List Str} {k : Nat} {C : Addr} {XA : ExAds} {S : Spec} (F : Df K mg x st ps) (sc : FnScope names ps (defScope st)) (hl : ∀ ds Q E, S ds Q E → ds.length = ps.length)
    (body : ∀ (f : Addr) (cdv : Value) (A : Around) (outer : List Env) (s : Shared) (H : Hp) (E : XK), Room k (A.deeper (envOfC x (defScope st) s.heap.objs.size f cdv)) →
      ∃ t, PSs (cxOf (L2.CX P w) P w K mg base names x (defScope st) f cdv A outer s H E) (defBody st) t ∧
        ∀ (N : Addr → Prop) (H0 : Hp) (ds : List D) (Pd : D → Prop) (PE : Er → Prop), S ds Pd PE → (∀ er c dx H', PE er → Same H0 H' → ErAt XA er c dx H' → E c dx H') →
          ∀ De : Ends, (∀ d v H', Pd d → Ex (fun _ => False) H0 H' → (pureW K C N H0).Rp H' v d → De.rt v H') → (Pd .non → ∀ σ H', Ex (fun _ => False) H0 H' → De.nx σ H') → Go (pureW K C N H0) H0 [] [] (startD names ds) t De) :
    Cal P w K mg base (k + 1) x (spX K C XA S) := by
  obtain ⟨f, fd, hm, hf, hb⟩ := F.ex
  refine ⟨f, fd, ps, hm, hf.kp, hb, hf.okX sc (fun vs H Q E ⟨_, ds, Pd, PE, r, _, s, _⟩ => r.len.trans (hl ds Pd PE s)) fun cdv A outer s H vs Q E hr h => ?_⟩
  obtain ⟨N, ds, Pd, PE, r, fr, hS, hq, he⟩ := h
  obtain ⟨t, ht, g⟩ := body f cdv A outer s H E hr
  refine ⟨t, ht, g N H ds Pd PE hS he { nx := fun _ H' => Q .non H', rt := Q } (fun d v H' p e r' => hq d v H' p (fun a o h => e a o h (.inl id)) r') (fun p σ H' e => hq .non .non H' p (fun a o h => e a o h (.inl id)) .non) _ _ ⟨(Slots.start names r).car ⟨fun a o h n => ⟨h, n, by simp [ads]⟩, fun a o h _ => h⟩, ⟨⟨fr, Same.refl _⟩, (fun m hm => by cases hm)⟩, Ex.refl _, (fun a ha => by cases ha), (fun x hx => by cases hx)⟩⟩
end
section
variable {X : Cx} {x : Str} {p pos : Pos} {e : Expr} {es : List Expr} {t : TA} {sp : Sp} {j k : Nat}
/-- f(e, ..) where nothing is raised -/
theorem pe_cal (c : Cal X.prog X.w X.K X.mg X.base k x sp) (hr : Room j X.A) (ha : PA X (e :: es) t) (hk : k ≤ j := by decide) (hg : Gl X x := by rfl) (hdb : (x == ("__debug__" : Str)) = false := by decide)
    (he : starEach (e :: es) X.env = (false, eval e X.env) :: starEach es X.env := by rfl) (hpl : (backTo pos (starEach es X.env)).any (·.1) = false := by rfl) : PE X (.Call (.Name x p) (e :: es) [] pos) (tCall sp [] E0 t) := by
  obtain ⟨f, fd, ps, h1, h2, h3, h4⟩ := c.ex
  exact pe_call h4 (hr.mono hk) hg h1 h2 h3 .nil passL ha hdb he hpl
/-- f(e, ..), what it raises goes on -/
theorem pe_calX {E : XK} (tk : Takes X (fun c d _ H => E c d H)) (c : Cal X.prog X.w X.K X.mg X.base k x sp) (hr : Room j X.A) (ha : PA X (e :: es) t) (hk : k ≤ j := by decide) (hg : Gl X x := by rfl) (hdb : (x == ("__debug__" : Str)) = false := by decide)
    (he : starEach (e :: es) X.env = (false, eval e X.env) :: starEach es X.env := by rfl) (hpl : (backTo pos (starEach es X.env)).any (·.1) = false := by rfl) : PE X (.Call (.Name x p) (e :: es) [] pos) (tCall sp [] E t) := by
  obtain ⟨f, fd, ps, h1, h2, h3, h4⟩ := c.ex
  exact pe_call h4 (hr.mono hk) hg h1 h2 h3 .nil (passes_call tk fun _ _ _ _ h => h) ha hdb he hpl
end
section
variable {w : Wd} {δ : List (Option D)} {tl : TA} {P : D → Prop} {XA : ExAds} {S : Spec} {te : TE}
theorem evp_call {PA : List D → Prop} {E : XK} (h : EvAP w tl δ PA) (hS : ∀ ds, PA ds → S ds P fun _ => False) : EvP w (tCall (spX w.K w.C XA S) [] E tl) δ P := fun ok σ H e I Q q =>
  h ok σ H e I _ fun ds vs H1 p e1 I1 r => by
    show spX w.K w.C XA S (vs ++ []) H1 Q E
    rw [List.append_nil]
    exact ⟨w.N, ds, P, _, r, fun a ha => ok.fr _ _ I1 ha, hS ds p, fun d v H' pd s r' => q d v H' pd (e1.trans (Ex.same s)) (ok.ext _ _ I1 s) r', fun er c dx H' z => z.elim⟩
theorem ev_call {ds : List D} {E : XK} (h : EvA w tl δ ds) (hS : S ds P fun _ => False) : EvP w (tCall (spX w.K w.C XA S) [] E tl) δ P := evp_call h fun _ e => e ▸ hS
theorem evp_callX {PA : List D → Prop} {E : XK} {PE : Er → Prop} (h : EvAP w tl δ PA) (hS : ∀ ds, PA ds → S ds P PE) (hE : ∀ er c dx H', PE er → w.I H' → ErAt XA er c dx H' → E c dx H') : EvP w (tCall (spX w.K w.C XA S) [] E tl) δ P := fun ok σ H e I Q q =>
  h ok σ H e I _ fun ds vs H1 p e1 I1 r => by
    show spX w.K w.C XA S (vs ++ []) H1 Q E
    rw [List.append_nil]
    exact ⟨w.N, ds, P, PE, r, fun a ha => ok.fr _ _ I1 ha, hS ds p, fun d v H' pd s r' => q d v H' pd (e1.trans (Ex.same s)) (ok.ext _ _ I1 s) r', fun er c dx H' z s ea => hE er c dx H' z (ok.ext _ _ I1 s) ea⟩
theorem ev_callX {ds : List D} {E : XK} {PE : Er → Prop} (h : EvA w tl δ ds) (hS : S ds P PE) (hE : ∀ er c dx H', PE er → w.I H' → ErAt XA er c dx H' → E c dx H') : EvP w (tCall (spX w.K w.C XA S) [] E tl) δ P := evp_callX h (fun _ e => e ▸ hS) hE
/-! f-strings -/
theorem ev_fmtI {i : Int} (h : Ev w te δ (.int i)) (hi : i.natAbs.log2 < 1920) : Ev w (tFmt te) δ (.str (toString i)) := fun ok σ H e I Q q =>
  h ok σ H e I _ fun d v H1 p e1 I1 r => by
    subst p
    cases r
    exact .inr ⟨i, rfl, hi, q _ _ H1 rfl e1 I1 (.str _)⟩
/-- the parts of an f-string: some texts, not too long -/
def EvJ (w : Wd) (ts : List TE) (δ : List (Option D)) (n : Nat) : Prop := ∀ acc : Str, acc.length + n ≤ 100000 → w.Ok → ∀ σ H, w.Env H σ δ → w.I H → ∀ Q : Str → Hp → Prop, (∀ z H2, Ex w.Z H H2 → w.I H2 → Q z H2) → tJs ts acc σ H Q
theorem ej_nil : EvJ w [] δ 0 := fun acc _ ok σ H e I Q q => q acc H (Ex.refl H) I
theorem str_len_append (x y : Str) : (x ++ y).length = x.length + y.length := by
  show (x.cps ++ y.cps).size = _
  rw [Array.size_append]
  rfl
theorem ej_cons {ts : List TE} {x : Str} {m n : Nat} (h : Ev w te δ (.str x)) (hm : x.length ≤ m) (r : EvJ w ts δ n) : EvJ w (te :: ts) δ (m + n) := fun acc ha ok σ H e I Q q =>
  h ok σ H e I _ fun d v H1 p e1 I1 rv => by
    subst p
    cases rv
    refine ⟨x, rfl, by rw [str_len_append, sizeLine_eq]; omega, r (acc ++ x) (by rw [str_len_append]; omega) ok σ H1 (e.car (Ex.car ok e1)) I1 Q fun z H2 e2 I2 => q z H2 (e1.trans e2) I2⟩
theorem evp_joined {ts : List TE} {n : Nat} (h : EvJ w ts δ n) (hn : n ≤ 100000) : EvP w (fun σ H Q => tJs ts Str.empty σ H fun out H1 => Q (.str out) H1) δ fun d => ∃ z, d = .str z := fun ok σ H e I Q q =>
  h Str.empty (by show 0 + n ≤ 100000; omega) ok σ H e I _ fun z H2 e2 I2 => q (.str z) (.str z) H2 ⟨z, rfl⟩ e2 I2 (.str z)
end
section
variable {b : Wd} {H0 : Hp} {Γ : List (V × D)} {M : ML} {δ : List (Option D)} {te : TE} {P : D → Prop} {De : Ends} {E : XK} {cls : Value}
/-- raise C('..') -/
theorem go_raise (h : ∀ H, Ex b.Z H0 H → (b.wi M).I H → E cls none H) : Go b H0 Γ M δ (fun _ σ H => (fun (_ : L2.St) (H : Hp) (Q : XK) => Q cls none H) σ H fun c d H' => (fun (c : Value) (d : Option Addr) (_ : L2.St) (H : Hp) => E c d H) c d σ H') De := fun σ H p => h H p.ex p.inv
/-- raise C(e) -/
theorem go_raise1 (bb : b.Base H0) (he : EvP (b.wi M) te δ P) (h : ∀ H, Ex b.Z H0 H → (b.wi M).I H → E cls none H) : Go b H0 Γ M δ (fun _ σ H => (fun (σ : L2.St) (H : Hp) (Q : XK) => te σ H fun _ H1 => Q cls none H1) σ H fun c d H' => (fun (c : Value) (d : Option Addr) (_ : L2.St) (H : Hp) => E c d H) c d σ H') De := fun σ H p =>
  he (bb.ok.wi M) σ H p.env p.inv _ fun d v H1 pd e1 I1 r => h H1 (p.ex.trans e1) I1
end
/-! ### match on a text -/
/-- match-cases by a text -/
abbrev TMs := Str → TS
structure PMs (X : Cx) (cs : List MatchCase) (t : TMs) : Prop where
  run : ∀ (first : Bool) (pins : List (Addr × Obj)) (s : Shared) (σ : L2.St) (H : Hp) (D : Ends) (z : Str) (k : Tok), Inv X pins σ H s → t z D σ H → wpAny (model X.prog X.w) X.A (matchCases cs X.env (.str z k) first) (SP X pins D) X.xe s
def mNil : TMs := fun _ => tNext
def mStr (x : Str) (t : TS) (r : TMs) : TMs := fun z => if z = x then t else r z
def mAny (t : TS) : TMs := fun _ => t
section
variable {X : Cx} {body : List Stmt} {rest : List MatchCase} {t : TS} {r : TMs} {x : Str} {j : Nat} {p1 p2 pos : Pos} {e : Expr} {te : TE}
theorem pm_nil : PMs X [] mNil := ⟨fun first pins s σ H D z k I h => wpAny_matchCases_nil ⟨σ, H, I, h⟩⟩
theorem pm_str (hb : PSs X body t) (hr : PMs X rest r) : PMs X (⟨.MatchValue (.Constant (.str x) j p1) p2, none, body⟩ :: rest) (mStr x t r) := by
  refine ⟨fun first pins s σ H D z k I h => ?_⟩
  refine wpAny_matchCases_cons (wpAny_matchPattern_Value ?_)
  refine thn ((pe_str (X := X)).run pins s σ H (fun v H1 => v = .str x ∧ H1 = H) I ⟨rfl, rfl⟩) fun u s1 ⟨v, H1, I1, r1, ev, eH⟩ => ?_
  subst ev
  subst eH
  obtain ⟨k', rfl⟩ := r1
  refine thn ((op_eq (X := X)) pins s1 σ H1 (.str z) (.str x) _ _ (fun v H2 => v = .bl (decide (V.str z = V.str x)) ∧ H2 = H1) I1 ⟨k, rfl⟩ ⟨k', rfl⟩ ⟨rfl, rfl, rfl⟩) fun u s2 ⟨v, H2, I2, r2, ev, eH⟩ => ?_
  subst ev
  subst eH
  cases r2
  refine thn ((tru_ok (X := X)) pins s2 σ H2 (.bl (decide (V.str z = V.str x))) _ (fun b H3 => b = decide (V.str z = V.str x) ∧ H3 = H2) I2 rfl ⟨_, rfl, rfl, rfl⟩) fun b s3 ⟨H3, I3, eb, eH⟩ => ?_
  subst eH
  subst eb
  rw [dec_vs]
  by_cases hz : z = x
  · have h' : t D σ H3 := by
      have : mStr x t r z = t := if_pos hz
      rw [this] at h
      exact h
    rw [decide_eq_true hz]
    exact wpAny_assignInOrder_none (hb.run pins s3 σ H3 D I3 h')
  · have h' : r z D σ H3 := by
      have : mStr x t r z = r z := if_neg hz
      rw [this] at h
      exact h
    rw [decide_eq_false hz]
    exact hr.run false pins s3 σ H3 D z k I3 h'
theorem pm_any (hb : PSs X body t) : PMs X (⟨.MatchAs none none p1, none, body⟩ :: rest) (mAny t) := by
  refine ⟨fun first pins s σ H D z k I h => ?_⟩
  exact wpAny_matchCases_cons (wpAny_matchPattern_Capture (wpAny_assignInOrder_none (hb.run pins s σ H D I h)))
/-- match e: .., e a text -/
def tMatch (te : TE) (r : TMs) : TS := fun D σ H => te σ H fun v H1 => ∃ z, v = .str z ∧ r z D σ H1
theorem ps_match {cs : List MatchCase} (he : PE X e te) (hc : PMs X cs r) : PS X (.Match e cs pos) (tMatch te r) := by
  refine ⟨fun pins s σ H D I h => ?_⟩
  refine wpAny_Match (thn (he.run pins s σ H _ I h) fun u s1 ⟨v, H1, I1, r1, z, ez, q⟩ => ?_)
  subst ez
  obtain ⟨k, rfl⟩ := r1
  exact hc.run true pins s1 σ H1 D z k I1 q
end
theorem go_match {b : Wd} {H0 : Hp} {Γ : List (V × D)} {M : ML} {δ : List (Option D)} {te : TE} {r : TMs} {De : Ends} {z : Str} (bb : b.Base H0) (he : Ev (b.wi M) te δ (.str z)) (h : Go b H0 Γ M δ (r z) De) : Go b H0 Γ M δ (tMatch te r) De := fun σ H p =>
  he (bb.ok.wi M) σ H p.env p.inv _ fun d v H1 pd e1 I1 rv => by
    subst pd
    cases rv
    exact ⟨z, rfl, h _ _ (p.step bb.ok e1 I1)⟩
end Lr
set_option Elab.async false
set_option maxRecDepth 100000
set_option maxHeartbeats 4000000
set_option linter.all false
set_option autoImplicit false
/-! The text by places; one rule for each sign of Python. -/
namespace Lr
open PySem L2 PyProof.Rows

def topS (i : Nat) : Stmt := PySem.Challenge.pw_leastreader_k27_whole_tables.main.body.getD i (.Pass ⟨0, 0, 0, 0⟩)

section
variable {X : Cx}
def rAddU (K : PySem.W.Frag) : R2 := fun x y H Q => (rI0 fun i j => .int (i + j)) x y H Q ∨ (fun x y H Q => (∃ i j, x = .str i ∧ y = .str j ∧ i.length + j.length ≤ sizeLine ∧ Q (.str (i ++ j)) H) ∨ (fun x y H Q => rCat x y H Q ∨ rCatA K x y H Q) x y H Q) x y H Q
theorem xAdd (K : PySem.W.Frag) (hK : X.K = K := by rfl) : OpR X (binaryOp .Add) (rAddU K) := hK ▸ op_add.or (op_add_str.or (op_cat.or op_catA))
def rSubU : R2 := rI0 fun i j => .int (i - j)
theorem xSub : OpR X (binaryOp .Sub) rSubU := op_sub
def rMulU : R2 := fun x y H Q => (rI CMul fun i j => .int (i * j)) x y H Q ∨ rRep x y H Q
theorem xMul : OpR X (binaryOp .Mult) rMulU := op_mul.or op_rep
def rModU : R2 := rI (fun _ j => 0 < j) fun i j => .int (i % j)
theorem xMod : OpR X (binaryOp .Mod) rModU := op_mod
def rDivU : R2 := rI CDiv fun i j => .int (i / j)
theorem xDiv : OpR X (binaryOp .FloorDiv) rDivU := op_fdiv
def rShrU : R2 := rI (fun _ j => 0 ≤ j) fun i j => .int (i / 2 ^ j.toNat)
theorem xShr : OpR X (binaryOp .RShift) rShrU := op_shr
def rEqU (K : PySem.W.Frag) : R2 := fun x y H Q => rEq x y H Q ∨ rEqD K x y H Q
theorem xEq (K : PySem.W.Frag) (hu : X.A.units + 64 < cLine) (hK : X.K = K := by rfl) : OpR X (compareOp .Eq) (rEqU K) := hK ▸ op_eq.or (op_eqD hu)
def rNeU (K : PySem.W.Frag) : R2 := fun x y H Q => rNe x y H Q ∨ rNeD K x y H Q
theorem xNe (K : PySem.W.Frag) (hu : X.A.units + 64 < cLine) (hK : X.K = K := by rfl) : OpR X (compareOp .NotEq) (rNeU K) := hK ▸ op_ne.or (op_neD hu)
def rLtU : R2 := rI0 fun i j => .bl (decide (i < j))
def rLeU : R2 := rI0 fun i j => .bl (decide (i ≤ j))
def rGtU : R2 := rI0 fun i j => .bl (decide (j < i))
def rGeU : R2 := rI0 fun i j => .bl (decide (j ≤ i))
theorem xLt : OpR X (compareOp .Lt) rLtU := op_lt
theorem xLe : OpR X (compareOp .LtE) rLeU := op_le
theorem xGt : OpR X (compareOp .Gt) rGtU := op_gt
theorem xGe : OpR X (compareOp .GtE) rGeU := op_ge
def rIsU : R2 := fun x y H Q => y = .non ∧ Q (.bl (decide (x = .non))) H
def rIsNotU : R2 := fun x y H Q => y = .non ∧ Q (.bl (!decide (x = .non))) H
theorem xIs : OpR X (compareOp .Is) rIsU := op_isN
theorem xIsNot : OpR X (compareOp .IsNot) rIsNotU := op_notN
def rIxU (K : PySem.W.Frag) (w : World) : R2 := fun x y H Q => rIxL K x y H Q ∨ (fun x y H Q => rIxT K x y H Q ∨ rIxD K w x y H Q) x y H Q
theorem xIx (K : PySem.W.Frag) (w : World) (hK : X.K = K := by rfl) (hw : X.w = w := by rfl) : IxR X (rIxU K w) := hK ▸ hw ▸ ix_list.or (ix_tup.or ix_kdict)
def rSlU (K : PySem.W.Frag) : RSl := fun x lo hi H Q => rSlL K x lo hi H Q ∨ (fun x lo hi H Q => rSlA K x lo hi H Q ∨ rSlS x lo hi H Q) x lo hi H Q
theorem xSl (K : PySem.W.Frag) (hK : X.K = K := by rfl) : SlR X (rSlU K) := hK ▸ sl_list.or (sl_tupA.or sl_str)
/-- a module's constant -/
def Gc (mg : Str → Option Value) (x : Str) (v : V) : Prop := ∃ u, mg x = some u ∧ RelV v u
theorem pe_gk {x : Str} {v : V} {pos : Pos} (h : Gc X.mg x v) (hg : Gl X x := by rfl) (hd : (x == ("__debug__" : Str)) = false := by decide) : PE X (.Name x pos) (tC v) := by
  obtain ⟨u, h1, h2⟩ := h
  exact pe_glob hg h1 h2 hd
/-- x = e -/
theorem ps_st (i : Nat) {x : Str} {e : Expr} {te : TE} {pos pos' : Pos} (hN : X.N.Nodup) (he : PE X e te) (hi : X.N[i]? = some x := by rfl) (hx : Loc X.env.scope x := by first | exact Or.inl rfl | exact Or.inr rfl)
    (hs : swapsWith e (some (.Name x pos')) pos.line X.env = pure false := by rfl) (hf : X.fn x = true ∨ X.env.scope.names.lookup x = some .local := by first | exact .inl rfl | exact .inr rfl) :
    PS X (.Assign [.Name x pos'] e pos) (tAsg te (gName i)) := ps_set hN hi hx he hs hf
theorem pg_nm (i : Nat) {x : Str} {pos : Pos} (hN : X.N.Nodup) (hi : X.N[i]? = some x := by rfl) (hx : Loc X.env.scope x := by first | exact Or.inl rfl | exact Or.inr rfl) (hf : X.fn x = true ∨ X.env.scope.names.lookup x = some .local := by first | exact .inl rfl | exact .inr rfl) :
    PG X (.Name x pos) (gName i) := pg_name hN hi hx hf
theorem ps_au (i : Nat) {x : Str} {e : Expr} {te : TE} {op : Operator} {r : TIp} {pos pos' : Pos} (hN : X.N.Nodup) (he : PE X e te) (ho : PIp X op r) (hi : X.N[i]? = some x := by rfl) (hx : Loc X.env.scope x := by first | exact Or.inl rfl | exact Or.inr rfl)
    (hf : X.fn x = true ∨ X.env.scope.names.lookup x = some .local := by first | exact .inl rfl | exact .inr rfl) : PS X (.AugAssign (.Name x pos') op e pos) (tAug i te r) := ps_aug hN hi hx he ho hf
def rIaddU : TIp := fun x y H Q => (rI0 fun i j => .int (i + j)) x y H Q ∨ (∃ i j, x = .str i ∧ y = .str j ∧ i.length + j.length ≤ sizeLine ∧ Q (.str (i ++ j)) H)
theorem xIadd : PIp X .Add rIaddU := iop_add.or iop_add_str
end

section
variable {w : Wd} {δ : List (Option D)} {ta tb tc te : TE} {tl : TA} {t u : TT} {P : D → Prop} {a b c d : D}
theorem r2_add {i j : Int} : R2P w (rAddU w.K) (.int i) (.int j) fun d => d = .int (i + j) := r2_or1 (r2_i0 (g := fun i j => i + j))
theorem r2_addSS {i j : Str} (h : i.length + j.length ≤ 100000) : R2P w (rAddU w.K) (.str i) (.str j) fun d => d = .str (i ++ j) := r2_or2 (r2_or1 (r2_addS h))
theorem r2_addL {xs ys : List D} (h : xs.length + ys.length ≤ 100000) : R2P w (rAddU w.K) (.lst xs) (.lst ys) fun d => d = .lst (xs ++ ys) := r2_or2 (r2_or2 (r2_or1 (r2_catL h)))
theorem r2_addT {xs ys : List D} (h : xs.length + ys.length ≤ 100000) : R2P w (rAddU w.K) (.tup xs) (.tup ys) fun d => d = .tup (xs ++ ys) := r2_or2 (r2_or2 (r2_or2 (r2_catT h)))
theorem r2_sub {i j : Int} : R2P w rSubU (.int i) (.int j) fun d => d = .int (i - j) := r2_i0 (g := fun i j => i - j)
theorem r2_mul {i j : Int} (h : CMul i j) : R2P w rMulU (.int i) (.int j) fun d => d = .int (i * j) := r2_or1 (r2_i (g := fun i j => i * j) h)
theorem r2_mulL {xs : List D} {k : Int} (h1 : 0 ≤ k) (h2 : k ≤ 1000) (h : xs.length ≤ 1000) : R2P w rMulU (.lst xs) (.int k) fun d => d = .lst (List.replicate k.toNat xs).flatten := r2_or2 (r2_rep h1 h2 h)
theorem r2_mod {i j : Int} (h : 0 < j) : R2P w rModU (.int i) (.int j) fun d => d = .int (i % j) := r2_i (g := fun i j => i % j) (Cn := fun _ j => 0 < j) h
theorem r2_div {i j : Int} (h : 0 < j) (h2 : j < 1073741824) : R2P w rDivU (.int i) (.int j) fun d => d = .int (i / j) := r2_i (g := fun i j => i / j) (Cn := CDiv) ⟨h, h2⟩
theorem r2_shr {i j : Int} (h : 0 ≤ j) : R2P w rShrU (.int i) (.int j) fun d => d = .int (i / 2 ^ j.toNat) := r2_i (g := fun i j => i / 2 ^ j.toNat) (Cn := fun _ j => 0 ≤ j) h
theorem r2_lt {i j : Int} : R2P w rLtU (.int i) (.int j) fun d => d = .bl (decide (i < j)) := r2_b0 (g := fun i j => decide (i < j))
theorem r2_le {i j : Int} : R2P w rLeU (.int i) (.int j) fun d => d = .bl (decide (i ≤ j)) := r2_b0 (g := fun i j => decide (i ≤ j))
theorem r2_gt {i j : Int} : R2P w rGtU (.int i) (.int j) fun d => d = .bl (decide (j < i)) := r2_b0 (g := fun i j => decide (j < i))
theorem r2_ge {i j : Int} : R2P w rGeU (.int i) (.int j) fun d => d = .bl (decide (j ≤ i)) := r2_b0 (g := fun i j => decide (j ≤ i))
theorem r2_eI {i j : Int} : R2P w (rEqU w.K) (.int i) (.int j) fun d => d = .bl (decide (i = j)) := r2_or1 r2_eqI
theorem r2_eS {i j : Str} : R2P w (rEqU w.K) (.str i) (.str j) fun d => d = .bl (decide (i = j)) := r2_or1 r2_eqS
theorem r2_eB {i j : Bool} : R2P w (rEqU w.K) (.bl i) (.bl j) fun d => d = .bl (decide (i = j)) := r2_or1 r2_eqB
theorem r2_eD (ha : eqOk a = true) (hb : eqOk b = true) : R2P w (rEqU w.K) a b fun d => d = .bl (deq a b) := r2_or2 (r2_eqD ha hb)
theorem r2_nI {i j : Int} : R2P w (rNeU w.K) (.int i) (.int j) fun d => d = .bl (!decide (i = j)) := r2_or1 r2_neI
theorem r2_nS {i j : Str} : R2P w (rNeU w.K) (.str i) (.str j) fun d => d = .bl (!decide (i = j)) := r2_or1 r2_neS
theorem r2_nD (ha : eqOk a = true) (hb : eqOk b = true) : R2P w (rNeU w.K) a b fun d => d = .bl (!deq a b) := r2_or2 (r2_neD ha hb)
theorem r2_is : R2P w rIsU a .non fun d => d = .bl (isN a) := r2_isN fun _ _ _ r => isN_v r
theorem r2_isNot : R2P w rIsNotU a .non fun d => d = .bl (!isN a) := r2_notN fun _ _ _ r => by rw [isN_v r, Bool.not_not]
theorem r2_xL {W : World} {ds : List D} {i : Int} (h : atI ds i = some d) : R2P w (rIxU w.K W) (.lst ds) (.int i) fun x => x = d := r2_or1 (r2_ixL h)
theorem r2_xT {W : World} {ds : List D} {i : Int} (h : atI ds i = some d) : R2P w (rIxU w.K W) (.tup ds) (.int i) fun x => x = d := r2_or2 (r2_or1 (r2_ixT h))
theorem rs_L {ds : List D} {lo hi : Option Int} : RSP w (rSlU w.K) (.lst ds) lo hi fun x => x = .lst (cutD ds lo hi) := rs_or1 rs_lst
theorem rs_T {ds : List D} {lo hi : Option Int} : RSP w (rSlU w.K) (.tup ds) lo hi fun x => x = .tup (cutD ds lo hi) := rs_or2 (rs_or1 rs_tup)
theorem rs_S {z : Str} {lo hi : Option Int} (hz : z.length ≤ 100000) : RSP w (rSlU w.K) (.str z) lo hi fun x => x = .str (cutS z lo hi) := rs_or2 (rs_or2 (rs_str hz))
end
section
variable {b : Wd} {H0 : Hp} {Γ : List (V × D)} {M : ML} {δ : List (Option D)} {te : TE} {P : D → Prop} {De : Ends} {tz : TS}
theorem pt_aug {i : Nat} {a c : D} {r : TIp} (bb : b.Base H0) (hi : δ[i]? = some (some a)) (he : Ev (b.wi M) te δ c) (hr : R2P (b.wi M) r a c P) {σ : L2.St} {H : Hp} (p : Pt b H0 Γ M δ σ H)
    {R : L2.St → Hp → Prop} (k : ∀ d, P d → ∀ σ' H', Pt b H0 Γ M (δ.set i (some d)) σ' H' → R σ' H') : tAug i te r { nx := R, rt := De.rt, bk := De.bk, ct := De.ct } σ H := by
  obtain ⟨x, h1, h2⟩ := p.env.get hi
  refine ⟨x, h1, he (bb.ok.wi M) σ H p.env p.inv _ fun d v H1 pd e1 I1 rv => ?_⟩
  subst pd
  have okw := bb.ok.wi M
  refine hr okw H1 x v I1 (h2.car (Ex.car okw e1)) rv _ fun d v H2 pd e2 I2 r2 => k d pd _ _ ?_
  have p2 := (p.step bb.ok e1 I1).step bb.ok e2 I2
  exact p2.slots (p2.env.set r2 i)
theorem go_aug {i : Nat} {a c : D} {r : TIp} (bb : b.Base H0) (hi : δ[i]? = some (some a)) (he : Ev (b.wi M) te δ c) (hr : R2P (b.wi M) r a c P) (k : ∀ d, P d → Go b H0 Γ M (δ.set i (some d)) tz De) : Go b H0 Γ M δ (tSeq (tAug i te r) tz) De := fun σ H p =>
  pt_aug (De := { De with nx := tz De }) bb hi he hr p fun d pd σ' H' q => k d pd σ' H' q
theorem go_aug' {i : Nat} {a c : D} {r : TIp} (bb : b.Base H0) (hi : δ[i]? = some (some a)) (he : Ev (b.wi M) te δ c) (hr : R2P (b.wi M) r a c P) (k : ∀ d, P d → Go b H0 Γ M (δ.set i (some d)) tNext De) : Go b H0 Γ M δ (tAug i te r) De := fun σ H p =>
  pt_aug (De := De) bb hi he hr p fun d pd σ' H' q => k d pd σ' H' q
theorem r2_iadd {w : Wd} {i j : Int} : R2P w rIaddU (.int i) (.int j) fun d => d = .int (i + j) := r2_or1 (r2_i0 (g := fun i j => i + j))
theorem r2_iaddS {w : Wd} {i j : Str} (h : i.length + j.length ≤ 100000) : R2P w rIaddU (.str i) (.str j) fun d => d = .str (i ++ j) := r2_or2 (r2_addS h)
end
/-- the names of the built-in functions and types are the built-in ones -/
structure Blt (mg : Str → Option Value) : Prop where
  b_len : mg "len" = none
  b_range : mg "range" = none
  b_enumerate : mg "enumerate" = none
  b_isinstance : mg "isinstance" = none
  b_int : mg "int" = none
  b_bool : mg "bool" = none
  b_str : mg "str" = none
  b_list : mg "list" = none
  b_tuple : mg "tuple" = none
  b_abs : mg "abs" = none
  b_sorted : mg "sorted" = none
  b_sum : mg "sum" = none
  b_min : mg "min" = none
end Lr
namespace Lr
open PySem L2 PyProof.Rows
theorem bt_len : bootBuiltins "len" = some (.builtin "len") := by decide +kernel
theorem bt_abs : bootBuiltins "abs" = some (.builtin "abs") := by decide +kernel
theorem bt_sum : bootBuiltins "sum" = some (.builtin "sum") := by decide +kernel
theorem bt_min : bootBuiltins "min" = some (.builtin "min") := by decide +kernel
theorem bt_sorted : bootBuiltins "sorted" = some (.builtin "sorted") := by decide +kernel
theorem bt_isinstance : bootBuiltins "isinstance" = some (.builtin "isinstance") := by decide +kernel
theorem bt_int : bootBuiltins "int" = some (.type "int") := by decide +kernel
theorem bt_bool : bootBuiltins "bool" = some (.type "bool") := by decide +kernel
theorem bt_str : bootBuiltins "str" = some (.type "str") := by decide +kernel
theorem bt_list : bootBuiltins "list" = some (.type "list") := by decide +kernel
theorem bt_tuple : bootBuiltins "tuple" = some (.type "tuple") := by decide +kernel
end Lr
set_option Elab.async false
set_option maxRecDepth 100000
set_option maxHeartbeats 4000000
set_option linter.all false
set_option autoImplicit false
/-! The law's source of numbers: a list of three, whose first is the list of the cells that are left. -/
namespace Lr
open PySem L2 PyProof.Rows

theorem op_powW {X : Cx} : OpR X (binaryOp .Pow) (rI (fun i j => 0 ≤ j ∧ (Builtin.Int.intBits i : Int) * j ≤ 2 ^ 27) fun i j => .int (i ^ j.toNat)) := opI fun _ _ _ _ _ _ _ hc q => pow_int hc.1 hc.2 q
theorem r2_pow {w : Wd} {i j : Int} (h : 0 ≤ j ∧ (Builtin.Int.intBits i : Int) * j ≤ 2 ^ 27) : R2P w (rI (fun i j => 0 ≤ j ∧ (Builtin.Int.intBits i : Int) * j ≤ 2 ^ 27) fun i j => .int (i ^ j.toNat)) (.int i) (.int j) fun d => d = .int (i ^ j.toNat) :=
  r2_i (g := fun i j => i ^ j.toNat) (Cn := fun i j => 0 ≤ j ∧ (Builtin.Int.intBits i : Int) * j ≤ 2 ^ 27) h
/-- xs[i] of a list, by values -/
def rGetL (K : PySem.W.Frag) : V → V → Hp → VK → Prop := fun o i H Q => ∃ p xs k v, o = .ref p ∧ i = .int k ∧ SqL K H p xs ∧ 0 ≤ k ∧ k < 1000000 ∧ xs[k.toNat]? = some v ∧ Q v H
theorem get_lst {X : Cx} : PGet X (rGetL X.K) := by
  intro pins s σ H o i ov iv Q I ro ri h
  obtain ⟨p, xs, k, v, rfl, rfl, hs, h0, h1, hv, q⟩ := h
  cases ro
  obtain ⟨t, rfl⟩ := ri
  obtain ⟨its, r, pl, _⟩ := I.list hs
  obtain ⟨u, hu, ru⟩ := r.get hv
  exact getItem_listL pl.isList h0 (by omega) hu ⟨v, H, I, ru, q⟩

/-- the source at s, its cells at l -/
def Src (H : Hp) (s l : Addr) : Prop := ∃ (cells : List Int) (k n : Int), H s = some (.lst [.ref l, .int k, .int n]) ∧ H l = some (.lst (cells.map V.int)) ∧ s ≠ l ∧ 0 ≤ k ∧ 0 ≤ n ∧ cells.length ≤ 1000
theorem Src.same {H H' : Hp} {s l : Addr} (h : Src H s l) (e : Same H H') : Src H' s l := by
  obtain ⟨c, k, n, h1, h2, h3, h4⟩ := h
  exact ⟨c, k, n, e _ _ h1, e _ _ h2, h3, h4⟩
def two (s l : Addr) : Addr → Prop := fun a => a = s ∨ a = l
/-- the base world of a def that draws -/
def srcW (K : PySem.W.Frag) (C : Addr) (N : Addr → Prop) (H0 : Hp) (s l : Addr) : Wd := { K := K, C := C, N := N, Z := two s l, I := fun H => (∀ a, H a = none → N a) ∧ Src H s l ∧ Ex (two s l) H0 H }
theorem Src.there {H : Hp} {s l a : Addr} (h : Src H s l) (z : two s l a) : ∃ o, H a = some o ∧ stiff o = false := by
  obtain ⟨c, k, n, h1, h2, _⟩ := h
  rcases z with rfl | rfl
  · exact ⟨_, h1, rfl⟩
  · exact ⟨_, h2, rfl⟩
theorem src_base {K : PySem.W.Frag} {C : Addr} {N : Addr → Prop} {H0 : Hp} {s l : Addr} (ns : ¬ N s) (nl : ¬ N l) : (srcW K C N H0 s l).Base H0 where
  ok := ⟨fun a z => by rcases z with rfl | rfl <;> assumption, fun H H' I e => ⟨fun a h => I.1 a (e.free h), I.2.1.same e, I.2.2.trans (Ex.same e)⟩, fun H a I h => I.1 a h⟩
  zok := fun H a I h z => by
    obtain ⟨o, ho, _⟩ := I.2.1.there z
    rw [h] at ho
    cases ho
  h0 := fun H p I h => by
    cases z : H0 p with
    | none => rfl
    | some o =>
      by_cases t : two s l p
      · obtain ⟨o', ho, _⟩ := I.2.1.there t
        rw [h] at ho
        cases ho
      · have := I.2.2 _ _ z (.inl t)
        rw [h] at this
        cases this
  mu := fun H p o I n z => by
    refine ⟨fun a h => I.1 a ?_, ?_, fun a o' h t => ?_⟩
    · by_cases e : a = p
      · subst e; rw [upd_same] at h; cases h
      · rw [upd_ne e] at h; exact h
    · obtain ⟨c, k, m, h1, h2, h3⟩ := I.2.1
      have e1 : s ≠ p := fun e => z (.inl e.symm)
      have e2 : l ≠ p := fun e => z (.inr e.symm)
      exact ⟨c, k, m, by rw [upd_ne e1]; exact h1, by rw [upd_ne e2]; exact h2, h3⟩
    · rw [upd_ne (ne_of_none h n)]
      exact I.2.2 _ _ h t
abbrev SpecS := Addr → List D → (D → Prop) → Prop
/-- a def that draws: it changes the source, and nothing else that stood -/
def spS (K : PySem.W.Frag) (C : Addr) (S : SpecS) : Sp := fun vs H Q _ =>
  ∃ (N : Addr → Prop) (ds : List D) (P : D → Prop) (s l : Addr), RpAll K C N H vs ds ∧ (∀ a, H a = none → N a) ∧ ¬ N s ∧ ¬ N l ∧ Src H s l ∧ S s ds P ∧ ∀ d v H', P d → Ex (two s l) H H' → Src H' s l → (∀ a, H' a = none → N a) → Rp K C N H' v d → Q v H'
section
variable {P : Program} {w : World} {K : PySem.W.Frag} {mg : Str → Option Value} {base : Heap}
theorem fn_S {x : Str} {st : Stmt} {names ps : List Str} {k : Nat} {C : Addr} {S : SpecS} (F : Df K mg x st ps) (sc : FnScope names ps (defScope st)) (hl : ∀ s ds Q, S s ds Q → ds.length = ps.length)
    (body : ∀ (f : Addr) (cdv : Value) (A : Around) (outer : List Env) (s : Shared) (H : Hp) (E : XK), Room k (A.deeper (envOfC x (defScope st) s.heap.objs.size f cdv)) →
      ∃ t, PSs (cxOf (L2.CX P w) P w K mg base names x (defScope st) f cdv A outer s H E) (defBody st) t ∧
        ∀ (N : Addr → Prop) (H0 : Hp) (s l : Addr) (ds : List D) (Pd : D → Prop), ¬ N s → ¬ N l → S s ds Pd →
          ∀ De : Ends, (∀ d v H', Pd d → Ex (two s l) H0 H' → (srcW K C N H0 s l).I H' → (srcW K C N H0 s l).Rp H' v d → De.rt v H') → Go (srcW K C N H0 s l) H0 [] [] (startD names ds) t De) :
    Cal P w K mg base (k + 1) x (spS K C S) := by
  obtain ⟨f, fd, hm, hf, hb⟩ := F.ex
  refine ⟨f, fd, ps, hm, hf.kp, hb, hf.okX sc (fun vs H Q E ⟨_, ds, Pd, s, l, r, _, _, _, _, sp, _⟩ => r.len.trans (hl s ds Pd sp)) fun cdv A outer s H vs Q E hr h => ?_⟩
  obtain ⟨N, ds, Pd, a, l, r, fr, ns, nl, src, hS, hq⟩ := h
  obtain ⟨t, ht, g⟩ := body f cdv A outer s H E hr
  refine ⟨t, ht, g N H a l ds Pd ns nl hS { nx := fun _ H' => Q .non H', rt := Q } (fun d v H' p e I r' => hq d v H' p e I.2.1 I.1 r') _ _ ⟨(Slots.start names r).car ⟨fun a o h n => ⟨h, n, by simp [ads]⟩, fun a o h _ => h⟩, ⟨⟨fr, src, Ex.refl _⟩, (fun m hm => by cases hm)⟩, Ex.refl _, (fun a ha => by cases ha), (fun x hx => by cases hx)⟩⟩
end
section
variable {K : PySem.W.Frag} {C : Addr} {N : Addr → Prop} {H0 : Hp} {s l : Addr} {M : ML} {δ : List (Option D)} {tl : TA} {P : D → Prop} {S : SpecS} {E : XK}
theorem src_after {H H' : Hp} (I : ((srcW K C N H0 s l).wi M).I H) (e : Ex (two s l) H H') (src : Src H' s l) (fr : ∀ a, H' a = none → (N a ∧ a ∉ ads M)) (ns : ¬ N s) (nl : ¬ N l) : ((srcW K C N H0 s l).wi M).I H' := by
  refine ⟨⟨fun a h => (fr a h).1, src, I.1.2.2.trans e⟩, fun m hm => ?_⟩
  obtain ⟨z1, z2⟩ := I.2 m hm
  refine ⟨z1, z2.car ⟨fun a o h n => ⟨e _ _ h (.inl fun z => ?_), n⟩, fun a o h st => e _ _ h (.inr st)⟩ fun o h => e _ _ h (.inl z1)⟩
  rcases z with rfl | rfl
  · exact ns n.1
  · exact nl n.1
theorem evp_draw {PA : List D → Prop} (ns : ¬ N s) (nl : ¬ N l) (h : EvAP ((srcW K C N H0 s l).wi M) tl δ PA) (hS : ∀ ds, PA ds → S s ds P) : EvP ((srcW K C N H0 s l).wi M) (tCall (spS K C S) [] E tl) δ P := fun ok σ H e I Q q =>
  h ok σ H e I _ fun ds vs H1 p e1 I1 r => by
    show spS K C S (vs ++ []) H1 Q E
    rw [List.append_nil]
    exact ⟨_, ds, P, s, l, r, fun a ha => ok.fr _ _ I1 ha, fun n => ns n.1, fun n => nl n.1, I1.1.2.1, hS ds p, fun d v H' pd e2 src fr r' => q d v H' pd (e1.trans e2) (src_after I1 e2 src fr ns nl) r'⟩
theorem ev_draw {ds : List D} (ns : ¬ N s) (nl : ¬ N l) (h : EvA ((srcW K C N H0 s l).wi M) tl δ ds) (hS : S s ds P) : EvP ((srcW K C N H0 s l).wi M) (tCall (spS K C S) [] E tl) δ P := evp_draw ns nl h fun _ e => e ▸ hS
end
end Lr
set_option Elab.async false
set_option maxRecDepth 100000
set_option maxHeartbeats 4000000
set_option linter.all false
set_option autoImplicit false
/-! The law's draws. -/
namespace Lr
open PySem L2 PyProof.Rows
abbrev s_law_two : Stmt := topS 61
abbrev ns_law_two : List Str := ["_law_size_here", "_law_total", "_law_k"]
theorem sc_law_two : FnScope ns_law_two ["_law_size_here"] (defScope s_law_two) := ⟨rfl, rfl, rfl, by decide +kernel, rfl, by decide +kernel, by decide +kernel⟩
abbrev s_law_mixed : Stmt := topS 57
abbrev ns_law_mixed : List Str := ["_law_cell", "_law_place", "_law_mixed_here"]
theorem sc_law_mixed : FnScope ns_law_mixed ["_law_cell", "_law_place"] (defScope s_law_mixed) := ⟨rfl, rfl, rfl, by decide +kernel, rfl, by decide +kernel, by decide +kernel⟩
abbrev s_law_source : Stmt := topS 58
abbrev ns_law_source : List Str := ["_law_script", "_law_low", "_law_high"]
theorem sc_law_source : FnScope ns_law_source ["_law_script", "_law_low", "_law_high"] (defScope s_law_source) := ⟨rfl, rfl, rfl, by decide +kernel, rfl, by decide +kernel, by decide +kernel⟩
abbrev s_law_draw : Stmt := topS 59
abbrev ns_law_draw : List Str := ["_law_source_here", "_law_base", "_law_digit"]
theorem sc_law_draw : FnScope ns_law_draw ["_law_source_here", "_law_base"] (defScope s_law_draw) := ⟨rfl, rfl, rfl, by decide +kernel, rfl, by decide +kernel, by decide +kernel⟩
abbrev s_law_size : Stmt := topS 60
abbrev ns_law_size : List Str := ["_law_source_here", "_law_least", "_law_usual", "_law_top"]
theorem sc_law_size : FnScope ns_law_size ["_law_source_here", "_law_least", "_law_usual", "_law_top"] (defScope s_law_size) := ⟨rfl, rfl, rfl, by decide +kernel, rfl, by decide +kernel, by decide +kernel⟩
section
variable {P : Program} {w : World} {K : PySem.W.Frag} {mg : Str → Option Value} {base : Heap} {C : Addr} {XA : ExAds}
def sTwo : Spec := fun ds P _ => ∃ n : Nat, ds = [.int (n : Int)] ∧ n ≤ 100 ∧ P (.int (2 ^ n))
theorem c_law_two (F : Df K mg "_law_two" s_law_two ["_law_size_here"]) (B : Blt mg) : Cal P w K mg base 1 "_law_two" (spX K C XA sTwo) := by
  refine fn_X F sc_law_two (fun ds Q E ⟨n, e, _⟩ => by rw [e]; rfl) fun f cdv A outer s H E hr => ⟨_, (pss_cons (ps_st 1 sc_law_two.nd pe_int)
        (pss_cons (ps_for (passes_of rfl) rfl (pi_range1 rfl B.b_range (pa_cons (pv 0) pa_nil)) (pg_nm 2 sc_law_two.nd) (pss_one (ps_st 1 sc_law_two.nd (pe_op xMul (pv 1) pe_int))))
        (pss_one (ps_ret (pv 1))))), ?_⟩
  rintro N H0 ds Pd PE ⟨n, rfl, hn, hp⟩ hE De hrt hnx
  have bb := pure_base (K := K) (C := C) (N := N) (H0 := H0)
  refine go_asg bb.ok ev_int fun _ e => ?_
  subst e
  refine go_for bb (ei_rng1 (ea_cons (ev_var rfl) ea_nil) (by omega) (by omega)) (fun i δ M => M = [] ∧ ∃ x, δ = [some (.int n), some (.int (2 ^ i)), x]) ⟨rfl, _, rfl⟩ ?_ ?_
  · rintro x i d δ' M' hd ea ⟨rfl, v, rfl⟩
    refine ⟨_, eg_name, ?_⟩
    refine go_asg' bb.ok (ev_op (ev_var rfl) ev_int (r2_mul (.inr (by omega)))) fun _ e => ?_
    subst e
    exact go_kept rfl ⟨rfl, _, by rw [Int.pow_succ]; rfl⟩
  · rintro δ' M' ea ⟨rfl, v, rfl⟩
    rw [upto_len]
    refine go_ret bb.ok (ev_var rfl) fun d v H pd e I r => ?_
    subst pd
    exact hrt _ _ _ (by simpa using hp) e r
/-- a number that is not negative -/
def sMixed : Spec := fun ds P _ => ∃ c k : Int, ds = [.int c, .int k] ∧ 0 ≤ k ∧ ∀ n : Int, 0 ≤ n → P (.int n)
theorem c_law_mixed (F : Df K mg "_law_mixed" s_law_mixed ["_law_cell", "_law_place"]) (B : Blt mg) : Cal P w K mg base 1 "_law_mixed" (spX K C XA sMixed) := by
  refine fn_X F sc_law_mixed (fun ds Q E ⟨n, k, e, _⟩ => by rw [e]; rfl) fun f cdv A outer s H E hr => ⟨_, (pss_cons (ps_if (pt_cmpR xGe (pe_callB xAbs rfl B.b_abs bt_abs (pa_cons (pv 0) pa_nil)) (pe_op op_powW pe_int pe_int) (nomark _)) (pss_one (ps_ret (pe_op xMod (pe_callTy xInt rfl B.b_int bt_int (pa_cons (pe_callB xAbs rfl B.b_abs bt_abs (pa_cons (pv 0) pa_nil)) pa_nil)) (pe_op op_powW (pe_op op_powW pe_int pe_int) pe_int)))) pss_nil)
        (pss_cons (ps_st 2 sc_law_mixed.nd (pe_op xMod (pe_callTy xInt rfl B.b_int bt_int (pa_cons (pe_op xMul (pe_op (xAdd K) (pe_op xMul pe_int (pe_callB xAbs rfl B.b_abs bt_abs (pa_cons (pv 0) pa_nil))) (pe_callTy xInt rfl B.b_int bt_int (pa_cons (pe_cmpR xLt (pv 0) pe_int (nomark _)) pa_nil))) (pe_op (xAdd K) pe_int (pe_op xMul pe_int (pv 1)))) pa_nil)) pe_int))
        (pss_one (ps_ret (pe_op (xAdd K) (pe_op xMul (pe_op xMod (pe_callTy xInt rfl B.b_int bt_int (pa_cons (pe_op xMul (pv 2) (pv 2)) pa_nil)) pe_int) pe_int) (pv 2)))))), ?_⟩
  rintro N H0 ds Pd PE ⟨c, k, rfl, hk, hp⟩ hE De hrt hnx
  have bb := pure_base (K := K) (C := C) (N := N) (H0 := H0)
  have habs : Ev ((pureW K C N H0).wi []) (tCB _ (tCons (tVar 0) tNil)) (startD ns_law_mixed [.int c, .int k]) (.int (if c < 0 then -c else c)) := ev_cb (ea_cons (ev_var rfl) ea_nil) rc_abs
  have a0 : 0 ≤ (if c < 0 then -c else c) := by split <;> omega
  refine go_when bb.ok (et_testd (ev_op habs (ev_op ev_int ev_int (r2_pow (by decide +kernel))) r2_ge)) (fun h => ?_) (fun h => ?_)
  · refine go_ret bb.ok (ev_op (ev_cb (ea_cons habs ea_nil) rc_intI) (ev_op (ev_op ev_int ev_int (r2_pow (by decide +kernel))) ev_int (r2_pow (by decide +kernel))) (r2_mod (by decide +kernel))) fun d v H pd e I r => ?_
    subst pd
    exact hrt _ _ _ (hp _ (Int.emod_nonneg _ (by decide +kernel))) e r
  · have h1 : (if c < 0 then -c else c) < 1000000000000000000 := by
      have := of_decide_eq_false h.symm
      have e18 : ((10 : Int) ^ (18 : Int).toNat) = 1000000000000000000 := by decide +kernel
      rw [e18] at this
      omega
    refine go_asg bb.ok (ev_op (ev_cb (ea_cons (ev_op (ev_op (ev_op ev_int habs (r2_mul (.inl (by omega)))) (ev_cb (ea_cons (ev_op (ev_var rfl) ev_int r2_lt) ea_nil) rc_intB) r2_add) (ev_op ev_int (ev_op ev_int (ev_var rfl) (r2_mul (.inl (by omega)))) r2_add) (r2_mul (.inl (by constructor <;> (split <;> omega))))) ea_nil) rc_intI) ev_int (r2_mod (by omega))) fun m e => ?_
    subst e
    refine go_ret bb.ok (ev_op (ev_op (ev_op (ev_cb (ea_cons (ev_op (ev_var rfl) (ev_var rfl) (r2_mul (.inl (by omega)))) ea_nil) rc_intI) ev_int (r2_mod (by omega))) ev_int (r2_mul (.inl (by omega)))) (ev_var rfl) r2_add) fun d v H pd e I r => ?_
    subst pd
    exact hrt _ _ _ (hp _ (by omega)) e r
/-- the source is made -/
def spSource (K : PySem.W.Frag) : Sp := fun vs H Q _ => ∃ (a : Addr) (ns : List Int), vs = [.ref a, .int 0, .int 63] ∧ SqL K H a (ns.map V.int) ∧ ns.length ≤ 63 ∧ ∀ s l H', H s = none → H l = none → Same H H' → Src H' s l → Q (.ref s) H'
theorem c_law_source (F : Df K mg "_law_source" s_law_source ["_law_script", "_law_low", "_law_high"]) (B : Blt mg) : Cal P w K mg base 1 "_law_source" (spSource K) := by
  obtain ⟨f, fd, hm, hf, hb⟩ := F.ex
  refine ⟨f, fd, _, hm, hf.kp, hb, hf.okX sc_law_source (fun vs H Q E ⟨a, ns, e, _⟩ => by rw [e]; rfl) fun cdv A outer s H vs Q E hr h => ⟨_, (pss_one (ps_ret (pe_lst (pa_cons (pe_callTy (xList K) rfl B.b_list bt_list (pa_cons (pe_slice (xSl K) (pv 0) (po_some (pv 1)) (po_some (pv 2))) pa_nil)) (pa_cons (pv 1) (pa_cons pe_int pa_nil)))))), ?_⟩⟩
  obtain ⟨a, ns, rfl, hs, hl, k⟩ := h
  refine ⟨_, rfl, _, rfl, 0, rfl, _, rfl, 63, rfl, .inl ⟨a, _, rfl, hs, fun p np => ?_⟩⟩
  refine ⟨p, _, rfl, .inl (SqL.of upd_same), fun q nq => ?_⟩
  refine ⟨_, rfl, ?_⟩
  refine ⟨by show 3 ≤ sizeLine; decide, fun r nr => ?_⟩
  have nqp : q ≠ p := fun e => by rw [e, upd_same] at nq; cases nq
  have hq : H q = none := by rw [upd_ne nqp] at nq; exact nq
  have s1 := same_new (o := .lst (cutV (ns.map V.int) (some 0) (some 63))) np
  have s2 := same_new (o := .lst (cutV (ns.map V.int) (some 0) (some 63))) nq
  have s3 := same_new (o := .lst [.ref q, .int 0, .int 0]) nr
  have hr0 : H r = none := (s1.trans s2).free nr
  have e2 : cutV (ns.map V.int) (some 0) (some 63) = (ns.take 63).map V.int := by
    unfold cutV
    rw [show HT.sIx (ns.map V.int).length 0 (some 0) = 0 from HT.sIx_nat _ 0 0 |>.trans (Nat.zero_min _), show HT.sIx (ns.map V.int).length (ns.map V.int).length (some 63) = min 63 (ns.map V.int).length from HT.sIx_nat _ _ 63, List.length_map, List.drop_zero, Nat.sub_zero, Nat.min_eq_right hl, List.take_of_length_le (by rw [List.length_map]; exact Nat.le_refl _), List.take_of_length_le hl]
  refine k r q _ hr0 hq ((s1.trans s2).trans s3) ⟨ns.take 63, 0, 0, upd_same, ?_, ?_, by omega, by omega, ?_⟩
  · rw [s3 _ _ (upd_same (H := upd H p _)), e2]
  · intro e
    rw [e, upd_same] at nr
    cases nr
  · rw [List.length_take]; omega
/-- a number below the base; the source goes on -/
def sDraw : SpecS := fun s ds P => ∃ n : Int, ds = [.adr s, .int n] ∧ 0 < n ∧ n < 1073741824 ∧ ∀ d : Int, 0 ≤ d → d < n → P (.int d)
theorem ex_upd {s l a : Addr} {H : Hp} {o o' : HO} (h : two s l a) (ho : H a = some o) (hs : stiff o = false) : Ex (two s l) H (upd H a o') := fun b p hb z => by
  have : b ≠ a := fun e => by
    subst e
    rw [ho] at hb
    cases hb
    rcases z with z | z
    · exact z h
    · rw [hs] at z; cases z
  rw [upd_ne this]
  exact hb
theorem c_law_draw (F : Df K mg "_law_draw" s_law_draw ["_law_source_here", "_law_base"]) (B : Blt mg) (c_law_mixed : Cal P w K mg base 1 "_law_mixed" (spX K C XA sMixed)) : Cal P w K mg base 2 "_law_draw" (spS K C sDraw) := by
  obtain ⟨f, fd, hm, hf, hb⟩ := F.ex
  refine ⟨f, fd, _, hm, hf.kp, hb, hf.okX sc_law_draw (fun vs H Q E ⟨_, ds, Pd, s, l, r, _, _, _, _, ⟨n, e, _⟩, _⟩ => by rw [r.len, e]; rfl) fun cdv A outer s H vs Q E hr h => ⟨_, (pss_cons (ps_if (PW.pt (pw_and (pt_cmpR (xEq K hr.units) (pe_ix (xIx K w) (pv 0) pe_int (fun _ _ => rfl)) pe_int (nomark _)) (pw_and1 (pt_cmpR xGt (pe_callB (xLen K) rfl B.b_len bt_len (pa_cons (pe_ix (xIx K w) (pv 0) pe_int (fun _ _ => rfl)) pa_nil)) pe_int (nomark _))))) (pss_cons (ps_asg (pe_cal c_law_mixed hr (pa_cons (pe_bm PySem.F.plainAttrs_list PySem.F.slot_list_pop PySem.F.type_list_pop mt_popAt (pe_ix (xIx K w) (pv 0) pe_int (fun _ _ => rfl)) (pa_cons pe_int pa_nil)) (pa_cons (pe_ix (xIx K w) (pv 0) pe_int (fun _ _ => rfl)) pa_nil))) (pg_sub (pv 0) pe_int set_list))
        (pss_one (ps_augS (pv 0) pe_int get_lst pe_int iop_add set_list))) pss_nil)
        (pss_cons (ps_st 2 sc_law_draw.nd (pe_op xMod (pe_callTy xInt rfl B.b_int bt_int (pa_cons (pe_ix (xIx K w) (pv 0) pe_int (fun _ _ => rfl)) pa_nil)) (pv 1)))
        (pss_cons (ps_asg (pe_op xDiv (pe_ix (xIx K w) (pv 0) pe_int (fun _ _ => rfl)) (pv 1)) (pg_sub (pv 0) pe_int set_list))
        (pss_one (ps_ret (pv 2)))))), ?_⟩⟩
  obtain ⟨N, ds, Pd, s, l, r, fr, ns, nl, ⟨cells, k, n, h1, h2, hne, k0, n0, hc⟩, ⟨m, rfl, m0, m1, hp⟩, q⟩ := h
  have ev : vs = [.ref s, .int m] := by
    cases r with
    | cons r1 t =>
      cases t with
      | cons r2 t =>
        cases t
        cases r1
        cases r2
        rfl
  subst ev
  have rest : ∀ (H1 : Hp) (k1 n1 : Int) (cs : List Int), Ex (two s l) H H1 → (∀ a, H1 a = none → N a) → H1 s = some (.lst [.ref l, .int k1, .int n1]) → H1 l = some (.lst (cs.map V.int)) → 0 ≤ k1 → 0 ≤ n1 → cs.length ≤ 1000 → _ := fun H1 k1 n1 cs e1 fr1 g1 g2 k10 n10 hcs => by
    refine (?_ : (tSeq (tAsg (tOp rModU (tCB rIntU (tCons (tOp (rIxU K w) (tVar 0) (tC (.int 2))) tNil)) (tVar 1)) (gName 2)) (tSeq (tAsg (tOp rDivU (tOp (rIxU K w) (tVar 0) (tC (.int 2))) (tVar 1)) (gSub (tVar 0) (tC (.int 2)) rSetL)) (tRet (tVar 2)))) { nx := fun _ H' => Q .non H', rt := Q } [some (.ref s), some (.int m), none] H1)
    refine ⟨_, rfl, .inl ⟨s, _, 2, _, rfl, rfl, SqL.of g1, rfl, .inl ⟨n1, rfl, _, rfl, n1, m, rfl, rfl, m0, ?_⟩⟩⟩
    refine ⟨_, rfl, .inl ⟨s, _, 2, _, rfl, rfl, SqL.of g1, rfl, _, rfl, n1, m, rfl, rfl, ⟨m0, m1⟩, ?_⟩⟩
    refine ⟨_, rfl, s, _, 2, 2, rfl, rfl, g1, rfl, _, rfl, ?_⟩
    have hl2 : (upd H1 s (.lst [.ref l, .int k1, .int (n1 / m)])) l = some (.lst (cs.map V.int)) := by rw [upd_ne (Ne.symm hne)]; exact g2
    refine q (.int (n1 % m)) _ _ (hp _ (Int.emod_nonneg _ (by omega)) (Int.emod_lt_of_pos _ m0)) (e1.trans (ex_upd (.inl rfl) g1 rfl)) ⟨cs, k1, n1 / m, upd_same, hl2, hne, k10, Int.ediv_nonneg n10 (by omega), hcs⟩ (fun a ha => ?_) (.int _)
    by_cases z : a = s
    · subst z; rw [upd_same] at ha; cases ha
    · rw [upd_ne z] at ha; exact fr1 a ha
  refine ⟨_, rfl, .inl ⟨s, _, 2, _, rfl, rfl, SqL.of h1, rfl, .inl ⟨rfl, _, rfl, ?_⟩⟩⟩
  by_cases hn : n = 0
  · rw [show decide (V.int n = V.int 0) = true from by rw [dec_vi, decide_eq_true hn]]
    refine iteT ⟨_, rfl, .inl ⟨s, _, 0, _, rfl, rfl, SqL.of h1, rfl, _, cells.length, rfl, .inl ⟨_, SqL.of h2, (List.length_map _).symm⟩, _, _, rfl, rfl, _, rfl, ?_⟩⟩
    cases cells with
    | nil => exact iteF (rest H k n [] (Ex.refl _) fr h1 h2 k0 n0 hc)
    | cons c cs =>
      rw [show decide ((0 : Int) < ((c :: cs).length : Nat)) = true from decide_eq_true (by simp only [List.length_cons]; omega)]
      refine iteT ?_
      -- src[2] = mixed(src[0].pop(0), src[1])
      refine ⟨_, rfl, .inl ⟨s, _, 0, _, rfl, rfl, SqL.of h1, rfl, .inl ⟨rfl, _, SqL.of h2⟩, l, _, 0, 0, _, rfl, rfl, h2, by omega, by omega, by rw [seqIndex_of (by omega) (by rw [List.length_map, List.length_cons]; omega)]; rfl, rfl, ?_⟩⟩
      have g2 : (upd H l (.lst (((c :: cs).map V.int).eraseIdx 0))) s = some (.lst [.ref l, .int k, .int n]) := by rw [upd_ne hne]; exact h1
      refine ⟨_, rfl, .inl ⟨s, _, 1, _, rfl, rfl, SqL.of g2, rfl, ?_⟩⟩
      refine ⟨fun _ => True, [.int c, .int k], fun d => ∃ n : Int, d = .int n ∧ 0 ≤ n, fun _ => False, .cons (.int c) (.cons (.int k) .nil), fun _ _ => trivial, ⟨c, k, rfl, k0, fun n hn => ⟨n, rfl, hn⟩⟩, fun d v H2 ⟨z, ez, hz⟩ sm rv => ?_, fun er cc dx H' z => z.elim⟩
      subst ez
      cases rv
      have g3 := sm _ _ g2
      have g4 : H2 l = some (.lst (cs.map V.int)) := sm _ _ upd_same
      refine ⟨_, rfl, s, _, 2, 2, rfl, rfl, g3, rfl, ?_⟩
      -- src[1] += 1
      refine ⟨_, rfl, s, _, 1, _, rfl, rfl, SqL.of upd_same, by omega, by omega, rfl, k, 1, rfl, rfl, s, _, 1, 1, rfl, rfl, upd_same, rfl, ?_⟩
      refine rest _ (k + 1) z cs ?_ ?_ upd_same ?_ (by omega) hz (by simp only [List.length_cons] at hc; omega)
      · exact (((ex_upd (.inr rfl) h2 rfl).trans (Ex.same sm)).trans (ex_upd (.inl rfl) g3 rfl)).trans (ex_upd (.inl rfl) upd_same rfl)
      · intro a ha
        by_cases z1 : a = s
        · subst z1; rw [upd_same] at ha; cases ha
        · rw [upd_ne z1, upd_ne z1] at ha
          have h3 := sm.free ha
          by_cases z2 : a = l
          · subst z2; rw [upd_same] at h3; cases h3
          · rw [upd_ne z2] at h3; exact fr a h3
      · rw [upd_ne (Ne.symm hne), upd_ne (Ne.symm hne)]; exact g4
  · rw [show decide (V.int n = V.int 0) = false from by rw [dec_vi, decide_eq_false hn]]
    exact iteF (iteF (rest H k n cells (Ex.refl _) fr h1 h2 k0 n0 hc))
end
end Lr
set_option Elab.async false
set_option maxRecDepth 100000
set_option maxHeartbeats 4000000
set_option linter.all false
set_option autoImplicit false
/-! Signs, tokens, pairs as plain data. -/
namespace Lr
open PySem L2

inductive Sign where
  | letter (a x : Nat)
  | copy (d x l y : Nat)
  | again (i e l y : Nat)
  | turn (j : Nat)
  | stop
  deriving DecidableEq
def Sign.d : Sign → D
  | .letter a x => .tup [.str "letter", .int (a : Nat), .int (x : Nat)]
  | .copy d x l y => .tup [.str "copy", .int (d : Nat), .int (x : Nat), .int (l : Nat), .int (y : Nat)]
  | .again i e l y => .tup [.str "again", .int (i : Nat), .int (e : Nat), .int (l : Nat), .int (y : Nat)]
  | .turn j => .tup [.str "turn", .int (j : Nat)]
  | .stop => .tup [.str "stop"]
/-- the numbers of extra bits are small -/
def Sign.ext : Sign → Prop
  | .letter _ x => x ≤ 3
  | .copy _ x _ y => x ≤ 3 ∧ y ≤ 3
  | .again _ _ _ y => y ≤ 3
  | _ => True
inductive Tok where
  | letter (a : Nat)
  | copy (d l : Nat)
  | again (i e l : Nat)
  | turn (j : Nat)
  | stop
  deriving DecidableEq
def Tok.d : Tok → D
  | .letter a => .tup [.str "letter", .int (a : Nat)]
  | .copy d l => .tup [.str "copy", .int (d : Nat), .int (l : Nat)]
  | .again i e l => .tup [.str "again", .int (i : Nat), .int (e : Nat), .int (l : Nat)]
  | .turn j => .tup [.str "turn", .int (j : Nat)]
  | .stop => .tup [.str "stop"]

/-- bits as a text -/
def bs (l : List Bool) : Str := ⟨(l.map fun b => if b then 49 else 48).toArray⟩
theorem bs_len (l : List Bool) : (bs l).length = l.length := by
  show ((l.map fun b => if b then 49 else 48).toArray).size = _
  simp
theorem bs_append (l m : List Bool) : bs l ++ bs m = bs (l ++ m) := by
  show (⟨(bs l).cps ++ (bs m).cps⟩ : Str) = _
  unfold bs
  simp
theorem bs_nil : bs [] = ("" : Str) := by decide +kernel
theorem bs_0 : bs [false] = ("0" : Str) := by decide +kernel
theorem bs_1 : bs [true] = ("1" : Str) := by decide +kernel
theorem bs_inj {l m : List Bool} (h : bs l = bs m) : l = m := by
  unfold bs at h
  have h1 := congrArg (fun s : Str => s.cps.toList) h
  simp only [List.toList_toArray] at h1
  have : ∀ (l m : List Bool), (l.map fun b => if b then 49 else 48) = (m.map fun b => if b then (49 : Nat) else 48) → l = m := by
    intro l
    induction l with
    | nil =>
      intro m h
      cases m with
      | nil => rfl
      | cons a m => simp at h
    | cons a l ih =>
      intro m h
      cases m with
      | nil => simp at h
      | cons b m =>
        simp only [List.map_cons, List.cons.injEq] at h
        rw [ih m h.2]
        have : a = b := by
          cases a <;> cases b <;> simp at h <;> rfl
        rw [this]
  exact this l m h1
/-- v in n bits, the highest first -/
def fig (v : Nat) : Nat → List Bool
  | 0 => []
  | n + 1 => ((v / 2 ^ n) % 2 == 1) :: fig v n
theorem fig_len (v n : Nat) : (fig v n).length = n := by
  induction n with
  | zero => rfl
  | succ n ih => simp [fig, ih]
/-- what a sign stands for: the extra bits with the tokens -/
def Sign.spread : Sign → List (List Bool × Tok)
  | .letter a x => (List.range (2 ^ x)).map fun v => (fig v x, Tok.letter (a + v))
  | .copy d x l y => (List.range (2 ^ x)).flatMap fun v => (List.range (2 ^ y)).map fun u => (fig v x ++ fig u y, Tok.copy (d + v) (l + u))
  | .again i e l y => (List.range (2 ^ y)).map fun u => (fig u y, Tok.again i e (l + u))
  | .turn j => [([], .turn j)]
  | .stop => [([], .stop)]
def pairD (p : List Bool × Tok) : D := .tup [.str (bs p.1), p.2.d]
/-! predicates on data -/
def IsN (P : Nat → Prop) : D → Prop := fun d => ∃ n : Nat, d = .int (n : Int) ∧ P n
def IsI (P : Int → Prop) : D → Prop := fun d => ∃ n : Int, d = .int n ∧ P n
section
variable {w : Wd} {δ : List (Option D)} {ta tb te : TE} {P : D → Prop} {r : R2}
theorem ev_N {n : Nat} (h : Ev w te δ (.int (n : Int))) : EvP w te δ (IsN fun m => m = n) := h.imp fun d e => ⟨n, e, rfl⟩
theorem ev_I {n : Int} (h : Ev w te δ (.int n)) : EvP w te δ (IsI fun m => m = n) := h.imp fun d e => ⟨n, e, rfl⟩
theorem evp_opI {Pa : Int → Prop} {Pb : Int → Int → Prop} (ha : EvP w ta δ (IsI Pa)) (hb : ∀ i, Pa i → EvP w tb δ (IsI (Pb i))) (hr : ∀ i j, Pa i → Pb i j → R2P w r (.int i) (.int j) P) : EvP w (tOp r ta tb) δ P :=
  evp_op ha (Pb := fun a d => ∃ i j, a = .int i ∧ d = .int j ∧ Pa i ∧ Pb i j) (fun a ⟨i, e, p⟩ => (hb i p).imp fun d ⟨j, ed, pd⟩ => ⟨i, j, e, ed, p, pd⟩) fun a b _ ⟨i, j, e1, e2, p1, p2⟩ => e1 ▸ e2 ▸ hr i j p1 p2
theorem evp_opN {Pa : Nat → Prop} {j : Int} (ha : EvP w ta δ (IsN Pa)) (hb : Ev w tb δ (.int j)) (hr : ∀ i : Nat, Pa i → R2P w r (.int (i : Int)) (.int j) P) : EvP w (tOp r ta tb) δ P :=
  evp_op ha (fun _ _ => hb) fun a b ⟨i, e, p⟩ eb => e ▸ eb ▸ hr i p
theorem evp_opNr {Pb : Nat → Prop} {j : Int} (ha : Ev w ta δ (.int j)) (hb : EvP w tb δ (IsN Pb)) (hr : ∀ i : Nat, Pb i → R2P w r (.int j) (.int (i : Int)) P) : EvP w (tOp r ta tb) δ P :=
  evp_op ha (fun _ _ => hb) fun a b ea ⟨i, e, p⟩ => e ▸ ea ▸ hr i p
theorem ea_consN {tl : TA} {Pa : Nat → Prop} {PL : List D → Prop} (ha : EvP w ta δ (IsN Pa)) (hl : EvAP w tl δ PL) : EvAP w (tCons ta tl) δ (fun ds => ∃ (n : Nat) (rest : List D), ds = .int (n : Int) :: rest ∧ Pa n ∧ PL rest) :=
  ea_consP ha (fun _ _ => hl) fun a as ⟨n, e, p⟩ q => ⟨n, as, by rw [e], p, q⟩
theorem ea_cons1 {tl : TA} {a : D} {PL : List D → Prop} (ha : Ev w ta δ a) (hl : EvAP w tl δ PL) : EvAP w (tCons ta tl) δ (fun ds => ∃ (rest : List D), ds = a :: rest ∧ PL rest) :=
  ea_consP ha (fun _ _ => hl) fun _ as e q => ⟨as, by rw [e], q⟩
theorem EvAP.imp {tl : TA} {PA PB : List D → Prop} (h : EvAP w tl δ PA) (i : ∀ ds, PA ds → PB ds) : EvAP w tl δ PB := fun ok σ H e I Q q => h ok σ H e I Q fun d v H2 p => q d v H2 (i d p)
theorem R2P.imp {a b : D} {P' : D → Prop} (h : R2P w r a b P) (i : ∀ d, P d → P' d) : R2P w r a b P' := fun ok H x y I ra rb Q q => h ok H x y I ra rb Q fun d v H2 p => q d v H2 (i d p)
end
end Lr
set_option Elab.async false
set_option maxRecDepth 100000
set_option maxHeartbeats 4000000
set_option linter.all false
set_option autoImplicit false
namespace Lr
open PySem L2 PyProof.Rows
abbrev s_law_extra : Stmt := topS 66
abbrev ns_law_extra : List Str := ["_law_source_here", "_law_room", "_law_extra_here", "_law_k"]
theorem sc_law_extra : FnScope ns_law_extra ["_law_source_here", "_law_room"] (defScope s_law_extra) := ⟨rfl, rfl, rfl, by decide +kernel, rfl, by decide +kernel, by decide +kernel⟩
abbrev s_law_broad_sign : Stmt := topS 67
abbrev ns_law_broad_sign : List Str := ["_law_source_here", "_law_alphabet", "_law_wide", "_law_spots", "_law_leaves", "_law_kind", "_law_first", "_law_size_here", "_law_low", "_law_far"]
theorem sc_law_broad_sign : FnScope ns_law_broad_sign ["_law_source_here", "_law_alphabet", "_law_wide", "_law_spots", "_law_leaves"] (defScope s_law_broad_sign) := ⟨rfl, rfl, rfl, by decide +kernel, rfl, by decide +kernel, by decide +kernel⟩
section
variable {P : Program} {w : World} {K : PySem.W.Frag} {mg : Str → Option Value} {base : Heap} {C : Addr} {XA : ExAds}
section
variable {N : Addr → Prop} {H0 : Hp} {s l : Addr} {M : ML} {δ : List (Option D)} {te : TE} {E : XK} {n : Int} {i : Nat}
/-- draw(source, n) -/
theorem ev_dr (ns : ¬ N s) (nl : ¬ N l) (hi : δ[i]? = some (some (.adr s))) (h : Ev ((srcW K C N H0 s l).wi M) te δ (.int n)) (h0 : 0 < n) (h1 : n < 1073741824) :
    EvP ((srcW K C N H0 s l).wi M) (tCall (spS K C sDraw) [] E (tCons (tVar i) (tCons te tNil))) δ (IsN fun d => (d : Int) < n) :=
  ev_draw ns nl (ea_cons (ev_var hi) (ea_cons h ea_nil)) ⟨n, rfl, h0, h1, fun d d0 d1 => ⟨d.toNat, by rw [Int.toNat_of_nonneg d0], by show (d.toNat : Int) < n; rw [Int.toNat_of_nonneg d0]; exact d1⟩⟩
/-- draw(source, n) == k -/
theorem et_dr (ns : ¬ N s) (nl : ¬ N l) (hi : δ[i]? = some (some (.adr s))) (h : Ev ((srcW K C N H0 s l).wi M) te δ (.int n)) (h0 : 0 < n) (h1 : n < 1073741824) {k : Int} :
    EvTP ((srcW K C N H0 s l).wi M) (tTest (tOp (rEqU K) (tCall (spS K C sDraw) [] E (tCons (tVar i) (tCons te tNil))) (tC (.int k)))) δ (fun _ => True) :=
  et_test (evp_opN (ev_dr ns nl hi h h0 h1) ev_int fun i _ => r2_eI.imp fun d e => ⟨_, e, trivial⟩)
end
def sSize : SpecS := fun s ds P => ∃ a u t : Int, ds = [.adr s, .int a, .int u, .int t] ∧ 0 < u ∧ u < 1000000 ∧ a ≤ t ∧ t - a < 1000000 ∧ ∀ d : Int, a ≤ d → (d < a + u ∨ d ≤ t) → P (.int d)
theorem c_law_size (F : Df K mg "_law_size" s_law_size ["_law_source_here", "_law_least", "_law_usual", "_law_top"]) (c_law_draw : Cal P w K mg base 2 "_law_draw" (spS K C sDraw)) : Cal P w K mg base 3 "_law_size" (spS K C sSize) := by
  refine fn_S F sc_law_size (fun s ds Q ⟨_, _, _, e, _⟩ => by rw [e]; rfl) fun f cdv A outer s H E hr => ⟨_, (pss_cons (ps_if (pt_cmpR (xEq K hr.units) (pe_cal c_law_draw hr (pa_cons (pv 0) (pa_cons pe_int pa_nil))) pe_int (nomark _)) (pss_one (ps_ret (pe_op (xAdd K) (pv 1) (pe_cal c_law_draw hr (pa_cons (pv 0) (pa_cons (pe_op (xAdd K) (pe_op xSub (pv 3) (pv 1)) pe_int) pa_nil)))))) pss_nil)
        (pss_one (ps_ret (pe_op (xAdd K) (pv 1) (pe_cal c_law_draw hr (pa_cons (pv 0) (pa_cons (pv 2) pa_nil))))))), ?_⟩
  rintro N H0 s l ds Pd ns nl ⟨a, u, t, rfl, u0, u1, ht, ht2, hp⟩ De hrt
  have bb := src_base (K := K) (C := C) (H0 := H0) ns nl
  refine go_when bb.ok (et_dr ns nl rfl ev_int (by omega) (by omega)) (fun _ => ?_) (fun _ => ?_)
  · refine go_ret bb.ok (evp_opNr (ev_var rfl) (ev_dr ns nl rfl (ev_op (ev_op (ev_var rfl) (ev_var rfl) r2_sub) ev_int r2_add) (by omega) (by omega)) fun i hi => r2_add.imp fun d e => ?_) fun d v H pd e I r => hrt d v H pd e I.1 r
    subst e
    exact hp _ (by omega) (.inr (by omega))
  · refine go_ret bb.ok (evp_opNr (ev_var rfl) (ev_dr ns nl rfl (ev_var rfl) (by omega) (by omega)) fun i hi => r2_add.imp fun d e => ?_) fun d v H pd e I r => hrt d v H pd e I.1 r
    subst e
    exact hp _ (by omega) (.inl (by omega))
def sExtra : SpecS := fun s ds P => ∃ m : Int, ds = [.adr s, .int m] ∧ 1 ≤ m ∧ ∀ x : Nat, x ≤ 3 → (2 : Int) ^ x ≤ m → P (.int (x : Int))
theorem c_law_extra (F : Df K mg "_law_extra" s_law_extra ["_law_source_here", "_law_room"]) (B : Blt mg) (c_law_size : Cal P w K mg base 3 "_law_size" (spS K C sSize)) (c_law_two : Cal P w K mg base 1 "_law_two" (spX K C XA sTwo)) :
    Cal P w K mg base 4 "_law_extra" (spS K C sExtra) := by
  refine fn_S F sc_law_extra (fun s ds Q ⟨_, e, _⟩ => by rw [e]; rfl) fun f cdv A outer s H E hr => ⟨_, (pss_cons (ps_st 2 sc_law_extra.nd (pe_cal c_law_size hr (pa_cons (pv 0) (pa_cons pe_int (pa_cons pe_int (pa_cons pe_int pa_nil))))))
        (pss_cons (ps_for (passes_of rfl) rfl (pi_range1 rfl B.b_range (pa_cons pe_int pa_nil)) (pg_nm 3 sc_law_extra.nd) (pss_one (ps_if (pt_cmpR xGt (pe_cal c_law_two hr (pa_cons (pv 2) pa_nil)) (pv 1) (nomark _)) (pss_one (ps_st 2 sc_law_extra.nd (pe_op xSub (pv 2) pe_int))) pss_nil)))
        (pss_one (ps_ret (pv 2))))), ?_⟩
  rintro N H0 s l ds Pd ns nl ⟨m, rfl, hm, hp⟩ De hrt
  have bb := src_base (K := K) (C := C) (H0 := H0) ns nl
  refine go_asg bb.ok (P := IsN fun x => x ≤ 3) (ev_draw ns nl (ea_cons (ev_var rfl) (ea_cons ev_int (ea_cons ev_int (ea_cons ev_int ea_nil)))) ⟨0, 2, 3, rfl, by omega, by omega, by omega, by omega, fun d h0 h1 => ⟨d.toNat, by rw [Int.toNat_of_nonneg h0], by omega⟩⟩) fun d hd => ?_
  obtain ⟨x, rfl, hx⟩ := hd
  refine go_for bb (ei_rng1 (ea_cons ev_int ea_nil) (by omega) (by omega)) (fun i δ M => M = [] ∧ ∃ (x : Nat) (v : Option D), δ = [some (.adr s), some (.int m), some (.int (x : Int)), v] ∧ x ≤ 3 ∧ ((2 : Int) ^ x ≤ m ∨ x + i ≤ 3)) ⟨rfl, x, _, rfl, hx, .inr hx⟩ ?_ ?_
  · rintro g i d δ' M' hd ea ⟨rfl, x, v, rfl, hx, hi⟩
    refine ⟨_, eg_name, ?_⟩
    refine go_when' bb.ok (et_testd (ev_op (ev_call (P := fun d => d = .int (2 ^ x)) (ea_cons (ev_var rfl) ea_nil) ⟨x, rfl, by omega, rfl⟩) (ev_var rfl) r2_gt)) (fun h => ?_) (fun h => ?_)
    · have h := of_decide_eq_true h.symm
      have x0 : x ≠ 0 := fun z => by subst z; simp at h; omega
      obtain ⟨y, rfl⟩ : ∃ y, x = y + 1 := ⟨x - 1, by omega⟩
      refine go_asg' bb.ok (ev_op (ev_var rfl) ev_int r2_sub) fun _ e => ?_
      subst e
      refine go_kept rfl ⟨rfl, y, some d, ?_, by omega, ?_⟩
      · show [_, _, _, _] = _
        rw [show ((y + 1 : Nat) : Int) - 1 = (y : Int) by omega]
      · rcases hi with hi | hi
        · omega
        · right; omega
    · have h := of_decide_eq_false h.symm
      exact go_kept rfl ⟨rfl, x, _, rfl, hx, .inl (by omega)⟩
  · rintro δ' M' ea ⟨rfl, x, v, rfl, hx, hi⟩
    rw [upto_len] at hi
    refine go_ret bb.ok (ev_var rfl) fun d v H pd e I r => ?_
    subst pd
    refine hrt _ _ _ (hp x hx ?_) e I.1 r
    rcases hi with hi | hi
    · exact hi
    · have : x = 0 := by have : (3 : Int).toNat = 3 := rfl; omega
      subst this
      simpa using hm
def sBroadSign : SpecS := fun s ds P => ∃ a m sp lv : Int, ds = [.adr s, .int a, .int m, .int sp, .int lv] ∧ (1 ≤ a ∧ a < 1000) ∧ (1 ≤ m ∧ m < 1000) ∧ (0 ≤ sp ∧ sp < 1000) ∧ (1 ≤ lv ∧ lv < 1000) ∧ ∀ g : Sign, g.ext → P g.d
theorem c_law_broad_sign (F : Df K mg "_law_broad_sign" s_law_broad_sign ["_law_source_here", "_law_alphabet", "_law_wide", "_law_spots", "_law_leaves"]) (c_law_draw : Cal P w K mg base 2 "_law_draw" (spS K C sDraw)) (c_law_size : Cal P w K mg base 3 "_law_size" (spS K C sSize))
    (c_law_extra : Cal P w K mg base 4 "_law_extra" (spS K C sExtra)) : Cal P w K mg base 5 "_law_broad_sign" (spS K C sBroadSign) := by
  refine fn_S F sc_law_broad_sign (fun s ds Q ⟨_, _, _, _, e, _⟩ => by rw [e]; rfl) fun f cdv A outer s H E hr => ⟨_, (pss_cons (ps_st 5 sc_law_broad_sign.nd (pe_cal c_law_draw hr (pa_cons (pv 0) (pa_cons pe_int pa_nil))))
        (pss_cons (ps_if (pt_cmpR (xEq K hr.units) (pv 5) pe_int (nomark _)) (pss_one (ps_ret (pe_tup (pa_cons pe_str pa_nil)))) pss_nil)
        (pss_cons (ps_if (pt_cmpR (xEq K hr.units) (pv 5) pe_int (nomark _)) (pss_one (ps_ret (pe_tup (pa_cons pe_str (pa_cons (pe_cal c_law_draw hr (pa_cons (pv 0) (pa_cons (pv 4) pa_nil))) pa_nil))))) pss_nil)
        (pss_cons (ps_if (pt_cmpR (xEq K hr.units) (pv 5) pe_int (nomark _)) (pss_cons (ps_st 6 sc_law_broad_sign.nd (pe_cal c_law_draw hr (pa_cons (pv 0) (pa_cons (pv 1) pa_nil))))
        (pss_one (ps_ret (pe_tup (pa_cons pe_str (pa_cons (pv 6) (pa_cons (pe_cal c_law_extra hr (pa_cons (pv 0) (pa_cons (pe_op xSub (pv 1) (pv 6)) pa_nil))) pa_nil))))))) pss_nil)
        (pss_cons (ps_st 7 sc_law_broad_sign.nd (pe_cal c_law_size hr (pa_cons (pv 0) (pa_cons pe_int (pa_cons pe_int (pa_cons pe_int pa_nil))))))
        (pss_cons (ps_st 8 sc_law_broad_sign.nd (pe_cal c_law_extra hr (pa_cons (pv 0) (pa_cons (pe_op xSub pe_int (pv 7)) pa_nil))))
        (pss_cons (ps_if (PW.pt (pw_and (pt_cmpR xGt (pv 5) pe_int (nomark _)) (pw_and1 (pt_cmpR xGt (pv 3) pe_int (nomark _))))) (pss_one (ps_ret (pe_tup (pa_cons pe_str (pa_cons (pe_cal c_law_draw hr (pa_cons (pv 0) (pa_cons (pv 3) pa_nil))) (pa_cons (pe_cal c_law_draw hr (pa_cons (pv 0) (pa_cons (pv 2) pa_nil))) (pa_cons (pv 7) (pa_cons (pv 8) pa_nil)))))))) pss_nil)
        (pss_cons (ps_st 9 sc_law_broad_sign.nd (pe_op (xAdd K) pe_int (pe_cal c_law_draw hr (pa_cons (pv 0) (pa_cons (pv 2) pa_nil)))))
        (pss_one (ps_ret (pe_tup (pa_cons pe_str (pa_cons (pv 9) (pa_cons (pe_cal c_law_extra hr (pa_cons (pv 0) (pa_cons (pe_op xSub (pe_op (xAdd K) (pv 2) pe_int) (pv 9)) pa_nil))) (pa_cons (pv 7) (pa_cons (pv 8) pa_nil)))))))))))))))), ?_⟩
  rintro N H0 s l ds Pd ns nl ⟨a, m, sp, lv, rfl, ha, hm, hs, hv, hp⟩ De hrt
  have bb := src_base (K := K) (C := C) (H0 := H0) ns nl
  refine go_asg bb.ok (ev_dr ns nl rfl ev_int (by omega) (by omega)) fun d hd => ?_
  obtain ⟨kind, rfl, hk⟩ := hd
  -- the kinds 7, 6, 5
  refine go_when bb.ok (et_testd (ev_op (ev_var rfl) ev_int r2_eI)) (fun _ => ?_) (fun _ => ?_)
  · refine go_ret bb.ok (ev_tup (ea_cons ev_str ea_nil)) fun d v H pd e I r => ?_
    subst pd
    exact hrt _ _ _ (hp .stop trivial) e I.1 r
  refine go_when bb.ok (et_testd (ev_op (ev_var rfl) ev_int r2_eI)) (fun _ => ?_) (fun _ => ?_)
  · refine go_ret bb.ok (P := fun d => ∃ j : Nat, d = (Sign.turn j).d) (evp_tup (ea_cons1 ev_str (ea_consN (ev_dr ns nl rfl (ev_var rfl) (by omega) (by omega)) ea_nil)) ?_ ?_) fun d v H ⟨j, pd⟩ e I r => ?_
    · rintro ds ⟨_, rfl, n, _, rfl, _, rfl⟩
      simp only [List.length_cons, List.length_nil]; omega
    · rintro ds ⟨_, rfl, n, _, rfl, _, rfl⟩
      exact ⟨n, rfl⟩
    subst pd
    exact hrt _ _ _ (hp (.turn j) trivial) e I.1 r
  refine go_when bb.ok (et_testd (ev_op (ev_var rfl) ev_int r2_eI)) (fun _ => ?_) (fun _ => ?_)
  · refine go_asg bb.ok (ev_dr ns nl rfl (ev_var rfl) (by omega) (by omega)) fun d hd => ?_
    obtain ⟨first, rfl, hf⟩ := hd
    refine go_ret bb.ok (P := fun d => ∃ x : Nat, x ≤ 3 ∧ d = (Sign.letter first x).d) (evp_tup (ea_cons1 ev_str (ea_cons1 (ev_var rfl) (ea_consN (Pa := fun x => x ≤ 3) (ev_draw ns nl (ea_cons (ev_var rfl) (ea_cons (ev_op (ev_var rfl) (ev_var rfl) r2_sub) ea_nil)) ⟨_, rfl, by omega, fun x hx _ => ⟨x, rfl, hx⟩⟩) ea_nil))) ?_ ?_) fun d v H ⟨x, hx, pd⟩ e I r => ?_
    · rintro ds ⟨_, rfl, _, rfl, n, _, rfl, _, rfl⟩
      simp only [List.length_cons, List.length_nil]; omega
    · rintro ds ⟨_, rfl, _, rfl, n, _, rfl, hn, rfl⟩
      exact ⟨n, hn, rfl⟩
    subst pd
    exact hrt _ _ _ (hp (.letter first x) hx) e I.1 r
  -- the length and its extra bits
  refine go_asg bb.ok (P := IsN fun x => 1 ≤ x ∧ x ≤ 40) (ev_draw ns nl (ea_cons (ev_var rfl) (ea_cons ev_int (ea_cons ev_int (ea_cons ev_int ea_nil)))) ⟨1, 4, 40, rfl, by omega, by omega, by omega, by omega, fun d h0 h1 => ⟨d.toNat, by rw [Int.toNat_of_nonneg (by omega)], by omega⟩⟩) fun d hd => ?_
  obtain ⟨len, rfl, hl1, hl2⟩ := hd
  refine go_asg bb.ok (P := IsN fun x => x ≤ 3) (ev_draw ns nl (ea_cons (ev_var rfl) (ea_cons (ev_op ev_int (ev_var rfl) r2_sub) ea_nil)) ⟨_, rfl, by omega, fun x hx _ => ⟨x, rfl, hx⟩⟩) fun d hd => ?_
  obtain ⟨low, rfl, hlow⟩ := hd
  refine go_when bb.ok (et_andd (et_testd (ev_op (ev_var rfl) ev_int r2_gt)) fun _ => et_testd (ev_op (ev_var rfl) ev_int r2_gt)) (fun h => ?_) (fun _ => ?_)
  · have hsp : 0 < sp := by
      have h := h.symm
      rw [Bool.and_eq_true] at h
      exact of_decide_eq_true h.2
    refine go_ret bb.ok (P := fun d => ∃ i e : Nat, d = (Sign.again i e len low).d) (evp_tup (ea_cons1 ev_str (ea_consN (ev_dr ns nl rfl (ev_var rfl) (by omega) (by omega)) (ea_consN (ev_dr ns nl rfl (ev_var rfl) (by omega) (by omega)) (ea_cons1 (ev_var rfl) (ea_cons1 (ev_var rfl) ea_nil))))) ?_ ?_) fun d v H ⟨i, j, pd⟩ e I r => ?_
    · rintro ds ⟨_, rfl, n, _, rfl, _, n2, _, rfl, _, _, rfl, _, rfl, rfl⟩
      simp only [List.length_cons, List.length_nil]; omega
    · rintro ds ⟨_, rfl, n, _, rfl, _, n2, _, rfl, _, _, rfl, _, rfl, rfl⟩
      exact ⟨n, n2, rfl⟩
    subst pd
    exact hrt _ _ _ (hp (.again i j len low) hlow) e I.1 r
  refine go_asg bb.ok (P := IsN fun x => 1 ≤ x ∧ (x : Int) ≤ m) (evp_opNr ev_int (ev_dr ns nl rfl (ev_var rfl) (by omega) (by omega)) fun i hi => r2_add.imp fun d e => ⟨1 + i, by rw [e, show ((1 + i : Nat) : Int) = 1 + (i : Int) by omega], by omega, by omega⟩) fun d hd => ?_
  obtain ⟨far, rfl, hf1, hf2⟩ := hd
  refine go_ret bb.ok (P := fun d => ∃ x : Nat, x ≤ 3 ∧ d = (Sign.copy far x len low).d) (evp_tup (ea_cons1 ev_str (ea_cons1 (ev_var rfl) (ea_consN (Pa := fun x => x ≤ 3) (ev_draw ns nl (ea_cons (ev_var rfl) (ea_cons (ev_op (ev_op (ev_var rfl) ev_int r2_add) (ev_var rfl) r2_sub) ea_nil)) ⟨_, rfl, by omega, fun x hx _ => ⟨x, rfl, hx⟩⟩) (ea_cons1 (ev_var rfl) (ea_cons1 (ev_var rfl) ea_nil))))) ?_ ?_) fun d v H ⟨x, hx, pd⟩ e I r => ?_
  · rintro ds ⟨_, rfl, _, rfl, n, _, rfl, _, _, rfl, _, rfl, rfl⟩
    simp only [List.length_cons, List.length_nil]; omega
  · rintro ds ⟨_, rfl, _, rfl, n, _, rfl, hn, _, rfl, _, rfl, rfl⟩
    exact ⟨n, hn, rfl⟩
  subst pd
  exact hrt _ _ _ (hp (.copy far x len low) ⟨hx, hlow⟩) e I.1 r
end
end Lr
set_option Elab.async false
set_option maxRecDepth 100000
set_option maxHeartbeats 4000000
set_option linter.all false
set_option autoImplicit false
namespace Lr
open PySem L2 PyProof.Rows
abbrev s_law_figures : Stmt := topS 62
abbrev ns_law_figures : List Str := ["_law_number_here", "_law_size_here", "_law_text", "_law_k"]
theorem sc_law_figures : FnScope ns_law_figures ["_law_number_here", "_law_size_here"] (defScope s_law_figures) := ⟨rfl, rfl, rfl, by decide +kernel, rfl, by decide +kernel, by decide +kernel⟩
abbrev s_law_spread : Stmt := topS 63
abbrev ns_law_spread : List Str := ["_law_sign", "_law_v", "_law_u", "_law_found"]
theorem sc_law_spread : FnScope ns_law_spread ["_law_sign"] (defScope s_law_spread) := ⟨rfl, rfl, rfl, by decide +kernel, rfl, by decide +kernel, by decide +kernel⟩
theorem str_bit (b : Nat) (h : b < 2) : (Str.ofString (toString ((b : Nat) : Int))) = bs [b == 1] := by
  have : b = 0 ∨ b = 1 := by omega
  rcases this with rfl | rfl <;> decide +kernel
theorem two_cast (x : Nat) : (2 : Int) ^ x = ((2 ^ x : Nat) : Int) := (Int.natCast_pow 2 x).symm
section
variable {P : Program} {w : World} {K : PySem.W.Frag} {mg : Str → Option Value} {base : Heap} {C : Addr} {XA : ExAds}
def sFigures : Spec := fun ds P _ => ∃ v n : Nat, ds = [.int (v : Int), .int (n : Int)] ∧ n ≤ 20 ∧ P (.str (bs (fig v n)))
theorem c_law_figures (F : Df K mg "_law_figures" s_law_figures ["_law_number_here", "_law_size_here"]) (B : Blt mg) : Cal P w K mg base 1 "_law_figures" (spX K C XA sFigures) := by
  refine fn_X F sc_law_figures (fun ds Q E ⟨_, _, e, _⟩ => by rw [e]; rfl) fun f cdv A outer s H E hr => ⟨_, (pss_cons (ps_st 2 sc_law_figures.nd pe_str)
        (pss_cons (ps_for (passes_of rfl) rfl (pi_range1 rfl B.b_range (pa_cons (pv 1) pa_nil)) (pg_nm 3 sc_law_figures.nd) (pss_cons (ps_st 2 sc_law_figures.nd (pe_op (xAdd K) (pe_callTy xStr rfl B.b_str bt_str (pa_cons (pe_op xMod (pe_callTy xInt rfl B.b_int bt_int (pa_cons (pv 0) pa_nil)) pe_int) pa_nil)) (pv 2)))
        (pss_one (ps_st 0 sc_law_figures.nd (pe_op xDiv (pv 0) pe_int)))))
        (pss_one (ps_ret (pv 2))))), ?_⟩
  rintro N H0 ds Pd PE ⟨v, n, rfl, hn, hp⟩ hE De hrt hnx
  have bb := pure_base (K := K) (C := C) (N := N) (H0 := H0)
  refine go_asg bb.ok ev_str fun _ e => ?_
  subst e
  refine go_for bb (ei_rng1 (ea_cons (ev_var rfl) ea_nil) (by omega) (by omega)) (fun i δ M => M = [] ∧ ∃ x, δ = [some (.int ((v / 2 ^ i : Nat) : Int)), some (.int (n : Int)), some (.str (bs (fig v i))), x]) ⟨rfl, none, ?_⟩ ?_ ?_
  · rw [Nat.pow_zero, Nat.div_one]; rfl
  · rintro g i d δ' M' hd ea ⟨rfl, x, rfl⟩
    obtain ⟨hi, rfl⟩ := upto_get hd
    refine ⟨_, eg_name, ?_⟩
    refine go_asg bb.ok (P := fun d => d = .str (bs (fig v (i + 1)))) (ev_op (ev_cb (P := fun d => d = .str (bs [(v / 2 ^ i) % 2 == 1])) (ea_cons (ev_op (ev_cb (ea_cons (ev_var rfl) ea_nil) rc_intI) ev_int (r2_mod (by omega))) ea_nil) ?_) (ev_var rfl) ?_) fun _ e => ?_
    · have hb : (v / 2 ^ i) % 2 < 2 := Nat.mod_lt _ (by omega)
      rw [show (((v / 2 ^ i : Nat) : Int) % 2) = (((v / 2 ^ i) % 2 : Nat) : Int) from by omega, ← str_bit _ hb]
      refine rc_strI ?_
      have : ((((v / 2 ^ i) % 2 : Nat) : Int)).natAbs < 2 := by omega
      have h2 : ((((v / 2 ^ i) % 2 : Nat) : Int)).natAbs = 0 ∨ ((((v / 2 ^ i) % 2 : Nat) : Int)).natAbs = 1 := by omega
      rcases h2 with h2 | h2 <;> rw [h2] <;> decide
    · have e : bs [(v / 2 ^ i) % 2 == 1] ++ bs (fig v i) = bs (fig v (i + 1)) := by rw [bs_append]; rfl
      rw [← e]
      refine r2_addSS ?_
      rw [bs_len, bs_len, fig_len]
      have : n ≤ 20 := hn
      simp only [List.length_cons, List.length_nil]
      omega
    subst e
    refine go_asg' bb.ok (ev_op (ev_var rfl) ev_int (r2_div (by omega) (by omega))) fun _ e => ?_
    subst e
    refine go_kept rfl ⟨rfl, some (.int (0 + (i : Int))), ?_⟩
    have : ((v / 2 ^ i : Nat) : Int) / 2 = ((v / 2 ^ (i + 1) : Nat) : Int) := by
      rw [Nat.pow_succ, ← Nat.div_div_eq_div_mul]
      omega
    show [_, _, _, _] = _
    rw [this]
  · rintro δ' M' ea ⟨rfl, x, rfl⟩
    rw [upto_len]
    refine go_ret bb.ok (ev_var rfl) fun d v H pd e I r => ?_
    subst pd
    exact hrt _ _ _ (by simpa using hp) e r
def sLawSpread : Spec := fun ds P _ => ∃ g : Sign, ds = [g.d] ∧ g.ext ∧ P (.lst (g.spread.map pairD))
theorem upto_range {n i : Nat} {F : Nat → D} {d e : D} (hd : (upto 0 n)[i]? = some d) (he : ((List.range n).map F)[i]? = some e) : i < n ∧ d = .int (i : Int) ∧ e = F i := by
  obtain ⟨hi, rfl⟩ := upto_get hd
  rw [List.getElem?_map, List.getElem?_range hi] at he
  exact ⟨hi, by rw [Int.zero_add], (Option.some.inj he).symm⟩
theorem pow8 {x : Nat} (h : x ≤ 3) : 2 ^ x ≤ 8 := Nat.le_trans (Nat.pow_le_pow_right (by omega) h) (by decide)
theorem ei_two {w : Wd} {δ : List (Option D)} {te : TE} {x : Nat} {E : XK} (h : Ev w te δ (.int (x : Int))) (hx : x ≤ 3) : EvI w (iRng1 (tCons (tCall (spX w.K w.C XA sTwo) [] E (tCons te tNil)) tNil)) δ (upto 0 (2 ^ x)) := by
  have e : Ev w (tCall (spX w.K w.C XA sTwo) [] E (tCons te tNil)) δ (.int ((2 ^ x : Nat) : Int)) := ev_call (ea_cons h ea_nil) ⟨x, rfl, by omega, by rw [two_cast]⟩
  have h8 := pow8 hx
  generalize 2 ^ x = m at h8 e ⊢
  have := ei_rng1 (ea_cons e ea_nil) (by omega) (by omega)
  rwa [Int.toNat_natCast] at this
theorem ev_fig {w : Wd} {δ : List (Option D)} {ta tb : TE} {v n : Nat} {E : XK} (h : Ev w ta δ (.int (v : Int))) (h2 : Ev w tb δ (.int (n : Int))) (hn : n ≤ 20) : Ev w (tCall (spX w.K w.C XA sFigures) [] E (tCons ta (tCons tb tNil))) δ (.str (bs (fig v n))) :=
  ev_call (ea_cons h (ea_cons h2 ea_nil)) ⟨v, n, rfl, hn, rfl⟩
theorem c_law_spread (F : Df K mg "_law_spread" s_law_spread ["_law_sign"]) (B : Blt mg) (c_law_two : Cal P w K mg base 1 "_law_two" (spX K C XA sTwo)) (c_law_figures : Cal P w K mg base 1 "_law_figures" (spX K C XA sFigures)) :
    Cal P w K mg base 2 "_law_spread" (spX K C XA sLawSpread) := by
  refine fn_X F sc_law_spread (fun ds Q E ⟨_, e, _⟩ => by rw [e]; rfl) fun f cdv A outer s H E hr => ⟨_, (pss_cons (ps_if (pt_cmpR (xEq K hr.units) (pe_ix (xIx K w) (pv 0) pe_int (fun _ _ => rfl)) pe_str (nomark _)) (pss_one (ps_ret (pe_lc (own := [("_law_v", 1)]) (g := gName 1) (tt := tYes) rfl sc_law_spread.nd (pi_range1 rfl B.b_range (pa_cons (pe_cal c_law_two hr (pa_cons (pe_ix (xIx K w) (pv 0) pe_int (fun _ _ => rfl)) pa_nil)) pa_nil)) (blkOk_by (N := ns_law_spread) (sc := defScope s_law_spread) (by decide +kernel)) (fun _ _ _ _ _ => (pg_nm 1 sc_law_spread.nd)) (fun _ _ _ _ _ => pts_nil) (fun _ _ _ _ _ => (pe_tup (pa_cons (pe_cal c_law_figures hr (pa_cons (pv 1) (pa_cons (pe_ix (xIx K w) (pv 0) pe_int (fun _ _ => rfl)) pa_nil))) (pa_cons (pe_tup (pa_cons pe_str (pa_cons (pe_op (xAdd K) (pe_ix (xIx K w) (pv 0) pe_int (fun _ _ => rfl)) (pv 1)) pa_nil))) pa_nil))))))) pss_nil)
        (pss_cons (ps_if (pt_cmpR (xEq K hr.units) (pe_ix (xIx K w) (pv 0) pe_int (fun _ _ => rfl)) pe_str (nomark _)) (pss_one (ps_ret (pe_lc (own := [("_law_u", 2)]) (g := gName 2) (tt := tYes) rfl sc_law_spread.nd (pi_range1 rfl B.b_range (pa_cons (pe_cal c_law_two hr (pa_cons (pe_ix (xIx K w) (pv 0) pe_int (fun _ _ => rfl)) pa_nil)) pa_nil)) (blkOk_by (N := ns_law_spread) (sc := defScope s_law_spread) (by decide +kernel)) (fun _ _ _ _ _ => (pg_nm 2 sc_law_spread.nd)) (fun _ _ _ _ _ => pts_nil) (fun _ _ _ _ _ => (pe_tup (pa_cons (pe_cal c_law_figures hr (pa_cons (pv 2) (pa_cons (pe_ix (xIx K w) (pv 0) pe_int (fun _ _ => rfl)) pa_nil))) (pa_cons (pe_op (xAdd K) (pe_slice (xSl K) (pv 0) po_none (po_some pe_int)) (pe_tup (pa_cons (pe_op (xAdd K) (pe_ix (xIx K w) (pv 0) pe_int (fun _ _ => rfl)) (pv 2)) pa_nil))) pa_nil))))))) pss_nil)
        (pss_cons (ps_if (pt_cmpR (xNe K hr.units) (pe_ix (xIx K w) (pv 0) pe_int (fun _ _ => rfl)) pe_str (nomark _)) (pss_one (ps_ret (pe_lst (pa_cons (pe_tup (pa_cons pe_str (pa_cons (pv 0) pa_nil))) pa_nil)))) pss_nil)
        (pss_cons (ps_st 3 sc_law_spread.nd (pe_lst pa_nil))
        (pss_cons (ps_for (passes_of rfl) rfl (pi_range1 rfl B.b_range (pa_cons (pe_cal c_law_two hr (pa_cons (pe_ix (xIx K w) (pv 0) pe_int (fun _ _ => rfl)) pa_nil)) pa_nil)) (pg_nm 1 sc_law_spread.nd) (pss_one (ps_for (passes_of rfl) rfl (pi_range1 rfl B.b_range (pa_cons (pe_cal c_law_two hr (pa_cons (pe_ix (xIx K w) (pv 0) pe_int (fun _ _ => rfl)) pa_nil)) pa_nil)) (pg_nm 2 sc_law_spread.nd) (pss_one (ps_expr (pe_bm PySem.F.plainAttrs_list PySem.F.slot_list_append PySem.F.type_list_append mt_append (pv 3) (pa_cons (pe_tup (pa_cons (pe_op (xAdd K) (pe_cal c_law_figures hr (pa_cons (pv 1) (pa_cons (pe_ix (xIx K w) (pv 0) pe_int (fun _ _ => rfl)) pa_nil))) (pe_cal c_law_figures hr (pa_cons (pv 2) (pa_cons (pe_ix (xIx K w) (pv 0) pe_int (fun _ _ => rfl)) pa_nil)))) (pa_cons (pe_tup (pa_cons pe_str (pa_cons (pe_op (xAdd K) (pe_ix (xIx K w) (pv 0) pe_int (fun _ _ => rfl)) (pv 1)) (pa_cons (pe_op (xAdd K) (pe_ix (xIx K w) (pv 0) pe_int (fun _ _ => rfl)) (pv 2)) pa_nil)))) pa_nil))) pa_nil)))))))
        (pss_one (ps_ret (pv 3)))))))), ?_⟩
  rintro N H0 ds Pd PE ⟨g, rfl, hg, hp⟩ hE De hrt hnx
  have bb := pure_base (K := K) (C := C) (N := N) (H0 := H0)
  have e0 : ∀ (M : ML) (δ : List (Option D)) (x : Str) (r : List D), δ[0]? = some (some (.tup (.str x :: r))) → Ev ((pureW K C N H0).wi M) (tOp (rIxU K w) (tVar 0) (tC (.int 0))) δ (.str x) := fun M δ x r h => ev_op (ev_var h) ev_int (r2_xT (atI_nat (j := 0) rfl))
  cases g with
  | letter a x =>
    refine go_when bb.ok (et_testd (ev_op (e0 _ _ _ _ rfl) ev_str r2_eS)) (fun _ => ?_) (fun h => absurd h.symm (by decide +kernel))
    refine go_ret bb.ok (ev_lcmap bb (ei_two (ev_op (ev_var rfl) ev_int (r2_xT rfl)) hg) (by rw [upto_len]; have := pow8 hg; omega) ((List.range (2 ^ x)).map fun v => pairD (fig v x, Tok.letter (a + v))) (by rw [upto_len, List.length_map, List.length_range]) ?_) fun d v H pd e I r => ?_
    · intro i d e hd he p acc np
      obtain ⟨hi, rfl, rfl⟩ := upto_range hd he
      refine ⟨_, gw_name, ?_⟩
      exact ev_tup (ea_cons (ev_fig (ev_var rfl) (ev_op (ev_var rfl) ev_int (r2_xT rfl)) (by have : x ≤ 3 := hg; omega)) (ea_cons (ev_tup (ea_cons ev_str (ea_cons (ev_op (ev_op (ev_var rfl) ev_int (r2_xT rfl)) (ev_var rfl) r2_add) ea_nil))) ea_nil))
    subst pd
    refine hrt _ _ _ ?_ e r
    simpa only [Sign.spread, List.map_map, Function.comp_def] using hp
  | again i e l y =>
    refine go_when bb.ok (et_testd (ev_op (e0 _ _ _ _ rfl) ev_str r2_eS)) (fun h => absurd h.symm (by decide +kernel)) (fun _ => ?_)
    refine go_when bb.ok (et_testd (ev_op (e0 _ _ _ _ rfl) ev_str r2_eS)) (fun _ => ?_) (fun h => absurd h.symm (by decide +kernel))
    refine go_ret bb.ok (ev_lcmap bb (ei_two (ev_op (ev_var rfl) ev_int (r2_xT rfl)) hg) (by rw [upto_len]; have := pow8 hg; omega) ((List.range (2 ^ y)).map fun u => pairD (fig u y, Tok.again i e (l + u))) (by rw [upto_len, List.length_map, List.length_range]) ?_) fun d v H pd e I r => ?_
    · intro j d e hd he p acc np
      obtain ⟨hi, rfl, rfl⟩ := upto_range hd he
      refine ⟨_, gw_name, ?_⟩
      refine ev_tup (ea_cons (ev_fig (ev_var rfl) (ev_op (ev_var rfl) ev_int (r2_xT rfl)) (by have : y ≤ 3 := hg; omega)) (ea_cons ?_ ea_nil))
      refine ev_op (ev_sl (ev_var rfl) eo_none (eo_some ev_int) rs_T) (ev_tup (ea_cons (ev_op (ev_op (ev_var rfl) ev_int (r2_xT rfl)) (ev_var rfl) r2_add) ea_nil)) (r2_addT (by simp only [cutD, List.length_cons, List.length_nil, List.length_take, List.length_drop]; omega))
    subst pd
    refine hrt _ _ _ ?_ e r
    simpa only [Sign.spread, List.map_map, Function.comp_def] using hp
  | turn j =>
    refine go_when bb.ok (et_testd (ev_op (e0 _ _ _ _ rfl) ev_str r2_eS)) (fun h => absurd h.symm (by decide +kernel)) (fun _ => ?_)
    refine go_when bb.ok (et_testd (ev_op (e0 _ _ _ _ rfl) ev_str r2_eS)) (fun h => absurd h.symm (by decide +kernel)) (fun _ => ?_)
    refine go_when bb.ok (et_testd (ev_op (e0 _ _ _ _ rfl) ev_str r2_nS)) (fun _ => ?_) (fun h => absurd h.symm (by decide +kernel))
    refine go_ret bb.ok (ev_lst (ea_cons (ev_tup (ea_cons ev_str (ea_cons (ev_var rfl) ea_nil))) ea_nil)) fun d v H pd e I r => ?_
    subst pd
    exact hrt _ _ _ hp e r
  | stop =>
    refine go_when bb.ok (et_testd (ev_op (e0 _ _ _ _ rfl) ev_str r2_eS)) (fun h => absurd h.symm (by decide +kernel)) (fun _ => ?_)
    refine go_when bb.ok (et_testd (ev_op (e0 _ _ _ _ rfl) ev_str r2_eS)) (fun h => absurd h.symm (by decide +kernel)) (fun _ => ?_)
    refine go_when bb.ok (et_testd (ev_op (e0 _ _ _ _ rfl) ev_str r2_nS)) (fun _ => ?_) (fun h => absurd h.symm (by decide +kernel))
    refine go_ret bb.ok (ev_lst (ea_cons (ev_tup (ea_cons ev_str (ea_cons (ev_var rfl) ea_nil))) ea_nil)) fun d v H pd e I r => ?_
    subst pd
    exact hrt _ _ _ hp e r
  | copy d x l y =>
    refine go_when bb.ok (et_testd (ev_op (e0 _ _ _ _ rfl) ev_str r2_eS)) (fun h => absurd h.symm (by decide +kernel)) (fun _ => ?_)
    refine go_when bb.ok (et_testd (ev_op (e0 _ _ _ _ rfl) ev_str r2_eS)) (fun h => absurd h.symm (by decide +kernel)) (fun _ => ?_)
    refine go_when bb.ok (et_testd (ev_op (e0 _ _ _ _ rfl) ev_str r2_nS)) (fun h => absurd h.symm (by decide +kernel)) (fun _ => ?_)
    obtain ⟨hx, hy⟩ := hg
    refine go_new bb evn_nil fun ds q hds hq hm => ?_
    subst hds
    let row : Nat → List D := fun v => (List.range (2 ^ y)).map fun u => pairD (fig v x ++ fig u y, Tok.copy (d + v) (l + u))
    have h8x := pow8 hx
    have h8y := pow8 hy
    have rlen : ∀ v, (row v).length = 2 ^ y := fun v => by simp [row]
    have flen : ∀ n, ((List.range n).flatMap row).length = n * 2 ^ y := fun n => by
      induction n with
      | zero => simp
      | succ n ih => rw [List.range_succ, List.flatMap_append, List.length_append, ih, List.flatMap_singleton, rlen, Nat.succ_mul]
    refine go_for bb (ei_two (ev_op (ev_var rfl) ev_int (r2_xT rfl)) hx) (fun i δ M => M = [(q, .lst ((List.range i).flatMap row))] ∧ ∃ v u, δ = [some (Sign.copy d x l y).d, v, u, some (.adr q)]) ⟨rfl, none, none, rfl⟩ ?_ ?_
    · rintro g v dd δ' M' hd ea ⟨rfl, _, _, rfl⟩
      obtain ⟨hv, rfl⟩ := upto_get hd
      refine ⟨_, eg_name, ?_⟩
      refine go_for' bb (ei_two (ev_op (ev_var rfl) ev_int (r2_xT rfl)) hy) (fun j δ M => M = [(q, .lst ((List.range v).flatMap row ++ (row v).take j))] ∧ ∃ u, δ = [some (Sign.copy d x l y).d, some (.int (v : Int)), u, some (.adr q)]) ⟨by simp, _, by rw [Int.zero_add]; rfl⟩ ?_ ?_
      · rintro g2 u dd δ' M' hd ea2 ⟨rfl, _, rfl⟩
        obtain ⟨hu, rfl⟩ := upto_get hd
        refine ⟨_, eg_name, ?_⟩
        refine go_app' (P := fun e => e = pairD (fig v x ++ fig u y, Tok.copy (d + v) (l + u))) bb rfl (by simp [ads]) (ev_tup (ea_cons (ev_op (ev_fig (ev_var rfl) (ev_op (ev_var rfl) ev_int (r2_xT rfl)) (by omega)) (ev_fig (v := u) (ev_is (ev_var rfl) (by rw [Int.zero_add])) (ev_op (ev_var rfl) ev_int (r2_xT rfl)) (by omega)) ?_) (ea_cons (ev_tup (ea_cons ev_str (ea_cons (ev_op (ev_op (ev_var rfl) ev_int (r2_xT rfl)) (ev_var rfl) r2_add) (ea_cons (ev_op (ev_op (ev_var rfl) ev_int (r2_xT rfl)) (ev_is (ev_var rfl) (by rw [Int.zero_add])) r2_add) ea_nil)))) ea_nil))) ?_ fun e he => ?_
        · rw [← bs_append]
          refine r2_addSS ?_
          rw [bs_len, bs_len, fig_len, fig_len]
          omega
        · rw [List.length_append, flen, List.length_take, rlen]
          have : v * 2 ^ y ≤ 8 * 8 := Nat.mul_le_mul (by omega) h8y
          omega
        · refine go_kept rfl ⟨?_, _, rfl⟩
          have : (row v)[u]? = some e := by rw [he]; simp [row, hu]
          rw [take_succ' this, List.append_assoc]
      · rintro δ' M' ea2 ⟨rfl, _, rfl⟩
        refine go_kept rfl ⟨?_, _, _, rfl⟩
        rw [upto_len, ← rlen v, List.take_length, List.range_succ, List.flatMap_append, List.flatMap_singleton]
    · rintro δ' M' ea ⟨rfl, _, _, rfl⟩
      refine go_freeze (i := 3) bb rfl (by simp [ads]) hq ?_
      refine go_ret bb.ok (ev_var rfl) fun d v H pd e I r => ?_
      subst pd
      refine hrt _ _ _ ?_ e r
      rw [upto_len]
      simpa only [Sign.spread, List.map_flatMap, List.map_map, Function.comp_def, row] using hp
end
end Lr
set_option Elab.async false
set_option maxRecDepth 100000
set_option maxHeartbeats 4000000
set_option linter.all false
set_option autoImplicit false
namespace Lr
open PySem L2 PyProof.Rows
section
variable {b : Wd} {H0 : Hp} {M : ML} {δ : List (Option D)} {te : TE} {p : Addr} {ds : List D} {d : D} {W : World}
theorem ev_neg {w : Wd} {i : Int} (h : Ev w te δ (.int i)) : Ev w (tUn (rU fun i => .int (-i)) te) δ (.int (-i)) := fun ok σ H e I Q q =>
  h ok σ H e I _ fun d v H1 p e1 I1 r => by
    subst p
    cases r
    exact ⟨i, rfl, q _ _ H1 rfl e1 I1 (.int _)⟩
theorem mem_lst (hm : (p, MO.lst ds) ∈ M) {H : Hp} (I : (b.wi M).I H) : ∃ vs, H p = some (.lst vs) ∧ (b.wi M).RpAll H vs ds := (I.2 _ hm).2
theorem r2_xM {i : Int} (hm : (p, MO.lst ds) ∈ M) (h : atI ds i = some d) : R2P (b.wi M) (rIxU b.K W) (.adr p) (.int i) fun x => x = d := fun ok H x y I ra rb Q q => by
  cases rb
  cases ra
  obtain ⟨vs, hv, r⟩ := mem_lst hm I
  obtain ⟨j, v, h1, h2, h3⟩ := atI_rp r.len h
  obtain ⟨v', h4, r'⟩ := r.get h1
  rw [h2] at h4
  cases h4
  exact .inl ⟨p, vs, i, v, rfl, rfl, SqL.of hv, h3, q _ _ H rfl (Ex.refl H) I r'⟩
theorem rc_lenM (hm : (p, MO.lst ds) ∈ M) : RCP (b.wi M) (rLenU b.K) [.adr p] fun d => d = .int (ds.length : Nat) := fun ok H xs I r Q q => by
  cases r with
  | cons r t =>
    cases t
    cases r
    obtain ⟨vs, hv, r⟩ := mem_lst hm I
    exact ⟨_, ds.length, rfl, .inl ⟨vs, SqL.of hv, r.len.symm⟩, q _ _ H rfl (Ex.refl H) I (.int _)⟩
theorem first_idx : ∀ {ns : List Int} {m : Int}, m ∈ ns → ∃ j : Nat, ns[j]? = some m ∧ ∀ (k : Nat) (z : Int), k < j → ns[k]? = some z → z ≠ m
  | a :: r, m, h => by
    by_cases e : a = m
    · exact ⟨0, by rw [e]; rfl, fun k z hk => by omega⟩
    · obtain ⟨j, h1, h2⟩ := first_idx (ns := r) (m := m) (by
        rcases List.mem_cons.mp h with h | h
        · exact absurd h.symm e
        · exact h)
      refine ⟨j + 1, h1, fun k z hk hz => ?_⟩
      cases k with
      | zero => cases hz; exact e
      | succ k => exact h2 k z (by omega) hz
/-- xs.index(min(xs)) -/
theorem ev_minIx {i : Nat} {ns : List Int} (hi : δ[i]? = some (some (.adr p))) (hm : (p, MO.lst (ns.map D.int)) ∈ M) (h0 : 0 < ns.length) :
    EvP (b.wi M) (tBM b.K "list" (rIndex b.K) (tVar i) (tCons (tCB (rMin b.K) (tCons (tVar i) tNil)) tNil)) δ (IsN fun j => j < ns.length) := fun ok σ H e I Q q => by
  obtain ⟨v, h1, h2⟩ := e.get hi
  cases h2
  obtain ⟨vs, hv, r⟩ := mem_lst hm I
  have ev := r.ints_inv
  subst ev
  refine ⟨_, h1, .inl ⟨rfl, _, SqL.of hv⟩, _, h1, p, ns, rfl, SqL.of hv, h0, fun m hmn _ => ?_⟩
  obtain ⟨j, g1, g2⟩ := first_idx hmn
  have hj : j < ns.length := (List.getElem?_eq_some_iff.mp g1).1
  refine ⟨p, _, .int m, j, .int m, rfl, rfl, SqL.of hv, rfl, ?_, by rw [List.getElem?_map, g1]; rfl, by simp [eqV], fun k z hk hz => ?_, q _ _ H ⟨j, rfl, hj⟩ (Ex.refl H) I (.int _)⟩
  · rw [List.all_map]
    exact List.all_eq_true.mpr fun _ _ => rfl
  · rw [List.getElem?_map] at hz
    cases e2 : ns[k]? with
    | none => rw [e2] at hz; cases hz
    | some z' =>
      rw [e2] at hz
      cases hz
      have := g2 k z' hk e2
      simpa [eqV] using this
end
abbrev s_law_broad_signs : Stmt := topS 68
abbrev ns_law_broad_signs : List Str := ["_law_source_here", "_law_alphabet", "_law_wide", "_law_spots", "_law_leaves", "_law_signs", "_law_letter", "_law_k", "_law_fresh", "_law_total", "_law_sign"]
theorem sc_law_broad_signs : FnScope ns_law_broad_signs ["_law_source_here", "_law_alphabet", "_law_wide", "_law_spots", "_law_leaves"] (defScope s_law_broad_signs) := ⟨rfl, rfl, rfl, by decide +kernel, rfl, by decide +kernel, by decide +kernel⟩
section
variable {P : Program} {w : World} {K : PySem.W.Frag} {mg : Str → Option Value} {base : Heap} {C : Addr} {XA : ExAds}
/-- from 2 to 40 signs -/
def SignsOk (gs : List Sign) : Prop := 2 ≤ gs.length ∧ gs.length ≤ 100 ∧ ∀ g ∈ gs, g.ext
def sBroadSigns : SpecS := fun s ds P => ∃ a m sp lv : Int, ds = [.adr s, .int a, .int m, .int sp, .int lv] ∧ (1 ≤ a ∧ a < 1000) ∧ (1 ≤ m ∧ m < 1000) ∧ (0 ≤ sp ∧ sp < 1000) ∧ (1 ≤ lv ∧ lv < 1000) ∧ ∀ gs : List Sign, SignsOk gs → P (.lst (gs.map Sign.d))
theorem spread_le {g : Sign} (h : g.ext) : g.spread.length ≤ 64 := by
  cases g with
  | letter a x => simp only [Sign.spread, List.length_map, List.length_range]; have := pow8 h; omega
  | copy d x l y =>
    simp only [Sign.spread]
    have hx := pow8 h.1
    have hy := pow8 h.2
    have : ∀ n, ((List.range n).flatMap fun v => (List.range (2 ^ y)).map fun u => (fig v x ++ fig u y, Tok.copy (d + v) (l + u))).length = n * 2 ^ y := fun n => by
      induction n with
      | zero => simp
      | succ n ih => rw [List.range_succ, List.flatMap_append, List.length_append, ih, List.flatMap_singleton, List.length_map, List.length_range, Nat.succ_mul]
    rw [this]
    exact Nat.mul_le_mul hx hy
  | again i e l y => simp only [Sign.spread, List.length_map, List.length_range]; have := pow8 h; omega
  | turn j => simp [Sign.spread]
  | stop => simp [Sign.spread]
theorem c_law_broad_signs (F : Df K mg "_law_broad_signs" s_law_broad_signs ["_law_source_here", "_law_alphabet", "_law_wide", "_law_spots", "_law_leaves"]) (B : Blt mg) (c_law_two : Cal P w K mg base 1 "_law_two" (spX K C XA sTwo)) (c_law_spread : Cal P w K mg base 2 "_law_spread" (spX K C XA sLawSpread))
    (c_law_size : Cal P w K mg base 3 "_law_size" (spS K C sSize)) (c_law_extra : Cal P w K mg base 4 "_law_extra" (spS K C sExtra)) (c_law_broad_sign : Cal P w K mg base 5 "_law_broad_sign" (spS K C sBroadSign)) :
    Cal P w K mg base 6 "_law_broad_signs" (spS K C sBroadSigns) := by
  refine fn_S F sc_law_broad_signs (fun s ds Q ⟨_, _, _, _, e, _⟩ => by rw [e]; rfl) fun f cdv A outer s H E hr => ⟨_, (pss_cons (ps_st 5 sc_law_broad_signs.nd (pe_lst pa_nil))
        (pss_cons (ps_st 6 sc_law_broad_signs.nd pe_int)
        (pss_cons (ps_for (passes_of rfl) rfl (pi_range1 rfl B.b_range (pa_cons pe_int pa_nil)) (pg_nm 7 sc_law_broad_signs.nd) (pss_one (ps_if (pt_cmpR xLt (pv 6) (pv 1) (nomark _)) (pss_cons (ps_expr (pe_bm PySem.F.plainAttrs_list PySem.F.slot_list_append PySem.F.type_list_append mt_append (pv 5) (pa_cons (pe_tup (pa_cons pe_str (pa_cons (pv 6) (pa_cons (pe_cal c_law_extra hr (pa_cons (pv 0) (pa_cons (pe_op xSub (pv 1) (pv 6)) pa_nil))) pa_nil)))) pa_nil)))
        (pss_one (ps_st 6 sc_law_broad_signs.nd (pe_op (xAdd K) (pv 6) (pe_cal c_law_two hr (pa_cons (pe_ix (xIx K w) (pe_ix (xIx K w) (pv 5) (pe_un un_neg pe_int) (fun _ _ => rfl)) pe_int (fun _ _ => rfl)) pa_nil)))))) pss_nil)))
        (pss_cons (ps_st 8 sc_law_broad_signs.nd (pe_cal c_law_size hr (pa_cons (pv 0) (pa_cons pe_int (pa_cons pe_int (pa_cons pe_int pa_nil))))))
        (pss_cons (ps_if (pt_cmpR xLt (pe_op (xAdd K) (pe_callB (xLen K) rfl B.b_len bt_len (pa_cons (pv 5) pa_nil)) (pv 8)) pe_int (nomark _)) (pss_one (ps_st 8 sc_law_broad_signs.nd pe_int)) pss_nil)
        (pss_cons (ps_st 9 sc_law_broad_signs.nd (pv 1))
        (pss_cons (ps_for (passes_of rfl) rfl (pi_range1 rfl B.b_range (pa_cons (pv 8) pa_nil)) (pg_nm 7 sc_law_broad_signs.nd) (pss_cons (ps_st 10 sc_law_broad_signs.nd (pe_cal c_law_broad_sign hr (pa_cons (pv 0) (pa_cons (pv 1) (pa_cons (pv 2) (pa_cons (pv 3) (pa_cons (pv 4) pa_nil)))))))
        (pss_cons (ps_if (pt_cmpR xGt (pe_op (xAdd K) (pv 9) (pe_callB (xLen K) rfl B.b_len bt_len (pa_cons (pe_cal c_law_spread hr (pa_cons (pv 10) pa_nil)) pa_nil))) pe_int (nomark _)) (pss_one (ps_st 10 sc_law_broad_signs.nd (pe_tup (pa_cons pe_str pa_nil)))) pss_nil)
        (pss_cons (ps_st 9 sc_law_broad_signs.nd (pe_op (xAdd K) (pv 9) (pe_callB (xLen K) rfl B.b_len bt_len (pa_cons (pe_cal c_law_spread hr (pa_cons (pv 10) pa_nil)) pa_nil))))
        (pss_one (ps_expr (pe_bm PySem.F.plainAttrs_list PySem.F.slot_list_append PySem.F.type_list_append mt_append (pv 5) (pa_cons (pv 10) pa_nil))))))))
        (pss_one (ps_ret (pv 5)))))))))), ?_⟩
  rintro N H0 s l ds Pd ns nl ⟨a, m, sp, lv, rfl, ha, hm, hs, hv, hp⟩ De hrt
  have bb := src_base (K := K) (C := C) (H0 := H0) ns nl
  refine go_new bb evn_nil fun ds q hds hq hqm => ?_
  subst hds
  refine go_asg bb.ok ev_int fun _ e => ?_
  subst e
  refine go_for bb (ei_rng1 (ea_cons ev_int ea_nil) (by omega) (by omega)) (fun i δ M => ∃ (gs : List Sign) (L : Nat) (k : Option D), M = [(q, .lst (gs.map Sign.d))] ∧ δ = [some (.adr s), some (.int a), some (.int m), some (.int sp), some (.int lv), some (.adr q), some (.int (L : Int)), k, none, none, none] ∧ gs.length ≤ i ∧ (∀ g ∈ gs, g.ext) ∧ (i = 0 → L = 0) ∧ (1 ≤ i → 1 ≤ gs.length))
    ⟨[], 0, none, rfl, rfl, Nat.le_refl _, by simp, fun _ => rfl, by omega⟩ ?_ ?_
  · rintro g i d δ' M' hd ea ⟨gs, L, k, rfl, rfl, hl, hg, hz, h1⟩
    refine ⟨_, eg_name, ?_⟩
    refine go_when' bb.ok (et_testd (ev_op (ev_var rfl) (ev_var rfl) r2_lt)) (fun h => ?_) (fun h => ?_)
    · have h := of_decide_eq_true h.symm
      refine go_app (P := fun d => ∃ x : Nat, x ≤ 3 ∧ d = (Sign.letter L x).d) bb rfl (by simp [ads]) (evp_tup (ea_cons1 ev_str (ea_cons1 (ev_var rfl) (ea_consN (Pa := fun x => x ≤ 3) (ev_draw ns nl (ea_cons (ev_var rfl) (ea_cons (ev_op (ev_var rfl) (ev_var rfl) r2_sub) ea_nil)) ⟨_, rfl, by omega, fun x hx _ => ⟨x, rfl, hx⟩⟩) ea_nil))) ?_ ?_) (by rw [List.length_map]; have := (List.getElem?_eq_some_iff.mp hd).1; rw [upto_len] at this; have e16 : (16 : Int).toNat = 16 := rfl; omega) fun d hd => ?_
      · rintro ds ⟨_, rfl, _, rfl, n, _, rfl, _, rfl⟩
        simp only [List.length_cons, List.length_nil]; omega
      · rintro ds ⟨_, rfl, _, rfl, n, _, rfl, hn, rfl⟩
        exact ⟨n, hn, rfl⟩
      obtain ⟨x, hx, rfl⟩ := hd
      refine go_asg' bb.ok (P := fun d => d = .int ((L + 2 ^ x : Nat) : Int)) (ev_op (ev_var rfl) (ev_call (P := fun d => d = .int ((2 ^ x : Nat) : Int)) (ea_cons (ev_op (ev_op (ev_var rfl) (ev_neg ev_int) (r2_xM (d := (Sign.letter L x).d) List.mem_cons_self (atI_last _ _))) ev_int (r2_xT rfl)) ea_nil) ⟨x, rfl, by omega, by rw [two_cast]⟩) (r2_add.imp fun d e => by rw [e, Int.natCast_add])) fun _ e => ?_
      subst e
      refine go_kept rfl ⟨gs ++ [Sign.letter L x], L + 2 ^ x, _, by rw [List.map_append]; rfl, rfl, by rw [List.length_append]; exact Nat.succ_le_succ hl, fun g hg' => ?_, by omega, fun _ => by rw [List.length_append]; exact Nat.succ_le_succ (Nat.zero_le _)⟩
      rcases List.mem_append.mp hg' with hg' | hg'
      · exact hg g hg'
      · rw [List.mem_singleton] at hg'
        subst hg'
        exact hx
    · have h := of_decide_eq_false h.symm
      refine go_kept rfl ⟨gs, L, _, rfl, rfl, Nat.le_succ_of_le hl, hg, by omega, fun _ => h1 ?_⟩
      rcases Nat.eq_zero_or_pos i with z | z
      · have := hz z
        omega
      · exact z
  · rintro δ' M' ea ⟨gs, L, k, rfl, rfl, hl, hg, hz, h1⟩
    rw [upto_len] at hl h1
    have e16 : (16 : Int).toNat = 16 := rfl
    rw [e16] at hl h1
    have h1 := h1 (by omega)
    refine go_asg bb.ok (P := IsN fun x => x ≤ 24) (ev_draw ns nl (ea_cons (ev_var rfl) (ea_cons ev_int (ea_cons ev_int (ea_cons ev_int ea_nil)))) ⟨0, 5, 24, rfl, by omega, by omega, by omega, by omega, fun d h0 h1 => ⟨d.toNat, by rw [Int.toNat_of_nonneg h0], by omega⟩⟩) fun d hd => ?_
    obtain ⟨fr, rfl, hfr⟩ := hd
    refine go_cut (fun δ M => M = [(q, .lst (gs.map Sign.d))] ∧ ∃ fr : Nat, δ = [some (.adr s), some (.int a), some (.int m), some (.int sp), some (.int lv), some (.adr q), some (.int (L : Int)), k, some (.int (fr : Int)), none, none] ∧ fr ≤ 24 ∧ 2 ≤ gs.length + fr) (fun nx hj => ?_) ?_
    · refine go_when' bb.ok (et_testd (ev_op (ev_op (ev_cb (ea_cons (ev_var (i := 5) rfl) ea_nil) (rc_lenM List.mem_cons_self)) (ev_var (i := 8) rfl) r2_add) ev_int r2_lt)) (fun h => ?_) (fun h => ?_)
      · have h := of_decide_eq_true h.symm
        refine go_asg' bb.ok ev_int fun _ e => ?_
        subst e
        exact go_out hj ⟨rfl, 1, rfl, by omega, by omega⟩
      · have h := of_decide_eq_false h.symm
        rw [List.length_map] at h
        exact go_out hj ⟨rfl, fr, rfl, hfr, by omega⟩
    rintro δ' M' ⟨rfl, fr, rfl, hfr, h2⟩
    refine go_asg bb.ok (ev_var (i := 1) rfl) fun _ e => ?_
    subst e
    refine go_for bb (ei_rng1 (ea_cons (ev_var (i := 8) rfl) ea_nil) (by omega) (by omega)) (fun i δ M => ∃ (hs : List Sign) (t : Nat) (k x : Option D), M = [(q, .lst (hs.map Sign.d))] ∧ δ = [some (.adr s), some (.int a), some (.int m), some (.int sp), some (.int lv), some (.adr q), some (.int (L : Int)), k, some (.int (fr : Int)), some (.int (t : Int)), x] ∧ hs.length = gs.length + i ∧ (∀ g ∈ hs, g.ext))
      ⟨gs, a.toNat, k, none, rfl, by rw [Int.toNat_of_nonneg (by omega)]; rfl, rfl, hg⟩ ?_ ?_
    · rintro g i d δ' M' hd ea ⟨gs2, t, k, x, rfl, rfl, hl2, hg2⟩
      have hi : i < fr := by have := (List.getElem?_eq_some_iff.mp hd).1; rw [upto_len] at this; simpa using this
      obtain ⟨_, rfl⟩ := upto_get hd
      refine ⟨_, eg_name, ?_⟩
      refine go_asg bb.ok (P := fun d => ∃ g : Sign, g.ext ∧ d = g.d) (ev_draw ns nl (ea_cons (ev_var rfl) (ea_cons (ev_var rfl) (ea_cons (ev_var rfl) (ea_cons (ev_var rfl) (ea_cons (ev_var rfl) ea_nil))))) ⟨a, m, sp, lv, rfl, ha, hm, hs, hv, fun g hg => ⟨g, hg, rfl⟩⟩) fun d hd => ?_
      obtain ⟨g, hge, rfl⟩ := hd
      refine go_cut (fun δ M => M = [(q, .lst (gs2.map Sign.d))] ∧ ∃ g : Sign, g.ext ∧ δ = [some (.adr s), some (.int a), some (.int m), some (.int sp), some (.int lv), some (.adr q), some (.int (L : Int)), some (.int (0 + (i : Int))), some (.int (fr : Int)), some (.int (t : Int)), some g.d]) (fun nx hj => ?_) ?_
      · refine go_when' bb.ok (et_testd (ev_op (ev_op (ev_var (i := 9) rfl) (ev_cb (ea_cons (ev_call (P := fun d => d = .lst (g.spread.map pairD)) (ea_cons (ev_var (i := 10) rfl) ea_nil) ⟨g, rfl, hge, rfl⟩) ea_nil) (rc_len rfl)) r2_add) ev_int r2_gt)) (fun _ => ?_) (fun _ => ?_)
        · refine go_asg' bb.ok (ev_tup (ea_cons ev_str ea_nil)) fun _ e => ?_
          subst e
          exact go_out hj ⟨rfl, .stop, trivial, rfl⟩
        · exact go_out hj ⟨rfl, g, hge, rfl⟩
      rintro δ' M' ⟨rfl, g, hge, rfl⟩
      refine go_asg bb.ok (P := fun d => d = .int ((t + g.spread.length : Nat) : Int)) (ev_op (ev_var (i := 9) rfl) (ev_cb (ea_cons (ev_call (P := fun d => d = .lst (g.spread.map pairD)) (ea_cons (ev_var (i := 10) rfl) ea_nil) ⟨g, rfl, hge, rfl⟩) ea_nil) (rc_len rfl)) (r2_add.imp fun d e => by rw [e, List.length_map, Int.natCast_add])) fun _ e => ?_
      subst e
      refine go_app' bb rfl (by simp [ads]) (ev_var (i := 10) rfl) (by rw [List.length_map]; omega) fun e he => ?_
      subst he
      refine go_kept rfl ⟨gs2 ++ [g], t + g.spread.length, _, _, by rw [List.map_append]; rfl, rfl, by rw [List.length_append, hl2]; rfl, fun g' hg' => ?_⟩
      rcases List.mem_append.mp hg' with hg' | hg'
      · exact hg2 g' hg'
      · rw [List.mem_singleton] at hg'
        subst hg'
        exact hge
    · rintro δ' M' ea ⟨gs2, t, k, x, rfl, rfl, hl2, hg2⟩
      rw [upto_len] at hl2
      have : ((fr : Nat) : Int).toNat = fr := by omega
      rw [this] at hl2
      refine go_freeze (i := 5) bb rfl (by simp [ads]) hq ?_
      refine go_ret bb.ok (ev_var rfl) fun d v H pd e I r => ?_
      subst pd
      exact hrt _ _ _ (hp gs2 ⟨by omega, by omega, hg2⟩) e I.1 r
end
end Lr
set_option Elab.async false
set_option maxRecDepth 100000
set_option maxHeartbeats 4000000
set_option linter.all false
set_option autoImplicit false
namespace Lr
open PySem L2 PyProof.Rows
def rInsU : V → List V → Hp → VK → Prop := fun x vs H Q => ∃ (l : Addr) (xs : List V) (i : Int) (y : V), x = .ref l ∧ vs = [.int i, y] ∧ H l = some (.lst xs) ∧ xs.length < sizeLine ∧ 0 ≤ i ∧ i < 2 ^ 63 ∧ Q .non (upd H l (.lst (xs.take i.toNat ++ [y] ++ xs.drop i.toNat)))
theorem xInsert {X : Cx} : MtR X "list.insert" rInsU := mt_insert
section
variable {b : Wd} {H0 : Hp} {Γ : List (V × D)} {M : ML} {δ : List (Option D)} {te : TE} {tl : TA} {De : Ends} {tz : TS}
/-- xs.insert(i, e), xs one's own -/
theorem pt_ins {i : Nat} {p : Addr} {ds : List D} {M' : ML} {K : PySem.W.Frag} {PA : List D → Prop} (bb : b.Base H0) (hi : δ[i]? = some (some (.adr p))) (np : p ∉ ads M') (h : EvAP (b.wi ((p, .lst ds) :: M')) tl δ PA) (hPA : ∀ as, PA as → ∃ (j : Nat) (d : D), as = [.int (j : Int), d] ∧ j < 100000) (hn : ds.length < 100000) {σ : L2.St} {H : Hp} (q : Pt b H0 Γ ((p, .lst ds) :: M') δ σ H)
    {R : L2.St → Hp → Prop} (k : ∀ (j : Nat) d, PA [.int (j : Int), d] → ∀ σ' H', Pt b H0 Γ ((p, .lst (ds.take j ++ [d] ++ ds.drop j)) :: M') δ σ' H' → R σ' H') : tDrop (tBM K "list" rInsU (tVar i) tl) { nx := R, rt := De.rt, bk := De.bk, ct := De.ct } σ H := by
  obtain ⟨v, h1, h2⟩ := q.env.get hi
  cases h2
  obtain ⟨vs0, hv0, _⟩ := q.lst
  refine ⟨_, h1, .inl ⟨rfl, vs0, SqL.of hv0⟩, ?_⟩
  refine h (bb.ok.wi _) σ H q.env q.inv _ fun as ys H1 pd e1 I1 r => ?_
  obtain ⟨j, d, rfl, hj⟩ := hPA as pd
  cases r with
  | cons r1 t =>
    cases t with
    | @cons y _ _ _ r2 t =>
      cases t
      cases r1
      have q1 := q.step bb.ok e1 I1
      obtain ⟨vs, hv, rv⟩ := q1.lst
      refine ⟨p, vs, j, _, rfl, rfl, hv, by rw [rv.len, sizeLine_eq]; exact Nat.lt_of_lt_of_le hn (by decide), by omega, by omega, k j d pd _ _ (pt_mut bb q1 np ⟨_, upd_same, ?_⟩)⟩
      have c : Car (fun a => b.N a ∧ a ∉ ads ((p, .lst ds) :: M')) (fun a => b.N a ∧ a ∉ ads ((p, .lst (ds.take j ++ [d] ++ ds.drop j)) :: M')) H1 (upd H1 p (.lst (vs.take ((j : Int)).toNat ++ [y] ++ vs.drop ((j : Int)).toNat))) := car_mut hv rfl
      rw [Int.toNat_natCast] at c ⊢
      exact (((rv.take j).append (.one r2)).append (rv.drop j)).car c
theorem go_ins' {i : Nat} {p : Addr} {ds : List D} {M' : ML} {K : PySem.W.Frag} {PA : List D → Prop} (bb : b.Base H0) (hi : δ[i]? = some (some (.adr p))) (np : p ∉ ads M') (h : EvAP (b.wi ((p, .lst ds) :: M')) tl δ PA) (hPA : ∀ as, PA as → ∃ (j : Nat) (d : D), as = [.int (j : Int), d] ∧ j < 100000) (hn : ds.length < 100000)
    (k : ∀ (j : Nat) d, PA [.int (j : Int), d] → Go b H0 Γ ((p, .lst (ds.take j ++ [d] ++ ds.drop j)) :: M') δ tNext De) : Go b H0 Γ ((p, .lst ds) :: M') δ (tDrop (tBM K "list" rInsU (tVar i) tl)) De := fun σ H q =>
  pt_ins (De := De) bb hi np h hPA hn q fun j d pd σ' H' q' => k j d pd σ' H' q'
theorem rc_tupM {p : Addr} {ds : List D} (hm : (p, MO.lst ds) ∈ M) : RCP (b.wi M) (rTupU b.K) [.adr p] fun d => d = .tup ds := fun ok H xs I r Q q => by
  cases r with
  | cons r t =>
    cases t
    cases r
    obtain ⟨vs, hv, r⟩ := mem_lst hm I
    exact ⟨_, vs, rfl, .inl ⟨SqL.of hv, fun l np => q _ _ _ rfl (Ex.same (same_new np)) (ok.ext _ _ I (same_new np)) (rp_tup ok I np r)⟩⟩
end
abbrev s_law_tree : Stmt := topS 65
abbrev ns_law_tree : List Str := ["_law_source_here", "_law_ends", "_law_lengths", "_law_k", "_law_at"]
theorem sc_law_tree : FnScope ns_law_tree ["_law_source_here", "_law_ends"] (defScope s_law_tree) := ⟨rfl, rfl, rfl, by decide +kernel, rfl, by decide +kernel, by decide +kernel⟩
abbrev s_law_arranged : Stmt := topS 69
abbrev ns_law_arranged : List Str := ["_law_source_here", "_law_signs", "_law_ends", "_law_lengths", "_law_at", "_law_sheet", "_law_k", "_law_sign"]
theorem sc_law_arranged : FnScope ns_law_arranged ["_law_source_here", "_law_signs"] (defScope s_law_arranged) := ⟨rfl, rfl, rfl, by decide +kernel, rfl, by decide +kernel, by decide +kernel⟩
section
variable {P : Program} {w : World} {K : PySem.W.Frag} {mg : Str → Option Value} {base : Heap} {C : Addr} {XA : ExAds}
/-- lengths, in a new list -/
def spTree (K : PySem.W.Frag) (C : Addr) : Sp := fun vs H Q _ => ∃ (N : Addr → Prop) (e : Nat) (s l : Addr), vs = [.ref s, .int (e : Int)] ∧ (∀ a, H a = none → N a) ∧ ¬ N s ∧ ¬ N l ∧ Src H s l ∧ e ≤ 200 ∧
  ∀ (ns : List Int) (p : Addr) (H' : Hp), 2 ≤ ns.length → e ≤ ns.length → ns.length ≤ 300 → H p = none → Ex (two s l) H H' → Src H' s l → (∀ a, H' a = none → N a) → H' p = some (.lst (ns.map V.int)) → Q (.ref p) H'
theorem map_set_int (ns : List Int) (j : Nat) (z : Int) : (ns.map D.int).set j (.int z) = (ns.set j z).map D.int := (List.map_set).symm
theorem c_law_tree (F : Df K mg "_law_tree" s_law_tree ["_law_source_here", "_law_ends"]) (B : Blt mg) (c_law_draw : Cal P w K mg base 2 "_law_draw" (spS K C sDraw)) : Cal P w K mg base 3 "_law_tree" (spTree K C) := by
  obtain ⟨f, fd, hm, hf, hb⟩ := F.ex
  refine ⟨f, fd, _, hm, hf.kp, hb, hf.okX sc_law_tree (fun vs H Q E ⟨_, _, _, _, e, _⟩ => by rw [e]; rfl) fun cdv A outer s H vs Q E hr h => ⟨_, (pss_cons (ps_st 2 sc_law_tree.nd (pe_lst (pa_cons pe_int (pa_cons pe_int pa_nil))))
        (pss_cons (ps_for (passes_of rfl) rfl (pi_range1 rfl B.b_range (pa_cons (pe_op xSub (pv 1) pe_int) pa_nil)) (pg_nm 3 sc_law_tree.nd) (pss_cons (ps_st 4 sc_law_tree.nd (pe_cal c_law_draw hr (pa_cons (pv 0) (pa_cons (pe_callB (xLen K) rfl B.b_len bt_len (pa_cons (pv 2) pa_nil)) pa_nil))))
        (pss_cons (ps_if (pt_cmpR xGt (pe_ix (xIx K w) (pv 2) (pv 4) (fun _ _ => rfl)) pe_int (nomark _)) (pss_one (ps_st 4 sc_law_tree.nd (pe_bm PySem.F.plainAttrs_list PySem.F.slot_list_index PySem.F.type_list_index mt_index (pv 2) (pa_cons (pe_callB (cr_min rfl) rfl B.b_min bt_min (pa_cons (pv 2) pa_nil)) pa_nil)))) pss_nil)
        (pss_cons (ps_asg (pe_op (xAdd K) (pe_ix (xIx K w) (pv 2) (pv 4) (fun _ _ => rfl)) pe_int) (pg_sub (pv 2) (pv 4) set_list))
        (pss_one (ps_expr (pe_bm PySem.F.plainAttrs_list PySem.F.slot_list_append PySem.F.type_list_append mt_append (pv 2) (pa_cons (pe_ix (xIx K w) (pv 2) (pv 4) (fun _ _ => rfl)) pa_nil))))))))
        (pss_one (ps_ret (pv 2))))), ?_⟩⟩
  obtain ⟨N, e, s, l, rfl, fr, ns, nl, src, he, hq⟩ := h
  have bb := src_base (K := K) (C := C) (H0 := H) ns nl
  suffices g : Go (srcW K C N H s l) H [] [] [some (.adr s), some (.int (e : Int)), none, none, none] _ { nx := fun _ H' => Q .non H', rt := Q } from g _ _ ⟨.cons (.adr s) (.cons (.int _) (.skip (.skip (.skip .nil)))), ⟨⟨fr, src, Ex.refl _⟩, (fun m hm => by cases hm)⟩, Ex.refl _, (fun a ha => by cases ha), (fun x hx => by cases hx)⟩
  refine go_new bb (evn_lst (ea_cons ev_int (ea_cons ev_int ea_nil)) fun _ e => by subst e; decide) fun ds q hds hN hqm => ?_
  subst hds
  refine go_for bb (ei_rng1 (ea_cons (ev_op (ev_var rfl) ev_int r2_sub) ea_nil) (by omega) (by omega)) (fun i δ M => ∃ (ns : List Int) (k a : Option D), M = [(q, .lst (ns.map D.int))] ∧ δ = [some (.adr s), some (.int (e : Int)), some (.adr q), k, a] ∧ ns.length = 2 + i) ⟨[1, 1], none, none, rfl, rfl, rfl⟩ ?_ ?_
  · rintro g i d δ' M' hd ea ⟨ns', k, a, rfl, rfl, hl⟩
    have hi : i < ((e : Int) - 2).toNat := by have := (List.getElem?_eq_some_iff.mp hd).1; rwa [upto_len] at this
    refine ⟨_, eg_name, ?_⟩
    have hlen : (ns'.map D.int).length = 2 + i := by rw [List.length_map, hl]
    refine go_asg bb.ok (ev_dr ns nl rfl (ev_cb (ea_cons (ev_var (i := 2) rfl) ea_nil) (rc_lenM List.mem_cons_self)) (by omega) (by omega)) fun d hd2 => ?_
    obtain ⟨at_, rfl, hat⟩ := hd2
    have hat : at_ < ns'.length := by rw [List.length_map] at hat; omega
    have get : ∀ j, j < ns'.length → atI (ns'.map D.int) (j : Int) = some (.int (ns'.getD j 0)) := fun j hj => atI_nat (by rw [List.getElem?_map, List.getElem?_eq_getElem hj, List.getD_eq_getElem?_getD, List.getElem?_eq_getElem hj]; rfl)
    refine go_cut (fun δ M => M = [(q, .lst (ns'.map D.int))] ∧ ∃ j : Nat, j < ns'.length ∧ δ = [some (.adr s), some (.int (e : Int)), some (.adr q), some d, some (.int (j : Int))]) (fun nx hj => ?_) ?_
    · refine go_when' bb.ok (et_testd (ev_op (ev_op (ev_var (i := 2) rfl) (ev_var (i := 4) rfl) (r2_xM List.mem_cons_self (get at_ hat))) ev_int r2_gt)) (fun _ => ?_) (fun _ => ?_)
      · refine go_asg' bb.ok (ev_minIx (i := 2) rfl List.mem_cons_self (by omega)) fun d hd => ?_
        obtain ⟨j, rfl, hj'⟩ := hd
        exact go_out hj ⟨rfl, j, hj', rfl⟩
      · exact go_out hj ⟨rfl, at_, hat, rfl⟩
    rintro δ' M' ⟨rfl, j, hj, rfl⟩
    refine go_setL (i := 2) (j := j) bb rfl (by simp [ads]) (ev_op (ev_op (ev_var (i := 2) rfl) (ev_var (i := 4) rfl) (r2_xM List.mem_cons_self (get j hj))) ev_int r2_add) (fun _ _ => ev_var (i := 4) rfl) (by rw [List.length_map]; exact hj) fun z hz => ?_
    subst hz
    rw [map_set_int]
    have hl2 : (ns'.set j (ns'.getD j 0 + 1)).length = ns'.length := List.length_set
    have get2 : atI ((ns'.set j (ns'.getD j 0 + 1)).map D.int) (j : Int) = some (.int (ns'.getD j 0 + 1)) := atI_nat (by rw [List.getElem?_map, List.getElem?_set_self hj]; rfl)
    refine go_app' (i := 2) bb rfl (by simp [ads]) (ev_op (ev_var (i := 2) rfl) (ev_var (i := 4) rfl) (r2_xM List.mem_cons_self get2)) (by rw [List.length_map]; omega) fun z hz => ?_
    subst hz
    exact go_kept rfl ⟨ns'.set j (ns'.getD j 0 + 1) ++ [ns'.getD j 0 + 1], _, _, by rw [List.map_append]; rfl, rfl, by rw [List.length_append, hl2, hl]; rfl⟩
  · rintro δ' M' ea ⟨ns', k, a, rfl, rfl, hl⟩
    rw [upto_len] at hl
    intro σ H' p
    obtain ⟨v, h1, h2⟩ := p.env.get (i := 2) rfl
    cases h2
    obtain ⟨vs, hv, r⟩ := p.lst
    have ev := r.ints_inv
    subst ev
    exact ⟨_, h1, hq ns' q H' (by omega) (by omega) (by omega) (p.new q (by simp [ads])) p.ex p.inv.1.2.1 p.inv.1.1 hv⟩
section
variable {N : Addr → Prop} {H0 : Hp} {s l : Addr} {M : ML} {δ : List (Option D)} {te : TE} {E : XK} {i : Nat}
theorem evn_tree {e : Nat} (ns : ¬ N s) (nl : ¬ N l) (hi : δ[i]? = some (some (.adr s))) (h : Ev ((srcW K C N H0 s l).wi M) te δ (.int (e : Int))) (he : e ≤ 200) :
    EvN ((srcW K C N H0 s l).wi M) (tCall (spTree K C) [] E (tCons (tVar i) (tCons te tNil))) δ (fun ds => ∃ ns : List Int, ds = ns.map D.int ∧ e ≤ ns.length ∧ ns.length ≤ 300) := fun ok σ H en I Q q => by
  obtain ⟨v, h1, h2⟩ := en.get hi
  cases h2
  refine ⟨_, h1, h ok σ H en I _ fun d x H1 pd e1 I1 r => ?_⟩
  subst pd
  cases r
  refine ⟨_, e, s, l, rfl, fun a ha => ok.fr _ _ I1 ha, fun n => ns n.1, fun n => nl n.1, I1.1.2.1, he, fun ns' p H' _ l1 l2 np e2 src fr hp => ?_⟩
  exact q _ p _ H1 H' ⟨ns', rfl, l1, l2⟩ e1 I1 np e2 (src_after I1 e2 src fr ns nl) hp (RpAll.ints ns')
end
/-- a sheet's rows -/
def rowD (r : Sign × Int) : D := .tup [r.1.d, .int r.2]
def SheetOk (rows : List (Sign × Int)) : Prop := 2 ≤ rows.length ∧ rows.length ≤ 100 ∧ ∀ r ∈ rows, r.1.ext
def sArranged : SpecS := fun s ds P => ∃ gs : List Sign, ds = [.adr s, .lst (gs.map Sign.d)] ∧ SignsOk gs ∧ ∀ rows, SheetOk rows → P (.tup (rows.map rowD))
theorem c_law_arranged (F : Df K mg "_law_arranged" s_law_arranged ["_law_source_here", "_law_signs"]) (B : Blt mg) (c_law_draw : Cal P w K mg base 2 "_law_draw" (spS K C sDraw)) (c_law_tree : Cal P w K mg base 3 "_law_tree" (spTree K C)) : Cal P w K mg base 4 "_law_arranged" (spS K C sArranged) := by
  refine fn_S F sc_law_arranged (fun s ds Q ⟨_, e, _⟩ => by rw [e]; rfl) fun f cdv A outer s H E hr => ⟨_, (pss_cons (ps_st 2 sc_law_arranged.nd (pe_callB (xLen K) rfl B.b_len bt_len (pa_cons (pv 1) pa_nil)))
        (pss_cons (ps_if (pt_cmpR (xEq K hr.units) (pe_cal c_law_draw hr (pa_cons (pv 0) (pa_cons pe_int pa_nil))) pe_int (nomark _)) (pss_one (ps_st 2 sc_law_arranged.nd (pe_op (xAdd K) (pv 2) pe_int))) pss_nil)
        (pss_cons (ps_st 3 sc_law_arranged.nd (pe_cal c_law_tree hr (pa_cons (pv 0) (pa_cons (pv 2) pa_nil))))
        (pss_cons (ps_if (pt_cmpR (xEq K hr.units) (pe_cal c_law_draw hr (pa_cons (pv 0) (pa_cons pe_int pa_nil))) pe_int (nomark _)) (pss_cons (ps_st 4 sc_law_arranged.nd (pe_cal c_law_draw hr (pa_cons (pv 0) (pa_cons (pe_callB (xLen K) rfl B.b_len bt_len (pa_cons (pv 1) pa_nil)) pa_nil))))
        (pss_one (ps_asg (pe_op (xAdd K) (pe_ix (xIx K w) (pv 3) (pv 4) (fun _ _ => rfl)) pe_int) (pg_sub (pv 3) (pv 4) set_list)))) pss_nil)
        (pss_cons (ps_st 5 sc_law_arranged.nd (pe_lst pa_nil))
        (pss_cons (ps_for (passes_of rfl) rfl (pi_enum rfl B.b_enumerate (pa_cons (pv 1) pa_nil)) (pg_tup rfl (pgs_cons (pg_nm 6 sc_law_arranged.nd) (pgs_cons (pg_nm 7 sc_law_arranged.nd) pgs_nil))) (pss_one (ps_expr (pe_bm PySem.F.plainAttrs_list PySem.F.slot_list_insert PySem.F.type_list_insert xInsert (pv 5) (pa_cons (pe_op xSub (pe_callB (xLen K) rfl B.b_len bt_len (pa_cons (pv 5) pa_nil)) (pe_cal c_law_draw hr (pa_cons (pv 0) (pa_cons (pe_op (xAdd K) (pe_callB (xLen K) rfl B.b_len bt_len (pa_cons (pv 5) pa_nil)) pe_int) pa_nil)))) (pa_cons (pe_tup (pa_cons (pv 7) (pa_cons (pe_ix (xIx K w) (pv 3) (pv 6) (fun _ _ => rfl)) pa_nil))) pa_nil))))))
        (pss_one (ps_ret (pe_callTy (xTuple K) rfl B.b_tuple bt_tuple (pa_cons (pv 5) pa_nil)))))))))), ?_⟩
  rintro N H0 s l ds Pd ns nl ⟨gs, rfl, ⟨g1, g2, g3⟩, hp⟩ De hrt
  have bb := src_base (K := K) (C := C) (H0 := H0) ns nl
  refine go_asg bb.ok (ev_cb (ea_cons (ev_var rfl) ea_nil) (rc_len rfl)) fun _ e => ?_
  subst e
  refine go_cut (fun δ M => M = [] ∧ ∃ e : Nat, δ = [some (.adr s), some (.lst (gs.map Sign.d)), some (.int (e : Int)), none, none, none, none, none] ∧ gs.length ≤ e ∧ e ≤ 101) (fun nx hj => ?_) ?_
  · refine go_when' bb.ok (et_dr ns nl rfl ev_int (by omega) (by omega)) (fun _ => ?_) (fun _ => ?_)
    · refine go_asg' bb.ok (ev_op (ev_var rfl) ev_int r2_add) fun _ e => ?_
      subst e
      exact go_out hj ⟨rfl, gs.length + 1, by rw [List.length_map]; rfl, by omega, by omega⟩
    · exact go_out hj ⟨rfl, gs.length, by rw [List.length_map]; rfl, by omega, by omega⟩
  rintro δ' M' ⟨rfl, e, rfl, he1, he2⟩
  refine go_new bb (evn_tree ns nl rfl (ev_var (i := 2) rfl) (by omega)) fun ds p hds hN hpm => ?_
  obtain ⟨ls, rfl, hl1, hl2⟩ := hds
  refine go_cut (fun δ M => ∃ (ls : List Int) (a : Option D), M = [(p, .lst (ls.map D.int))] ∧ δ = [some (.adr s), some (.lst (gs.map Sign.d)), some (.int (e : Int)), some (.adr p), a, none, none, none] ∧ gs.length ≤ ls.length) (fun nx hj => ?_) ?_
  · refine go_when' bb.ok (et_dr ns nl rfl ev_int (by omega) (by omega)) (fun _ => ?_) (fun _ => ?_)
    · refine go_asg bb.ok (ev_dr ns nl rfl (ev_cb (ea_cons (ev_var (i := 1) rfl) ea_nil) (rc_len rfl)) (by rw [List.length_map]; omega) (by rw [List.length_map]; omega)) fun d hd => ?_
      obtain ⟨j, rfl, hj'⟩ := hd
      rw [List.length_map] at hj'
      have hjl : j < ls.length := by omega
      have get : atI (ls.map D.int) (j : Int) = some (.int (ls.getD j 0)) := atI_nat (by rw [List.getElem?_map, List.getElem?_eq_getElem hjl, List.getD_eq_getElem?_getD, List.getElem?_eq_getElem hjl]; rfl)
      refine go_setL' (i := 3) (j := j) bb rfl (by simp [ads]) (ev_op (ev_op (ev_var (i := 3) rfl) (ev_var (i := 4) rfl) (r2_xM List.mem_cons_self get)) ev_int r2_add) (fun _ _ => ev_var (i := 4) rfl) (by rw [List.length_map]; exact hjl) fun z hz => ?_
      subst hz
      rw [map_set_int]
      exact go_out hj ⟨_, _, rfl, rfl, by rw [List.length_set]; omega⟩
    · exact go_out hj ⟨ls, _, rfl, rfl, by omega⟩
  rintro δ' M' ⟨ls, a, rfl, rfl, hls⟩
  refine go_new bb evn_nil fun ds q hds hNq hqm => ?_
  subst hds
  refine go_for bb (ei_enumL (ea_cons (ev_var (i := 1) rfl) ea_nil)) (fun i δ M => ∃ (rows : List (Sign × Int)) (k g : Option D), M = [(q, .lst (rows.map rowD)), (p, .lst (ls.map D.int))] ∧ δ = [some (.adr s), some (.lst (gs.map Sign.d)), some (.int (e : Int)), some (.adr p), a, some (.adr q), k, g] ∧ rows.length = i ∧ ∀ r ∈ rows, r.1.ext)
    ⟨[], none, none, rfl, rfl, rfl, by simp⟩ ?_ ?_
  · rintro g i d δ' M' hd ea ⟨rows, k, g', rfl, rfl, hi, hr⟩
    have hil : i < gs.length := by have := (List.getElem?_eq_some_iff.mp hd).1; rwa [numbered_len, List.length_map] at this
    have hgi : (gs.map Sign.d)[i]? = some gs[i].d := by rw [List.getElem?_map, List.getElem?_eq_getElem hil]; rfl
    rw [numbered_get hgi] at hd
    cases hd
    refine ⟨_, eg_tup (eg_cons eg_name (eg_cons eg_name eg_nil)), ?_⟩
    have hil2 : i < ls.length := by omega
    have get : atI (ls.map D.int) (i : Int) = some (.int (ls.getD i 0)) := atI_nat (by rw [List.getElem?_map, List.getElem?_eq_getElem hil2, List.getD_eq_getElem?_getD, List.getElem?_eq_getElem hil2]; rfl)
    have hq2 : q ∉ ads [(p, MO.lst (ls.map D.int))] := hqm
    refine go_ins' (i := 5) (PA := fun as => ∃ j : Nat, j ≤ i ∧ as = [.int (j : Int), rowD (gs[i], ls.getD i 0)]) bb rfl hq2 (ea_consP (Pa := IsN fun j => j ≤ i) (evp_opNr (ev_cb (ea_cons (ev_var (i := 5) rfl) ea_nil) (rc_lenM List.mem_cons_self)) (ev_dr ns nl rfl (ev_op (ev_cb (ea_cons (ev_var (i := 5) rfl) ea_nil) (rc_lenM List.mem_cons_self)) ev_int r2_add) (by omega) (by rw [List.length_map]; omega)) fun j hj => r2_sub.imp fun d e => ?_)
      (fun _ _ => ea_cons (ev_tup (ea_cons (ev_var (i := 7) rfl) (ea_cons (ev_op (ev_var (i := 3) rfl) (ev_var (i := 6) rfl) (r2_xM (List.mem_cons_of_mem _ List.mem_cons_self) get)) ea_nil))) ea_nil) ?_) ?_ ?_ fun j d hjd => ?_
    · rw [List.length_map, hi] at hj
      have hj : (j : Int) < (i : Int) + 1 := hj
      refine ⟨i - j, ?_, by omega⟩
      rw [e, List.length_map, hi]
      congr 1
      omega
    · rintro a as ⟨j, rfl, hj⟩ rfl
      exact ⟨j, hj, rfl⟩
    · rintro as ⟨j, hj, rfl⟩
      exact ⟨j, _, rfl, by omega⟩
    · rw [List.length_map]; omega
    · obtain ⟨j', hj', ej⟩ := hjd
      simp only [List.cons.injEq, D.int.injEq, and_true] at ej
      obtain ⟨ej, rfl⟩ := ej
      refine go_kept rfl ⟨rows.take j ++ [(gs[i], ls.getD i 0)] ++ rows.drop j, _, _, by rw [List.map_append, List.map_append, List.map_take, List.map_drop]; rfl, rfl, ?_, fun r hr' => ?_⟩
      · rw [List.length_append, List.length_append, List.length_take, List.length_drop, List.length_singleton]
        omega
      · rcases List.mem_append.mp hr' with hr' | hr'
        · rcases List.mem_append.mp hr' with hr' | hr'
          · exact hr r (List.mem_of_mem_take hr')
          · rw [List.mem_singleton] at hr'
            rw [hr']
            exact g3 _ (List.getElem_mem hil)
        · exact hr r (List.mem_of_mem_drop hr')
  · rintro δ' M' ea ⟨rows, k, g', rfl, rfl, hi, hr⟩
    rw [numbered_len, List.length_map] at hi
    refine go_ret bb.ok (ev_cb (ea_cons (ev_var (i := 5) rfl) ea_nil) (rc_tupM List.mem_cons_self)) fun d v H pd e I r => ?_
    subst pd
    exact hrt _ _ _ (hp rows ⟨by omega, by omega, hr⟩) e I.1 r
end
end Lr
set_option Elab.async false
set_option maxRecDepth 100000
set_option maxHeartbeats 4000000
set_option linter.all false
set_option autoImplicit false
namespace Lr
open PySem L2 PyProof.Rows
abbrev s_law_broad : Stmt := topS 70
abbrev ns_law_broad : List Str := ["_law_source_here", "_law_alphabet", "_law_wide", "_law_spots", "_law_leaves", "_law_signs"]
theorem sc_law_broad : FnScope ns_law_broad ["_law_source_here"] (defScope s_law_broad) := ⟨rfl, rfl, rfl, by decide +kernel, rfl, by decide +kernel, by decide +kernel⟩
abbrev s_law_book : Stmt := topS 71
abbrev ns_law_book : List Str := ["_law_source_here", "_law_alphabet", "_law_wide", "_law_signs", "_law_k"]
theorem sc_law_book : FnScope ns_law_book ["_law_source_here"] (defScope s_law_book) := ⟨rfl, rfl, rfl, by decide +kernel, rfl, by decide +kernel, by decide +kernel⟩
section
variable {P : Program} {w : World} {K : PySem.W.Frag} {mg : Str → Option Value} {base : Heap} {C : Addr} {XA : ExAds}
/-- the book: sizes and sheet -/
structure Book where
  a : Nat
  m : Nat
  sp : Nat
  lv : Nat
  rows : List (Sign × Int)
def Book.d (k : Book) : D := .tup [.int (k.a : Nat), .int (k.m : Nat), .int (k.sp : Nat), .int (k.lv : Nat), .tup (k.rows.map rowD)]
structure Book.Ok (k : Book) : Prop where
  a : 2 ≤ k.a ∧ k.a ≤ 16
  m : 1 ≤ k.m ∧ k.m ≤ 24
  sp : k.sp ≤ 4
  lv : 1 ≤ k.lv ∧ k.lv ≤ 6
  rows : SheetOk k.rows
def sBook : SpecS := fun s ds P => ds = [.adr s] ∧ ∀ k : Book, k.Ok → P k.d
theorem c_law_broad (F : Df K mg "_law_broad" s_law_broad ["_law_source_here"]) (c_law_draw : Cal P w K mg base 2 "_law_draw" (spS K C sDraw)) (c_law_size : Cal P w K mg base 3 "_law_size" (spS K C sSize))
    (c_law_broad_signs : Cal P w K mg base 6 "_law_broad_signs" (spS K C sBroadSigns)) (c_law_arranged : Cal P w K mg base 4 "_law_arranged" (spS K C sArranged)) : Cal P w K mg base 7 "_law_broad" (spS K C sBook) := by
  refine fn_S F sc_law_broad (fun s ds Q ⟨e, _⟩ => by rw [e]; rfl) fun f cdv A outer s H E hr => ⟨_, (pss_cons (ps_st 1 sc_law_broad.nd (pe_cal c_law_size hr (pa_cons (pv 0) (pa_cons pe_int (pa_cons pe_int (pa_cons pe_int pa_nil))))))
        (pss_cons (ps_st 2 sc_law_broad.nd (pe_cal c_law_size hr (pa_cons (pv 0) (pa_cons pe_int (pa_cons pe_int (pa_cons pe_int pa_nil))))))
        (pss_cons (ps_st 3 sc_law_broad.nd (pe_cal c_law_draw hr (pa_cons (pv 0) (pa_cons pe_int pa_nil))))
        (pss_cons (ps_st 4 sc_law_broad.nd (pe_op (xAdd K) pe_int (pe_cal c_law_draw hr (pa_cons (pv 0) (pa_cons pe_int pa_nil)))))
        (pss_cons (ps_st 5 sc_law_broad.nd (pe_cal c_law_broad_signs hr (pa_cons (pv 0) (pa_cons (pv 1) (pa_cons (pv 2) (pa_cons (pv 3) (pa_cons (pv 4) pa_nil)))))))
        (pss_one (ps_ret (pe_tup (pa_cons (pv 1) (pa_cons (pv 2) (pa_cons (pv 3) (pa_cons (pv 4) (pa_cons (pe_cal c_law_arranged hr (pa_cons (pv 0) (pa_cons (pv 5) pa_nil))) pa_nil))))))))))))), ?_⟩
  rintro N H0 s l ds Pd ns nl ⟨rfl, hp⟩ De hrt
  have bb := src_base (K := K) (C := C) (H0 := H0) ns nl
  refine go_asg bb.ok (P := IsN fun x => 2 ≤ x ∧ x ≤ 16) (ev_draw ns nl (ea_cons (ev_var rfl) (ea_cons ev_int (ea_cons ev_int (ea_cons ev_int ea_nil)))) ⟨2, 3, 16, rfl, by omega, by omega, by omega, by omega, fun d h0 h1 => ⟨d.toNat, by rw [Int.toNat_of_nonneg (by omega)], by omega⟩⟩) fun d hd => ?_
  obtain ⟨a, rfl, ha⟩ := hd
  refine go_asg bb.ok (P := IsN fun x => 1 ≤ x ∧ x ≤ 24) (ev_draw ns nl (ea_cons (ev_var rfl) (ea_cons ev_int (ea_cons ev_int (ea_cons ev_int ea_nil)))) ⟨1, 6, 24, rfl, by omega, by omega, by omega, by omega, fun d h0 h1 => ⟨d.toNat, by rw [Int.toNat_of_nonneg (by omega)], by omega⟩⟩) fun d hd => ?_
  obtain ⟨m, rfl, hm⟩ := hd
  refine go_asg bb.ok (ev_dr ns nl rfl ev_int (by omega) (by omega)) fun d hd => ?_
  obtain ⟨sp, rfl, hsp⟩ := hd
  refine go_asg bb.ok (P := IsN fun x => 1 ≤ x ∧ x ≤ 6) (evp_opNr ev_int (ev_dr ns nl rfl ev_int (by omega) (by omega)) fun i hi => r2_add.imp fun d e => ⟨1 + i, by rw [e, Int.natCast_add]; rfl, by omega⟩) fun d hd => ?_
  obtain ⟨lv, rfl, hlv⟩ := hd
  refine go_asg bb.ok (P := fun d => ∃ gs, SignsOk gs ∧ d = .lst (gs.map Sign.d)) (ev_draw ns nl (ea_cons (ev_var rfl) (ea_cons (ev_var rfl) (ea_cons (ev_var rfl) (ea_cons (ev_var rfl) (ea_cons (ev_var rfl) ea_nil))))) ⟨_, _, _, _, rfl, by omega, by omega, by omega, by omega, fun gs h => ⟨gs, h, rfl⟩⟩) fun d hd => ?_
  obtain ⟨gs, hg, rfl⟩ := hd
  refine go_ret bb.ok (P := fun d => ∃ rows, SheetOk rows ∧ d = (Book.mk a m sp lv rows).d) (evp_tup (ea_cons1 (ev_var rfl) (ea_cons1 (ev_var rfl) (ea_cons1 (ev_var rfl) (ea_cons1 (ev_var rfl)
    (ea_consP (Pa := fun d => ∃ rows, SheetOk rows ∧ d = .tup (rows.map rowD)) (ev_draw ns nl (ea_cons (ev_var rfl) (ea_cons (ev_var rfl) ea_nil)) ⟨gs, rfl, hg, fun rows h => ⟨rows, h, rfl⟩⟩) (fun _ _ => ea_nil) (PA := fun ds => ∃ rows, SheetOk rows ∧ ds = [.tup (rows.map rowD)]) fun a as ⟨rows, h, e⟩ e2 => ⟨rows, h, by rw [e, e2]⟩))))) ?_ ?_) fun d v H ⟨rows, h, pd⟩ e I r => ?_
  · rintro ds ⟨_, rfl, _, rfl, _, rfl, _, rfl, _, _, rfl⟩
    simp only [List.length_cons, List.length_nil]; omega
  · rintro ds ⟨_, rfl, _, rfl, _, rfl, _, rfl, rows, h, rfl⟩
    exact ⟨rows, h, rfl⟩
  subst pd
  exact hrt _ _ _ (hp _ ⟨ha, hm, by show sp ≤ 4; omega, hlv, h⟩) e I.1 r
theorem c_law_book (F : Df K mg "_law_book" s_law_book ["_law_source_here"]) (B : Blt mg) (c_law_draw : Cal P w K mg base 2 "_law_draw" (spS K C sDraw)) (c_law_broad : Cal P w K mg base 7 "_law_broad" (spS K C sBook))
    (c_law_arranged : Cal P w K mg base 4 "_law_arranged" (spS K C sArranged)) : Cal P w K mg base 8 "_law_book" (spS K C sBook) := by
  refine fn_S F sc_law_book (fun s ds Q ⟨e, _⟩ => by rw [e]; rfl) fun f cdv A outer s H E hr => ⟨_, (pss_cons (ps_if (pt_cmpR xLt (pe_cal c_law_draw hr (pa_cons (pv 0) (pa_cons pe_int pa_nil))) pe_int (nomark _)) (pss_one (ps_ret (pe_cal c_law_broad hr (pa_cons (pv 0) pa_nil)))) pss_nil)
        (pss_cons (ps_st 1 sc_law_book.nd (pe_op (xAdd K) pe_int (pe_cal c_law_draw hr (pa_cons (pv 0) (pa_cons pe_int pa_nil)))))
        (pss_cons (ps_st 2 sc_law_book.nd (pe_op (xAdd K) pe_int (pe_cal c_law_draw hr (pa_cons (pv 0) (pa_cons pe_int pa_nil)))))
        (pss_cons (ps_setLc (i := 3) (own := [("_law_k", 4)]) (g := gName 4) (tt := tYes) rfl sc_law_book.nd rfl rfl (sw_true rfl rfl rfl (by decide +kernel)) (pi_range1 rfl B.b_range (pa_cons (pv 1) pa_nil)) (blkOk_by (N := ns_law_book) (sc := defScope s_law_book) (by decide +kernel)) (fun _ _ _ _ _ => (pg_nm 4 sc_law_book.nd)) (fun _ _ _ _ _ => pts_nil) (fun _ _ _ _ _ => (pe_tup (pa_cons pe_str (pa_cons (pv 4) (pa_cons pe_int pa_nil))))))
        (pss_cons (ps_for (passes_of rfl) rfl (pi_range1 rfl B.b_range (pa_cons pe_int pa_nil)) (pg_nm 4 sc_law_book.nd) (pss_one (ps_expr (pe_bm PySem.F.plainAttrs_list PySem.F.slot_list_append PySem.F.type_list_append mt_append (pv 3) (pa_cons (pe_tup (pa_cons pe_str (pa_cons (pe_op (xAdd K) pe_int (pe_cal c_law_draw hr (pa_cons (pv 0) (pa_cons (pv 2) pa_nil)))) (pa_cons pe_int (pa_cons (pe_op (xAdd K) pe_int (pe_cal c_law_draw hr (pa_cons (pv 0) (pa_cons pe_int pa_nil)))) (pa_cons pe_int pa_nil)))))) pa_nil)))))
        (pss_one (ps_ret (pe_tup (pa_cons (pv 1) (pa_cons (pv 2) (pa_cons pe_int (pa_cons pe_int (pa_cons (pe_cal c_law_arranged hr (pa_cons (pv 0) (pa_cons (pv 3) pa_nil))) pa_nil))))))))))))), ?_⟩
  rintro N H0 s l ds Pd ns nl ⟨rfl, hp⟩ De hrt
  have bb := src_base (K := K) (C := C) (H0 := H0) ns nl
  refine go_when bb.ok (Pb := fun _ => True) (et_test (evp_opN (ev_dr ns nl rfl ev_int (by omega) (by omega)) ev_int fun i _ => r2_lt.imp fun d e => ⟨_, e, trivial⟩)) (fun _ => ?_) (fun _ => ?_)
  · refine go_ret bb.ok (P := fun d => ∃ k : Book, k.Ok ∧ d = k.d) (ev_draw ns nl (ea_cons (ev_var rfl) ea_nil) ⟨rfl, fun k h => ⟨k, h, rfl⟩⟩) fun d v H ⟨k, h, pd⟩ e I r => ?_
    subst pd
    exact hrt _ _ _ (hp k h) e I.1 r
  refine go_asg bb.ok (P := IsN fun x => 7 ≤ x ∧ x ≤ 9) (evp_opNr ev_int (ev_dr ns nl rfl ev_int (by omega) (by omega)) fun i hi => r2_add.imp fun d e => ⟨7 + i, by rw [e, Int.natCast_add]; rfl, by omega⟩) fun d hd => ?_
  obtain ⟨a, rfl, ha⟩ := hd
  refine go_asg bb.ok (P := IsN fun x => 1 ≤ x ∧ x ≤ 24) (evp_opNr ev_int (ev_dr ns nl rfl ev_int (by omega) (by omega)) fun i hi => r2_add.imp fun d e => ⟨1 + i, by rw [e, Int.natCast_add]; rfl, by omega⟩) fun d hd => ?_
  obtain ⟨m, rfl, hm⟩ := hd
  refine go_new bb (evn_lcmap bb (ei_rng1 (ea_cons (ev_var rfl) ea_nil) (by omega) (by omega)) (by rw [upto_len]; omega) ((List.range a).map fun k => (Sign.letter k 0).d) (by rw [upto_len, List.length_map, List.length_range]; rfl) ?_) fun ds q hds hN hqm => ?_
  · intro i d e hd he p acc np
    obtain ⟨hi, rfl, rfl⟩ := upto_range hd he
    exact ⟨_, gw_name, ev_tup (ea_cons ev_str (ea_cons (ev_var rfl) (ea_cons ev_int ea_nil)))⟩
  subst hds
  refine go_for bb (ei_rng1 (ea_cons ev_int ea_nil) (by omega) (by omega)) (fun i δ M => ∃ (gs : List Sign) (k : Option D), M = [(q, .lst (gs.map Sign.d))] ∧ δ = [some (.adr s), some (.int (a : Int)), some (.int (m : Int)), some (.adr q), k] ∧ gs.length = a + i ∧ ∀ g ∈ gs, g.ext)
    ⟨(List.range a).map fun k => Sign.letter k 0, none, by rw [List.map_map]; rfl, rfl, by simp, fun g hg => by
      obtain ⟨k, _, rfl⟩ := List.mem_map.mp hg
      exact Nat.zero_le _⟩ ?_ ?_
  · rintro g i d δ' M' hd ea ⟨gs, k, rfl, rfl, hl, hg⟩
    have hi : i < 14 := by have := (List.getElem?_eq_some_iff.mp hd).1; rwa [upto_len] at this
    refine ⟨_, eg_name, ?_⟩
    refine go_app' (P := fun d => ∃ f n : Nat, d = (Sign.copy f 0 n 3).d) bb rfl (by simp [ads]) (evp_tup (ea_cons1 ev_str (ea_consN (Pa := fun _ => True) (evp_opNr ev_int (ev_dr ns nl rfl (ev_var (i := 2) rfl) (by omega) (by omega)) fun i hi => r2_add.imp fun d e => ⟨1 + i, by rw [e, Int.natCast_add]; rfl, trivial⟩) (ea_cons1 ev_int
      (ea_consN (Pa := fun _ => True) (evp_opNr ev_int (ev_dr ns nl rfl ev_int (by omega) (by omega)) fun i hi => r2_add.imp fun d e => ⟨1 + i, by rw [e, Int.natCast_add]; rfl, trivial⟩) (ea_cons1 ev_int ea_nil))))) ?_ ?_) (by rw [List.length_map]; omega) fun d hd => ?_
    · rintro ds ⟨_, rfl, _, _, rfl, _, _, rfl, _, _, rfl, _, _, rfl, rfl⟩
      simp only [List.length_cons, List.length_nil]; omega
    · rintro ds ⟨_, rfl, f, _, rfl, _, _, rfl, n, _, rfl, _, _, rfl, rfl⟩
      exact ⟨f, n, rfl⟩
    obtain ⟨f, n, rfl⟩ := hd
    refine go_kept rfl ⟨gs ++ [.copy f 0 n 3], _, by rw [List.map_append]; rfl, rfl, by rw [List.length_append, hl]; rfl, fun g' hg' => ?_⟩
    rcases List.mem_append.mp hg' with hg' | hg'
    · exact hg g' hg'
    · rw [List.mem_singleton] at hg'
      subst hg'
      exact ⟨Nat.zero_le _, Nat.le_refl _⟩
  · rintro δ' M' ea ⟨gs, k, rfl, rfl, hl, hg⟩
    rw [upto_len] at hl
    have e14 : (14 : Int).toNat = 14 := rfl
    rw [e14] at hl
    refine go_freeze (i := 3) bb rfl (by simp [ads]) hN ?_
    refine go_ret bb.ok (P := fun d => ∃ rows, SheetOk rows ∧ d = (Book.mk a m 0 1 rows).d) (evp_tup (ea_cons1 (ev_var rfl) (ea_cons1 (ev_var rfl) (ea_cons1 ev_int (ea_cons1 ev_int
      (ea_consP (Pa := fun d => ∃ rows, SheetOk rows ∧ d = .tup (rows.map rowD)) (ev_draw ns nl (ea_cons (ev_var rfl) (ea_cons (ev_var rfl) ea_nil)) ⟨gs, rfl, ⟨by omega, by omega, hg⟩, fun rows h => ⟨rows, h, rfl⟩⟩) (fun _ _ => ea_nil) (PA := fun ds => ∃ rows, SheetOk rows ∧ ds = [.tup (rows.map rowD)]) fun a as ⟨rows, h, e⟩ e2 => ⟨rows, h, by rw [e, e2]⟩))))) ?_ ?_) fun d v H ⟨rows, h, pd⟩ e I r => ?_
    · rintro ds ⟨_, rfl, _, rfl, _, rfl, _, rfl, _, _, rfl⟩
      simp only [List.length_cons, List.length_nil]; omega
    · rintro ds ⟨_, rfl, _, rfl, _, rfl, _, rfl, rows, h, rfl⟩
      exact ⟨rows, h, rfl⟩
    subst pd
    exact hrt _ _ _ (hp _ ⟨by show 2 ≤ a ∧ a ≤ 16; omega, hm, Nat.zero_le _, by show 1 ≤ 1 ∧ 1 ≤ 6; decide, h⟩) e I.1 r
end
end Lr
set_option Elab.async false
set_option maxRecDepth 100000
set_option maxHeartbeats 4000000
set_option linter.all false
set_option autoImplicit false
namespace Lr
open PySem L2 PyProof.Rows
/-! what may be faulty: numbers, pairs -/
inductive Sc where
  | int (i : Int)
  | tru
  | non
def Sc.d : Sc → D
  | .int i => .int i
  | .tru => .bl true
  | .non => .non
def Sc.wi (s : Sc) (a b : Int) : Bool := match s with
  | .int i => decide (a ≤ i) && decide (i ≤ b)
  | _ => false
def Sc.isI : Sc → Bool
  | .non => false
  | _ => true
def Sc.isB : Sc → Bool
  | .tru => true
  | _ => false
/-- a sign or a list that is none -/
inductive SgR where
  | sg (g : Sign)
  | bad
def SgR.d : SgR → D
  | .sg g => g.d
  | .bad => .lst [.str "stop"]
structure PairR where
  tup : Bool
  g : SgR
  n : Sc
  three : Bool
def PairR.ds (p : PairR) : List D := [p.g.d, p.n.d] ++ (if p.three then [.int 0] else [])
def PairR.d (p : PairR) : D := if p.tup then .tup p.ds else .lst p.ds
structure Szs where
  n : Sc
  w : Sc
  m : Sc
  t : Sc
def Szs.d (z : Szs) : D := .lst [z.n.d, z.w.d, z.m.d, z.t.d]
structure Szs.Of (z : Szs) (k : Book) : Prop where
  n : z.n = .int (k.a : Nat) ∨ z.n.wi 2 16 = false
  w : z.w = .int (k.m : Nat) ∨ z.w.wi 1 24 = false
  m : z.m = .int (k.sp : Nat) ∨ z.m.wi 0 4 = false
  t : z.t = .int (k.lv : Nat) ∨ z.t.wi 1 6 = false
def pairsD (ps : List PairR) : D := .lst (ps.map PairR.d)
theorem sIx_take {n k : Nat} : HT.sIx n n (some (k : Int)) = min k n := HT.sIx_nat n n k
theorem cut_take (ds : List D) (k : Nat) : cutD ds none (some (k : Int)) = ds.take k := by
  unfold cutD
  rw [HT.sIx_nat]
  show (ds.drop 0).take (min k ds.length - 0) = _
  rw [List.drop_zero, Nat.sub_zero]
  by_cases h : k ≤ ds.length
  · rw [Nat.min_eq_left h]
  · rw [Nat.min_eq_right (by omega), List.take_of_length_le (Nat.le_refl _), List.take_of_length_le (by omega)]
theorem cut_drop (ds : List D) (k : Nat) : cutD ds (some (k : Int)) none = ds.drop k := by
  unfold cutD
  rw [HT.sIx_nat]
  show (ds.drop (min k ds.length)).take (ds.length - min k ds.length) = _
  by_cases h : k ≤ ds.length
  · rw [Nat.min_eq_left h, List.take_of_length_le (by rw [List.length_drop]; exact Nat.le_refl _)]
  · rw [Nat.min_eq_right (by omega), List.drop_of_length_le (Nat.le_refl _), List.drop_of_length_le (by omega), List.take_nil]
abbrev s_law_odd : Stmt := topS 72
abbrev ns_law_odd : List Str := ["_law_source_here", "_law_least", "_law_most"]
theorem sc_law_odd : FnScope ns_law_odd ["_law_source_here", "_law_least", "_law_most"] (defScope s_law_odd) := ⟨rfl, rfl, rfl, by decide +kernel, rfl, by decide +kernel, by decide +kernel⟩
abbrev s_law_number : Stmt := topS 73
abbrev ns_law_number : List Str := ["_law_value", "_law_least", "_law_most"]
theorem sc_law_number : FnScope ns_law_number ["_law_value", "_law_least", "_law_most"] (defScope s_law_number) := ⟨rfl, rfl, rfl, by decide +kernel, rfl, by decide +kernel, by decide +kernel⟩
abbrev s_integer_within : Stmt := topS 15
abbrev ns_integer_within : List Str := ["value", "least", "most"]
theorem sc_integer_within : FnScope ns_integer_within ["value", "least", "most"] (defScope s_integer_within) := ⟨rfl, rfl, rfl, by decide +kernel, rfl, by decide +kernel, by decide +kernel⟩
abbrev s_law_misformed : Stmt := topS 74
abbrev ns_law_misformed : List Str := ["_law_source_here", "_law_pairs", "_law_at", "_law_pair", "_law_form"]
theorem sc_law_misformed : FnScope ns_law_misformed ["_law_source_here", "_law_pairs", "_law_at"] (defScope s_law_misformed) := ⟨rfl, rfl, rfl, by decide +kernel, rfl, by decide +kernel, by decide +kernel⟩
abbrev s_law_faulty : Stmt := topS 75
abbrev ns_law_faulty : List Str := ["_law_source_here", "_law_book_here", "_law_sizes", "_law_pairs", "_law_kind", "_law_at", "_law_sign", "_law_length", "_law_which", "_law_odd_here"]
theorem sc_law_faulty : FnScope ns_law_faulty ["_law_source_here", "_law_book_here", "_law_sizes", "_law_pairs"] (defScope s_law_faulty) := ⟨rfl, rfl, rfl, by decide +kernel, rfl, by decide +kernel, by decide +kernel⟩
section
variable {w : Wd} {δ : List (Option D)} {te : TE}
theorem evp_opNr' {ta tb : TE} {Pb : Nat → Prop} {a : D} {P : D → Prop} {r : R2} (ha : Ev w ta δ a) (hb : EvP w tb δ (IsN Pb)) (hr : ∀ i : Nat, Pb i → R2P w r a (.int (i : Int)) P) : EvP w (tOp r ta tb) δ P :=
  evp_op ha (fun _ _ => hb) fun a b ea ⟨i, e, p⟩ => e ▸ ea ▸ hr i p
theorem ev_isiS {s : Sc} (h : Ev w te δ s.d) : Ev w (tCB (rIsi w.K) (tCons te (tCons (tC (.ty "int")) tNil))) δ (.bl s.isI) := by
  cases s
  · exact ev_isi h rfl rfl
  · exact ev_isi h rfl rfl
  · exact ev_isi h rfl rfl
theorem ev_isbS {s : Sc} (h : Ev w te δ s.d) : Ev w (tCB (rIsi w.K) (tCons te (tCons (tC (.ty "bool")) tNil))) δ (.bl s.isB) := by
  cases s
  · exact ev_isi h rfl rfl
  · exact ev_isi h rfl rfl
  · exact ev_isi h rfl rfl
end
section
variable {P : Program} {w : World} {K : PySem.W.Frag} {mg : Str → Option Value} {base : Heap} {C : Addr} {XA : ExAds}
def sNumber : Spec := fun ds P _ => ∃ (s : Sc) (a b : Int), ds = [s.d, .int a, .int b] ∧ P (.bl (s.wi a b))
theorem c_law_number (F : Df K mg "_law_number" s_law_number ["_law_value", "_law_least", "_law_most"]) (B : Blt mg) : Cal P w K mg base 1 "_law_number" (spX K C XA sNumber) := by
  refine fn_X F sc_law_number (fun ds Q E ⟨_, _, _, e, _⟩ => by rw [e]; rfl) fun f cdv A outer s H E hr => ⟨_, (pss_one (ps_ret (pe_and (pe_callB call_isi rfl B.b_isinstance bt_isinstance (pa_cons (pv 0) (pa_cons (pe_bltn (v := .ty "int") rfl B.b_int bt_int rfl) pa_nil))) (pe_and (pe_not (pe_callB call_isi rfl B.b_isinstance bt_isinstance (pa_cons (pv 0) (pa_cons (pe_bltn (v := .ty "bool") rfl B.b_bool bt_bool rfl) pa_nil)))) (pe_and (pe_cmpR xLe (pv 1) (pv 0) (nomark _)) (pe_one (pe_cmpR xLe (pv 0) (pv 2) (nomark _)))))))), ?_⟩
  rintro N H0 ds Pd PE ⟨s, a, b, rfl, hp⟩ hE De hrt hnx
  have bb := pure_base (K := K) (C := C) (N := N) (H0 := H0)
  refine go_ret bb.ok (P := fun d => d = .bl (s.wi a b)) (EvP.imp (ev_andV (y := (!s.isB) && s.wi a b) (ev_isiS (s := s) (ev_var rfl)) fun h1 => ev_andV (y := s.wi a b) (ev_notV (ev_isbS (s := s) (ev_var rfl))) fun h2 => ?_) fun d e => ?_) fun d v H pd e I r => ?_
  · cases s with
    | int i => exact ev_andV (ev_op (ev_var rfl) (ev_var rfl) r2_le) fun _ => ev_op (ev_var rfl) (ev_var rfl) r2_le
    | tru => cases h2
    | non => cases h1
  · cases s <;> exact e
  · subst pd
    exact hrt _ _ _ hp e r
theorem c_integer_within (F : Df K mg "integer_within" s_integer_within ["value", "least", "most"]) (B : Blt mg) : Cal P w K mg base 1 "integer_within" (spX K C XA sNumber) := by
  refine fn_X F sc_integer_within (fun ds Q E ⟨_, _, _, e, _⟩ => by rw [e]; rfl) fun f cdv A outer s H E hr => ⟨_, (pss_one (ps_ret (pe_and (pe_callB call_isi rfl B.b_isinstance bt_isinstance (pa_cons (pv 0) (pa_cons (pe_bltn (v := .ty "int") rfl B.b_int bt_int rfl) pa_nil))) (pe_and (pe_not (pe_callB call_isi rfl B.b_isinstance bt_isinstance (pa_cons (pv 0) (pa_cons (pe_bltn (v := .ty "bool") rfl B.b_bool bt_bool rfl) pa_nil)))) (pe_one (pe_chain xLe xLe (pv 1) (pv 0) (pv 2))))))), ?_⟩
  rintro N H0 ds Pd PE ⟨s, a, b, rfl, hp⟩ hE De hrt hnx
  have bb := pure_base (K := K) (C := C) (N := N) (H0 := H0)
  refine go_ret bb.ok (P := fun d => d = .bl (s.wi a b)) (EvP.imp (ev_andV (y := (!s.isB) && s.wi a b) (ev_isiS (s := s) (ev_var rfl)) fun h1 => ev_andV (y := s.wi a b) (ev_notV (ev_isbS (s := s) (ev_var rfl))) fun h2 => ?_) fun d e => ?_) fun d v H pd e I r => ?_
  · cases s with
    | int i => exact ev_chain (ev_var rfl) (ev_var rfl) r2_le (fun _ => ev_var rfl) fun _ => r2_le
    | tru => cases h2
    | non => cases h1
  · cases s <;> exact e
  · subst pd
    exact hrt _ _ _ hp e r
def sOdd : SpecS := fun s ds P => ∃ a b : Int, ds = [.adr s, .int a, .int b] ∧ ∀ x : Sc, x.wi a b = false → P x.d
theorem c_law_odd (F : Df K mg "_law_odd" s_law_odd ["_law_source_here", "_law_least", "_law_most"]) (c_law_draw : Cal P w K mg base 2 "_law_draw" (spS K C sDraw)) : Cal P w K mg base 3 "_law_odd" (spS K C sOdd) := by
  refine fn_S F sc_law_odd (fun s ds Q ⟨_, _, e, _⟩ => by rw [e]; rfl) fun f cdv A outer s H E hr => ⟨_, (pss_one (ps_ret (pe_ix (xIx K w) (pe_tup (pa_cons (pe_op xSub (pv 1) pe_int) (pa_cons (pe_op (xAdd K) (pv 2) pe_int) (pa_cons pe_bl (pa_cons pe_non pa_nil))))) (pe_cal c_law_draw hr (pa_cons (pv 0) (pa_cons pe_int pa_nil))) (fun _ _ => rfl)))), ?_⟩
  rintro N H0 s l ds Pd ns nl ⟨a, b, rfl, hp⟩ De hrt
  have bb := src_base (K := K) (C := C) (H0 := H0) ns nl
  refine go_ret bb.ok (evp_opNr' (ev_tup (ea_cons (ev_op (ev_var rfl) ev_int r2_sub) (ea_cons (ev_op (ev_var rfl) ev_int r2_add) (ea_cons ev_bl (ea_cons ev_non ea_nil))))) (ev_dr ns nl rfl ev_int (by omega) (by omega)) fun i hi => ?_) fun d v H pd e I r => hrt d v H pd e I.1 r
  have hi : i < 4 := by omega
  have : i = 0 ∨ i = 1 ∨ i = 2 ∨ i = 3 := by omega
  rcases this with rfl | rfl | rfl | rfl
  · exact (r2_xT rfl).imp fun d e => by rw [e]; exact hp (.int (a - 1)) (by simp [Sc.wi]; omega)
  · exact (r2_xT rfl).imp fun d e => by rw [e]; exact hp (.int (b + 1)) (by simp [Sc.wi]; omega)
  · exact (r2_xT rfl).imp fun d e => by rw [e]; exact hp .tru rfl
  · exact (r2_xT rfl).imp fun d e => by rw [e]; exact hp .non rfl
/-- xs[:i] + e + xs[i + 1:] -/
theorem ev_spl {w : Wd} {δ : List (Option D)} {tx ti te : TE} {xs ys : List D} {i : Nat} (hx : Ev w tx δ (.lst xs)) (hi : Ev w ti δ (.int (i : Int))) (he : Ev w te δ (.lst ys)) (h1 : xs.length ≤ 1000) (h2 : ys.length ≤ 1000) :
    Ev w (tOp (rAddU w.K) (tOp (rAddU w.K) (tSl (rSlU w.K) tx tNoPart (tPart ti)) te) (tSl (rSlU w.K) tx (tPart (tOp (rAddU w.K) ti (tC (.int 1)))) tNoPart)) δ (.lst (xs.take i ++ ys ++ xs.drop (i + 1))) := by
  have e1 : Ev w (tSl (rSlU w.K) tx (tPart (tOp (rAddU w.K) ti (tC (.int 1)))) tNoPart) δ (.lst (xs.drop (i + 1))) := by
    rw [← cut_drop]
    exact ev_sl hx (eo_some (ev_op hi ev_int r2_add)) eo_none rs_L
  have e2 : Ev w (tSl (rSlU w.K) tx tNoPart (tPart ti)) δ (.lst (xs.take i)) := by
    rw [← cut_take]
    exact ev_sl hx eo_none (eo_some hi) rs_L
  exact ev_op (ev_op e2 he (r2_addL (by rw [List.length_take]; omega))) e1 (r2_addL (by rw [List.length_append, List.length_take, List.length_drop]; omega))
theorem spl_pairs {ps : List PairR} {p : PairR} {i : Nat} : D.lst ((ps.map PairR.d).take i ++ [p.d] ++ (ps.map PairR.d).drop (i + 1)) = pairsD (ps.take i ++ [p] ++ ps.drop (i + 1)) := by
  unfold pairsD
  rw [List.map_append, List.map_append, List.map_take, List.map_drop]
  rfl
theorem rep_map {ps : List PairR} (k : Nat) : (List.replicate k (ps.map PairR.d)).flatten = ((List.replicate k ps).flatten).map PairR.d := by
  rw [List.map_flatten, List.map_replicate]
theorem rep_len (k : Nat) (ps : List PairR) : ((List.replicate k ps).flatten).length = k * ps.length := by
  induction k with
  | zero => simp
  | succ k ih => rw [List.replicate_succ, List.flatten_cons, List.length_append, ih, Nat.succ_mul]; omega
/-- a pair is spoilt -/
def sMisformed : SpecS := fun s ds P => ∃ (ps : List PairR) (at_ : Nat), ds = [.adr s, pairsD ps, .int (at_ : Int)] ∧ at_ < ps.length ∧ ps.length ≤ 150 ∧ ∀ ps' : List PairR, 1 ≤ ps'.length → ps'.length ≤ 150 → P (pairsD ps')
theorem PairR.ev0 {w : Wd} {δ : List (Option D)} {te : TE} {W : World} {p : PairR} (h : Ev w te δ p.d) : Ev w (tOp (rIxU w.K W) te (tC (.int 0))) δ p.g.d := by
  rcases p with ⟨t, g, n, th⟩
  cases t <;> cases th <;> first | exact ev_op h ev_int (r2_xT rfl) | exact ev_op h ev_int (r2_xL rfl)
theorem PairR.ev1 {w : Wd} {δ : List (Option D)} {te : TE} {W : World} {p : PairR} (h : Ev w te δ p.d) : Ev w (tOp (rIxU w.K W) te (tC (.int 1))) δ p.n.d := by
  rcases p with ⟨t, g, n, th⟩
  cases t <;> cases th <;> first | exact ev_op h ev_int (r2_xT rfl) | exact ev_op h ev_int (r2_xL rfl)
theorem get_pairs {ps : List PairR} {i : Nat} (h : i < ps.length) : atI (ps.map PairR.d) (i : Int) = some ps[i].d := atI_nat (by rw [List.getElem?_map, List.getElem?_eq_getElem h]; rfl)
theorem c_law_misformed (F : Df K mg "_law_misformed" s_law_misformed ["_law_source_here", "_law_pairs", "_law_at"]) (B : Blt mg) (c_law_draw : Cal P w K mg base 2 "_law_draw" (spS K C sDraw)) (c_law_odd : Cal P w K mg base 3 "_law_odd" (spS K C sOdd)) : Cal P w K mg base 4 "_law_misformed" (spS K C sMisformed) := by
  refine fn_S F sc_law_misformed (fun s ds Q ⟨_, _, e, _⟩ => by rw [e]; rfl) fun f cdv A outer s H E hr => ⟨_, (pss_cons (ps_st 3 sc_law_misformed.nd (pe_ix (xIx K w) (pv 1) (pv 2) (fun _ _ => rfl)))
        (pss_cons (ps_st 4 sc_law_misformed.nd (pe_cal c_law_draw hr (pa_cons (pv 0) (pa_cons pe_int pa_nil))))
        (pss_cons (ps_if (pt_cmpR (xEq K hr.units) (pv 4) pe_int (nomark _)) (pss_one (ps_ret (pe_slice (xSl K) (pv 1) po_none (po_some pe_int)))) pss_nil)
        (pss_cons (ps_if (pt_cmpR (xEq K hr.units) (pv 4) pe_int (nomark _)) (pss_one (ps_ret (pe_slice (xSl K) (pe_op xMul (pv 1) pe_int) po_none (po_some pe_int)))) pss_nil)
        (pss_cons (ps_if (pt_cmpR (xEq K hr.units) (pv 4) pe_int (nomark _)) (pss_one (ps_st 3 sc_law_misformed.nd (pe_callTy (xList K) rfl B.b_list bt_list (pa_cons (pv 3) pa_nil)))) pss_nil)
        (pss_cons (ps_if (pt_cmpR (xEq K hr.units) (pv 4) pe_int (nomark _)) (pss_one (ps_st 3 sc_law_misformed.nd (pe_tup (pa_cons (pe_ix (xIx K w) (pv 3) pe_int (fun _ _ => rfl)) (pa_cons (pe_ix (xIx K w) (pv 3) pe_int (fun _ _ => rfl)) (pa_cons pe_int pa_nil)))))) pss_nil)
        (pss_cons (ps_if (pt_cmpR (xEq K hr.units) (pv 4) pe_int (nomark _)) (pss_one (ps_st 3 sc_law_misformed.nd (pe_tup (pa_cons (pe_ix (xIx K w) (pv 3) pe_int (fun _ _ => rfl)) (pa_cons (pe_cal c_law_odd hr (pa_cons (pv 0) (pa_cons pe_int (pa_cons pe_int pa_nil)))) pa_nil))))) pss_nil)
        (pss_one (ps_ret (pe_op (xAdd K) (pe_op (xAdd K) (pe_slice (xSl K) (pv 1) po_none (po_some (pv 2))) (pe_lst (pa_cons (pv 3) pa_nil))) (pe_slice (xSl K) (pv 1) (po_some (pe_op (xAdd K) (pv 2) pe_int)) po_none))))))))))), ?_⟩
  rintro N H0 s l ds Pd ns nl ⟨ps, at_, rfl, hat, hl, hp⟩ De hrt
  have bb := src_base (K := K) (C := C) (H0 := H0) ns nl
  refine go_asg bb.ok (ev_op (ev_var rfl) (ev_var rfl) (r2_xL (get_pairs hat))) fun _ e => ?_
  subst e
  refine go_asg bb.ok (ev_dr ns nl rfl ev_int (by omega) (by omega)) fun d hd => ?_
  obtain ⟨form, rfl, hf⟩ := hd
  refine go_when bb.ok (et_testd (ev_op (ev_var rfl) ev_int r2_eI)) (fun _ => ?_) (fun _ => ?_)
  · refine go_ret bb.ok (ev_sl (ev_var rfl) eo_none (eo_some ev_int) rs_L) fun d v H pd e I r => ?_
    subst pd
    refine hrt _ _ _ ?_ e I.1 r
    rw [show (1 : Int) = ((1 : Nat) : Int) from rfl, cut_take, ← List.map_take]
    exact hp _ (by rw [List.length_take]; omega) (by rw [List.length_take]; omega)
  refine go_when bb.ok (et_testd (ev_op (ev_var rfl) ev_int r2_eI)) (fun _ => ?_) (fun _ => ?_)
  · refine go_ret bb.ok (ev_sl (ev_op (ev_var rfl) ev_int (r2_mulL (by omega) (by omega) (by rw [List.length_map]; omega))) eo_none (eo_some ev_int) rs_L) fun d v H pd e I r => ?_
    subst pd
    refine hrt _ _ _ ?_ e I.1 r
    have hlen := rep_len 41 ps
    rw [show cutD _ none (some (41 : Int)) = _ from cut_take _ 41, show (41 : Int).toNat = 41 from rfl, rep_map, ← List.map_take]
    exact hp _ (by rw [List.length_take, hlen]; omega) (by rw [List.length_take]; omega)
  refine go_cut (fun δ M => M = [] ∧ ∃ pr : PairR, δ = [some (.adr s), some (pairsD ps), some (.int (at_ : Int)), some pr.d, some (.int (form : Int))]) (fun nx hj => ?_) ?_
  · refine go_when' bb.ok (et_testd (ev_op (ev_var rfl) ev_int r2_eI)) (fun _ => ?_) (fun _ => go_out hj ⟨rfl, _, rfl⟩)
    refine go_asg' bb.ok (P := fun d => d = PairR.d { ps[at_] with tup := false }) (ev_cb (ea_cons (ev_var rfl) ea_nil) ?_) fun _ e => ?_
    · generalize ps[at_] = pr
      rcases pr with ⟨t, g, n, th⟩
      cases t
      · exact rc_listL
      · exact rc_listT
    subst e
    exact go_out hj ⟨rfl, _, rfl⟩
  rintro δ' M' ⟨rfl, pr, rfl⟩
  refine go_cut (fun δ M => M = [] ∧ ∃ pr : PairR, δ = [some (.adr s), some (pairsD ps), some (.int (at_ : Int)), some pr.d, some (.int (form : Int))]) (fun nx hj => ?_) ?_
  · refine go_when' bb.ok (et_testd (ev_op (ev_var rfl) ev_int r2_eI)) (fun _ => ?_) (fun _ => go_out hj ⟨rfl, _, rfl⟩)
    refine go_asg' bb.ok (P := fun d => d = PairR.d { pr with tup := true, three := true }) ((ev_tup (ea_cons (PairR.ev0 (p := pr) (ev_var rfl)) (ea_cons (PairR.ev1 (p := pr) (ev_var rfl)) (ea_cons ev_int ea_nil)))).imp fun d e => e) fun _ e => ?_
    subst e
    exact go_out hj ⟨rfl, _, rfl⟩
  rintro δ' M' ⟨rfl, pr, rfl⟩
  refine go_cut (fun δ M => M = [] ∧ ∃ pr : PairR, δ = [some (.adr s), some (pairsD ps), some (.int (at_ : Int)), some pr.d, some (.int (form : Int))]) (fun nx hj => ?_) ?_
  · refine go_when' bb.ok (et_testd (ev_op (ev_var rfl) ev_int r2_eI)) (fun _ => ?_) (fun _ => go_out hj ⟨rfl, _, rfl⟩)
    refine go_asg' bb.ok (P := fun d => ∃ x : Sc, d = PairR.d ⟨true, pr.g, x, false⟩) (evp_tup (PA := fun ds => ∃ x : Sc, ds = [pr.g.d, x.d]) (ea_consP (Pa := fun d => d = pr.g.d) (Pl := fun _ ds => ∃ x : Sc, ds = [x.d]) (PairR.ev0 (p := pr) (ev_var rfl)) (fun _ _ => ea_consP (Pa := fun d => ∃ x : Sc, d = x.d) (Pl := fun _ ds => ds = []) (ev_draw ns nl (ea_cons (ev_var rfl) (ea_cons ev_int (ea_cons ev_int ea_nil))) ⟨1, 10, rfl, fun x _ => ⟨x, rfl⟩⟩) (fun _ _ => ea_nil) fun a as ⟨x, e⟩ e2 => ⟨x, by rw [e, e2]⟩) fun a as e ⟨x, e2⟩ => ⟨x, by rw [e, e2]⟩) (fun ds ⟨x, e⟩ => by rw [e]; simp only [List.length_cons, List.length_nil]; omega) fun ds ⟨x, e⟩ => ⟨x, by rw [e]; rfl⟩) fun d hd => ?_
    obtain ⟨x, rfl⟩ := hd
    exact go_out hj ⟨rfl, _, rfl⟩
  rintro δ' M' ⟨rfl, pr, rfl⟩
  refine go_ret bb.ok (ev_spl (ev_var (i := 1) rfl) (ev_var (i := 2) rfl) (ev_lst (ea_cons (ev_var rfl) ea_nil)) (by rw [List.length_map]; omega) (by simp)) fun d v H pd e I r => ?_
  subst pd
  rw [spl_pairs] at r
  exact hrt _ _ _ (hp _ (by simp; omega) (by simp; omega)) e I.1 r
/-- one or two faults -/
def sFaulty : SpecS := fun s ds P => ∃ (k : Book) (z : Szs) (ps : List PairR), ds = [.adr s, k.d, z.d, pairsD ps] ∧ k.Ok ∧ z.Of k ∧ 1 ≤ ps.length ∧ ps.length ≤ 150 ∧
  ∀ (z' : Szs) (ps' : List PairR), z'.Of k → (2 ≤ ps.length → 1 ≤ ps'.length) → ps'.length ≤ 150 → P (.tup [z'.d, pairsD ps'])
theorem c_law_faulty (F : Df K mg "_law_faulty" s_law_faulty ["_law_source_here", "_law_book_here", "_law_sizes", "_law_pairs"]) (B : Blt mg) (c_law_draw : Cal P w K mg base 2 "_law_draw" (spS K C sDraw)) (c_law_odd : Cal P w K mg base 3 "_law_odd" (spS K C sOdd))
    (c_law_misformed : Cal P w K mg base 4 "_law_misformed" (spS K C sMisformed)) (c_law_number : Cal P w K mg base 1 "_law_number" (spX K C XA sNumber)) : Cal P w K mg base 5 "_law_faulty" (spS K C sFaulty) := by
  refine fn_S F sc_law_faulty (fun s ds Q ⟨_, _, _, e, _⟩ => by rw [e]; rfl) fun f cdv A outer s H E hr => ⟨_, (pss_cons (ps_st 4 sc_law_faulty.nd (pe_cal c_law_draw hr (pa_cons (pv 0) (pa_cons pe_int pa_nil))))
        (pss_cons (ps_st 5 sc_law_faulty.nd (pe_cal c_law_draw hr (pa_cons (pv 0) (pa_cons (pe_callB (xLen K) rfl B.b_len bt_len (pa_cons (pv 3) pa_nil)) pa_nil))))
        (pss_cons (ps_st 6 sc_law_faulty.nd (pe_ix (xIx K w) (pe_ix (xIx K w) (pv 3) (pv 5) (fun _ _ => rfl)) pe_int (fun _ _ => rfl)))
        (pss_cons (ps_st 7 sc_law_faulty.nd (pe_ix (xIx K w) (pe_ix (xIx K w) (pv 3) (pv 5) (fun _ _ => rfl)) pe_int (fun _ _ => rfl)))
        (pss_cons (ps_if (pt_cmpR (xEq K hr.units) (pv 4) pe_int (nomark _)) (pss_cons (ps_st 8 sc_law_faulty.nd (pe_cal c_law_draw hr (pa_cons (pv 0) (pa_cons pe_int pa_nil))))
        (pss_cons (ps_st 9 sc_law_faulty.nd (pe_cal c_law_odd hr (pa_cons (pv 0) (pa_cons (pe_ix (xIx K w) (pe_tup (pa_cons pe_int (pa_cons pe_int (pa_cons pe_int (pa_cons pe_int pa_nil))))) (pv 8) (fun _ _ => rfl)) (pa_cons (pe_ix (xIx K w) (pe_tup (pa_cons pe_int (pa_cons pe_int (pa_cons pe_int (pa_cons pe_int pa_nil))))) (pv 8) (fun _ _ => rfl)) pa_nil)))))
        (pss_one (ps_ret (pe_tup (pa_cons (pe_op (xAdd K) (pe_op (xAdd K) (pe_slice (xSl K) (pv 2) po_none (po_some (pv 8))) (pe_lst (pa_cons (pv 9) pa_nil))) (pe_slice (xSl K) (pv 2) (po_some (pe_op (xAdd K) (pv 8) pe_int)) po_none)) (pa_cons (pv 3) pa_nil))))))) pss_nil)
        (pss_cons (ps_if (pt_cmpR (xEq K hr.units) (pv 4) pe_int (nomark _)) (pss_one (ps_ret (pe_tup (pa_cons (pv 2) (pa_cons (pe_cal c_law_misformed hr (pa_cons (pv 0) (pa_cons (pv 3) (pa_cons (pv 5) pa_nil)))) pa_nil))))) pss_nil)
        (pss_cons (ps_if (pt_cmpR (xEq K hr.units) (pv 4) pe_int (nomark _)) (pss_cons (ps_st 8 sc_law_faulty.nd (pe_cal c_law_draw hr (pa_cons (pv 0) (pa_cons pe_int pa_nil))))
        (pss_one (ps_st 6 sc_law_faulty.nd (pe_ix (xIx K w) (pe_tup (pa_cons (pe_lst (pa_cons pe_str pa_nil)) (pa_cons (pe_tup (pa_cons pe_str (pa_cons (pe_ix (xIx K w) (pv 1) pe_int (fun _ _ => rfl)) (pa_cons pe_int pa_nil)))) (pa_cons (pe_tup (pa_cons pe_str (pa_cons pe_int (pa_cons pe_int (pa_cons pe_int (pa_cons pe_int pa_nil)))))) (pa_cons (pe_tup (pa_cons pe_str (pa_cons (pe_ix (xIx K w) (pv 1) pe_int (fun _ _ => rfl)) (pa_cons pe_int (pa_cons pe_int (pa_cons pe_int pa_nil)))))) (pa_cons (pe_tup (pa_cons pe_str (pa_cons (pe_ix (xIx K w) (pv 1) pe_int (fun _ _ => rfl)) pa_nil))) (pa_cons (pe_tup (pa_cons pe_str (pa_cons pe_int (pa_cons pe_int pa_nil)))) pa_nil))))))) (pv 8) (fun _ _ => rfl))))) pss_nil)
        (pss_cons (ps_if (PW.pt (pw_and (pt_cmpR (xEq K hr.units) (pv 4) pe_int (nomark _)) (pw_and1 (pt_val (pe_cal c_law_number hr (pa_cons (pv 7) (pa_cons pe_int (pa_cons pe_int pa_nil)))))))) (pss_one (ps_st 7 sc_law_faulty.nd (pe_op xSub (pv 7) pe_int))) pss_nil)
        (pss_cons (ps_if (pt_cmpR (xEq K hr.units) (pv 4) pe_int (nomark _)) (pss_one (ps_ret (pe_tup (pa_cons (pv 2) (pa_cons (pe_op (xAdd K) (pe_slice (xSl K) (pv 3) po_none (po_some (pv 5))) (pe_slice (xSl K) (pv 3) (po_some (pe_op (xAdd K) (pv 5) pe_int)) po_none)) pa_nil))))) pss_nil)
        (pss_cons (ps_if (pt_cmpR (xEq K hr.units) (pv 4) pe_int (nomark _)) (pss_one (ps_st 6 sc_law_faulty.nd (pe_tup (pa_cons pe_str pa_nil)))) pss_nil)
        (pss_one (ps_ret (pe_tup (pa_cons (pv 2) (pa_cons (pe_op (xAdd K) (pe_op (xAdd K) (pe_slice (xSl K) (pv 3) po_none (po_some (pv 5))) (pe_lst (pa_cons (pe_tup (pa_cons (pv 6) (pa_cons (pv 7) pa_nil))) pa_nil))) (pe_slice (xSl K) (pv 3) (po_some (pe_op (xAdd K) (pv 5) pe_int)) po_none)) pa_nil))))))))))))))), ?_⟩
  rintro N H0 s l ds Pd ns nl ⟨k, z, ps, rfl, hk, hz, hl, hl2, hp⟩ De hrt
  have bb := src_base (K := K) (C := C) (H0 := H0) ns nl
  refine go_asg bb.ok (ev_dr ns nl rfl ev_int (by omega) (by omega)) fun d hd => ?_
  obtain ⟨kind, rfl, hkind⟩ := hd
  refine go_asg bb.ok (ev_dr ns nl rfl (ev_cb (ea_cons (ev_var (i := 3) rfl) ea_nil) (rc_len rfl)) (by rw [List.length_map]; omega) (by rw [List.length_map]; omega)) fun d hd => ?_
  obtain ⟨at_, rfl, hat⟩ := hd
  rw [List.length_map] at hat
  have hat : at_ < ps.length := by omega
  have evp : ∀ {M : ML} {δ : List (Option D)}, δ[3]? = some (some (pairsD ps)) → δ[5]? = some (some (.int (at_ : Int))) → Ev ((srcW K C N H0 s l).wi M) (tOp (rIxU K w) (tVar 3) (tVar 5)) δ ps[at_].d := fun h3 h5 => ev_op (ev_var h3) (ev_var h5) (r2_xL (get_pairs hat))
  refine go_asg bb.ok (PairR.ev0 (p := ps[at_]) (evp rfl rfl)) fun _ e => ?_
  subst e
  refine go_asg bb.ok (PairR.ev1 (p := ps[at_]) (evp rfl rfl)) fun _ e => ?_
  subst e
  generalize ps[at_] = pr
  refine go_when bb.ok (et_testd (ev_op (ev_var rfl) ev_int r2_eI)) (fun _ => ?_) (fun _ => ?_)
  · refine go_asg bb.ok (ev_dr ns nl rfl ev_int (by omega) (by omega)) fun d hd => ?_
    obtain ⟨wh, rfl, hw⟩ := hd
    have hw : wh = 0 ∨ wh = 1 ∨ wh = 2 ∨ wh = 3 := by omega
    refine go_asg bb.ok (P := fun d => ∃ x : Sc, d = x.d ∧ ∀ z' : Szs, (z' = if wh = 0 then { z with n := x } else if wh = 1 then { z with w := x } else if wh = 2 then { z with m := x } else { z with t := x }) → z'.Of k) ?_ fun d hd => ?_
    · rcases hw with rfl | rfl | rfl | rfl
      all_goals
        refine ev_draw ns nl (ea_cons (ev_var rfl) (ea_cons (ev_op (ev_tup (ea_cons ev_int (ea_cons ev_int (ea_cons ev_int (ea_cons ev_int ea_nil))))) (ev_var rfl) (r2_xT rfl)) (ea_cons (ev_op (ev_tup (ea_cons ev_int (ea_cons ev_int (ea_cons ev_int (ea_cons ev_int ea_nil))))) (ev_var rfl) (r2_xT rfl)) ea_nil))) ⟨_, _, rfl, fun x hx => ⟨x, rfl, ?_⟩⟩
        rintro z' rfl
        first
        | exact ⟨.inr hx, hz.w, hz.m, hz.t⟩
        | exact ⟨hz.n, .inr hx, hz.m, hz.t⟩
        | exact ⟨hz.n, hz.w, .inr hx, hz.t⟩
        | exact ⟨hz.n, hz.w, hz.m, .inr hx⟩
    obtain ⟨x, rfl, hx⟩ := hd
    refine go_ret bb.ok (ev_tup (ea_cons (ev_spl (ev_var (i := 2) rfl) (ev_var rfl) (ev_lst (ea_cons (ev_var rfl) ea_nil)) (by simp) (by simp)) (ea_cons (ev_var (i := 3) rfl) ea_nil))) fun d v H pd e I r => ?_
    subst pd
    refine hrt _ _ _ ?_ e I.1 r
    rcases hw with rfl | rfl | rfl | rfl
    · exact hp _ _ (hx _ rfl) (fun h => by omega) hl2
    · exact hp _ _ (hx _ rfl) (fun h => by omega) hl2
    · exact hp _ _ (hx _ rfl) (fun h => by omega) hl2
    · exact hp _ _ (hx _ rfl) (fun h => by omega) hl2
  refine go_when bb.ok (et_testd (ev_op (ev_var rfl) ev_int r2_eI)) (fun _ => ?_) (fun _ => ?_)
  · refine go_ret bb.ok (P := fun d => ∃ ps' : List PairR, d = .tup [z.d, pairsD ps'] ∧ 1 ≤ ps'.length ∧ ps'.length ≤ 150) (evp_tup (PA := fun ds => ∃ ps' : List PairR, ds = [z.d, pairsD ps'] ∧ 1 ≤ ps'.length ∧ ps'.length ≤ 150) (ea_consP (Pa := fun d => d = z.d) (Pl := fun _ ds => ∃ ps' : List PairR, ds = [pairsD ps'] ∧ 1 ≤ ps'.length ∧ ps'.length ≤ 150) (ev_var rfl) (fun _ _ => ea_consP (Pa := fun d => ∃ ps' : List PairR, d = pairsD ps' ∧ 1 ≤ ps'.length ∧ ps'.length ≤ 150) (Pl := fun _ ds => ds = []) (ev_draw ns nl (ea_cons (ev_var rfl) (ea_cons (ev_var rfl) (ea_cons (ev_var rfl) ea_nil))) ⟨ps, at_, rfl, hat, hl2, fun ps' h1 h2 => ⟨ps', rfl, h1, h2⟩⟩) (fun _ _ => ea_nil) fun a as ⟨x, e, h⟩ e2 => ⟨x, by rw [e, e2], h⟩) fun a as e ⟨x, e2, h⟩ => ⟨x, by rw [e, e2], h⟩) (fun ds ⟨x, e, _⟩ => by rw [e]; simp only [List.length_cons, List.length_nil]; omega) fun ds ⟨x, e, h⟩ => ⟨x, by rw [e], h⟩) fun d v H pd e I r => ?_
    obtain ⟨ps', rfl, h1, h2⟩ := pd
    exact hrt _ _ _ (hp z ps' hz (fun _ => h1) h2) e I.1 r
  let St : List (Option D) → ML → Prop := fun δ M => M = [] ∧ ∃ (g : SgR) (n : Sc) (u : Option D), δ = [some (.adr s), some k.d, some z.d, some (pairsD ps), some (.int (kind : Int)), some (.int (at_ : Int)), some g.d, some n.d, u, none]
  refine go_cut St (fun nx hj => ?_) ?_
  · refine go_when' bb.ok (et_testd (ev_op (ev_var rfl) ev_int r2_eI)) (fun _ => ?_) (fun _ => go_out hj ⟨rfl, _, _, _, rfl⟩)
    refine go_asg bb.ok (ev_dr ns nl rfl ev_int (by omega) (by omega)) fun d hd => ?_
    obtain ⟨wh, rfl, hw⟩ := hd
    have hw : wh = 0 ∨ wh = 1 ∨ wh = 2 ∨ wh = 3 ∨ wh = 4 ∨ wh = 5 := by omega
    have eb : ∀ {i : Int} {n : Nat}, atI [D.int (k.a : Nat), .int (k.m : Nat), .int (k.sp : Nat), .int (k.lv : Nat), .tup (k.rows.map rowD)] i = some (.int (n : Nat)) → ∀ {M : ML} {δ : List (Option D)}, δ[1]? = some (some k.d) → Ev ((srcW K C N H0 s l).wi M) (tOp (rIxU K w) (tVar 1) (tC (.int i))) δ (.int (n : Nat)) := fun h _ _ h1 => ev_op (ev_var h1) ev_int (r2_xT h)
    refine go_asg' bb.ok (P := fun d => ∃ g : SgR, d = g.d) (ev_op (ev_tup (ea_cons (ev_lst (ea_cons ev_str ea_nil)) (ea_cons (ev_tup (ea_cons ev_str (ea_cons (eb (n := k.a) rfl rfl) (ea_cons ev_int ea_nil)))) (ea_cons (ev_tup (ea_cons ev_str (ea_cons ev_int (ea_cons ev_int (ea_cons ev_int (ea_cons ev_int ea_nil)))))) (ea_cons (ev_tup (ea_cons ev_str (ea_cons (eb (n := k.sp) rfl rfl) (ea_cons ev_int (ea_cons ev_int (ea_cons ev_int ea_nil))))))
      (ea_cons (ev_tup (ea_cons ev_str (ea_cons (eb (n := k.lv) rfl rfl) ea_nil))) (ea_cons (ev_tup (ea_cons ev_str (ea_cons ev_int (ea_cons ev_int ea_nil)))) ea_nil))))))) (ev_var rfl) ?_) fun d hd => ?_
    · rcases hw with rfl | rfl | rfl | rfl | rfl | rfl
      · exact (r2_xT rfl).imp fun d e => ⟨.bad, e⟩
      · exact (r2_xT rfl).imp fun d e => ⟨.sg (.letter k.a 0), e⟩
      · exact (r2_xT rfl).imp fun d e => ⟨.sg (.copy 1 0 41 0), e⟩
      · exact (r2_xT rfl).imp fun d e => ⟨.sg (.again k.sp 0 1 0), e⟩
      · exact (r2_xT rfl).imp fun d e => ⟨.sg (.turn k.lv), e⟩
      · exact (r2_xT rfl).imp fun d e => ⟨.sg (.letter 0 4), e⟩
    obtain ⟨g, rfl⟩ := hd
    exact go_out hj ⟨rfl, _, _, _, rfl⟩
  rintro δ' M' ⟨rfl, g, n, u, rfl⟩
  refine go_cut St (fun nx hj => ?_) ?_
  · refine go_when' bb.ok (et_andd (et_testd (ev_op (ev_var rfl) ev_int r2_eI)) fun _ => et_Bd (ev_call (ea_cons (ev_var rfl) (ea_cons ev_int (ea_cons ev_int ea_nil))) ⟨n, _, _, rfl, rfl⟩)) (fun h => ?_) (fun _ => go_out hj ⟨rfl, _, _, _, rfl⟩)
    have h := h.symm
    rw [Bool.and_eq_true] at h
    obtain ⟨i, rfl⟩ : ∃ i, n = .int i := by
      cases n with
      | int i => exact ⟨i, rfl⟩
      | tru => cases h.2
      | non => cases h.2
    refine go_asg' bb.ok (ev_op (ev_var rfl) ev_int r2_sub) fun _ e => ?_
    subst e
    exact go_out hj ⟨rfl, g, .int (i - 1), u, rfl⟩
  rintro δ' M' ⟨rfl, g, n, u, rfl⟩
  refine go_when bb.ok (et_testd (ev_op (ev_var rfl) ev_int r2_eI)) (fun _ => ?_) (fun _ => ?_)
  · have e1 : ∀ {M : ML} {δ : List (Option D)}, δ[3]? = some (some (pairsD ps)) → δ[5]? = some (some (.int (at_ : Int))) → Ev ((srcW K C N H0 s l).wi M) (tSl (rSlU K) (tVar 3) (tPart (tOp (rAddU K) (tVar 5) (tC (.int 1)))) tNoPart) δ (.lst ((ps.map PairR.d).drop (at_ + 1))) := fun h3 h5 => by
      rw [← cut_drop]
      exact ev_sl (ev_var h3) (eo_some (ev_op (ev_var h5) ev_int r2_add)) eo_none rs_L
    have e2 : ∀ {M : ML} {δ : List (Option D)}, δ[3]? = some (some (pairsD ps)) → δ[5]? = some (some (.int (at_ : Int))) → Ev ((srcW K C N H0 s l).wi M) (tSl (rSlU K) (tVar 3) tNoPart (tPart (tVar 5))) δ (.lst ((ps.map PairR.d).take at_)) := fun h3 h5 => by
      rw [← cut_take]
      exact ev_sl (ev_var h3) eo_none (eo_some (ev_var h5)) rs_L
    refine go_ret bb.ok (ev_tup (ea_cons (ev_var (i := 2) rfl) (ea_cons (ev_op (e2 rfl rfl) (e1 rfl rfl) (r2_addL (by simp; omega))) ea_nil))) fun d v H pd e I r => ?_
    subst pd
    refine hrt _ _ _ ?_ e I.1 r
    rw [← List.map_take, ← List.map_drop, ← List.map_append]
    exact hp z _ hz (fun h => by simp; omega) (by simp; omega)
  refine go_cut St (fun nx hj => ?_) ?_
  · refine go_when' bb.ok (et_testd (ev_op (ev_var rfl) ev_int r2_eI)) (fun h => ?_) (fun _ => go_out hj ⟨rfl, _, _, _, rfl⟩)
    refine go_asg' bb.ok (ev_tup (ea_cons ev_str ea_nil)) fun _ e => ?_
    subst e
    exact go_out hj ⟨rfl, .sg .stop, n, u, rfl⟩
  rintro δ' M' ⟨rfl, g, n, u, rfl⟩
  refine go_ret bb.ok (ev_tup (ea_cons (ev_var (i := 2) rfl) (ea_cons (ev_spl (ys := [PairR.d ⟨true, g, n, false⟩]) (ev_var (i := 3) rfl) (ev_var (i := 5) rfl) (ev_lst (ea_cons (ev_is (ev_tup (ea_cons (ev_var (i := 6) rfl) (ea_cons (ev_var (i := 7) rfl) ea_nil))) rfl) ea_nil)) (by rw [List.length_map]; omega) (by simp)) ea_nil))) fun d v H pd e I r => ?_
  subst pd
  rw [spl_pairs] at r
  exact hrt _ _ _ (hp z _ hz (fun h => by simp; omega) (by simp; omega)) e I.1 r
end
end Lr
set_option Elab.async false
set_option maxRecDepth 100000
set_option maxHeartbeats 4000000
set_option linter.all false
set_option autoImplicit false
/-! sorted and min of data. -/
namespace Lr
open PySem L2 PyProof.Rows
abbrev keyD (b : V × D) : PyData := pd b.2
abbrev leD (a b : V × D) : Bool := PySem.W.dataLe false keyD a b
structure SortOk (ds : List PyData) : Prop where
  al : PySem.W.AllAlike ds
  so : PySem.W.Sortable ds
  dp : ∀ d ∈ ds, d.depth ≤ 8
def rSortG (K : PySem.W.Frag) : List V → Hp → VK → Prop := fun vs H Q => ∃ (a : Addr) (bs : List (V × D)), vs = [.ref a] ∧ SqL K H a (bs.map Prod.fst) ∧ (∀ b ∈ bs, Dp K H b.1 (pd b.2)) ∧ SortOk (bs.map keyD) ∧ bs.length ≤ 100000 ∧
  ∀ p, H p = none → Q (.ref p) (upd H p (.lst ((bs.mergeSort leD).map Prod.fst)))
theorem each_vals : ∀ {bs : List (V × D)} {us : List Value}, Vals (bs.map Prod.fst) us → PySem.W.EachIs (fun u (b : V × D) => RelV b.1 u) us bs
  | [], _, r => by cases r; exact .nil
  | b :: bs, _, r => by
    cases r with
    | cons h t => exact .cons h (each_vals t)
theorem vals_each : ∀ {bs : List (V × D)} {us : List Value}, PySem.W.EachIs (fun u (b : V × D) => RelV b.1 u) us bs → Vals (bs.map Prod.fst) us
  | _, _, .nil => .nil
  | _, _, .cons h t => .cons h (vals_each t)
section
variable {X : Cx} {pins : List (Addr × Obj)} {σ : L2.St} {H : Hp} {s : Shared}
theorem each_reads (I : Inv X pins σ H s) : ∀ {bs : List (V × D)} {us : List Value}, Vals (bs.map Prod.fst) us → (∀ b ∈ bs, Dp X.K H b.1 (pd b.2)) → PySem.W.EachIs (fun u b => ∃ as, Reads s.heap u (keyD b) as) us bs
  | [], _, r, _ => by cases r; exact .nil
  | b :: bs, _, r, h => by
    cases r with
    | cons r t => exact .cons (Dp.reads I _ _ _ (h b List.mem_cons_self) r) (each_reads I t fun c hc => h c (List.mem_cons_of_mem _ hc))
theorem cr_sortG (hu : X.A.units + 64 < cLine) : CallR X (.builtin "sorted") (rSortG X.K) := by
  intro pins s σ H vs us Q I r h
  obtain ⟨a, bs, rfl, hs, hd, ok, hL, q⟩ := h
  obtain ⟨its, rv, hl, hz⟩ := I.list hs
  obtain ⟨u, rfl, ru⟩ := vals1 r
  obtain rfl : u = Value.ref a := ru
  refine PySem.W.sorted_data (enc := keyD) hl.isList (each_vals rv) (each_reads I rv hd) ok.al ok.so (by rw [sizeLine_eq]; omega) (fun b hb => ?_) fun out ho eo => ?_
  · have := ok.dp _ (List.mem_map_of_mem hb)
    omega
  · obtain ⟨ep, he'⟩ := PyProof.Rows.sortedAll_at s.heap its (List.toArray out)
    have rv2 := vals_each eo
    have hlen : ((bs.mergeSort leD).map Prod.fst).length ≤ sizeLine := by
      rw [List.length_map, List.length_mergeSort, sizeLine_eq]
      omega
    exact ⟨.ref _, upd H (s.heap.objs.size + 1) (.lst ((bs.mergeSort leD).map Prod.fst)), I.laid (t' := s.toks) (fun _ _ => PyProof.Rows.sortedAll_old) (Nat.le_succ _) ⟨hlen, out, ep, rv2, he'⟩, rfl, q _ (I.hok.fresh (Nat.le_succ _))⟩
/-- sorted(d), d a dict with texts for keys -/
def strLe (x y : Str) : Bool := decide (x.cps.toList ≤ y.cps.toList)
def rSortDK : List V → Hp → VK → Prop := fun xs H Q => ∃ (a : Addr) (kvs : List (Key × V)) (ks : List Str), xs = [.ref a] ∧ Rd H a (.dK kvs) ∧ kvs.map (·.1) = ks.map Sum.inr ∧ ks.length ≤ 100000 ∧
    ∀ p, H p = none → Q (.ref p) (upd H p (.lst ((ks.mergeSort strLe).map V.str)))
theorem each_strs : ∀ {us : List Value} {ks : List Str}, StrsAre us ks → PySem.W.EachIs (fun u k => ∃ t, u = Value.str k t) us ks
  | _, _, .nil => .nil
  | _, _, .cons k t r => .cons ⟨t, rfl⟩ (each_strs r)
theorem strs_each : ∀ {us : List Value} {ks : List Str}, PySem.W.EachIs (fun u k => ∃ t, u = Value.str k t) us ks → Vals (ks.map V.str) us
  | _, _, .nil => .nil
  | _, _, .cons ⟨t, e⟩ r => .cons ⟨t, e⟩ (strs_each r)
theorem each_imp {α β : Type} {R S : α → β → Prop} (h : ∀ a b, R a b → S a b) : ∀ {as : List α} {bs : List β}, PySem.W.EachIs R as bs → PySem.W.EachIs S as bs
  | _, _, .nil => .nil
  | _, _, .cons r t => .cons (h _ _ r) (each_imp h t)
theorem cr_sortDK (hcalm : X.calm = true) (hu : X.A.units + 64 < cLine) : CallR X (.builtin "sorted") rSortDK := by
  intro pins s σ H xs us Q I r q
  obtain ⟨a, kvs, ks, ex, hd, hks, h64, q⟩ := q
  subst ex
  obtain ⟨u, eu, rx⟩ := vals1 r
  subst eu
  cases rx
  obtain ⟨z, lo, vs, rel, dd⟩ := dk_rd I.hok hd
  obtain ⟨ep, hat⟩ := dd.dictAt
  have hkeys : vs.map (·.1) = ks.map Sum.inr := rel.keys.symm.trans hks
  have hl : vs.length = ks.length := by
    have e := congrArg List.length hkeys
    rw [List.length_map, List.length_map] at e
    exact e
  have h16 : vs.length ≤ sizeLine := by rw [hl, sizeLine_eq]; omega
  refine Calls.call_function_entry PyProof.Rows.kind_sorted PyProof.Rows.plain_sorted PyProof.Rows.entry_sorted (PyProof.Rows.args_sorted1 _) ?_
  unfold Builtin.«sorted»
  refine wpAny_bind (m := checkCount "sorted" 1 1 _) (wpAny_pure ?_)
  refine wpAny_bind (PySem.W.kdu_collect (A := X.A.in1) (PySem.W.kdl_dict (knd := mixKind X.prog X.w) (kvs := vs) (ep := ep) lo) (I.ok.hd hcalm) hat h16 fun h' tk acc hk hacc => ?_)
  have hal : acc.toList.length = ks.length := by rw [Array.length_toList, hacc.1, hl]
  have hS : StrsAre acc.toList ks := strs_at hal fun j v e => by
    obtain ⟨k, x, e1, e2⟩ := hacc.2 j v (by rw [← Array.getElem?_toList]; exact e)
    have e3 : (vs.map (·.1))[j]? = some k := by rw [List.getElem?_map, e1]; rfl
    rw [hkeys, List.getElem?_map] at e3
    cases e4 : ks[j]? with
    | none => rw [e4] at e3; cases e3
    | some y =>
      rw [e4] at e3
      have e5 : Sum.inr y = k := Option.some.inj e3
      subst e5
      obtain ⟨t, ev⟩ := Value.isStrOf_shape (x := y) (v := v) e2
      exact ⟨y, t, rfl, ev⟩
  have I1 : Inv X pins σ H { s with heap := h', toks := tk } := I.kept hk
  refine wpAny_bind (wpAny_newList ?_ (by rw [hal, sizeLine_eq]; omega))
  have hoL : (h'.push (seqObj "list" acc.toList.toArray 0)).get? h'.objs.size = some (seqObj "list" acc.toList.toArray 0) := Heap.get?_push_size _ rfl
  show wpAny _ _ _ _ _ { s with heap := h'.push (seqObj "list" acc.toList.toArray 0), toks := tk }
  have es := each_strs hS
  refine wpAny_bind (wpAny_holding (PySem.W.list_sort_data (s := { s with heap := h'.push (seqObj "list" acc.toList.toArray 0), toks := tk }) (enc := PyData.str) hoL es (each_imp (fun u k ⟨t, e⟩ => ⟨[], e ▸ .str k t, by simp⟩) es) (PySem.W.AllAlike.of fun _ _ => by simp [PySem.W.alike]) (PySem.W.Sortable.others fun b => ⟨(fun e => by cases e), fun xs e => by cases e⟩) (by rw [sizeLine_eq]; omega) (fun b hb => ?_) fun out ho eo => ?_))
  · have e0 : (PyData.str b).depth = 0 := by simp [PyData.depth]
    rw [e0]
    show X.A.units + 1 + 1 + 0 < cLine
    omega
  · have e0 : (PySem.W.dataLe false PyData.str : Str → Str → Bool) = strLe := by
      have := PySem.W.dataLe_str (fun b : Str => b)
      exact this
    rw [e0] at eo
    obtain ⟨e', he'⟩ := PyProof.Rows.sortedHeap_at (vs := acc.toList) (out := List.toArray out) hoL
    have hlen : ((ks.mergeSort strLe).map V.str).length ≤ sizeLine := by
      rw [List.length_map, List.length_mergeSort, sizeLine_eq]
      omega
    refine wpAny_pure ⟨_, rfl, .ref h'.objs.size, upd H h'.objs.size (.lst ((ks.mergeSort strLe).map V.str)), I1.laid (t' := tk) (fun b u e => ?_) (Nat.le_refl _)
      (show ObjOk X.prog X.w _ _ _ (.lst _) from ⟨hlen, out, e', strs_each eo, he'⟩), rfl, q _ (I1.hok.fresh (Nat.le_refl _))⟩
    have hb : b < h'.objs.size := Heap.lt_size e
    rw [PyProof.Rows.sortedHeap_old (Nat.ne_of_lt hb) (by rw [size_push']; exact Nat.lt_succ_of_lt hb)]
    exact Heap.get?_push_of_some _ e
/-- min(xs) -/
def rMinG (K : PySem.W.Frag) : List V → Hp → VK → Prop := fun vs H Q => ∃ (a : Addr) (b0 : V × D) (bs : List (V × D)), vs = [.ref a] ∧ SqL K H a ((b0 :: bs).map Prod.fst) ∧ (∀ b ∈ b0 :: bs, Dp K H b.1 (pd b.2)) ∧ SortOk ((b0 :: bs).map keyD) ∧ (∀ d ∈ (b0 :: bs).map keyD, d ≠ .none) ∧
  ∀ b ∈ b0 :: bs, pd b.2 = PySem.W.minD (keyD b0) (bs.map keyD) → Q b.1 H
theorem depthAll_le : ∀ {ds : List PyData} {n : Nat}, (∀ d ∈ ds, d.depth ≤ n) → PyData.depthAll ds ≤ n
  | [], _, _ => by simp [PyData.depthAll]
  | d :: ds, n, h => by
    have h1 := h d List.mem_cons_self
    have h2 := depthAll_le (ds := ds) (n := n) fun e he => h e (List.mem_cons_of_mem _ he)
    simp only [PyData.depthAll]
    omega
theorem minD_mem (x : PyData) (xs : List PyData) : PySem.W.minD x xs ∈ x :: xs := by
  unfold PySem.W.minD
  induction xs generalizing x with
  | nil => exact List.mem_cons_self
  | cons y ys ih =>
    rw [List.foldl_cons]
    rcases List.mem_cons.mp (ih (if PySem.W.dataLt y x = true then y else x)) with e | h
    · rw [e]
      split
      · exact List.mem_cons_of_mem _ List.mem_cons_self
      · exact List.mem_cons_self
    · exact List.mem_cons_of_mem _ (List.mem_cons_of_mem _ h)
theorem cr_minG (hcalm : X.calm = true) (hu : X.A.units + 64 < cLine) : CallR X (.builtin "min") (rMinG X.K) := by
  intro pins s σ H vs us Q I r h
  obtain ⟨a, b0, bs, rfl, hs, hd, ok, hn, q⟩ := h
  obtain ⟨its, rv, hl, hz⟩ := I.list hs
  obtain ⟨u, rfl, ru⟩ := vals1 r
  obtain rfl : u = Value.ref a := ru
  have er := each_reads I rv hd
  obtain ⟨as, rAll⟩ := PySem.W.each_readsAll keyD er
  have hdp := depthAll_le ok.dp
  refine PySem.W.min_list_data (vs := its.toArray) (I.ok.hd hcalm) hl.isList (x := keyD b0) (xs := bs.map keyD) (by simpa using rAll) ⟨ok.al, hn⟩ (by have e : PyData.depthAll (keyD b0 :: bs.map keyD) ≤ 8 := hdp; omega) fun i v h' tk as' hv rd hk => ?_
  have hv' : its[i]? = some v := by simpa using hv
  have hlen : its.length = (b0 :: bs).length := by rw [← rv.length, List.length_map]
  have hi : i < (b0 :: bs).length := by rw [← hlen]; exact (List.getElem?_eq_some_iff.mp hv').1
  have hb : (b0 :: bs)[i] ∈ b0 :: bs := List.getElem_mem hi
  have hx : ((b0 :: bs).map Prod.fst)[i]? = some ((b0 :: bs)[i]).1 := by rw [List.getElem?_map, List.getElem?_eq_getElem hi]; rfl
  obtain ⟨v', hv2, rel⟩ := rv.get hx
  rw [hv'] at hv2
  cases hv2
  obtain ⟨as2, rd2⟩ := Dp.reads I _ _ _ (hd _ hb) rel
  have I' : Inv X pins σ H { s with heap := h', toks := tk } := I.kept hk
  exact ⟨_, H, I', rel, q _ hb (PySem.W.alike_unique _ _ _ _ _ (ok.al _ (List.mem_map_of_mem hb) _ (minD_mem (keyD b0) (bs.map keyD))) (PySem.W.reads_keeps hk rd2) rd)⟩
end
/-! over data -/
theorem CallR.alt {X : Cx} {f : Value} {r r' : List V → Hp → VK → Prop} (h : CallR X f r) (h' : CallR X f r') : CallR X f (fun xs H Q => r xs H Q ∨ r' xs H Q) := fun pins s σ H xs us Q I rv z => z.elim (h pins s σ H xs us Q I rv) (h' pins s σ H xs us Q I rv)
def rSortAll (K : PySem.W.Frag) : List V → Hp → VK → Prop := fun xs H Q => rSortG K xs H Q ∨ rSortDK xs H Q
theorem xSorted {X : Cx} (K : PySem.W.Frag) (hu : X.A.units + 64 < cLine) (hK : X.K = K := by rfl) (hc : X.calm = true := by rfl) : CallR X (.builtin "sorted") (rSortAll K) := hK ▸ CallR.alt (cr_sortG hu) (cr_sortDK hc hu)
theorem xMin {X : Cx} (K : PySem.W.Frag) (hu : X.A.units + 64 < cLine) (hK : X.K = K := by rfl) (hc : X.calm = true := by rfl) : CallR X (.builtin "min") (rMinG K) := hK ▸ cr_minG hc hu
abbrev leDD (a b : D) : Bool := PySem.W.dataLe false pd a b
theorem rpAll_pairs {K : PySem.W.Frag} {C : Addr} {N : Addr → Prop} {H : Hp} : ∀ {bs : List (V × D)}, (∀ b ∈ bs, Rp K C N H b.1 b.2) → RpAll K C N H (bs.map Prod.fst) (bs.map Prod.snd)
  | [], _ => .nil
  | b :: bs, h => .cons (h b List.mem_cons_self) (rpAll_pairs fun c hc => h c (List.mem_cons_of_mem _ hc))
theorem rpAll_zip {K : PySem.W.Frag} {C : Addr} {N : Addr → Prop} {H : Hp} : ∀ {xs : List V} {ds : List D}, RpAll K C N H xs ds → (xs.zip ds).map Prod.fst = xs ∧ (xs.zip ds).map Prod.snd = ds ∧ ∀ b ∈ xs.zip ds, Rp K C N H b.1 b.2
  | _, _, .nil => ⟨rfl, rfl, fun _ h => by cases h⟩
  | _, _, .cons (vs := vs) (ds := ds) r t => by
    obtain ⟨h1, h2, h3⟩ := rpAll_zip t
    refine ⟨by rw [List.zip_cons_cons, List.map_cons, h1], by rw [List.zip_cons_cons, List.map_cons, h2], fun b hb => ?_⟩
    rw [List.zip_cons_cons] at hb
    rcases List.mem_cons.mp hb with rfl | hb
    · exact r
    · exact h3 b hb
structure SrtOk (ds : List D) : Prop where
  ok : okDs ds = true
  so : SortOk (ds.map pd)
  len : ds.length ≤ 100000
theorem okDs_mem : ∀ {ds : List D} {d : D}, okDs ds = true → d ∈ ds → okD d = true
  | e :: ds, d, h, hm => by
    rw [okDs, Bool.and_eq_true] at h
    rcases List.mem_cons.mp hm with rfl | hm
    · exact h.1
    · exact okDs_mem h.2 hm
section
variable {w : Wd}
theorem rc_sortL {ds : List D} (h : SrtOk ds) : RCP w (rSortAll w.K) [.lst ds] fun d => d = .lst (ds.mergeSort leDD) := fun ok H xs I r Q q => by
  cases r with
  | cons r t =>
    cases t
    cases r with
    | @lst a vs _ n hs rr =>
      obtain ⟨h1, h2, h3⟩ := rpAll_zip rr
      have e0 : (vs.zip ds).map keyD = ds.map pd := by
        conv => rhs; rw [← h2, List.map_map]
        rfl
      refine .inl ⟨a, vs.zip ds, rfl, by rw [h1]; exact SqL.of hs, fun b hb => (h3 b hb).dp (okDs_mem h.ok (by rw [← h2]; exact List.mem_map_of_mem hb)), by rw [e0]; exact h.so, by have := h.len; have e := congrArg List.length h2; rw [List.length_map] at e; omega, fun p np => ?_⟩
      refine q _ _ _ rfl (Ex.same (same_new np)) (ok.ext _ _ I (same_new np)) (rp_lst ok I np ?_)
      have e : ds.mergeSort leDD = ((vs.zip ds).mergeSort leD).map Prod.snd := by
        conv => lhs; rw [← h2]
        exact (List.map_mergeSort (r := leD) (s := leDD) (f := Prod.snd) (l := vs.zip ds) fun _ _ _ _ => rfl).symm
      rw [e]
      exact rpAll_pairs fun b hb => h3 b ((List.mergeSort_perm _ _).mem_iff.mp hb)
theorem rpKv_keys {K : PySem.W.Frag} {C : Addr} {N : Addr → Prop} {H : Hp} : ∀ {kvs : List (Key × V)} {ds : List (Str × D)}, RpKv K C N H kvs ds → kvs.map (·.1) = (ds.map (·.1)).map Sum.inr
  | _, _, .nil => rfl
  | _, _, .cons _ t => by rw [List.map_cons, rpKv_keys t]; rfl
theorem rc_sortD {ds : List (Str × D)} (h : ds.length ≤ 100000) : RCP w (rSortAll w.K) [.dic ds] fun d => d = .lst (((ds.map (·.1)).mergeSort strLe).map .str) := fun ok H xs I r Q q => by
  cases r with
  | cons r t =>
    cases t
    cases r with
    | @dic a kvs _ n hs rr =>
      exact .inr ⟨a, kvs, ds.map (·.1), rfl, .inl hs, rpKv_keys rr, by rw [List.length_map]; exact h, fun p np => q _ _ _ rfl (Ex.same (same_new np)) (ok.ext _ _ I (same_new np)) (rp_lst ok I np (RpAll.strs _))⟩
theorem rc_minL {d0 : D} {ds : List D} (h : SrtOk (d0 :: ds)) (hn : ∀ d ∈ d0 :: ds, pd d ≠ .none) : RCP w (rMinG w.K) [.lst (d0 :: ds)] fun d => d ∈ d0 :: ds ∧ pd d = PySem.W.minD (pd d0) (ds.map pd) := fun ok H xs I r Q q => by
  cases r with
  | cons r t =>
    cases t
    cases r with
    | @lst a vs _ n hs rr =>
      cases rr with
      | @cons v0 _ vs _ r0 rr =>
        obtain ⟨h1, h2, h3⟩ := rpAll_zip rr
        have e0 : (vs.zip ds).map keyD = ds.map pd := by
          conv => rhs; rw [← h2, List.map_map]
          rfl
        have h4 : ∀ b ∈ (v0, d0) :: vs.zip ds, Rp w.K w.C w.N H b.1 b.2 := fun b hb => by
          rcases List.mem_cons.mp hb with rfl | hb
          · exact r0
          · exact h3 b hb
        have h5 : ∀ b ∈ (v0, d0) :: vs.zip ds, b.2 ∈ d0 :: ds := fun b hb => by
          rcases List.mem_cons.mp hb with rfl | hb
          · exact List.mem_cons_self
          · refine List.mem_cons_of_mem _ ?_
            rw [← h2]
            exact List.mem_map_of_mem hb
        refine ⟨a, (v0, d0), vs.zip ds, rfl, by rw [List.map_cons, h1]; exact SqL.of hs, fun b hb => (h4 b hb).dp (okDs_mem h.ok (h5 b hb)), by rw [List.map_cons, e0]; exact h.so, fun d hd => ?_, fun b hb e => ?_⟩
        · rw [List.map_cons, e0] at hd
          obtain ⟨d', hd', rfl⟩ := List.mem_map.mp (show d ∈ (d0 :: ds).map pd from hd)
          exact hn d' hd'
        · rw [e0] at e
          exact q _ _ H ⟨h5 b hb, e⟩ (Ex.refl H) I (h4 b hb)
end
end Lr
set_option Elab.async false
set_option maxRecDepth 100000
set_option maxHeartbeats 4000000
set_option linter.all false
set_option autoImplicit false
/-! Dicts, fields, methods over data. -/
namespace Lr
open PySem L2 PyProof.Rows
def valD (kvs : List (Str × D)) (k : Str) : Option D := (kvs.find? fun p => decide (p.1 = k)).map (·.2)
def putD (kvs : List (Str × D)) (k : Str) (d : D) : List (Str × D) :=
  if (kvs.any fun p => decide (p.1 = k)) = true then kvs.map (fun p => if p.1 = k then (p.1, d) else p) else kvs ++ [(k, d)]
theorem valD_nil {k : Str} : valD [] k = none := rfl
theorem valD_pos {p : Str × D} {r : List (Str × D)} {k : Str} (e : p.1 = k) : valD (p :: r) k = some p.2 := by simp [valD, List.find?_cons, e]
theorem valD_neg {p : Str × D} {r : List (Str × D)} {k : Str} (e : ¬ p.1 = k) : valD (p :: r) k = valD r k := by simp [valD, List.find?_cons, e]
theorem inr_ne {a k : Str} (h : ¬ a = k) : ¬ (Sum.inr a : Key) = Sum.inr k := fun e => h (Sum.inr.inj e)
section
variable {K : PySem.W.Frag} {C : Addr} {N : Addr → Prop} {H : Hp}
theorem RpKv.val {k : Str} : ∀ {kvs : List (Key × V)} {ds : List (Str × D)}, RpKv K C N H kvs ds → (∀ d, valD ds k = some d → ∃ v, valV kvs (Sum.inr k) = some v ∧ Rp K C N H v d) ∧ (valD ds k = none → valV kvs (Sum.inr k) = none)
  | _, _, .nil => ⟨(fun d h => nomatch h), fun _ => rfl⟩
  | _, _, .cons (k := a) (v := v) (d := d) (vs := vs) (ds := ds) r t => by
    obtain ⟨h1, h2⟩ := RpKv.val (k := k) t
    by_cases e : a = k
    · subst e
      rw [valD_pos rfl, valV_pos rfl]
      exact ⟨fun d' h => ⟨_, rfl, Option.some.inj h ▸ r⟩, fun h => by cases h⟩
    · rw [valD_neg e, valV_neg (inr_ne e)]
      exact ⟨h1, h2⟩
theorem RpKv.any {k : Str} : ∀ {kvs : List (Key × V)} {ds : List (Str × D)}, RpKv K C N H kvs ds → (kvs.any fun p => decide (p.1 = Sum.inr k)) = ds.any fun p => decide (p.1 = k)
  | _, _, .nil => rfl
  | _, _, .cons (k := a) r t => by
    rw [List.any_cons, List.any_cons, RpKv.any t]
    congr 1
    by_cases e : a = k
    · subst e; simp
    · rw [decide_eq_false e, decide_eq_false (inr_ne e)]
theorem RpKv.append : ∀ {xs ys : List (Key × V)} {ds es : List (Str × D)}, RpKv K C N H xs ds → RpKv K C N H ys es → RpKv K C N H (xs ++ ys) (ds ++ es)
  | _, _, _, _, .nil, s => s
  | _, _, _, _, .cons r t, s => .cons r (t.append s)
theorem RpKv.repl {k : Str} {v : V} {d : D} (r0 : Rp K C N H v d) : ∀ {kvs : List (Key × V)} {ds : List (Str × D)}, RpKv K C N H kvs ds → RpKv K C N H (kvs.map fun p => if p.1 = Sum.inr k then (p.1, v) else p) (ds.map fun p => if p.1 = k then (p.1, d) else p)
  | _, _, .nil => .nil
  | _, _, .cons (k := a) r t => by
    rw [List.map_cons, List.map_cons]
    by_cases e : a = k
    · subst e
      rw [if_pos rfl, if_pos rfl]
      exact .cons r0 (RpKv.repl r0 t)
    · rw [if_neg e, if_neg (inr_ne e)]
      exact .cons r (RpKv.repl r0 t)
theorem RpKv.put {k : Str} {v : V} {d : D} {kvs : List (Key × V)} {ds : List (Str × D)} (h : RpKv K C N H kvs ds) (r : Rp K C N H v d) : RpKv K C N H (putK kvs (Sum.inr k) v) (putD ds k d) := by
  unfold putK putD
  rw [h.any]
  split
  · exact h.repl r
  · exact h.append (.cons r .nil)
theorem RpKv.len : ∀ {kvs : List (Key × V)} {ds : List (Str × D)}, RpKv K C N H kvs ds → kvs.length = ds.length
  | _, _, .nil => rfl
  | _, _, .cons _ t => congrArg Nat.succ t.len
theorem RpF.look {f : Str} : ∀ {fs : List (Str × V)} {ds : List (Str × D)}, RpF K C N H fs ds → (∀ d, ds.lookup f = some d → ∃ v, fs.lookup f = some v ∧ Rp K C N H v d) ∧ (ds.lookup f = none → fs.lookup f = none)
  | _, _, .nil => ⟨(fun d h => nomatch h), fun _ => rfl⟩
  | _, _, .cons (k := a) (v := v) (d := d) r t => by
    obtain ⟨h1, h2⟩ := RpF.look (f := f) t
    rw [List.lookup_cons, List.lookup_cons]
    cases e : f == a with
    | true => exact ⟨fun d' h => ⟨_, rfl, Option.some.inj h ▸ r⟩, fun h => by cases h⟩
    | false => exact ⟨h1, h2⟩
end
section
variable {w : Wd} {δ : List (Option D)} {ta tb td ty tv te : TE} {tl : TA} {P : D → Prop} {a b d : D} {kvs : List (Str × D)} {k : Str}
theorem ev_dget (hd : Ev w td δ (.dic kvs)) (hy : Ev w ty δ (.str k)) (h : valD kvs k = some d) : Ev w (tDGet td ty) δ d := fun ok σ H e I Q q =>
  hd ok σ H e I _ fun x v H1 p e1 I1 r => hy ok σ H1 (e.car (Ex.car ok e1)) I1 _ fun y u H2 p2 e2 I2 r2 => by
    subst p
    subst p2
    cases r2
    cases r.car (Ex.car ok e2) with
    | @dic ad vs _ n hs rr =>
      obtain ⟨v', h1, h2⟩ := rr.val.1 _ h
      exact ⟨_, v', rfl, .inl ⟨vs, Sum.inr k, .inl hs, rfl, h1.symm⟩, q _ _ H2 rfl (e1.trans e2) I2 h2⟩
theorem ev_dget1 (hd : Ev w td δ (.dic kvs)) (hy : Ev w ty δ (.str k)) : Ev w (tDGet1 td ty) δ ((valD kvs k).getD .non) := fun ok σ H e I Q q =>
  hd ok σ H e I _ fun x v H1 p e1 I1 r => by
    subst p
    cases r with
    | @dic ad vs _ n hs rr =>
      refine ⟨ad, rfl, .inl ⟨vs, .inl hs⟩, ?_⟩
      refine hy ok σ H1 (e.car (Ex.car ok e1)) I1 _ fun y u H2 p2 e2 I2 r2 => ?_
      subst p2
      cases r2
      have c := Ex.car ok e2
      have hs2 := (c.ns _ _ hs n).1
      refine ⟨valV vs (Sum.inr k), .inl ⟨vs, Sum.inr k, .inl hs2, rfl, rfl⟩, ?_⟩
      cases e3 : valD kvs k with
      | none =>
        rw [rr.val.2 e3]
        exact q _ _ H2 (by rw [e3]; rfl) (e1.trans e2) I2 .non
      | some d =>
        obtain ⟨v', h1, h2⟩ := rr.val.1 _ e3
        rw [h1]
        exact q _ _ H2 (by rw [e3]; rfl) (e1.trans e2) I2 (h2.car c)
theorem dget_in {H : Hp} {x : V} (r : w.Rp H x (.dic kvs)) : ∃ a o, x = .ref a ∧ DGet H a (.str k) o ∧ o.isSome = (valD kvs k).isSome := by
  cases r with
  | @dic ad vs _ n hs rr =>
    refine ⟨ad, valV vs (Sum.inr k), rfl, .inl ⟨vs, Sum.inr k, .inl hs, rfl, rfl⟩, ?_⟩
    cases e3 : valD kvs k with
    | none => rw [rr.val.2 e3]; rfl
    | some d =>
      obtain ⟨v', h1, h2⟩ := rr.val.1 _ e3
      rw [h1]
      rfl
theorem ev_din (hy : Ev w ty δ (.str k)) (hd : Ev w td δ (.dic kvs)) : Ev w (tDIn ty td) δ (.bl (valD kvs k).isSome) := fun ok σ H e I Q q =>
  hy ok σ H e I _ fun y u H1 p e1 I1 r => hd ok σ H1 (e.car (Ex.car ok e1)) I1 _ fun x v H2 p2 e2 I2 r2 => by
    subst p
    subst p2
    cases r
    obtain ⟨a, o, h1, h2, h3⟩ := dget_in (k := k) r2
    exact ⟨a, o, h1, h2, q _ _ H2 (by rw [h3]) (e1.trans e2) I2 (.bl _)⟩
theorem ev_dnotin (hy : Ev w ty δ (.str k)) (hd : Ev w td δ (.dic kvs)) : Ev w (tDNotIn ty td) δ (.bl (!(valD kvs k).isSome)) := fun ok σ H e I Q q =>
  hy ok σ H e I _ fun y u H1 p e1 I1 r => hd ok σ H1 (e.car (Ex.car ok e1)) I1 _ fun x v H2 p2 e2 I2 r2 => by
    subst p
    subst p2
    cases r
    obtain ⟨a, o, h1, h2, h3⟩ := dget_in (k := k) r2
    exact ⟨a, o, h1, h2, q _ _ H2 (by rw [h3]) (e1.trans e2) I2 (.bl _)⟩
/-! a display of texts with whole numbers -/
def consTrs (l : List (Str × Int)) : List (TE × TE) := l.map fun p => (tC (.str p.1), tC (.int p.2))
theorem tPairs_cons : ∀ (l : List (Str × Int)) (σ : L2.St) (H : Hp) (Q : List (V × V) → Hp → Prop), Q (l.map fun p => (V.str p.1, V.int p.2)) H → tPairs (consTrs l) σ H Q
  | [], _, _, _, h => h
  | p :: l, σ, H, Q, h => tPairs_cons l σ H _ h
theorem mergeK_new : ∀ (more acc : List (Key × V)), ((acc ++ more).map (·.1)).Nodup → mergeK acc more = acc ++ more
  | [], acc, _ => by rw [List.append_nil]; rfl
  | p :: more, acc, h => by
    show mergeK (putK acc p.1 p.2) more = _
    have hno : (acc.any fun kv => decide (kv.1 = p.1)) = false := by
      rw [List.any_eq_false]
      intro kv hkv e
      have e := of_decide_eq_true e
      rw [List.map_append, List.map_cons, List.nodup_append] at h
      exact h.2.2 _ (List.mem_map_of_mem hkv) p.1 List.mem_cons_self e
    have e : putK acc p.1 p.2 = acc ++ [p] := by
      unfold putK
      rw [hno]
      rfl
    rw [e, mergeK_new more (acc ++ [p]) (by rw [List.append_assoc]; exact h), List.append_assoc]
    rfl
theorem RpKv.ints {K : PySem.W.Frag} {C : Addr} {N : Addr → Prop} {H : Hp} : ∀ l : List (Str × Int), RpKv K C N H (l.map fun p => ((Sum.inr p.1 : Key), V.int p.2)) (l.map fun p => (p.1, D.int p.2))
  | [] => .nil
  | p :: l => .cons (.int _) (RpKv.ints l)
theorem ev_disp {l : List (Str × Int)} (h15 : l.length ≤ 15) (hnd : (l.map (·.1)).Nodup) : Ev w (tDisp (consTrs l)) δ (.dic (l.map fun p => (p.1, .int p.2))) := fun ok σ H e I Q q p np => by
  refine tPairs_cons l σ _ _ ⟨upd_same, l.map fun p => ((Sum.inr p.1 : Key), V.int p.2), ?_, by rw [List.length_map]; exact h15, ?_⟩
  · rw [List.map_map]; rfl
  · rw [mergeK_new _ [] ?_, List.nil_append]
    · have s : Same H (upd (upd H p (.dK [])) p (.dK (l.map fun p => ((Sum.inr p.1 : Key), V.int p.2)))) := fun a o h => by
        rw [upd_ne (ne_of_none h np), upd_ne (ne_of_none h np)]; exact h
      exact q _ _ _ rfl (Ex.same s) (ok.ext _ _ I s) (.dic (ok.fr _ _ I np) upd_same (RpKv.ints l))
    · rw [List.nil_append, List.map_map, show ((fun x : Key × V => x.1) ∘ fun p : Str × Int => ((Sum.inr p.1 : Key), V.int p.2)) = (Sum.inr ∘ fun p : Str × Int => p.1) from rfl, ← List.map_map]
      exact List.Pairwise.map (Sum.inr : Str → Key) (fun a b h e => h (Sum.inr.inj e)) hnd
/-! fields, methods -/
theorem ev_fld {fs : List (Str × D)} {f : Str} (c : Cls w.K w.C) (n : NoAttr w.K w.C f) (h : Ev w te δ (.ins fs)) (hf : fs.lookup f = some d) : Ev w (tFld w.K te f) δ d := fun ok σ H e I Q q =>
  h ok σ H e I _ fun x v H1 p e1 I1 r => by
    subst p
    cases r with
    | @ins a dx vs _ n' hs rr =>
      obtain ⟨v', h1, h2⟩ := rr.look.1 _ hf
      exact ⟨a, w.C, dx, vs, v', rfl, hs, c, n, h1, q _ _ H1 rfl e1 I1 h2⟩
end
/-- a method of the class at C -/
structure CalM (P : Program) (w : World) (K : PySem.W.Frag) (mg : Str → Option Value) (base : Heap) (k : Nat) (C : Addr) (m : Str) (sp : Sp) : Prop where
  ex : ∃ (f : Addr) (fd : FuncData) (ps : List Str), Meth K C m f ∧ Binds K fd ps [] ∧ FnOk P w K mg base (L2.CX P w) k f fd ps sp
section
variable {X : Cx} {x m : Str} {p pos apos : Pos} {e o : Expr} {es : List Expr} {ta : TE} {t : TA} {sp : Sp} {j k : Nat} {C : Addr}
theorem pe_mth {pl : Sem Bool} (he : PE X o ta) (c : CalM X.prog X.w X.K X.mg X.base k C m sp) (cl : Cls X.K C) (hr : Room j X.A) (ha : PA X (e :: es) t) (hk : k ≤ j := by decide)
    (hst : starEach (e :: es) X.env = (false, eval e X.env) :: starEach es X.env := by rfl) (hpl : (backTo pos (starEach es X.env)).any (·.1) = false := by rfl)
    (ht : eval (.Call (.Attribute o m apos) (e :: es) [] pos) X.env = (do
      let ov ← eval o X.env
      standAt apos.atName
      let (f, first) ← holding [ov] (getMethod ov m pl)
      callWith pos f first (backTo pos (starEach (e :: es) X.env)) (backToKw pos (keywordEach [] X.env))) := by rfl) :
    PE X (.Call (.Attribute o m apos) (e :: es) [] pos) (tMeth C m sp [] E0 ta t) := by
  obtain ⟨f, fd, ps, h1, h2, h3⟩ := c.ex
  exact pe_meth he cl h1 h3 (hr.mono hk) h2 .nil passL ha hst hpl ht
theorem pe_mthX {pl : Sem Bool} {E : XK} (tk : Takes X (fun c d _ H => E c d H)) (he : PE X o ta) (c : CalM X.prog X.w X.K X.mg X.base k C m sp) (cl : Cls X.K C) (hr : Room j X.A) (ha : PA X (e :: es) t) (hk : k ≤ j := by decide)
    (hst : starEach (e :: es) X.env = (false, eval e X.env) :: starEach es X.env := by rfl) (hpl : (backTo pos (starEach es X.env)).any (·.1) = false := by rfl)
    (ht : eval (.Call (.Attribute o m apos) (e :: es) [] pos) X.env = (do
      let ov ← eval o X.env
      standAt apos.atName
      let (f, first) ← holding [ov] (getMethod ov m pl)
      callWith pos f first (backTo pos (starEach (e :: es) X.env)) (backToKw pos (keywordEach [] X.env))) := by rfl) :
    PE X (.Call (.Attribute o m apos) (e :: es) [] pos) (tMeth C m sp [] E ta t) := by
  obtain ⟨f, fd, ps, h1, h2, h3⟩ := c.ex
  exact pe_meth he cl h1 h3 (hr.mono hk) h2 .nil (passes_call tk fun _ _ _ _ h => h) ha hst hpl ht
theorem pe_mth0 {pl : Sem Bool} (he : PE X o ta) (c : CalM X.prog X.w X.K X.mg X.base k C m sp) (cl : Cls X.K C) (hr : Room j X.A) (hk : k ≤ j := by decide)
    (ht : eval (.Call (.Attribute o m apos) [] [] pos) X.env = (do
      let ov ← eval o X.env
      standAt apos.atName
      let (f, first) ← holding [ov] (getMethod ov m pl)
      callWith pos f first (backTo pos (starEach [] X.env)) (backToKw pos (keywordEach [] X.env))) := by rfl) :
    PE X (.Call (.Attribute o m apos) [] [] pos) (tMeth C m sp [] E0 ta tNil) := by
  obtain ⟨f, fd, ps, h1, h2, h3⟩ := c.ex
  exact pe_meth0 he cl h1 h3 (hr.mono hk) h2 .nil passL ht
end
section
variable {w : Wd} {δ : List (Option D)} {tl : TA} {P : D → Prop} {XA : ExAds} {S : Spec} {te : TE} {fs : List (Str × D)} {ds : List D} {m : Str} {E : XK} {PE : Er → Prop}
theorem ev_mthX (h : Ev w te δ (.ins fs)) (hm : fs.lookup m = none) (ha : EvA w tl δ ds) (hS : S (.ins fs :: ds) P PE) (hE : ∀ er c dx H', PE er → w.I H' → ErAt XA er c dx H' → E c dx H') : EvP w (tMeth w.C m (spX w.K w.C XA S) [] E te tl) δ P := fun ok σ H e I Q q =>
  h ok σ H e I _ fun d v H1 p e1 I1 r => by
    subst p
    cases r with
    | @ins a dx vs _ n hs rr =>
      refine ⟨a, dx, vs, rfl, hs, rr.look.2 hm, ?_⟩
      refine ha ok σ H1 (e.car (Ex.car ok e1)) I1 _ fun as xs H2 p2 e2 I2 r2 => ?_
      subst p2
      show spX w.K w.C XA S (.ref a :: (xs ++ [])) H2 Q E
      rw [List.append_nil]
      have c := Ex.car ok e2
      exact ⟨w.N, .ins fs :: as, P, PE, .cons ((Lr.Rp.ins n hs rr).car c) r2, fun a ha => ok.fr _ _ I2 ha, hS, fun d v H' pd s r' => q d v H' pd ((e1.trans e2).trans (Ex.same s)) (ok.ext _ _ I2 s) r', fun er c dx H' z s ea => hE er c dx H' z (ok.ext _ _ I2 s) ea⟩
theorem ev_mth (h : Ev w te δ (.ins fs)) (hm : fs.lookup m = none) (ha : EvA w tl δ ds) (hS : S (.ins fs :: ds) P fun _ => False) : EvP w (tMeth w.C m (spX w.K w.C XA S) [] E te tl) δ P := ev_mthX h hm ha hS fun _ _ _ _ z => z.elim
end
end Lr
set_option Elab.async false
set_option maxRecDepth 100000
set_option maxHeartbeats 4000000
set_option linter.all false
set_option autoImplicit false
/-! Which error is due, by the law. -/
namespace Lr
open PySem L2 PyProof.Rows
def spansB (v x : Nat) (a b : Int) : Bool := (Sc.int x).wi 0 3 && (Sc.int v).wi a (b + 1 - 2 ^ x)
structure Sz where
  n : Nat
  w : Nat
  m : Nat
  t : Nat
def Sz.ds (z : Sz) : List D := [.int (z.n : Nat), .int (z.w : Nat), .int (z.m : Nat), .int (z.t : Nat)]
def Sign.okB (z : Sz) : Sign → Bool
  | .letter a x => spansB a x 0 ((z.n : Int) - 1)
  | .copy d x l y => spansB d x 1 z.w && spansB l y 1 40
  | .again i e l y => ((Sc.int i).wi 0 ((z.m : Int) - 1) && (Sc.int e).wi 0 ((z.w : Int) - 1)) && spansB l y 1 40
  | .turn j => (Sc.int j).wi 0 ((z.t : Int) - 1)
  | .stop => true
def D.ds : D → List D
  | .tup ds => ds
  | .lst ds => ds
  | _ => []
theorem Sign.isT (g : Sign) : g.d = .tup g.d.ds := by cases g <;> rfl
theorem r2_xT' {w : Wd} {a d : D} {W : World} {i : Int} (ha : a = .tup a.ds) (h : atI a.ds i = some d) : R2P w (rIxU w.K W) a (.int i) fun x => x = d := by
  rw [ha]
  exact r2_xT h
def SgR.okB (z : Sz) : SgR → Bool
  | .sg g => g.okB z
  | .bad => false
abbrev s_law_spans : Stmt := topS 76
abbrev ns_law_spans : List Str := ["_law_value", "_law_extra_here", "_law_least", "_law_most"]
theorem sc_law_spans : FnScope ns_law_spans ["_law_value", "_law_extra_here", "_law_least", "_law_most"] (defScope s_law_spans) := ⟨rfl, rfl, rfl, by decide +kernel, rfl, by decide +kernel, by decide +kernel⟩
abbrev s_law_valid : Stmt := topS 77
abbrev ns_law_valid : List Str := ["_law_sign", "_law_sizes", "_law_parts", "_law_placed"]
theorem sc_law_valid : FnScope ns_law_valid ["_law_sign", "_law_sizes"] (defScope s_law_valid) := ⟨rfl, rfl, rfl, by decide +kernel, rfl, by decide +kernel, by decide +kernel⟩
section
variable {P : Program} {w : World} {K : PySem.W.Frag} {mg : Str → Option Value} {base : Heap} {C : Addr} {XA : ExAds}
def sSpans : Spec := fun ds P _ => ∃ (v x : Nat) (a b : Int), ds = [.int (v : Nat), .int (x : Nat), .int a, .int b] ∧ P (.bl (spansB v x a b))
theorem wi_le {x : Nat} (h : (Sc.int x).wi 0 3 = true) : x ≤ 3 := by
  simp only [Sc.wi, Bool.and_eq_true, decide_eq_true_eq] at h
  omega
theorem c_law_spans (F : Df K mg "_law_spans" s_law_spans ["_law_value", "_law_extra_here", "_law_least", "_law_most"]) (c_law_number : Cal P w K mg base 1 "_law_number" (spX K C XA sNumber)) (c_law_two : Cal P w K mg base 1 "_law_two" (spX K C XA sTwo)) :
    Cal P w K mg base 2 "_law_spans" (spX K C XA sSpans) := by
  refine fn_X F sc_law_spans (fun ds Q E ⟨_, _, _, _, e, _⟩ => by rw [e]; rfl) fun f cdv A outer s H E hr => ⟨_, (pss_one (ps_ret (pe_and (pe_cal c_law_number hr (pa_cons (pv 1) (pa_cons pe_int (pa_cons pe_int pa_nil)))) (pe_one (pe_cal c_law_number hr (pa_cons (pv 0) (pa_cons (pv 2) (pa_cons (pe_op xSub (pe_op (xAdd K) (pv 3) pe_int) (pe_cal c_law_two hr (pa_cons (pv 1) pa_nil))) pa_nil)))))))), ?_⟩
  rintro N H0 ds Pd PE ⟨v, x, a, b, rfl, hp⟩ hE De hrt hnx
  have bb := pure_base (K := K) (C := C) (N := N) (H0 := H0)
  refine go_ret bb.ok (ev_andV (ev_call (P := fun d => d = .bl ((Sc.int x).wi 0 3)) (ea_cons (ev_var rfl) (ea_cons ev_int (ea_cons ev_int ea_nil))) ⟨.int x, _, _, rfl, rfl⟩) fun h => ev_call (P := fun d => d = .bl ((Sc.int v).wi a (b + 1 - 2 ^ x))) (ea_cons (ev_var rfl) (ea_cons (ev_var rfl) (ea_cons
    (ev_op (ev_op (ev_var rfl) ev_int r2_add) (ev_call (P := fun d => d = .int (2 ^ x)) (ea_cons (ev_var rfl) ea_nil) ⟨x, rfl, by have := wi_le h; omega, rfl⟩) r2_sub) ea_nil))) ⟨.int v, _, _, rfl, rfl⟩) fun d v H pd e I r => ?_
  subst pd
  exact hrt _ _ _ hp e r
def sValid : Spec := fun ds P _ => ∃ (g : SgR) (z : Sz), ds = [g.d, .lst z.ds] ∧ P (.bl (g.okB z))
theorem c_law_valid (F : Df K mg "_law_valid" s_law_valid ["_law_sign", "_law_sizes"]) (B : Blt mg) (c_law_number : Cal P w K mg base 1 "_law_number" (spX K C XA sNumber)) (c_law_spans : Cal P w K mg base 2 "_law_spans" (spX K C XA sSpans)) :
    Cal P w K mg base 3 "_law_valid" (spX K C XA sValid) := by
  refine fn_X F sc_law_valid (fun ds Q E ⟨_, _, e, _⟩ => by rw [e]; rfl) fun f cdv A outer s H E hr => ⟨_, (pss_cons (ps_st 2 sc_law_valid.nd (pe_disp (pps_cons pe_str pe_int (pps_cons pe_str pe_int (pps_cons pe_str pe_int (pps_cons pe_str pe_int (pps_cons pe_str pe_int pps_nil))))) rfl rfl (by simp) (by decide)))
        (pss_cons (ps_if (PW.pt (pw_or (pt_not (pt_val (pe_callB call_isi rfl B.b_isinstance bt_isinstance (pa_cons (pv 0) (pa_cons (pe_bltn (v := .ty "tuple") rfl B.b_tuple bt_tuple rfl) pa_nil))))) (pw_or1 (pt_cmpR (xNe K hr.units) (pe_dget1 (Nat.lt_of_le_of_lt (Nat.add_le_add_left (by decide) _) hr.units) (pv 2) (pe_ix (xIx K w) (pv 0) pe_int (fun _ _ => rfl)) ⟨rfl, rfl, rfl, rfl⟩) (pe_callB (xLen K) rfl B.b_len bt_len (pa_cons (pv 0) pa_nil)) (nomark _))))) (pss_one (ps_ret pe_bl)) pss_nil)
        (pss_cons (ps_if (pt_cmpR (xEq K hr.units) (pe_ix (xIx K w) (pv 0) pe_int (fun _ _ => rfl)) pe_str (nomark _)) (pss_one (ps_ret (pe_cal c_law_spans hr (pa_cons (pe_ix (xIx K w) (pv 0) pe_int (fun _ _ => rfl)) (pa_cons (pe_ix (xIx K w) (pv 0) pe_int (fun _ _ => rfl)) (pa_cons pe_int (pa_cons (pe_op xSub (pe_ix (xIx K w) (pv 1) pe_int (fun _ _ => rfl)) pe_int) pa_nil))))))) pss_nil)
        (pss_cons (ps_if (pt_cmpR (xEq K hr.units) (pe_ix (xIx K w) (pv 0) pe_int (fun _ _ => rfl)) pe_str (nomark _)) (pss_one (ps_ret (pe_and (pe_cal c_law_spans hr (pa_cons (pe_ix (xIx K w) (pv 0) pe_int (fun _ _ => rfl)) (pa_cons (pe_ix (xIx K w) (pv 0) pe_int (fun _ _ => rfl)) (pa_cons pe_int (pa_cons (pe_ix (xIx K w) (pv 1) pe_int (fun _ _ => rfl)) pa_nil))))) (pe_one (pe_cal c_law_spans hr (pa_cons (pe_ix (xIx K w) (pv 0) pe_int (fun _ _ => rfl)) (pa_cons (pe_ix (xIx K w) (pv 0) pe_int (fun _ _ => rfl)) (pa_cons pe_int (pa_cons pe_int pa_nil))))))))) pss_nil)
        (pss_cons (ps_if (pt_cmpR (xEq K hr.units) (pe_ix (xIx K w) (pv 0) pe_int (fun _ _ => rfl)) pe_str (nomark _)) (pss_cons (ps_st 3 sc_law_valid.nd (pe_and (pe_cal c_law_number hr (pa_cons (pe_ix (xIx K w) (pv 0) pe_int (fun _ _ => rfl)) (pa_cons pe_int (pa_cons (pe_op xSub (pe_ix (xIx K w) (pv 1) pe_int (fun _ _ => rfl)) pe_int) pa_nil)))) (pe_one (pe_cal c_law_number hr (pa_cons (pe_ix (xIx K w) (pv 0) pe_int (fun _ _ => rfl)) (pa_cons pe_int (pa_cons (pe_op xSub (pe_ix (xIx K w) (pv 1) pe_int (fun _ _ => rfl)) pe_int) pa_nil)))))))
        (pss_one (ps_ret (pe_and (pv 3) (pe_one (pe_cal c_law_spans hr (pa_cons (pe_ix (xIx K w) (pv 0) pe_int (fun _ _ => rfl)) (pa_cons (pe_ix (xIx K w) (pv 0) pe_int (fun _ _ => rfl)) (pa_cons pe_int (pa_cons pe_int pa_nil)))))))))) pss_nil)
        (pss_one (ps_ret (pe_or (pe_cmpR (xEq K hr.units) (pe_ix (xIx K w) (pv 0) pe_int (fun _ _ => rfl)) pe_str (nomark _)) (pe_one (pe_cal c_law_number hr (pa_cons (pe_ix (xIx K w) (pv 0) pe_int (fun _ _ => rfl)) (pa_cons pe_int (pa_cons (pe_op xSub (pe_ix (xIx K w) (pv 1) pe_int (fun _ _ => rfl)) pe_int) pa_nil))))))))))))), ?_⟩
  rintro N H0 ds Pd PE ⟨g, z, rfl, hp⟩ hE De hrt hnx
  have bb := pure_base (K := K) (C := C) (N := N) (H0 := H0)
  refine go_asg bb.ok (ev_disp (l := [("letter", 3), ("copy", 5), ("again", 5), ("turn", 2), ("stop", 1)]) (by decide) (by decide)) fun _ e => ?_
  subst e
  have fin : ∀ {M : ML} {δ : List (Option D)} {te : TE} {k : Bool}, Ev ((pureW K C N H0).wi M) te δ (.bl k) → k = g.okB z → Go (pureW K C N H0) H0 [] M δ (tRet te) De := fun h e => go_ret bb.ok h fun d v H pd ex I r => by
    subst pd
    subst e
    exact hrt _ _ _ hp ex r
  cases g with
  | bad =>
    refine go_when bb.ok (et_ord (y := true) (et_notd (et_Bd (ev_isi (ev_var rfl) rfl rfl))) fun h => by cases h) (fun _ => ?_) fun h => by cases h
    exact fin ev_bl rfl
  | sg g =>
    have e0 : ∀ (M : ML) (δ : List (Option D)) (x : Str) (r : List D), δ[0]? = some (some (.tup (.str x :: r))) → Ev ((pureW K C N H0).wi M) (tOp (rIxU K w) (tVar 0) (tC (.int 0))) δ (.str x) := fun M δ x r h => ev_op (ev_var h) ev_int (r2_xT (atI_nat (j := 0) rfl))
    have ei : ∀ {M : ML} {δ : List (Option D)} {i : Int} {d : D}, atI g.d.ds i = some d → δ[0]? = some (some g.d) → Ev ((pureW K C N H0).wi M) (tOp (rIxU K w) (tVar 0) (tC (.int i))) δ d := fun h h0 => ev_op (ev_var h0) ev_int (r2_xT' (Sign.isT g) h)
    have ez : ∀ {M : ML} {δ : List (Option D)} {i : Int} {d : D}, atI z.ds i = some d → δ[1]? = some (some (.lst z.ds)) → Ev ((pureW K C N H0).wi M) (tOp (rIxU K w) (tVar 1) (tC (.int i))) δ d := fun h h0 => ev_op (ev_var h0) ev_int (r2_xL h)
    have number : ∀ {M : ML} {δ : List (Option D)} {ta tb tc : TE} {i a b : Int}, Ev ((pureW K C N H0).wi M) ta δ (.int i) → Ev ((pureW K C N H0).wi M) tb δ (.int a) → Ev ((pureW K C N H0).wi M) tc δ (.int b) → Ev ((pureW K C N H0).wi M) (tCall (spX K C XA sNumber) [] E0 (tCons ta (tCons tb (tCons tc tNil)))) δ (.bl ((Sc.int i).wi a b)) := fun ha hb hc => ev_call (ea_cons ha (ea_cons hb (ea_cons hc ea_nil))) ⟨.int _, _, _, rfl, rfl⟩
    have span : ∀ {M : ML} {δ : List (Option D)} {ta tx tb tc : TE} {i x : Nat} {a b : Int}, Ev ((pureW K C N H0).wi M) ta δ (.int (i : Nat)) → Ev ((pureW K C N H0).wi M) tx δ (.int (x : Nat)) → Ev ((pureW K C N H0).wi M) tb δ (.int a) → Ev ((pureW K C N H0).wi M) tc δ (.int b) → Ev ((pureW K C N H0).wi M) (tCall (spX K C XA sSpans) [] E0 (tCons ta (tCons tx (tCons tb (tCons tc tNil))))) δ (.bl (spansB i x a b)) := fun ha hx hb hc => ev_call (ea_cons ha (ea_cons hx (ea_cons hb (ea_cons hc ea_nil)))) ⟨_, _, _, _, rfl, rfl⟩
    have is : ∀ {M : ML} {δ : List (Option D)} {x y : Str} {r : List D} , g.d = .tup (.str x :: r) → δ[0]? = some (some g.d) → EvT ((pureW K C N H0).wi M) (tTest (tOp (rEqU K) (tOp (rIxU K w) (tVar 0) (tC (.int 0))) (tC (.str y)))) δ (decide (x = y)) := fun h h0 => et_testd (ev_op (e0 _ _ _ _ (by rw [h0, h])) ev_str r2_eS)
    have pd_ : ∀ {M : ML} {x : Str} {r : List D} {i : Int}, g.d = .tup (.str x :: r) → valD [("letter", D.int 3), ("copy", .int 5), ("again", .int 5), ("turn", .int 2), ("stop", .int 1)] x = some (.int i) → ((.str x :: r : List D).length : Int) = i → EvT ((pureW K C N H0).wi M) (tTest (tOp (rNeU K) (tDGet1 (tVar 2) (tOp (rIxU K w) (tVar 0) (tC (.int 0)))) (tCB (rLenU K) (tCons (tVar 0) tNil)))) [some g.d, some (.lst z.ds), some (.dic [("letter", .int 3), ("copy", .int 5), ("again", .int 5), ("turn", .int 2), ("stop", .int 1)]), none] false := fun {M x r i} h hv hl => by
      have := ev_dget1 (w := (pureW K C N H0).wi M) (δ := [some g.d, some (.lst z.ds), some (.dic [("letter", .int 3), ("copy", .int 5), ("again", .int 5), ("turn", .int 2), ("stop", .int 1)]), none]) (td := tVar 2) (ev_var rfl) (e0 M _ x r (by rw [← h]; rfl))
      rw [hv] at this
      refine et_testd (ev_is (ev_op this (ev_cb (ea_cons (ev_var (i := 0) rfl) ea_nil) (rc_len (n := (D.str x :: r).length) (by rw [h]; rfl))) r2_nI) ?_)
      rw [decide_eq_true hl.symm]
      rfl
    refine go_when bb.ok (Pb := fun b => b = false) (et_ord (y := false) (et_notd (et_Bd (ev_isi (T := "tuple") (k := true) (ev_var rfl) (by cases g <;> rfl) rfl))) fun _ => ?_) (fun h => by cases h) fun _ => ?_
    · cases g with
      | letter a x => exact pd_ rfl rfl rfl
      | copy d x l y => exact pd_ rfl rfl rfl
      | again i e l y => exact pd_ rfl rfl rfl
      | turn j => exact pd_ rfl rfl rfl
      | stop => exact pd_ rfl rfl rfl
    cases g with
    | letter a x =>
      refine go_when bb.ok (is rfl rfl) (fun _ => ?_) fun h => absurd h (by decide)
      exact fin (span (ei rfl rfl) (ei rfl rfl) ev_int (ev_op (ez rfl rfl) ev_int r2_sub)) rfl
    | copy d x l y =>
      refine go_when bb.ok (is rfl rfl) (fun h => absurd h (by decide)) fun _ => ?_
      refine go_when bb.ok (is rfl rfl) (fun _ => ?_) fun h => absurd h (by decide)
      exact fin (ev_andV (span (ei rfl rfl) (ei rfl rfl) ev_int (ez rfl rfl)) fun _ => span (ei rfl rfl) (ei rfl rfl) ev_int ev_int) rfl
    | again i e l y =>
      refine go_when bb.ok (is rfl rfl) (fun h => absurd h (by decide)) fun _ => ?_
      refine go_when bb.ok (is rfl rfl) (fun h => absurd h (by decide)) fun _ => ?_
      refine go_when bb.ok (is rfl rfl) (fun _ => ?_) fun h => absurd h (by decide)
      refine go_asg bb.ok (ev_andV (number (ei rfl rfl) ev_int (ev_op (ez rfl rfl) ev_int r2_sub)) fun _ => number (ei rfl rfl) ev_int (ev_op (ez rfl rfl) ev_int r2_sub)) fun _ e => ?_
      subst e
      exact fin (ev_andV (ev_var rfl) fun _ => span (ei rfl rfl) (ei rfl rfl) ev_int ev_int) rfl
    | turn j =>
      refine go_when bb.ok (is rfl rfl) (fun h => absurd h (by decide)) fun _ => ?_
      refine go_when bb.ok (is rfl rfl) (fun h => absurd h (by decide)) fun _ => ?_
      refine go_when bb.ok (is rfl rfl) (fun h => absurd h (by decide)) fun _ => ?_
      refine fin (ev_orV (ev_op (e0 _ _ _ _ rfl) ev_str r2_eS) fun _ => number (ei rfl rfl) ev_int (ev_op (ez rfl rfl) ev_int r2_sub)) ?_
      show (decide (("turn" : Str) = "stop") || _) = _
      rw [show decide (("turn" : Str) = "stop") = false from by decide +kernel, Bool.false_or]
      rfl
    | stop =>
      refine go_when bb.ok (is rfl rfl) (fun h => absurd h (by decide)) fun _ => ?_
      refine go_when bb.ok (is rfl rfl) (fun h => absurd h (by decide)) fun _ => ?_
      refine go_when bb.ok (is rfl rfl) (fun h => absurd h (by decide)) fun _ => ?_
      refine fin (ev_orV (y := false) (ev_op (e0 _ _ _ _ rfl) ev_str r2_eS) fun h => absurd h (by decide)) ?_
      rw [Bool.or_false]
      exact decide_eq_true rfl
end
end Lr
set_option Elab.async false
set_option maxRecDepth 100000
set_option maxHeartbeats 4000000
set_option linter.all false
set_option autoImplicit false
/-! Data that can be compared; which error is due, by the law. -/
namespace Lr
open PySem L2 PyProof.Rows
def shD : Nat → D → Bool
  | _, .non => true
  | _, .bl _ => true
  | _, .int _ => true
  | _, .str x => PyData.strOk x
  | n + 1, .lst ds => ds.all (shD n)
  | n + 1, .tup ds => ds.all (shD n)
  | _, _ => false
theorem okDs_all : ∀ {ds : List D}, (∀ d ∈ ds, okD d = true) → okDs ds = true
  | [], _ => by simp [okDs]
  | d :: ds, h => by rw [okDs, h d List.mem_cons_self, okDs_all fun e he => h e (List.mem_cons_of_mem _ he)]; rfl
theorem pds_map : ∀ ds : List D, pds ds = ds.map pd
  | [] => by simp [pds]
  | d :: ds => by rw [pds, pds_map ds]; rfl
theorem canLayAll_of : ∀ {ds : List PyData}, (∀ d ∈ ds, d.canLay0 = true) → PyData.canLayAll0 ds = true
  | [], _ => by simp [PyData.canLayAll0]
  | d :: ds, h => by rw [PyData.canLayAll0, h d List.mem_cons_self, canLayAll_of fun e he => h e (List.mem_cons_of_mem _ he)]; rfl
theorem shD_ok : ∀ {n : Nat} {d : D}, shD n d = true → okD d = true ∧ (pd d).canLay0 = true ∧ (pd d).depth ≤ n
  | n, .non, _ => by cases n <;> simp [okD, pd, PyData.canLay0, PyData.depth]
  | n, .bl _, _ => by cases n <;> simp [okD, pd, PyData.canLay0, PyData.depth]
  | n, .int _, _ => by cases n <;> simp [okD, pd, PyData.canLay0, PyData.depth]
  | n, .str x, h => by
    have h : PyData.strOk x = true := by cases n <;> exact h
    simp [okD, pd, PyData.canLay0, PyData.depth, h]
  | 0, .lst _, h => by cases h
  | 0, .tup _, h => by cases h
  | 0, .dic _, h => by cases h
  | 0, .ins _, h => by cases h
  | 0, .adr _, h => by cases h
  | _ + 1, .dic _, h => by cases h
  | _ + 1, .ins _, h => by cases h
  | _ + 1, .adr _, h => by cases h
  | n + 1, .lst ds, h => by
    have h : ds.all (shD n) = true := h
    rw [List.all_eq_true] at h
    refine ⟨by rw [okD]; exact okDs_all fun d hd => (shD_ok (h d hd)).1, ?_, ?_⟩
    · rw [pd, pds_map, PyData.canLay0]
      exact canLayAll_of fun d hd => by obtain ⟨e, he, rfl⟩ := List.mem_map.mp hd; exact (shD_ok (h e he)).2.1
    · rw [pd, pds_map, PyData.depth]
      have := depthAll_le (ds := ds.map pd) (n := n) fun d hd => by obtain ⟨e, he, rfl⟩ := List.mem_map.mp hd; exact (shD_ok (h e he)).2.2
      omega
  | n + 1, .tup ds, h => by
    have h : ds.all (shD n) = true := h
    rw [List.all_eq_true] at h
    refine ⟨by rw [okD]; exact okDs_all fun d hd => (shD_ok (h d hd)).1, ?_, ?_⟩
    · rw [pd, pds_map, PyData.canLay0]
      exact canLayAll_of fun d hd => by obtain ⟨e, he, rfl⟩ := List.mem_map.mp hd; exact (shD_ok (h e he)).2.1
    · rw [pd, pds_map, PyData.depth]
      have := depthAll_le (ds := ds.map pd) (n := n) fun d hd => by obtain ⟨e, he, rfl⟩ := List.mem_map.mp hd; exact (shD_ok (h e he)).2.2
      omega
theorem eqOk_sh {n : Nat} {d : D} (h : shD n d = true) (hn : n ≤ 64 := by decide) : eqOk d = true := by
  obtain ⟨h1, h2, h3⟩ := shD_ok h
  unfold eqOk SeqAt.shaped
  rw [h1, h2, decide_eq_true (Nat.le_trans h3 hn)]
  rfl
theorem sh_map {α : Type} {n : Nat} {f : α → D} {l : List α} (h : ∀ x ∈ l, shD n (f x) = true) : shD (n + 1) (.lst (l.map f)) = true := by
  show (l.map f).all (shD n) = true
  rw [List.all_eq_true]
  intro d hd
  obtain ⟨x, hx, rfl⟩ := List.mem_map.mp hd
  exact h x hx
theorem sh_mapT {α : Type} {n : Nat} {f : α → D} {l : List α} (h : ∀ x ∈ l, shD n (f x) = true) : shD (n + 1) (.tup (l.map f)) = true := sh_map h
theorem ok_letter : PyData.strOk ("letter" : Str) = true := by decide +kernel
theorem ok_copy : PyData.strOk ("copy" : Str) = true := by decide +kernel
theorem ok_again : PyData.strOk ("again" : Str) = true := by decide +kernel
theorem ok_turn : PyData.strOk ("turn" : Str) = true := by decide +kernel
theorem ok_stop : PyData.strOk ("stop" : Str) = true := by decide +kernel
theorem Tok.sh (t : Tok) : shD 1 t.d = true := by cases t <;> simp [shD, Tok.d, ok_letter, ok_copy, ok_again, ok_turn, ok_stop]
theorem Sign.sh (t : Sign) : shD 1 t.d = true := by cases t <;> simp [shD, Sign.d, ok_letter, ok_copy, ok_again, ok_turn, ok_stop]
theorem nat_beq (a b : Nat) : ((a : Int) == (b : Int)) = decide (a = b) := by
  by_cases h : a = b
  · subst h; simp
  · rw [decide_eq_false h]
    exact beq_eq_false_iff_ne.mpr (by omega)
theorem tok_eqv (a b : Tok) : PyData.eqv (pd a.d) (pd b.d) = decide (a = b) := by
  have n1 : (("letter" : Str) == "turn") = false := by decide +kernel
  have n2 : (("turn" : Str) == "letter") = false := by decide +kernel
  cases a <;> cases b <;> simp [Tok.d, pd, pds, PyData.eqv, PyData.eqvAll, n1, n2, nat_beq]
theorem ok_bs (l : List Bool) : PyData.strOk (bs l) = true := by
  unfold PyData.strOk bs
  rw [List.all_toArray, List.all_map, List.all_eq_true]
  intro b _
  cases b <;> decide
/-! ### too full, by the law -/
def overF : Int → List (Nat × Nat) → Option Nat
  | _, [] => none
  | left, p :: r => if left - 1024 / 2 ^ p.1 < 0 then some p.2 else overF (left - 1024 / 2 ^ p.1) r
def liLe (a b : Nat × Nat) : Bool := decide (a.1 < b.1 ∨ (a.1 = b.1 ∧ a.2 ≤ b.2))
def sortLI (ls : List Nat) : List (Nat × Nat) := ls.zipIdx.mergeSort liLe
def overfull (ls : List Nat) : Option Nat := overF 1024 (sortLI ls)
def liD (p : Nat × Nat) : D := .tup [.int (p.1 : Nat), .int (p.2 : Nat)]
def optD : Option Nat → D
  | none => .non
  | some i => .int (i : Nat)
theorem liD_le (a b : Nat × Nat) : leDD (liD a) (liD b) = liLe a b := by
  have h := congrFun (congrFun (PySem.W.dataLe_ii (fun p : Nat × Nat => (p.1 : Int)) (fun p : Nat × Nat => (p.2 : Int))) a) b
  have e : leDD (liD a) (liD b) = PySem.W.dataLe false (fun p : Nat × Nat => PyData.tuple [.int (p.1 : Int), .int (p.2 : Int)]) a b := by
    show (!PySem.W.dataLt (pd (liD b)) (pd (liD a))) = (!PySem.W.dataLt (PyData.tuple [.int (b.1 : Int), .int (b.2 : Int)]) (PyData.tuple [.int (a.1 : Int), .int (a.2 : Int)]))
    simp only [liD, pd, pds]
  rw [e, h]
  unfold liLe
  apply decide_eq_decide.mpr
  omega
def Sc.nat : Sc → Nat
  | .int i => i.toNat
  | _ => 0
def PairR.ok (p : PairR) : Bool := p.tup && !p.three && p.n.wi 1 10
theorem Sc.wi_nat {s : Sc} {a b : Int} (h : s.wi a b = true) (h0 : 0 ≤ a) : s.d = .int (s.nat : Nat) ∧ a ≤ s.nat ∧ (s.nat : Int) ≤ b := by
  cases s with
  | int i =>
    simp only [Sc.wi, Bool.and_eq_true, decide_eq_true_eq] at h
    have : ((i.toNat : Nat) : Int) = i := Int.toNat_of_nonneg (by omega)
    exact ⟨by show D.int i = D.int ((i.toNat : Nat) : Int); rw [this], by show a ≤ ((i.toNat : Nat) : Int); omega, by show ((i.toNat : Nat) : Int) ≤ b; omega⟩
  | tru => cases h
  | non => cases h
theorem PairR.ok_n {p : PairR} (h : p.ok = true) : p.n.d = .int (p.n.nat : Nat) ∧ 1 ≤ p.n.nat ∧ p.n.nat ≤ 10 := by
  unfold PairR.ok at h
  rw [Bool.and_eq_true] at h
  obtain ⟨h1, h2, h3⟩ := Sc.wi_nat h.2 (by omega)
  exact ⟨h1, by omega, by omega⟩
theorem sh_li (p : Nat × Nat) : shD 1 (liD p) = true := rfl
theorem srtOk_tup {α : Type} {l : List α} {f : α → D} {n : Nat} (hs : ∀ x ∈ l, shD n (f x) = true) (hn : n ≤ 8) (ha : PySem.W.AllAlike ((l.map f).map pd)) (ht : PySem.W.Sortable ((l.map f).map pd)) (hl : l.length ≤ 100000) : SrtOk (l.map f) where
  ok := okDs_all fun d hd => by obtain ⟨x, hx, rfl⟩ := List.mem_map.mp hd; exact (shD_ok (hs x hx)).1
  so := ⟨ha, ht, fun d hd => by
    obtain ⟨e, he, rfl⟩ := List.mem_map.mp hd
    obtain ⟨x, hx, rfl⟩ := List.mem_map.mp he
    exact Nat.le_trans (shD_ok (hs x hx)).2.2 hn⟩
  len := by rw [List.length_map]; exact hl
theorem srtOk_li {l : List (Nat × Nat)} (hl : l.length ≤ 100000) : SrtOk (l.map liD) := by
  refine srtOk_tup (n := 1) (fun x _ => rfl) (by decide) ?_ ?_ hl
  · rw [List.map_map]
    exact PySem.W.AllAlike.of fun a b => by simp [liD, pd, pds, PySem.W.alike, PySem.W.alikeAll]
  · rw [List.map_map]
    exact PySem.W.Sortable.tuples fun b => ⟨.int (b.1 : Nat), [.int (b.2 : Nat)], by simp only [Function.comp_apply, liD, pd, pds]⟩
abbrev s_law_overfull : Stmt := topS 78
abbrev ns_law_overfull : List Str := ["_law_pairs", "_law_left", "_law_length", "_law_at", "_law_k"]
theorem sc_law_overfull : FnScope ns_law_overfull ["_law_pairs"] (defScope s_law_overfull) := ⟨rfl, rfl, rfl, by decide +kernel, rfl, by decide +kernel, by decide +kernel⟩
abbrev s_law_first_error : Stmt := topS 79
abbrev ns_law_first_error : List Str := ["_law_sizes", "_law_pairs", "_law_which", "_law_pair", "_law_tokens", "_law_part", "_law_letter"]
theorem sc_law_first_error : FnScope ns_law_first_error ["_law_sizes", "_law_pairs"] (defScope s_law_first_error) := ⟨rfl, rfl, rfl, by decide +kernel, rfl, by decide +kernel, by decide +kernel⟩
section
variable {P : Program} {w : World} {K : PySem.W.Frag} {mg : Str → Option Value} {base : Heap} {C : Addr} {XA : ExAds}
def sOverfull : Spec := fun ds P _ => ∃ ps : List PairR, ds = [pairsD ps] ∧ ps.length ≤ 1000 ∧ (∀ p ∈ ps, p.ok = true) ∧ P (optD (overfull (ps.map fun p => p.n.nat)))
theorem zip_map {α β : Type} (f : α → β) : ∀ (l : List α) (k : Nat), (l.map f).zipIdx k = (l.zipIdx k).map fun p => (f p.1, p.2)
  | [], _ => rfl
  | x :: l, k => by rw [List.map_cons, List.zipIdx_cons, List.zipIdx_cons, List.map_cons, zip_map f l (k + 1)]
theorem c_law_overfull (F : Df K mg "_law_overfull" s_law_overfull ["_law_pairs"]) (B : Blt mg) (c_law_two : Cal P w K mg base 1 "_law_two" (spX K C XA sTwo)) : Cal P w K mg base 2 "_law_overfull" (spX K C XA sOverfull) := by
  refine fn_X F sc_law_overfull (fun ds Q E ⟨_, e, _⟩ => by rw [e]; rfl) fun f cdv A outer s H E hr => ⟨_, (pss_cons (ps_st 1 sc_law_overfull.nd pe_int)
        (pss_cons (ps_for (passes_of rfl) rfl (pi_list (pe_callB (xSorted K hr.units) rfl B.b_sorted bt_sorted (pa_cons (pe_lc (own := [("_law_k", 4)]) (g := gName 4) (tt := tYes) rfl sc_law_overfull.nd (pi_range1 rfl B.b_range (pa_cons (pe_callB (xLen K) rfl B.b_len bt_len (pa_cons (pv 0) pa_nil)) pa_nil)) (blkOk_by (N := ns_law_overfull) (sc := defScope s_law_overfull) (by decide +kernel)) (fun _ _ _ _ _ => (pg_nm 4 sc_law_overfull.nd)) (fun _ _ _ _ _ => pts_nil) (fun _ _ _ _ _ => (pe_tup (pa_cons (pe_ix (xIx K w) (pe_ix (xIx K w) (pv 0) (pv 4) (fun _ _ => rfl)) pe_int (fun _ _ => rfl)) (pa_cons (pv 4) pa_nil))))) pa_nil))) (pg_tup rfl (pgs_cons (pg_nm 2 sc_law_overfull.nd) (pgs_cons (pg_nm 3 sc_law_overfull.nd) pgs_nil))) (pss_cons (ps_st 1 sc_law_overfull.nd (pe_op xSub (pv 1) (pe_op xDiv pe_int (pe_cal c_law_two hr (pa_cons (pv 2) pa_nil)))))
        (pss_one (ps_if (pt_cmpR xLt (pv 1) pe_int (nomark _)) (pss_one (ps_ret (pv 3))) pss_nil))))
        (pss_one (ps_ret pe_non)))), ?_⟩
  rintro N H0 ds Pd PE ⟨ps, rfl, hl, hok, hp⟩ hE De hrt hnx
  have bb := pure_base (K := K) (C := C) (N := N) (H0 := H0)
  refine go_asg bb.ok ev_int fun _ e => ?_
  subst e
  let ls := ps.map fun p => p.n.nat
  have hls : ls.length = ps.length := List.length_map _
  have hzl : (ls.zipIdx).length = ps.length := by rw [List.length_zipIdx, hls]
  have hsl : (sortLI ls).length = ps.length := by unfold sortLI; rw [List.length_mergeSort, hzl]
  have hmem : ∀ p ∈ sortLI ls, 1 ≤ p.1 ∧ p.1 ≤ 10 := fun p hp => by
    have h1 : p ∈ ls.zipIdx := (List.mergeSort_perm _ _).mem_iff.mp hp
    have h2 := List.mem_zipIdx_iff_getElem?.mp h1
    obtain ⟨q, hq, e⟩ := List.mem_map.mp (List.mem_of_getElem? h2)
    rw [← e]
    exact (PairR.ok_n (hok q hq)).2
  have hsort : Ev ((pureW K C N H0).wi []) (tCB (rSortAll K) (tCons (tLc (iRng1 (tCons (tCB (rLenU K) (tCons (tVar 0) tNil)) tNil)) (gName 4) tYes (tTup (tCons (tOp (rIxU K w) (tOp (rIxU K w) (tVar 0) (tVar 4)) (tC (.int 1))) (tCons (tVar 4) tNil))) [4]) tNil)) ((startD ns_law_overfull [pairsD ps]).set 1 (some (.int 1024))) (.lst ((sortLI ls).map liD)) := by
    refine EvP.imp (ev_cb (ea_cons (ev_lcmap bb (ei_rng1 (ea_cons (ev_cb (ea_cons (ev_var (i := 0) rfl) ea_nil) (rc_len rfl)) ea_nil) (by omega) (by rw [List.length_map]; omega)) (by rw [upto_len, List.length_map]; omega) (ls.zipIdx.map liD) (by rw [upto_len, List.length_map, hzl, List.length_map]; rfl) ?_) ea_nil) (rc_sortL (srtOk_li (by rw [hzl]; omega)))) fun d e => ?_
    · intro i d e hd he p acc np
      rw [List.length_map] at hd
      obtain ⟨hi, rfl⟩ := upto_get hd
      have hi : i < ps.length := hi
      refine ⟨_, gw_name, ?_⟩
      have e1 : e = liD ((ps[i]).n.nat, i) := by
        rw [List.getElem?_map] at he
        have : ls.zipIdx[i]? = some ((ps[i]).n.nat, i) := by
          rw [List.getElem?_zipIdx, Nat.zero_add, List.getElem?_map, List.getElem?_eq_getElem hi]
          rfl
        rw [this] at he
        exact (Option.some.inj he).symm
      subst e1
      have hn := (PairR.ok_n (hok _ (List.getElem_mem hi))).1
      refine ev_is (ev_tup (ea_cons (PairR.ev1 (p := ps[i]) (ev_op (ev_var rfl) (ev_var rfl) (r2_xL (by rw [Int.zero_add]; exact get_pairs hi)))) (ea_cons (ev_var rfl) ea_nil))) ?_
      rw [hn, Int.zero_add]
      rfl
    · rw [e]
      congr 1
      exact (List.map_mergeSort (r := liLe) (s := leDD) (f := liD) (l := ls.zipIdx) fun a _ b _ => (liD_le a b).symm).symm
  refine go_for bb (ei_lst hsort) (fun i δ M => M = [] ∧ ∃ (left : Int) (l a k : Option D), δ = [some (pairsD ps), some (.int left), l, a, k] ∧ overF 1024 (sortLI ls) = overF left ((sortLI ls).drop i)) ⟨rfl, 1024, none, none, none, rfl, rfl⟩ ?_ ?_
  · rintro x i d δ' M' hd ea ⟨rfl, left, l, a, k, rfl, ho⟩
    rw [List.getElem?_map] at hd
    have hi : i < (sortLI ls).length := by
      rcases Nat.lt_or_ge i (sortLI ls).length with h | h
      · exact h
      · rw [List.getElem?_eq_none h] at hd; cases hd
    rw [List.getElem?_eq_getElem hi] at hd
    have hd := Option.some.inj hd
    subst hd
    rw [List.drop_eq_getElem_cons hi] at ho
    have hm := hmem _ (List.getElem_mem hi)
    generalize (sortLI ls)[i] = q at ho hm ⊢
    obtain ⟨m1, m2⟩ := hm
    have ho : overF 1024 (sortLI ls) = if left - 1024 / 2 ^ q.1 < 0 then some q.2 else overF (left - 1024 / 2 ^ q.1) ((sortLI ls).drop (i + 1)) := ho
    refine ⟨_, eg_tup (eg_cons eg_name (eg_cons eg_name eg_nil)), ?_⟩
    have hpow : (2 : Int) ^ q.1 ≤ 1024 := by
      rw [two_cast]
      have : 2 ^ q.1 ≤ 2 ^ 10 := Nat.pow_le_pow_right (by omega) m2
      omega
    have hpos : (0 : Int) < 2 ^ q.1 := Int.pow_pos (by omega)
    refine go_asg bb.ok (ev_op (ev_var (i := 1) rfl) (ev_op ev_int (ev_call (P := fun d => d = .int (2 ^ q.1)) (ea_cons (ev_var rfl) ea_nil) ⟨q.1, rfl, by omega, rfl⟩) (r2_div hpos (by omega))) r2_sub) fun _ e => ?_
    subst e
    refine go_when' bb.ok (et_testd (ev_op (ev_var rfl) ev_int r2_lt)) (fun h => ?_) (fun h => ?_)
    · refine go_ret bb.ok (ev_var (i := 3) rfl) fun d v H pd e I r => ?_
      subst pd
      rw [if_pos (of_decide_eq_true h.symm)] at ho
      have hp : Pd (optD (overF 1024 (sortLI ls))) := hp
      rw [ho] at hp
      exact hrt _ _ _ hp e r
    · rw [if_neg (of_decide_eq_false h.symm)] at ho
      exact go_kept rfl ⟨rfl, _, _, _, _, rfl, ho⟩
  · rintro δ' M' ea ⟨rfl, left, l, a, k, rfl, ho⟩
    rw [List.length_map, List.drop_length] at ho
    have ho : overF 1024 (sortLI ls) = none := ho
    refine go_ret bb.ok ev_non fun d v H pd e I r => ?_
    subst pd
    have hp : Pd (optD (overF 1024 (sortLI ls))) := hp
    rw [ho] at hp
    exact hrt _ _ _ hp e r
end
end Lr
set_option Elab.async false
set_option maxRecDepth 100000
set_option maxHeartbeats 4000000
set_option linter.all false
set_option autoImplicit false
namespace Lr
open PySem L2 PyProof.Rows
def Er.d : Er → D
  | .size => .tup [.str "size"]
  | .token => .tup [.str "token"]
  | .sign => .tup [.str "sign"]
  | .table => .tup [.str "table"]
  | .full i => .tup [.str "full", .int i]
  | .less l => .tup [.str "letterless", .int l]
  | .large n => .tup [.str "large", .int n]
def optE : Option Er → D
  | none => .non
  | some e => e.d
def Szs.ok (z : Szs) : Bool := z.n.wi 2 16 && (z.w.wi 1 24 && (z.m.wi 0 4 && z.t.wi 1 6))
def Szs.sz (z : Szs) : Sz := ⟨z.n.nat, z.w.nat, z.m.nat, z.t.nat⟩
def SgR.toks : SgR → List Tok
  | .sg g => g.spread.map (·.2)
  | .bad => []
def toksOf (ps : List PairR) : List Tok := ps.flatMap fun p => p.g.toks
def lacking (n : Nat) (ts : List Tok) : Option Nat := (List.range n).find? fun l => !ts.contains (.letter l)
def firstErr (z : Szs) (ps : List PairR) : Option Er :=
  if z.ok = false then some .size
  else if ps.length < 2 ∨ 40 < ps.length then some .table
  else if ps.all PairR.ok = false then some .table
  else if (ps.all fun p => p.g.okB z.sz) = false then some .sign
  else match overfull (ps.map fun p => p.n.nat) with
    | some i => some (.full i)
    | none => if 120 < (toksOf ps).length then some (.large 120) else match lacking z.sz.n (toksOf ps) with
      | some l => some (.less l)
      | none => none
section
variable {b : Wd} {H0 : Hp} {Γ : List (V × D)} {M : ML} {δ : List (Option D)} {te : TE} {De : Ends} {tz : TS} {es : List D}
/-- xs.extend(e), xs one's own -/
theorem pt_ext {i : Nat} {p : Addr} {ds : List D} {M' : ML} {K : PySem.W.Frag} (bb : b.Base H0) (hi : δ[i]? = some (some (.adr p))) (np : p ∉ ads M') (h : Ev (b.wi ((p, .lst ds) :: M')) te δ (.lst es)) (hn : ds.length + es.length < 100000) {σ : L2.St} {H : Hp} (q : Pt b H0 Γ ((p, .lst ds) :: M') δ σ H)
    {R : L2.St → Hp → Prop} (k : ∀ σ' H', Pt b H0 Γ ((p, .lst (ds ++ es)) :: M') δ σ' H' → R σ' H') : tDrop (tBM K "list" rExtend (tVar i) (tCons te tNil)) { nx := R, rt := De.rt, bk := De.bk, ct := De.ct } σ H := by
  obtain ⟨v, h1, h2⟩ := q.env.get hi
  cases h2
  obtain ⟨vs0, hv0, _⟩ := q.lst
  refine ⟨_, h1, .inl ⟨rfl, vs0, SqL.of hv0⟩, ?_⟩
  refine h (bb.ok.wi _) σ H q.env q.inv _ fun d y H1 pd e1 I1 r => ?_
  subst pd
  have q1 := q.step bb.ok e1 I1
  obtain ⟨vs, hv, rv⟩ := q1.lst
  cases r with
  | @lst a zs _ n hs rr =>
    refine ⟨p, a, vs, zs, rfl, rfl, hv, hs, by rw [rv.len, rr.len, sizeLine_eq]; exact Nat.le_of_lt (Nat.lt_of_lt_of_le hn (by decide)), k _ _ (pt_mut bb q1 np ⟨_, upd_same, ?_⟩)⟩
    have c : Car (fun a => b.N a ∧ a ∉ ads ((p, .lst ds) :: M')) (fun a => b.N a ∧ a ∉ ads ((p, .lst (ds ++ es)) :: M')) H1 (upd H1 p (.lst (vs ++ zs))) := car_mut hv rfl
    exact (rv.append rr).car c
theorem go_ext {i : Nat} {p : Addr} {ds : List D} {M' : ML} {K : PySem.W.Frag} (bb : b.Base H0) (hi : δ[i]? = some (some (.adr p))) (np : p ∉ ads M') (h : Ev (b.wi ((p, .lst ds) :: M')) te δ (.lst es)) (hn : ds.length + es.length < 100000)
    (k : Go b H0 Γ ((p, .lst (ds ++ es)) :: M') δ tz De) : Go b H0 Γ ((p, .lst ds) :: M') δ (tSeq (tDrop (tBM K "list" rExtend (tVar i) (tCons te tNil))) tz) De := fun σ H q =>
  pt_ext (De := De) bb hi np h hn q fun σ' H' q' => k σ' H' q'
theorem go_ext' {i : Nat} {p : Addr} {ds : List D} {M' : ML} {K : PySem.W.Frag} (bb : b.Base H0) (hi : δ[i]? = some (some (.adr p))) (np : p ∉ ads M') (h : Ev (b.wi ((p, .lst ds) :: M')) te δ (.lst es)) (hn : ds.length + es.length < 100000)
    (k : Go b H0 Γ ((p, .lst (ds ++ es)) :: M') δ tNext De) : Go b H0 Γ ((p, .lst ds) :: M') δ (tDrop (tBM K "list" rExtend (tVar i) (tCons te tNil))) De := fun σ H q =>
  pt_ext (De := De) bb hi np h hn q fun σ' H' q' => k σ' H' q'
end
theorem _root_.L2.Room.u65 {k : Nat} {A : Around} (r : Room k A) : A.units + 65 < cLine := by have := r.un; omega
theorem _root_.L2.Room.u1 {k : Nat} {A : Around} (r : Room k A) : A.units + 1 < cLine := by have := r.un; omega
theorem spread_len8 {g : Sign} (h : g.ext) : g.spread.length ≤ 64 := spread_le h
theorem Sign.okB_ext {g : Sign} {z : Sz} (h : g.okB z = true) : g.ext := by
  cases g with
  | letter a x => simp only [Sign.okB, spansB, Bool.and_eq_true] at h; exact wi_le h.1
  | copy d x l y => simp only [Sign.okB, spansB, Bool.and_eq_true] at h; exact ⟨wi_le h.1.1, wi_le h.2.1⟩
  | again i e l y => simp only [Sign.okB, spansB, Bool.and_eq_true] at h; exact wi_le h.2.1
  | turn j => trivial
  | stop => trivial
section
variable {P : Program} {w : World} {K : PySem.W.Frag} {mg : Str → Option Value} {base : Heap} {C : Addr} {XA : ExAds}
def sFirstError : Spec := fun ds P _ => ∃ (z : Szs) (ps : List PairR), ds = [z.d, pairsD ps] ∧ ps.length ≤ 1000 ∧ P (optE (firstErr z ps))
theorem c_law_first_error (F : Df K mg "_law_first_error" s_law_first_error ["_law_sizes", "_law_pairs"]) (B : Blt mg) (c_law_number : Cal P w K mg base 1 "_law_number" (spX K C XA sNumber)) (c_law_valid : Cal P w K mg base 3 "_law_valid" (spX K C XA sValid))
    (c_law_overfull : Cal P w K mg base 2 "_law_overfull" (spX K C XA sOverfull)) (c_law_spread : Cal P w K mg base 2 "_law_spread" (spX K C XA sLawSpread)) : Cal P w K mg base 4 "_law_first_error" (spX K C XA sFirstError) := by
  refine fn_X F sc_law_first_error (fun ds Q E ⟨_, _, e, _⟩ => by rw [e]; rfl) fun f cdv A outer s H E hr => ⟨_, (pss_cons (ps_for (passes_of rfl) rfl (pi_range1 rfl B.b_range (pa_cons pe_int pa_nil)) (pg_nm 2 sc_law_first_error.nd) (pss_one (ps_if (pt_not (pt_val (pe_cal c_law_number hr (pa_cons (pe_ix (xIx K w) (pv 0) (pv 2) (fun _ _ => rfl)) (pa_cons (pe_ix (xIx K w) (pe_tup (pa_cons pe_int (pa_cons pe_int (pa_cons pe_int (pa_cons pe_int pa_nil))))) (pv 2) (fun _ _ => rfl)) (pa_cons (pe_ix (xIx K w) (pe_tup (pa_cons pe_int (pa_cons pe_int (pa_cons pe_int (pa_cons pe_int pa_nil))))) (pv 2) (fun _ _ => rfl)) pa_nil)))))) (pss_one (ps_ret (pe_tup (pa_cons pe_str pa_nil)))) pss_nil)))
        (pss_cons (ps_if (PW.pt (pw_or (pt_cmpR xLt (pe_callB (xLen K) rfl B.b_len bt_len (pa_cons (pv 1) pa_nil)) pe_int (nomark _)) (pw_or1 (pt_cmpR xGt (pe_callB (xLen K) rfl B.b_len bt_len (pa_cons (pv 1) pa_nil)) pe_int (nomark _))))) (pss_one (ps_ret (pe_tup (pa_cons pe_str pa_nil)))) pss_nil)
        (pss_cons (ps_for (passes_of rfl) rfl (pi_list (pv 1)) (pg_nm 3 sc_law_first_error.nd) (pss_one (ps_if (PW.pt (pw_or (pt_not (pt_val (pe_callB call_isi rfl B.b_isinstance bt_isinstance (pa_cons (pv 3) (pa_cons (pe_bltn (v := .ty "tuple") rfl B.b_tuple bt_tuple rfl) pa_nil))))) (pw_or (pt_cmpR (xNe K hr.units) (pe_callB (xLen K) rfl B.b_len bt_len (pa_cons (pv 3) pa_nil)) pe_int (nomark _)) (pw_or1 (pt_not (pt_val (pe_cal c_law_number hr (pa_cons (pe_ix (xIx K w) (pv 3) pe_int (fun _ _ => rfl)) (pa_cons pe_int (pa_cons pe_int pa_nil)))))))))) (pss_one (ps_ret (pe_tup (pa_cons pe_str pa_nil)))) pss_nil)))
        (pss_cons (ps_for (passes_of rfl) rfl (pi_list (pv 1)) (pg_nm 3 sc_law_first_error.nd) (pss_one (ps_if (pt_not (pt_val (pe_cal c_law_valid hr (pa_cons (pe_ix (xIx K w) (pv 3) pe_int (fun _ _ => rfl)) (pa_cons (pv 0) pa_nil))))) (pss_one (ps_ret (pe_tup (pa_cons pe_str pa_nil)))) pss_nil)))
        (pss_cons (ps_if (pt_cmpR xIsNot (pe_cal c_law_overfull hr (pa_cons (pv 1) pa_nil)) pe_non (nomark _)) (pss_one (ps_ret (pe_tup (pa_cons pe_str (pa_cons (pe_cal c_law_overfull hr (pa_cons (pv 1) pa_nil)) pa_nil))))) pss_nil)
        (pss_cons (ps_st 4 sc_law_first_error.nd (pe_lst pa_nil))
        (pss_cons (ps_for (passes_of rfl) rfl (pi_list (pv 1)) (pg_nm 3 sc_law_first_error.nd) (pss_one (ps_expr (pe_bm PySem.F.plainAttrs_list PySem.F.slot_list_extend PySem.F.type_list_extend mt_extend (pv 4) (pa_cons (pe_lc (own := [("_law_part", 5)]) (g := gName 5) (tt := tYes) rfl sc_law_first_error.nd (pi_list (pe_cal c_law_spread hr (pa_cons (pe_ix (xIx K w) (pv 3) pe_int (fun _ _ => rfl)) pa_nil))) (blkOk_by (N := ns_law_first_error) (sc := defScope s_law_first_error) (by decide +kernel)) (fun _ _ _ _ _ => (pg_nm 5 sc_law_first_error.nd)) (fun _ _ _ _ _ => pts_nil) (fun _ _ _ _ _ => (pe_ix (xIx K w) (pv 5) pe_int (fun _ _ => rfl)))) pa_nil)))))
        (pss_cons (ps_if (pt_cmpR xGt (pe_callB (xLen K) rfl B.b_len bt_len (pa_cons (pv 4) pa_nil)) pe_int (nomark _)) (pss_one (ps_ret (pe_tup (pa_cons pe_str (pa_cons pe_int pa_nil))))) pss_nil)
        (pss_cons (ps_for (passes_of rfl) rfl (pi_range1 rfl B.b_range (pa_cons (pe_ix (xIx K w) (pv 0) pe_int (fun _ _ => rfl)) pa_nil)) (pg_nm 6 sc_law_first_error.nd) (pss_one (ps_if (pt_cmpR (op_notInD hr.u65) (pe_tup (pa_cons pe_str (pa_cons (pv 6) pa_nil))) (pv 4) (by with_unfolding_all rfl)) (pss_one (ps_ret (pe_tup (pa_cons pe_str (pa_cons (pv 6) pa_nil))))) pss_nil)))
        (pss_one (ps_ret pe_non))))))))))), ?_⟩
  rintro N H0 ds Pd PE ⟨z, ps, rfl, hl, hp⟩ hE De hrt hnx
  have bb := pure_base (K := K) (C := C) (N := N) (H0 := H0)
  have fin : ∀ {M : ML} {δ : List (Option D)} {te : TE} {r : Option Er}, Ev ((pureW K C N H0).wi M) te δ (optE r) → firstErr z ps = r → Go (pureW K C N H0) H0 [] M δ (tRet te) De := fun h e => go_ret bb.ok h fun d v H pd ex I r => by
    subst pd
    rw [e] at hp
    exact hrt _ _ _ hp ex r
  -- the sizes
  refine go_for bb (ei_rng1 (ea_cons ev_int ea_nil) (by omega) (by omega)) (fun i δ M => M = [] ∧ ∃ u : Option D, δ = [some z.d, some (pairsD ps), u, none, none, none, none] ∧ (0 < i → z.n.wi 2 16 = true) ∧ (1 < i → z.w.wi 1 24 = true) ∧ (2 < i → z.m.wi 0 4 = true) ∧ (3 < i → z.t.wi 1 6 = true)) ⟨rfl, none, rfl, by omega, by omega, by omega, by omega⟩ ?_ ?_
  · rintro x i d δ' M' hd ea ⟨rfl, u, rfl, h0, h1, h2, h3⟩
    obtain ⟨hi, rfl⟩ := upto_get hd
    have hi : i < 4 := hi
    refine ⟨_, eg_name, ?_⟩
    have hi : i = 0 ∨ i = 1 ∨ i = 2 ∨ i = 3 := by omega
    obtain ⟨x, a, b, g1, g2, g3, g4, g5⟩ : ∃ (x : Sc) (a b : Int), atI [z.n.d, z.w.d, z.m.d, z.t.d] (i : Int) = some x.d ∧ atI [D.int 2, .int 1, .int 0, .int 1] (i : Int) = some (.int a) ∧ atI [D.int 16, .int 24, .int 4, .int 6] (i : Int) = some (.int b) ∧ (x.wi a b = false → z.ok = false) ∧ (x.wi a b = true → (0 < i + 1 → z.n.wi 2 16 = true) ∧ (1 < i + 1 → z.w.wi 1 24 = true) ∧ (2 < i + 1 → z.m.wi 0 4 = true) ∧ (3 < i + 1 → z.t.wi 1 6 = true)) := by
      rcases hi with rfl | rfl | rfl | rfl
      · exact ⟨z.n, 2, 16, rfl, rfl, rfl, fun h => by unfold Szs.ok; rw [h]; rfl, fun h => ⟨fun _ => h, by omega, by omega, by omega⟩⟩
      · exact ⟨z.w, 1, 24, rfl, rfl, rfl, fun h => by unfold Szs.ok; rw [h]; simp, fun h => ⟨fun _ => h0 (by omega), fun _ => h, by omega, by omega⟩⟩
      · exact ⟨z.m, 0, 4, rfl, rfl, rfl, fun h => by unfold Szs.ok; rw [h]; simp, fun h => ⟨fun _ => h0 (by omega), fun _ => h1 (by omega), fun _ => h, by omega⟩⟩
      · exact ⟨z.t, 1, 6, rfl, rfl, rfl, fun h => by unfold Szs.ok; rw [h]; simp, fun h => ⟨fun _ => h0 (by omega), fun _ => h1 (by omega), fun _ => h2 (by omega), fun _ => h⟩⟩
    refine go_when' bb.ok (et_notd (et_Bd (ev_call (P := fun d => d = .bl (x.wi a b)) (ea_cons (ev_op (ev_var (i := 0) rfl) (ev_var (i := 2) rfl) (r2_xL (by rw [Int.zero_add]; exact g1))) (ea_cons (ev_op (ev_tup (ea_cons ev_int (ea_cons ev_int (ea_cons ev_int (ea_cons ev_int ea_nil))))) (ev_var (i := 2) rfl) (r2_xT (by rw [Int.zero_add]; exact g2))) (ea_cons (ev_op (ev_tup (ea_cons ev_int (ea_cons ev_int (ea_cons ev_int (ea_cons ev_int ea_nil))))) (ev_var (i := 2) rfl) (r2_xT (by rw [Int.zero_add]; exact g3))) ea_nil))) ⟨x, a, b, rfl, rfl⟩))) (fun h => ?_) (fun h => ?_)
    · have hx : x.wi a b = false := by cases e : x.wi a b with | false => rfl | true => rw [e] at h; cases h
      refine go_ret bb.ok (ev_tup (ea_cons ev_str ea_nil)) fun d v H pd e I r => ?_
      subst pd
      have e2 : firstErr z ps = some .size := by unfold firstErr; rw [if_pos (g4 hx)]
      rw [e2] at hp
      exact hrt _ _ _ hp e r
    · have hx : x.wi a b = true := by cases e : x.wi a b with | false => rw [e] at h; cases h | true => rfl
      exact go_kept rfl ⟨rfl, _, rfl, g5 hx⟩
  rintro δ' M' ea ⟨rfl, u, rfl, h0, h1, h2, h3⟩
  rw [upto_len] at h0 h1 h2 h3
  have h0 := h0 (by decide)
  have h1 := h1 (by decide)
  have h2 := h2 (by decide)
  have h3 := h3 (by decide)
  have zok : z.ok = true := by unfold Szs.ok; rw [h0, h1, h2, h3]; rfl
  have zd : z.d = .lst z.sz.ds := by
    unfold Szs.d Sz.ds Szs.sz
    rw [(Sc.wi_nat h0 (by omega)).1, (Sc.wi_nat h1 (by omega)).1, (Sc.wi_nat h2 (by omega)).1, (Sc.wi_nat h3 (by omega)).1]
  have f1 : firstErr z ps = if ps.length < 2 ∨ 40 < ps.length then some .table else if ps.all PairR.ok = false then some .table else if (ps.all fun p => p.g.okB z.sz) = false then some .sign else match overfull (ps.map fun p => p.n.nat) with
    | some i => some (.full i)
    | none => if 120 < (toksOf ps).length then some (.large 120) else match lacking z.sz.n (toksOf ps) with
      | some l => some (.less l)
      | none => none := by unfold firstErr; rw [if_neg (by rw [zok]; decide)]
  -- how many pairs
  refine go_when bb.ok (et_ord (et_testd (ev_op (ev_cb (ea_cons (ev_var (i := 1) rfl) ea_nil) (rc_len rfl)) ev_int r2_lt)) fun _ => et_testd (ev_op (ev_cb (ea_cons (ev_var (i := 1) rfl) ea_nil) (rc_len rfl)) ev_int r2_gt)) (fun h => ?_) (fun h => ?_)
  · refine fin (r := some .table) (ev_tup (ea_cons ev_str ea_nil)) ?_
    have h := h.symm
    rw [Bool.or_eq_true, decide_eq_true_eq, decide_eq_true_eq, List.length_map] at h
    rw [f1, if_pos (by omega)]
  have h := h.symm
  rw [Bool.or_eq_false_iff, decide_eq_false_iff_not, decide_eq_false_iff_not, List.length_map] at h
  have hlen : 2 ≤ ps.length ∧ ps.length ≤ 40 := by omega
  rw [if_neg (by omega)] at f1
  -- their form
  refine go_for bb (ei_lst (ev_var (i := 1) rfl)) (fun i δ M => M = [] ∧ ∃ v : Option D, δ = [some z.d, some (pairsD ps), u, v, none, none, none] ∧ ∀ j (h : j < ps.length), j < i → (ps[j]).ok = true) ⟨rfl, none, rfl, fun j _ h => by omega⟩ ?_ ?_
  · rintro x i d δ' M' hd ea ⟨rfl, v, rfl, hj⟩
    rw [List.getElem?_map] at hd
    have hi : i < ps.length := by
      rcases Nat.lt_or_ge i ps.length with h | h
      · exact h
      · rw [List.getElem?_eq_none h] at hd; cases hd
    rw [List.getElem?_eq_getElem hi] at hd
    have hd := Option.some.inj hd
    subst hd
    refine ⟨_, eg_name, ?_⟩
    have step : ((ps[i]).ok = false → ps.all PairR.ok = false) := fun h => by
      rw [List.all_eq_false]
      exact ⟨_, List.getElem_mem hi, by rw [h]; decide⟩
    have next : (ps[i]).ok = true → ∀ j (h : j < ps.length), j < i + 1 → (ps[j]).ok = true := fun h j hj1 hj2 => by
      by_cases e : j = i
      · subst e; exact h
      · exact hj j hj1 (by omega)
    generalize ps[i] = q at step next ⊢
    have test : EvT ((pureW K C N H0).wi []) (tOr (tNot (tB (tCB (rIsi K) (tCons (tVar 3) (tCons (tC (.ty "tuple")) tNil))))) (tOr (tTest (tOp (rNeU K) (tCB (rLenU K) (tCons (tVar 3) tNil)) (tC (.int 2)))) (tNot (tB (tCall (spX K C XA sNumber) [] E0 (tCons (tOp (rIxU K w) (tVar 3) (tC (.int 1))) (tCons (tC (.int 1)) (tCons (tC (.int 10)) tNil)))))))) [some z.d, some (pairsD ps), u, some q.d, none, none, none] (!q.ok) := by
      have hn : EvT ((pureW K C N H0).wi []) (tNot (tB (tCall (spX K C XA sNumber) [] E0 (tCons (tOp (rIxU K w) (tVar 3) (tC (.int 1))) (tCons (tC (.int 1)) (tCons (tC (.int 10)) tNil)))))) [some z.d, some (pairsD ps), u, some q.d, none, none, none] (!(q.n.wi 1 10)) :=
        et_notd (et_Bd (ev_call (ea_cons (PairR.ev1 (p := q) (ev_var rfl)) (ea_cons ev_int (ea_cons ev_int ea_nil))) ⟨q.n, _, _, rfl, rfl⟩))
      obtain ⟨t, g, n, th⟩ := q
      cases t with
      | false => exact et_is (et_ord (y := true) (et_notd (et_Bd (ev_isi (T := "list") (k := false) (ev_var rfl) rfl rfl))) fun h => by cases h) rfl
      | true =>
        cases th with
        | true => exact et_is (et_ord (et_notd (et_Bd (ev_isi (T := "tuple") (k := true) (ev_var rfl) rfl rfl))) fun _ => et_ord (y := true) (et_testd (ev_op (ev_cb (ea_cons (ev_var rfl) ea_nil) (rc_len (n := 3) rfl)) ev_int r2_nI)) fun h => absurd h (by decide)) rfl
        | false => exact et_is (et_ord (et_notd (et_Bd (ev_isi (T := "tuple") (k := true) (ev_var rfl) rfl rfl))) fun _ => et_ord (et_testd (ev_op (ev_cb (ea_cons (ev_var rfl) ea_nil) (rc_len (n := 2) rfl)) ev_int r2_nI)) fun _ => hn) rfl
    refine go_when' bb.ok test (fun h => ?_) (fun h => ?_)
    · refine go_ret bb.ok (ev_tup (ea_cons ev_str ea_nil)) fun d v H pd e I r => ?_
      subst pd
      have hq : q.ok = false := by cases e : q.ok with | false => rfl | true => rw [e] at h; cases h
      rw [f1, if_pos (step hq)] at hp
      exact hrt _ _ _ hp e r
    · have hq : q.ok = true := by cases e : q.ok with | false => rw [e] at h; cases h | true => rfl
      exact go_kept rfl ⟨rfl, _, rfl, next hq⟩
  rintro δ' M' ea ⟨rfl, v, rfl, hj⟩
  rw [List.length_map] at hj
  have hok : ∀ p ∈ ps, p.ok = true := fun p hp => by
    obtain ⟨j, hj1, rfl⟩ := List.mem_iff_getElem.mp hp
    exact hj j hj1 hj1
  rw [if_neg (by rw [List.all_eq_true.mpr hok]; decide)] at f1
  -- their signs
  refine go_for bb (ei_lst (ev_var (i := 1) rfl)) (fun i δ M => M = [] ∧ ∃ v : Option D, δ = [some z.d, some (pairsD ps), u, v, none, none, none] ∧ ∀ j (h : j < ps.length), j < i → (ps[j]).g.okB z.sz = true) ⟨rfl, v, rfl, fun j _ h => by omega⟩ ?_ ?_
  · rintro x i d δ' M' hd ea ⟨rfl, v, rfl, hj⟩
    rw [List.getElem?_map] at hd
    have hi : i < ps.length := by
      rcases Nat.lt_or_ge i ps.length with h | h
      · exact h
      · rw [List.getElem?_eq_none h] at hd; cases hd
    rw [List.getElem?_eq_getElem hi] at hd
    have hd := Option.some.inj hd
    subst hd
    refine ⟨_, eg_name, ?_⟩
    have test : EvT ((pureW K C N H0).wi []) (tNot (tB (tCall (spX K C XA sValid) [] E0 (tCons (tOp (rIxU K w) (tVar 3) (tC (.int 0))) (tCons (tVar 0) tNil))))) [some z.d, some (pairsD ps), u, some (ps[i]).d, none, none, none] (!((ps[i]).g.okB z.sz)) :=
      et_notd (et_Bd (ev_call (ea_cons (PairR.ev0 (p := ps[i]) (ev_var rfl)) (ea_cons (ev_var (i := 0) rfl) ea_nil)) ⟨(ps[i]).g, z.sz, by rw [zd], rfl⟩))
    refine go_when' bb.ok test (fun h => ?_) (fun h => ?_)
    · refine go_ret bb.ok (ev_tup (ea_cons ev_str ea_nil)) fun d v H pd e I r => ?_
      subst pd
      have hq : (ps[i]).g.okB z.sz = false := by cases e : (ps[i]).g.okB z.sz with | false => rfl | true => rw [e] at h; cases h
      have : (ps.all fun p => p.g.okB z.sz) = false := by
        rw [List.all_eq_false]
        exact ⟨_, List.getElem_mem hi, by rw [hq]; decide⟩
      rw [f1, if_pos this] at hp
      exact hrt _ _ _ hp e r
    · have hq : (ps[i]).g.okB z.sz = true := by cases e : (ps[i]).g.okB z.sz with | false => rw [e] at h; cases h | true => rfl
      refine go_kept rfl ⟨rfl, _, rfl, fun j hj1 hj2 => ?_⟩
      by_cases e : j = i
      · subst e; exact hq
      · exact hj j hj1 (by omega)
  rintro δ' M' ea ⟨rfl, v', rfl, hj'⟩
  rw [List.length_map] at hj'
  have hsg : ∀ p ∈ ps, p.g.okB z.sz = true := fun p hp => by
    obtain ⟨j, hj1, rfl⟩ := List.mem_iff_getElem.mp hp
    exact hj' j hj1 hj1
  rw [if_neg (by rw [List.all_eq_true.mpr hsg]; decide)] at f1
  -- too full
  have ov : ∀ {M : ML} {δ : List (Option D)}, δ[1]? = some (some (pairsD ps)) → Ev ((pureW K C N H0).wi M) (tCall (spX K C XA sOverfull) [] E0 (tCons (tVar 1) tNil)) δ (optD (overfull (ps.map fun p => p.n.nat))) := fun h => ev_call (ea_cons (ev_var h) ea_nil) ⟨ps, rfl, by omega, hok, rfl⟩
  refine go_when bb.ok (et_testd (ev_op (ov rfl) ev_non r2_isNot)) (fun h => ?_) (fun h => ?_)
  · cases e : overfull (ps.map fun p => p.n.nat) with
    | none => rw [e] at h; cases h
    | some i =>
      rw [e] at f1 ov
      exact fin (r := some (.full i)) (ev_tup (ea_cons ev_str (ea_cons (ov rfl) ea_nil))) f1
  have eov : overfull (ps.map fun p => p.n.nat) = none := by
    cases e : overfull (ps.map fun p => p.n.nat) with
    | none => rfl
    | some i => rw [e] at h; cases h
  rw [eov] at f1
  have f1 : firstErr z ps = if 120 < (toksOf ps).length then some (.large 120) else match lacking z.sz.n (toksOf ps) with
      | some l => some (.less l)
      | none => none := f1
  -- the tokens
  refine go_new bb evn_nil fun ds p hds hN hpm => ?_
  subst hds
  refine go_for bb (ei_lst (ev_var (i := 1) rfl)) (fun i δ M => M = [(p, .lst ((toksOf (ps.take i)).map Tok.d))] ∧ (toksOf (ps.take i)).length ≤ 64 * i ∧ ∃ v pt : Option D, δ = [some z.d, some (pairsD ps), u, v, some (.adr p), pt, none]) ⟨rfl, Nat.le_refl _, v', none, rfl⟩ ?_ ?_
  · rintro x i d δ' M' hd ea ⟨rfl, hle, v, pt, rfl⟩
    rw [List.getElem?_map] at hd
    have hi : i < ps.length := by
      rcases Nat.lt_or_ge i ps.length with h | h
      · exact h
      · rw [List.getElem?_eq_none h] at hd; cases hd
    rw [List.getElem?_eq_getElem hi] at hd
    have hd := Option.some.inj hd
    subst hd
    refine ⟨_, eg_name, ?_⟩
    have hq := hsg _ (List.getElem_mem hi)
    have et : toksOf (ps.take (i + 1)) = toksOf (ps.take i) ++ (ps[i]).g.toks := by
      rw [take_succ' (List.getElem?_eq_getElem hi)]
      unfold toksOf
      rw [List.flatMap_append, List.flatMap_singleton]
    cases eg : (ps[i]).g with
    | bad => rw [eg] at hq; cases hq
    | sg g =>
      rw [eg] at et hq
      have hx := Sign.okB_ext hq
      have h64 := spread_len8 hx
      refine go_ext' (es := g.spread.map fun q => q.2.d) bb rfl (by simp [ads]) ?_ (by rw [List.length_map, List.length_map]; omega) ?_
      · refine ev_lcmap bb (ei_lst (ev_call (P := fun d => d = .lst (g.spread.map pairD)) (ea_cons (PairR.ev0 (p := ps[i]) (ev_var rfl)) ea_nil) ⟨g, by rw [eg]; rfl, hx, rfl⟩)) (by rw [List.length_map]; omega) _ (by rw [List.length_map, List.length_map]) ?_
        intro j d e hd he p' acc np
        rw [List.getElem?_map] at hd he
        cases ej : g.spread[j]? with
        | none => rw [ej] at hd; cases hd
        | some q =>
          rw [ej] at hd he
          have hd := Option.some.inj hd
          have he := Option.some.inj he
          subst hd
          subst he
          exact ⟨_, gw_name, ev_op (ev_var rfl) ev_int (r2_xT rfl)⟩
      · refine go_kept rfl ⟨?_, ?_, _, _, rfl⟩
        · rw [et, List.map_append]
          show _ = [(p, MO.lst (_ ++ (g.spread.map (·.2)).map Tok.d))]
          rw [List.map_map]
          rfl
        · rw [et, List.length_append]
          show _ + (g.spread.map (·.2)).length ≤ _
          rw [List.length_map]
          omega
  rintro δ' M' ea ⟨rfl, hle, v, pt, rfl⟩
  rw [List.length_map, List.take_length] at hle ⊢
  refine go_when bb.ok (et_testd (ev_op (ev_cb (ea_cons (ev_var (i := 4) rfl) ea_nil) (rc_lenM List.mem_cons_self)) ev_int r2_gt)) (fun h => ?_) (fun h => ?_)
  · refine fin (r := some (.large 120)) (ev_tup (ea_cons ev_str (ea_cons ev_int ea_nil))) ?_
    have h := of_decide_eq_true h.symm
    rw [List.length_map] at h
    rw [f1, if_pos (by omega)]
  have h := of_decide_eq_false h.symm
  rw [List.length_map] at h
  rw [if_neg (by omega)] at f1
  refine go_freeze (i := 4) bb rfl hpm hN ?_
  have zn : (z.sz.n : Int) ≤ 16 := (Sc.wi_nat h0 (by omega)).2.2
  refine go_for bb (ei_rng1 (n := (z.sz.n : Int)) (ea_cons (ev_is (a := .int (z.sz.n : Int)) (ev_op (ev_var (i := 0) rfl) ev_int (by rw [zd]; exact r2_xL rfl)) rfl) ea_nil) (by omega) (by omega)) (fun i δ M => M = [] ∧ ∃ l : Option D, δ = [some z.d, some (pairsD ps), u, v, some (.lst ((toksOf ps).map Tok.d)), pt, l] ∧ ∀ j, j < i → (toksOf ps).contains (.letter j) = true) ⟨rfl, none, rfl, fun j h => by omega⟩ ?_ ?_
  · rintro x i d δ' M' hd ea ⟨rfl, l, rfl, hj⟩
    obtain ⟨hi, rfl⟩ := upto_get hd
    refine ⟨_, eg_name, ?_⟩
    have hany : ((pds ((toksOf ps).map Tok.d)).any fun y => PyData.eqv y (pd (Tok.letter i).d)) = (toksOf ps).contains (.letter i) := by
      rw [pds_map, List.map_map, List.any_map, List.contains_eq_any_beq]
      congr 1
      funext t
      show PyData.eqv (pd t.d) (pd (Tok.letter i).d) = _
      rw [tok_eqv]
      by_cases e : t = .letter i
      · subst e; simp
      · rw [decide_eq_false e]
        exact (beq_eq_false_iff_ne.mpr (Ne.symm e)).symm
    refine go_when' bb.ok (et_testd (ev_is (ev_op (a := (Tok.letter i).d) (ev_is (ev_tup (ea_cons ev_str (ea_cons (ev_var rfl) ea_nil))) (by rw [Int.zero_add]; rfl)) (ev_var (i := 4) rfl) (r2_notInD (eqOk_sh (Tok.sh _)) (eqOk_sh (n := 2) (sh_map fun t _ => Tok.sh t)))) (by rw [hany]))) (fun h => ?_) (fun h => ?_)
    · refine go_ret bb.ok (ev_tup (ea_cons ev_str (ea_cons (ev_var rfl) ea_nil))) fun d v H pd e I r => ?_
      subst pd
      have hc : (toksOf ps).contains (.letter i) = false := by cases e : (toksOf ps).contains (Tok.letter i) with | false => rfl | true => rw [e] at h; cases h
      have el : lacking z.sz.n (toksOf ps) = some i := by
        unfold lacking
        rw [List.find?_eq_some_iff_getElem]
        refine ⟨by rw [hc]; rfl, i, by rw [List.length_range]; omega, by rw [List.getElem_range], fun j hji => ?_⟩
        rw [List.getElem_range, hj j hji]
        rfl
      rw [f1, el] at hp
      rw [Int.zero_add] at r
      exact hrt _ _ _ hp e r
    · have hc : (toksOf ps).contains (.letter i) = true := by cases e : (toksOf ps).contains (Tok.letter i) with | false => rw [e] at h; cases h | true => rfl
      refine go_kept rfl ⟨rfl, _, rfl, fun j hji => ?_⟩
      by_cases e : j = i
      · subst e; exact hc
      · exact hj j (by omega)
  rintro δ' M' ea ⟨rfl, l, rfl, hj⟩
  rw [upto_len] at hj
  refine fin (r := none) ev_non ?_
  have el : lacking z.sz.n (toksOf ps) = none := by
    unfold lacking
    rw [List.find?_eq_none]
    intro j hjm
    have := hj j (by rw [Int.toNat_natCast]; exact List.mem_range.mp hjm)
    rw [this]
    decide
  rw [f1, el]
end
end Lr
set_option Elab.async false
set_option maxRecDepth 100000
set_option maxHeartbeats 4000000
set_option linter.all false
set_option autoImplicit false
/-! Words, by the law. -/
namespace Lr
open PySem L2 PyProof.Rows
abbrev GRow := Sign × Nat
def growD (r : GRow) : D := .tup [r.1.d, .int (r.2 : Nat)]
abbrev W := List Bool × Tok
def heads : Nat → List GRow → List (List Bool × Sign)
  | _, [] => []
  | s, r :: rs => ((fig s 10).take r.2, r.1) :: heads (s + 2 ^ (10 - r.2)) rs
def used : Nat → List GRow → Nat
  | s, [] => s
  | s, r :: rs => used (s + 2 ^ (10 - r.2)) rs
def ofLen (rows : List GRow) (k : Nat) : List GRow := rows.filter fun r => decide (r.2 = k)
def byLen (rows : List GRow) (n : Nat) : List GRow := (List.range n).flatMap fun k => ofLen rows (k + 1)
def spreadOn (h : List Bool × Sign) : List W := h.2.spread.map fun q => (h.1 ++ q.1, q.2)
def wordsOf (rows : List GRow) : List W := (heads 0 (byLen rows 10)).flatMap spreadOn
theorem heads_append : ∀ (a b : List GRow) (s : Nat), heads s (a ++ b) = heads s a ++ heads (used s a) b
  | [], _, _ => rfl
  | r :: a, b, s => by
    show _ :: heads _ (a ++ b) = _
    rw [heads_append a b]
    rfl
theorem used_append : ∀ (a b : List GRow) (s : Nat), used s (a ++ b) = used (used s a) b
  | [], _, _ => rfl
  | r :: a, b, s => used_append a b _
theorem byLen_succ (rows : List GRow) (n : Nat) : byLen rows (n + 1) = byLen rows n ++ ofLen rows (n + 1) := by
  unfold byLen
  rw [List.range_succ, List.flatMap_append, List.flatMap_singleton]
theorem used_le : ∀ (a : List GRow) (s : Nat), s ≤ used s a
  | [], s => Nat.le_refl _
  | r :: a, s => Nat.le_trans (Nat.le_add_right _ _) (used_le a _)
theorem cutS_bs (l : List Bool) (n : Nat) : cutS (bs l) none (some (n : Int)) = bs (l.take n) := by
  unfold cutS
  rw [HT.sIx_nat, bs_len]
  show (⟨((bs l).cps.toList.drop 0 |>.take (min n l.length - 0)).toArray⟩ : Str) = _
  unfold bs
  rw [List.toList_toArray, List.drop_zero, Nat.sub_zero, ← List.map_take]
  congr 3
  by_cases h : n ≤ l.length
  · rw [Nat.min_eq_left h]
  · rw [Nat.min_eq_right (by omega), List.take_of_length_le (Nat.le_refl _), List.take_of_length_le (by omega)]
abbrev s_law_words : Stmt := topS 64
abbrev ns_law_words : List Str := ["_law_sheet", "_law_found", "_law_start", "_law_size_here", "_law_sign", "_law_length", "_law_word", "_law_part"]
theorem sc_law_words : FnScope ns_law_words ["_law_sheet"] (defScope s_law_words) := ⟨rfl, rfl, rfl, by decide +kernel, rfl, by decide +kernel, by decide +kernel⟩
def accW (L : List GRow) : List W := (heads 0 L).flatMap spreadOn
theorem accW_one (L : List GRow) (r : GRow) : accW (L ++ [r]) = accW L ++ spreadOn ((fig (used 0 L) 10).take r.2, r.1) := by
  unfold accW
  rw [heads_append, List.flatMap_append]
  show _ ++ ([_] : List _).flatMap spreadOn = _
  rw [List.flatMap_singleton]
theorem used_one (L : List GRow) (r : GRow) : used 0 (L ++ [r]) = used 0 L + 2 ^ (10 - r.2) := by rw [used_append]; rfl
theorem ofLen_take {rows : List GRow} {j k : Nat} (hj : j < rows.length) : ofLen (rows.take (j + 1)) k = ofLen (rows.take j) k ++ (if rows[j].2 = k then [rows[j]] else []) := by
  unfold ofLen
  rw [take_succ' (List.getElem?_eq_getElem hj), List.filter_append]
  congr 1
  by_cases h : rows[j].2 = k
  · rw [if_pos h, List.filter_cons_of_pos (by simpa using h)]; rfl
  · rw [if_neg h, List.filter_cons_of_neg (by simpa using h)]; rfl
theorem spreadOn_len {h : List Bool} {g : Sign} (hg : g.ext) : (spreadOn (h, g)).length ≤ 64 := by
  unfold spreadOn
  rw [List.length_map]
  exact spread_len8 hg
theorem accW_len : ∀ (L : List GRow) (s : Nat), (∀ r ∈ L, r.1.ext) → ((heads s L).flatMap spreadOn).length ≤ 64 * L.length
  | [], _, _ => Nat.zero_le _
  | r :: L, s, h => by
    show (([_] ++ heads _ L).flatMap spreadOn).length ≤ _
    rw [List.flatMap_append, List.flatMap_singleton, List.length_append]
    have h1 := spreadOn_len (h := (fig s 10).take r.2) (h r List.mem_cons_self)
    have h2 := accW_len L (s + 2 ^ (10 - r.2)) fun q hq => h q (List.mem_cons_of_mem _ hq)
    rw [List.length_cons]
    omega
theorem byLen_mem {rows : List GRow} {n : Nat} {r : GRow} (h : r ∈ byLen rows n) : r ∈ rows := by
  unfold byLen at h
  obtain ⟨k, _, hk⟩ := List.mem_flatMap.mp h
  exact (List.mem_filter.mp hk).1
theorem byLen_len (rows : List GRow) : ∀ n, (byLen rows n).length ≤ n * rows.length
  | 0 => Nat.zero_le _
  | n + 1 => by
    rw [byLen_succ, List.length_append, Nat.succ_mul]
    have h1 := byLen_len rows n
    have h2 : (ofLen rows (n + 1)).length ≤ rows.length := List.length_filter_le _ _
    omega
theorem spread_bits {g : Sign} (h : g.ext) {q : W} (hq : q ∈ g.spread) : q.1.length ≤ 6 := by
  cases g with
  | letter a x =>
    obtain ⟨v, hv, rfl⟩ := List.mem_map.mp hq
    have h : x ≤ 3 := h
    show (fig v x).length ≤ 6
    rw [fig_len]; omega
  | copy d x l y =>
    obtain ⟨v, hv, hq⟩ := List.mem_flatMap.mp hq
    obtain ⟨u, hu, rfl⟩ := List.mem_map.mp hq
    obtain ⟨h1, h2⟩ := h
    show (fig v x ++ fig u y).length ≤ 6
    rw [List.length_append, fig_len, fig_len]; omega
  | again i e l y =>
    obtain ⟨v, hv, rfl⟩ := List.mem_map.mp hq
    have h : y ≤ 3 := h
    show (fig v y).length ≤ 6
    rw [fig_len]; omega
  | turn j => rw [List.mem_singleton.mp hq]; exact Nat.zero_le _
  | stop => rw [List.mem_singleton.mp hq]; exact Nat.zero_le _
theorem srtOk_pairs {l : List W} (hl : l.length ≤ 100000) : SrtOk (l.map pairD) := by
  refine srtOk_tup (n := 2) (fun x _ => ?_) (by decide) ?_ ?_ hl
  · show ([D.str (bs x.1), x.2.d].all (shD 1)) = true
    rw [List.all_cons, List.all_cons, Tok.sh x.2]
    show (PyData.strOk (bs x.1) && (true && true)) = true
    rw [ok_bs]
    rfl
  · rw [List.map_map]
    refine PySem.W.AllAlike.of fun a b => ?_
    obtain ⟨a1, a2⟩ := a
    obtain ⟨b1, b2⟩ := b
    cases a2 <;> cases b2 <;> simp [pairD, pd, pds, Tok.d, PySem.W.alike, PySem.W.alikeAll]
  · rw [List.map_map]
    exact PySem.W.Sortable.tuples fun b => ⟨.str (bs b.1), [pd b.2.d], by simp only [Function.comp_apply, pairD, pd, pds]⟩
section
variable {P : Program} {w : World} {K : PySem.W.Frag} {mg : Str → Option Value} {base : Heap} {C : Addr} {XA : ExAds}
structure RowsOk (rows : List GRow) : Prop where
  ext : ∀ r ∈ rows, r.1.ext
  len : ∀ r ∈ rows, 1 ≤ r.2 ∧ r.2 ≤ 10
  few : rows.length ≤ 40
def sWords : Spec := fun ds P _ => ∃ rows : List GRow, ds = [.lst (rows.map growD)] ∧ RowsOk rows ∧ P (.lst (((wordsOf rows).map pairD).mergeSort leDD))
theorem c_law_words (F : Df K mg "_law_words" s_law_words ["_law_sheet"]) (B : Blt mg) (c_law_two : Cal P w K mg base 1 "_law_two" (spX K C XA sTwo)) (c_law_figures : Cal P w K mg base 1 "_law_figures" (spX K C XA sFigures)) (c_law_spread : Cal P w K mg base 2 "_law_spread" (spX K C XA sLawSpread)) :
    Cal P w K mg base 3 "_law_words" (spX K C XA sWords) := by
  refine fn_X F sc_law_words (fun ds Q E ⟨_, e, _⟩ => by rw [e]; rfl) fun f cdv A outer s H E hr => ⟨_, (pss_cons (ps_st 1 sc_law_words.nd (pe_lst pa_nil))
        (pss_cons (ps_st 2 sc_law_words.nd pe_int)
        (pss_cons (ps_for (passes_of rfl) rfl (pi_range2 rfl B.b_range (pa_cons pe_int (pa_cons pe_int pa_nil))) (pg_nm 3 sc_law_words.nd) (pss_one (ps_for (passes_of rfl) rfl (pi_list (pv 0)) (pg_tup rfl (pgs_cons (pg_nm 4 sc_law_words.nd) (pgs_cons (pg_nm 5 sc_law_words.nd) pgs_nil))) (pss_one (ps_if (pt_cmpR (xEq K hr.units) (pv 5) (pv 3) (nomark _)) (pss_cons (ps_st 6 sc_law_words.nd (pe_slice (xSl K) (pe_cal c_law_figures hr (pa_cons (pv 2) (pa_cons pe_int pa_nil))) po_none (po_some (pv 3))))
        (pss_cons (ps_expr (pe_bm PySem.F.plainAttrs_list PySem.F.slot_list_extend PySem.F.type_list_extend mt_extend (pv 1) (pa_cons (pe_lc (own := [("_law_part", 7)]) (g := gName 7) (tt := tYes) rfl sc_law_words.nd (pi_list (pe_cal c_law_spread hr (pa_cons (pv 4) pa_nil))) (blkOk_by (N := ns_law_words) (sc := defScope s_law_words) (by decide +kernel)) (fun _ _ _ _ _ => (pg_nm 7 sc_law_words.nd)) (fun _ _ _ _ _ => pts_nil) (fun _ _ _ _ _ => (pe_tup (pa_cons (pe_op (xAdd K) (pv 6) (pe_ix (xIx K w) (pv 7) pe_int (fun _ _ => rfl))) (pa_cons (pe_ix (xIx K w) (pv 7) pe_int (fun _ _ => rfl)) pa_nil))))) pa_nil)))
        (pss_one (ps_st 2 sc_law_words.nd (pe_op (xAdd K) (pv 2) (pe_cal c_law_two hr (pa_cons (pe_op xSub pe_int (pv 3)) pa_nil))))))) pss_nil)))))
        (pss_one (ps_ret (pe_callB (xSorted K hr.units) rfl B.b_sorted bt_sorted (pa_cons (pv 1) pa_nil))))))), ?_⟩
  rintro N H0 ds Pd PE ⟨rows, rfl, hrw, hp⟩ hE De hrt hnx
  have bb := pure_base (K := K) (C := C) (N := N) (H0 := H0)
  refine go_new bb evn_nil fun ds p hds hN hpm => ?_
  subst hds
  refine go_asg bb.ok ev_int fun _ e => ?_
  subst e
  refine go_for bb (ei_rng2 (ea_cons ev_int (ea_cons ev_int ea_nil)) (by omega) (by omega) (by omega)) (fun i δ M => M = [(p, .lst ((accW (byLen rows i)).map pairD))] ∧ ∃ k g l v q : Option D, δ = [some (.lst (rows.map growD)), some (.adr p), some (.int (used 0 (byLen rows i) : Nat)), k, g, l, v, q]) ⟨rfl, none, none, none, none, none, rfl⟩ ?_ ?_
  · rintro x i d δ' M' hd ea ⟨rfl, k, g, l, v, q, rfl⟩
    obtain ⟨hi, rfl⟩ := upto_get hd
    have hi : i < 10 := hi
    refine ⟨_, eg_name, ?_⟩
    refine go_for' bb (ei_lst (ev_var (i := 0) rfl)) (fun j δ M => M = [(p, .lst ((accW (byLen rows i ++ ofLen (rows.take j) (i + 1))).map pairD))] ∧ ∃ g l v q : Option D, δ = [some (.lst (rows.map growD)), some (.adr p), some (.int (used 0 (byLen rows i ++ ofLen (rows.take j) (i + 1)) : Nat)), some (.int (1 + (i : Int))), g, l, v, q]) ⟨?_, g, l, v, q, ?_⟩ ?_ ?_
    · show _ = [(p, MO.lst ((accW (byLen rows i ++ [])).map pairD))]
      rw [List.append_nil]
    · show _ = [_, _, some (D.int (used 0 (byLen rows i ++ []) : Nat)), _, _, _, _, _]
      rw [List.append_nil]
      rfl
    · rintro x2 j d δ' M' hd ea2 ⟨rfl, g, l, v, q, rfl⟩
      rw [List.getElem?_map] at hd
      have hj : j < rows.length := by
        rcases Nat.lt_or_ge j rows.length with h | h
        · exact h
        · rw [List.getElem?_eq_none h] at hd; cases hd
      rw [List.getElem?_eq_getElem hj] at hd
      have hd := Option.some.inj hd
      subst hd
      have ht := ofLen_take (k := i + 1) hj
      have hmem := List.getElem_mem hj
      generalize rows[j] = r at ht hmem ⊢
      refine ⟨_, eg_tup (eg_cons eg_name (eg_cons eg_name eg_nil)), ?_⟩
      have hx := hrw.ext r hmem
      have hl := hrw.len r hmem
      refine go_when' bb.ok (et_testd (ev_op (ev_var (i := 5) rfl) (ev_var (i := 3) rfl) r2_eI)) (fun h => ?_) (fun h => ?_)
      · have h := of_decide_eq_true h.symm
        have h : r.2 = i + 1 := by omega
        rw [if_pos h] at ht
        let L := byLen rows i ++ ofLen (rows.take j) (i + 1)
        have hL : byLen rows i ++ ofLen (rows.take (j + 1)) (i + 1) = L ++ [r] := by rw [ht, List.append_assoc]
        have hlen : (accW L).length ≤ 64 * 900 := by
          have h1 := accW_len L 0 fun q hq => by
            rcases List.mem_append.mp hq with hq | hq
            · exact hrw.ext q (byLen_mem hq)
            · exact hrw.ext q (List.mem_of_mem_take (List.mem_filter.mp hq).1)
          have h2 := byLen_len rows i
          have h3 : (ofLen (rows.take j) (i + 1)).length ≤ (rows.take j).length := List.length_filter_le _ _
          have h4 := hrw.few
          have h5 : i * rows.length ≤ 10 * 40 := Nat.mul_le_mul (by omega) h4
          rw [List.length_take] at h3
          have : L.length ≤ 900 := by
            show (byLen rows i ++ ofLen (rows.take j) (i + 1)).length ≤ 900
            rw [List.length_append]
            omega
          have : (accW L).length ≤ 64 * L.length := h1
          omega
        refine go_asg bb.ok (P := fun d => d = .str (bs ((fig (used 0 L) 10).take r.2))) (EvP.imp (ev_sl (ev_fig (v := used 0 L) (n := 10) (ev_var (i := 2) rfl) ev_int (by omega)) eo_none (eo_some (ev_var (i := 3) rfl)) (rs_S (by rw [bs_len, fig_len]; omega))) fun d e => ?_) fun _ e => ?_
        · rw [e, show (1 + (i : Int)) = ((i + 1 : Nat) : Int) by omega, cutS_bs, h]
        subst e
        refine go_ext (es := (spreadOn ((fig (used 0 L) 10).take r.2, r.1)).map pairD) bb rfl (by simp [ads]) ?_ ?_ ?_
        · refine ev_lcmap bb (ei_lst (ev_call (P := fun d => d = .lst (r.1.spread.map pairD)) (ea_cons (ev_var (i := 4) rfl) ea_nil) ⟨r.1, rfl, hx, rfl⟩)) (by rw [List.length_map]; have := spread_len8 hx; omega) _ (by rw [List.length_map, List.length_map]; unfold spreadOn; rw [List.length_map]) ?_
          intro m d e hd he p' acc np
          unfold spreadOn at he
          rw [List.getElem?_map] at hd
          rw [List.getElem?_map, List.getElem?_map] at he
          cases em : r.1.spread[m]? with
          | none => rw [em] at hd; cases hd
          | some q =>
            rw [em] at hd he
            have hd := Option.some.inj hd
            have he := Option.some.inj he
            subst hd
            subst he
            refine ⟨_, gw_name, ev_tup (ea_cons (ev_is (ev_op (ev_var rfl) (ev_op (ev_var rfl) ev_int (r2_xT rfl)) (r2_addSS (by rw [bs_len, bs_len, List.length_take, fig_len]; have := spread_bits hx (List.mem_of_getElem? em); omega))) (by rw [bs_append])) (ea_cons (ev_op (ev_var rfl) ev_int (r2_xT rfl)) ea_nil))⟩
        · rw [List.length_map, List.length_map]
          have := spreadOn_len (h := (fig (used 0 L) 10).take r.2) hx
          have hlen : (accW (byLen rows i ++ ofLen (rows.take j) (i + 1))).length ≤ 64 * 900 := hlen
          omega
        refine go_asg' bb.ok (ev_op (ev_var (i := 2) rfl) (ev_call (P := fun d => d = .int (2 ^ (10 - r.2))) (ea_cons (ev_op ev_int (ev_var (i := 3) rfl) r2_sub) ea_nil) ⟨10 - r.2, by congr 2; omega, by omega, rfl⟩) r2_add) fun _ e => ?_
        subst e
        have hu : ((used 0 L : Nat) : Int) + 2 ^ (10 - r.2) = ((used 0 L + 2 ^ (10 - r.2) : Nat) : Int) := by rw [two_cast, ← Int.natCast_add]
        refine go_kept rfl ⟨?_, some r.1.d, some (.int (r.2 : Nat)), some (.str (bs ((fig (used 0 L) 10).take r.2))), q, ?_⟩
        · rw [hL, accW_one, List.map_append]
        · rw [hL, used_one, ← hu]
          rfl
      · have h := of_decide_eq_false h.symm
        rw [if_neg (by omega), List.append_nil] at ht
        refine go_kept rfl ⟨?_, some r.1.d, some (.int (r.2 : Nat)), v, q, ?_⟩
        · rw [ht]
        · rw [ht]
          rfl
    · rintro δ' M' ea2 ⟨rfl, g, l, v, q, rfl⟩
      rw [List.length_map, List.take_length, ← byLen_succ]
      exact go_kept rfl ⟨rfl, _, _, _, _, _, rfl⟩
  · rintro δ' M' ea ⟨rfl, k, g, l, v, q, rfl⟩
    rw [upto_len]
    refine go_freeze (i := 1) bb rfl hpm hN ?_
    have hlen : (wordsOf rows).length ≤ 100000 := by
      have h1 := accW_len (byLen rows 10) 0 fun q hq => hrw.ext q (byLen_mem hq)
      have h2 := byLen_len rows 10
      have h4 := hrw.few
      have : (wordsOf rows).length ≤ 64 * (byLen rows 10).length := h1
      omega
    refine go_ret bb.ok (ev_cb (ea_cons (ev_var (i := 1) rfl) ea_nil) (rc_sortL (srtOk_pairs hlen))) fun d v H pd e I r => ?_
    subst pd
    exact hrt _ _ _ hp e r
end
end Lr
set_option Elab.async false
set_option maxRecDepth 100000
set_option maxHeartbeats 4000000
set_option linter.all false
set_option autoImplicit false
/-! The mathematics of the words. -/
namespace Lr
open PySem L2 PyProof.Rows
/-- where they part, a has 0 and b has 1 -/
def prec : List Bool → List Bool → Prop
  | x :: a, y :: b => (x = false ∧ y = true) ∨ (x = y ∧ prec a b)
  | _, _ => False
theorem prec_irrefl : ∀ a, ¬ prec a a
  | [], h => h
  | x :: a, h => by
    rcases h with ⟨h1, h2⟩ | ⟨_, h⟩
    · rw [h1] at h2; cases h2
    · exact prec_irrefl a h
theorem prec_asymm : ∀ {a b}, prec a b → ¬ prec b a
  | [], _, h, _ => h
  | _ :: _, [], h, _ => h
  | x :: a, y :: b, h, g => by
    rcases h with ⟨h1, h2⟩ | ⟨h1, h2⟩ <;> rcases g with ⟨g1, g2⟩ | ⟨g1, g2⟩
    · rw [h1] at g2; cases g2
    · rw [h1, h2] at g1; cases g1
    · rw [h1, g1] at g2; cases g2
    · exact prec_asymm h2 g2
theorem prec_ne {a b : List Bool} (h : prec a b) : a ≠ b := fun e => by subst e; exact prec_irrefl a h
/-- neither begins with the other -/
theorem prec_app : ∀ {a b : List Bool}, prec a b → ∀ s t, prec (a ++ s) (b ++ t)
  | [], _, h, _, _ => h.elim
  | _ :: _, [], h, _, _ => h.elim
  | x :: a, y :: b, h, s, t => by
    rcases h with h | ⟨h1, h2⟩
    · exact .inl h
    · exact .inr ⟨h1, prec_app h2 s t⟩
theorem prec_no_prefix {a b : List Bool} (h : prec a b) (s t : List Bool) : a ++ s ≠ b ++ t := prec_ne (prec_app h s t)
abbrev cps (l : List Bool) : List Nat := l.map fun b => if b then 49 else 48
theorem bs_cps (l : List Bool) : (bs l).cps.toList = cps l := by unfold bs; rw [List.toList_toArray]
theorem prec_lt : ∀ {a b : List Bool}, prec a b → cps a < cps b ∧ ¬ cps b < cps a
  | [], _, h => h.elim
  | _ :: _, [], h => h.elim
  | x :: a, y :: b, h => by
    rw [show cps (x :: a) = (if x then 49 else 48) :: cps a from rfl, show cps (y :: b) = (if y then 49 else 48) :: cps b from rfl, List.cons_lt_cons_iff, List.cons_lt_cons_iff]
    rcases h with ⟨rfl, rfl⟩ | ⟨rfl, h⟩
    · refine ⟨.inl (by decide), fun h => ?_⟩
      rcases h with h | ⟨h, _⟩
      · exact absurd h (by decide)
      · exact absurd h (by decide)
    · obtain ⟨h1, h2⟩ := prec_lt h
      refine ⟨.inr ⟨rfl, h1⟩, fun h => ?_⟩
      rcases h with h | ⟨_, h⟩
      · exact absurd h (Nat.lt_irrefl _)
      · exact h2 h
/-- the place of a word, in units of 2 ^ -n -/
def lo : Nat → List Bool → Nat
  | _, [] => 0
  | 0, _ :: _ => 0
  | n + 1, x :: a => (if x then 2 ^ n else 0) + lo n a
theorem lo_lt : ∀ (n : Nat) (a : List Bool), a.length ≤ n → lo n a + 2 ^ (n - a.length) ≤ 2 ^ n
  | n, [], _ => by simp [lo]
  | 0, _ :: _, h => by cases h
  | n + 1, x :: a, h => by
    have h := lo_lt n a (Nat.le_of_succ_le_succ h)
    rw [List.length_cons, Nat.succ_sub_succ, Nat.pow_succ]
    show (if x then 2 ^ n else 0) + lo n a + _ ≤ _
    cases x
    · simp only [Bool.false_eq_true, if_false]; omega
    · simp only [if_true]; omega
theorem pow_pos2 (n : Nat) : 0 < 2 ^ n := Nat.pow_pos (by omega)
theorem prec_of_lo : ∀ (n : Nat) (a b : List Bool), a.length ≤ n → b.length ≤ n → lo n a + 2 ^ (n - a.length) ≤ lo n b → prec a b
  | n, [], b, _, hb, h => by
    have h1 := lo_lt n b hb
    have h2 := pow_pos2 (n - b.length)
    simp only [lo, List.length_nil, Nat.sub_zero, Nat.zero_add] at h
    omega
  | n, x :: a, [], _, _, h => by
    have h2 := pow_pos2 (n - (x :: a).length)
    simp only [lo] at h
    omega
  | 0, _ :: _, _ :: _, ha, _, _ => by cases ha
  | n + 1, x :: a, y :: b, ha, hb, h => by
    have ha' : a.length ≤ n := Nat.le_of_succ_le_succ ha
    have hb' : b.length ≤ n := Nat.le_of_succ_le_succ hb
    rw [List.length_cons, Nat.succ_sub_succ] at h
    have h : (if x then 2 ^ n else 0) + lo n a + 2 ^ (n - a.length) ≤ (if y then 2 ^ n else 0) + lo n b := h
    have la := lo_lt n a ha'
    have lb := lo_lt n b hb'
    have p1 := pow_pos2 (n - a.length)
    have p2 := pow_pos2 (n - b.length)
    cases x <;> cases y <;> simp only [if_true, Bool.false_eq_true, if_false] at h
    · exact .inr ⟨rfl, prec_of_lo n a b ha' hb' (by omega)⟩
    · exact .inl ⟨rfl, rfl⟩
    · omega
    · exact .inr ⟨rfl, prec_of_lo n a b ha' hb' (by omega)⟩
/-- words that fill [a, b) one behind the other -/
def tile (n : Nat) : Nat → List (List Bool) → Nat → Prop
  | a, [], b => a = b
  | a, w :: ws, b => lo n w = a ∧ w.length ≤ n ∧ tile n (a + 2 ^ (n - w.length)) ws b
theorem tile_le {n : Nat} : ∀ {ws : List (List Bool)} {a b : Nat}, tile n a ws b → a ≤ b
  | [], _, _, h => Nat.le_of_eq h
  | _ :: _, _, _, h => Nat.le_trans (Nat.le_add_right _ _) (tile_le h.2.2)
theorem tile_append {n : Nat} : ∀ {ws vs : List (List Bool)} {a b c : Nat}, tile n a ws b → tile n b vs c → tile n a (ws ++ vs) c
  | [], _, _, _, _, h, g => by rw [show _ = _ from h]; exact g
  | _ :: _, _, _, _, _, h, g => ⟨h.1, h.2.1, tile_append h.2.2 g⟩
theorem tile_mem {n : Nat} : ∀ {ws : List (List Bool)} {a b : Nat}, tile n a ws b → ∀ w ∈ ws, w.length ≤ n ∧ a ≤ lo n w ∧ lo n w + 2 ^ (n - w.length) ≤ b
  | w :: ws, a, b, h, v, hv => by
    rcases List.mem_cons.mp hv with rfl | hv
    · exact ⟨h.2.1, Nat.le_of_eq h.1.symm, by rw [h.1]; exact tile_le h.2.2⟩
    · obtain ⟨h1, h2, h3⟩ := tile_mem h.2.2 v hv
      exact ⟨h1, Nat.le_trans (Nat.le_add_right _ _) h2, h3⟩
theorem tile_prec {n : Nat} : ∀ {ws : List (List Bool)} {a b : Nat}, tile n a ws b → ws.Pairwise prec
  | [], _, _, _ => .nil
  | w :: ws, a, b, h => by
    refine List.pairwise_cons.mpr ⟨fun v hv => ?_, tile_prec h.2.2⟩
    obtain ⟨h1, h2, _⟩ := tile_mem h.2.2 v hv
    exact prec_of_lo n w v h.2.1 h1 (by rw [h.1]; exact h2)
def share (n : Nat) (ws : List (List Bool)) : Nat := (ws.map fun w => 2 ^ (n - w.length)).sum
theorem tile_share {n : Nat} : ∀ {ws : List (List Bool)} {a b : Nat}, tile n a ws b → a + share n ws = b
  | [], _, _, h => h
  | w :: ws, a, b, h => by
    have := tile_share h.2.2
    unfold share at this ⊢
    rw [List.map_cons, List.sum_cons]
    omega
/-- words go on: h ++ e -/
theorem lo_app : ∀ (n : Nat) (h e : List Bool), h.length ≤ n → lo n (h ++ e) = lo n h + lo (n - h.length) e
  | n, [], e, _ => by simp [lo]
  | 0, _ :: _, _, hh => by cases hh
  | n + 1, x :: h, e, hh => by
    show (if x then 2 ^ n else 0) + lo n (h ++ e) = (if x then 2 ^ n else 0) + lo n h + lo (n + 1 - (h.length + 1)) e
    rw [lo_app n h e (Nat.le_of_succ_le_succ hh), Nat.succ_sub_succ]
    omega
theorem tile_on {n : Nat} {h : List Bool} (hh : h.length ≤ n) : ∀ {ws : List (List Bool)} {a b : Nat}, tile (n - h.length) a ws b → tile n (lo n h + a) (ws.map (h ++ ·)) (lo n h + b)
  | [], _, _, e => congrArg (lo n h + ·) e
  | w :: ws, a, b, e => by
    refine ⟨by rw [lo_app n h w hh, e.1], by rw [List.length_append]; have := e.2.1; omega, ?_⟩
    have := tile_on hh e.2.2
    rw [List.length_append, ← Nat.sub_sub, Nat.add_assoc]
    exact this
/-- numbers in their bits -/
theorem lo_fig : ∀ (n k v : Nat), n ≤ k → lo k (fig v n) = v % 2 ^ n * 2 ^ (k - n)
  | 0, k, v, _ => by simp [fig, lo, Nat.mod_one]
  | n + 1, k + 1, v, h => by
    have ih := lo_fig n k v (Nat.le_of_succ_le_succ h)
    show (if ((v / 2 ^ n) % 2 == 1) = true then 2 ^ k else 0) + lo k (fig v n) = _
    rw [ih, Nat.succ_sub_succ]
    have hm : v % 2 ^ (n + 1) = (v / 2 ^ n) % 2 * 2 ^ n + v % 2 ^ n := by
      rw [Nat.pow_succ, Nat.mod_mul, Nat.mul_comm, Nat.add_comm]
    have hk : 2 ^ k = 2 ^ n * 2 ^ (k - n) := by rw [← Nat.pow_add]; congr 1; omega
    rw [hm, Nat.add_mul]
    have hb : (v / 2 ^ n) % 2 = 0 ∨ (v / 2 ^ n) % 2 = 1 := by omega
    rcases hb with hb | hb <;> rw [hb]
    · simp
    · simp [hk]
  | n + 1, 0, v, h => by cases h
end Lr
set_option Elab.async false
set_option maxRecDepth 100000
set_option maxHeartbeats 4000000
set_option linter.all false
set_option autoImplicit false
/-! The words of rows fill the line. -/
namespace Lr
open PySem L2 PyProof.Rows
theorem tile_figs {m x : Nat} (hx : x ≤ m) : ∀ k, k ≤ 2 ^ x → tile m 0 ((List.range k).map fun v => fig v x) (k * 2 ^ (m - x))
  | 0, _ => by show 0 = 0 * _; omega
  | k + 1, h => by
    rw [List.range_succ, List.map_append, Nat.succ_mul]
    refine tile_append (tile_figs hx k (by omega)) ⟨?_, by rw [fig_len]; exact hx, by rw [fig_len]; exact rfl⟩
    rw [lo_fig x m k hx, Nat.mod_eq_of_lt (by omega)]
theorem tile_figs2 {m x y : Nat} (hx : x + y ≤ m) : ∀ k, k ≤ 2 ^ x → tile m 0 ((List.range k).flatMap fun v => (List.range (2 ^ y)).map fun u => fig v x ++ fig u y) (k * 2 ^ (m - x))
  | 0, _ => by show 0 = 0 * _; omega
  | k + 1, h => by
    rw [List.range_succ, List.flatMap_append, List.flatMap_singleton, Nat.succ_mul]
    refine tile_append (tile_figs2 hx k (by omega)) ?_
    have hl : lo m (fig k x) = k * 2 ^ (m - x) := by rw [lo_fig x m k (by omega), Nat.mod_eq_of_lt (by omega)]
    have h1 := tile_figs (m := m - x) (x := y) (by omega) (2 ^ y) (Nat.le_refl _)
    have h2 : 2 ^ y * 2 ^ (m - x - y) = 2 ^ (m - x) := by rw [← Nat.pow_add]; congr 1; omega
    rw [h2] at h1
    have h3 := tile_on (n := m) (h := fig k x) (by rw [fig_len]; omega) (ws := (List.range (2 ^ y)).map fun u => fig u y) (a := 0) (b := 2 ^ (m - x)) (by rw [fig_len]; exact h1)
    rw [hl, List.map_map, Nat.add_zero] at h3
    exact h3
theorem tile_spread {m : Nat} {g : Sign} (hm : 6 ≤ m) (h : g.ext) : tile m 0 (g.spread.map (·.1)) (2 ^ m) := by
  have mul : ∀ x, x ≤ m → 2 ^ x * 2 ^ (m - x) = 2 ^ m := fun x hx => by rw [← Nat.pow_add]; congr 1; omega
  cases g with
  | letter a x =>
    have h : x ≤ 3 := h
    have := tile_figs (m := m) (x := x) (by omega) (2 ^ x) (Nat.le_refl _)
    rw [mul x (by omega)] at this
    simpa only [Sign.spread, List.map_map, Function.comp_def] using this
  | copy d x l y =>
    obtain ⟨h1, h2⟩ := h
    have := tile_figs2 (m := m) (x := x) (y := y) (by omega) (2 ^ x) (Nat.le_refl _)
    rw [mul x (by omega)] at this
    simpa only [Sign.spread, List.map_flatMap, List.map_map, Function.comp_def] using this
  | again i e l y =>
    have h : y ≤ 3 := h
    have := tile_figs (m := m) (x := y) (by omega) (2 ^ y) (Nat.le_refl _)
    rw [mul y (by omega)] at this
    simpa only [Sign.spread, List.map_map, Function.comp_def] using this
  | turn j => exact ⟨by simp [lo], Nat.zero_le _, by simp [tile]⟩
  | stop => exact ⟨by simp [lo], Nat.zero_le _, by simp [tile]⟩
theorem fig_take : ∀ (n k v : Nat), (fig v (n + k)).take n = fig (v / 2 ^ k) n
  | 0, _, _ => rfl
  | n + 1, k, v => by
    rw [Nat.succ_add]
    show (((v / 2 ^ (n + k)) % 2 == 1) :: fig v (n + k)).take (n + 1) = ((v / 2 ^ k / 2 ^ n) % 2 == 1) :: fig (v / 2 ^ k) n
    rw [List.take_succ_cons, fig_take n k v, Nat.div_div_eq_div_mul, ← Nat.pow_add, Nat.add_comm k n]
/-- a word that begins at s -/
theorem lo_head {s l : Nat} (hl : l ≤ 10) (hd : 2 ^ (10 - l) ∣ s) (hs : s < 1024) : lo 16 ((fig s 10).take l) = 64 * s := by
  have e : (fig s 10).take l = fig (s / 2 ^ (10 - l)) l := by
    have := fig_take l (10 - l) s
    rwa [show l + (10 - l) = 10 by omega] at this
  rw [e, lo_fig l 16 _ (by omega)]
  have p : 2 ^ 10 = 2 ^ l * 2 ^ (10 - l) := by rw [← Nat.pow_add]; congr 1; omega
  have hlt : s / 2 ^ (10 - l) < 2 ^ l := by
    rw [Nat.div_lt_iff_lt_mul (pow_pos2 _), ← p]
    exact hs
  rw [Nat.mod_eq_of_lt hlt]
  have q : 2 ^ (16 - l) = 2 ^ (10 - l) * 64 := by
    rw [show (64 : Nat) = 2 ^ 6 from rfl, ← Nat.pow_add]; congr 1; omega
  rw [q, ← Nat.mul_assoc, Nat.div_mul_cancel hd, Nat.mul_comm]
structure Asc (s : Nat) (L : List GRow) : Prop where
  asc : L.Pairwise fun a b => a.2 ≤ b.2
  dv : ∀ r ∈ L, 2 ^ (10 - r.2) ∣ s
  len : ∀ r ∈ L, 1 ≤ r.2 ∧ r.2 ≤ 10
theorem Asc.tail {s : Nat} {r : GRow} {L : List GRow} (h : Asc s (r :: L)) : Asc (s + 2 ^ (10 - r.2)) L where
  asc := (List.pairwise_cons.mp h.asc).2
  dv := fun q hq => by
    have h1 := h.dv q (List.mem_cons_of_mem _ hq)
    have h2 := (List.pairwise_cons.mp h.asc).1 q hq
    exact Nat.dvd_add h1 (Nat.pow_dvd_pow 2 (by omega))
  len := fun q hq => h.len q (List.mem_cons_of_mem _ hq)
theorem map_fst_spreadOn (h : List Bool × Sign) : (spreadOn h).map (·.1) = (h.2.spread.map (·.1)).map (h.1 ++ ·) := by
  unfold spreadOn
  rw [List.map_map, List.map_map]
  rfl
theorem tile_heads : ∀ (L : List GRow) (s : Nat), Asc s L → (∀ r ∈ L, r.1.ext) → used s L ≤ 1024 → tile 16 (64 * s) (((heads s L).flatMap spreadOn).map (·.1)) (64 * used s L)
  | [], s, _, _, _ => rfl
  | r :: L, s, h, hx, hu => by
    show tile 16 _ ((([((fig s 10).take r.2, r.1)] ++ heads _ L).flatMap spreadOn).map (·.1)) _
    rw [List.flatMap_append, List.flatMap_singleton, List.map_append, map_fst_spreadOn]
    have hl := h.len r List.mem_cons_self
    have hu2 : s + 2 ^ (10 - r.2) ≤ 1024 := Nat.le_trans (used_le L _) hu
    have hp := pow_pos2 (10 - r.2)
    have hlo := lo_head hl.2 (h.dv r List.mem_cons_self) (by omega)
    have hlen : ((fig s 10).take r.2).length = r.2 := by rw [List.length_take, fig_len]; omega
    have t := tile_on (n := 16) (h := (fig s 10).take r.2) (by omega) (tile_spread (m := 16 - ((fig s 10).take r.2).length) (by omega) (hx r List.mem_cons_self))
    rw [hlo, hlen, Nat.add_zero] at t
    have q : 2 ^ (16 - r.2) = 64 * 2 ^ (10 - r.2) := by
      rw [show (64 : Nat) = 2 ^ 6 from rfl, ← Nat.pow_add]; congr 1; omega
    rw [q, ← Nat.mul_add] at t
    exact tile_append t (tile_heads L _ h.tail (fun q hq => hx q (List.mem_cons_of_mem _ hq)) hu)
theorem ofLen_eq {rows : List GRow} {k : Nat} {r : GRow} (h : r ∈ ofLen rows k) : r.2 = k := of_decide_eq_true (List.mem_filter.mp h).2
theorem byLen_le {rows : List GRow} : ∀ {n : Nat} {r : GRow}, r ∈ byLen rows n → r.2 ≤ n
  | 0, _, h => by cases h
  | n + 1, r, h => by
    rw [byLen_succ] at h
    rcases List.mem_append.mp h with h | h
    · exact Nat.le_succ_of_le (byLen_le h)
    · exact Nat.le_of_eq (ofLen_eq h)
theorem byLen_asc (rows : List GRow) : ∀ n, (byLen rows n).Pairwise fun a b => a.2 ≤ b.2
  | 0 => .nil
  | n + 1 => by
    rw [byLen_succ, List.pairwise_append]
    refine ⟨byLen_asc rows n, ?_, fun a ha b hb => ?_⟩
    · have : ∀ (l : List GRow), (∀ r ∈ l, r.2 = n + 1) → l.Pairwise fun a b => a.2 ≤ b.2 := by
        intro l
        induction l with
        | nil => intro _; exact .nil
        | cons x l ih =>
          intro h
          refine List.pairwise_cons.mpr ⟨fun y hy => ?_, ih fun r hr => h r (List.mem_cons_of_mem _ hr)⟩
          rw [h x List.mem_cons_self, h y (List.mem_cons_of_mem _ hy)]
          exact Nat.le_refl _
      exact this _ fun r hr => ofLen_eq hr
    · have h1 := byLen_le ha
      have h2 := ofLen_eq hb
      omega
theorem asc_byLen {rows : List GRow} (h : RowsOk rows) : Asc 0 (byLen rows 10) := ⟨byLen_asc rows 10, fun _ _ => Nat.dvd_zero _, fun r hr => h.len r (byLen_mem hr)⟩
theorem tile_words {rows : List GRow} (h : RowsOk rows) (hu : used 0 (byLen rows 10) ≤ 1024) : tile 16 0 ((wordsOf rows).map (·.1)) (64 * used 0 (byLen rows 10)) :=
  tile_heads (byLen rows 10) 0 (asc_byLen h) (fun r hr => h.ext r (byLen_mem hr)) hu
theorem words_prec {rows : List GRow} (h : RowsOk rows) (hu : used 0 (byLen rows 10) ≤ 1024) : ((wordsOf rows).map (·.1)).Pairwise prec := tile_prec (tile_words h hu)
/-- the law's words need no sorting -/
theorem leDD_pair {a b : W} (h : prec a.1 b.1) : leDD (pairD a) (pairD b) = true := by
  obtain ⟨h1, h2⟩ := prec_lt h
  show (!PySem.W.dataLt (pd (pairD b)) (pd (pairD a))) = true
  have e : ∀ q : W, pd (pairD q) = .tuple [.str (bs q.1), pd q.2.d] := fun q => by simp only [pairD, pd, pds]
  rw [e, e, PySem.W.dataLt_pair (by simp [PySem.W.alike]) (by obtain ⟨a1, a2⟩ := a; obtain ⟨b1, b2⟩ := b; cases a2 <;> cases b2 <;> simp [pd, pds, Tok.d, PySem.W.alike, PySem.W.alikeAll])]
  have ne : PyData.eqv (.str (bs b.1)) (.str (bs a.1)) = false := by
    have : bs b.1 ≠ bs a.1 := fun e => prec_ne h (bs_inj e).symm
    simpa [PyData.eqv] using this
  rw [ne, PySem.W.dataLt_str, bs_cps, bs_cps, decide_eq_false h2]
  rfl
theorem words_sorted {rows : List GRow} (h : RowsOk rows) (hu : used 0 (byLen rows 10) ≤ 1024) : ((wordsOf rows).map pairD).mergeSort leDD = (wordsOf rows).map pairD := by
  refine List.mergeSort_of_pairwise ?_
  have := words_prec h hu
  rw [List.pairwise_map] at this ⊢
  exact this.imp fun h => leDD_pair h
end Lr
set_option Elab.async false
set_option maxRecDepth 100000
set_option maxHeartbeats 4000000
set_option linter.all false
set_option autoImplicit false
/-! The order of the places; free words. -/
namespace Lr
open PySem L2 PyProof.Rows
abbrev RI := GRow × Nat
def li (q : RI) : Nat × Nat := (q.1.2, q.2)
def atLen (rows : List GRow) (k : Nat) : List RI := rows.zipIdx.filter fun q => decide (q.1.2 = k)
def ordR (rows : List GRow) (n : Nat) : List RI := (List.range n).flatMap fun k => atLen rows (k + 1)
theorem ordR_succ (rows : List GRow) (n : Nat) : ordR rows (n + 1) = ordR rows n ++ atLen rows (n + 1) := by
  unfold ordR
  rw [List.range_succ, List.flatMap_append, List.flatMap_singleton]
theorem zip_fst {α : Type} (l : List α) : l.zipIdx.map (·.1) = l := List.zipIdx_map_fst 0 l
theorem ofLen_at (rows : List GRow) (k : Nat) : ofLen rows k = (atLen rows k).map (·.1) := by
  unfold ofLen atLen
  conv => lhs; rw [← zip_fst rows]
  rw [List.filter_map]
  rfl
theorem byLen_ord (rows : List GRow) : ∀ n, byLen rows n = (ordR rows n).map (·.1)
  | 0 => rfl
  | n + 1 => by rw [byLen_succ, ordR_succ, List.map_append, byLen_ord rows n, ofLen_at]
theorem mem_ord {rows : List GRow} {q : RI} : ∀ {n : Nat}, q ∈ ordR rows n ↔ q ∈ rows.zipIdx ∧ 1 ≤ q.1.2 ∧ q.1.2 ≤ n
  | 0 => by
    constructor
    · intro h; cases h
    · rintro ⟨_, h1, h2⟩; omega
  | n + 1 => by
    rw [ordR_succ, List.mem_append, mem_ord (n := n)]
    unfold atLen
    rw [List.mem_filter, decide_eq_true_eq]
    constructor
    · rintro (⟨h1, h2, h3⟩ | ⟨h1, h2⟩)
      · exact ⟨h1, h2, by omega⟩
      · exact ⟨h1, by omega, by omega⟩
    · rintro ⟨h1, h2, h3⟩
      by_cases h : q.1.2 = n + 1
      · exact .inr ⟨h1, h⟩
      · exact .inl ⟨h1, h2, by omega⟩
def liLt (a b : RI) : Prop := a.1.2 < b.1.2 ∨ (a.1.2 = b.1.2 ∧ a.2 < b.2)
theorem zip_lt (rows : List GRow) : rows.zipIdx.Pairwise fun a b => a.2 < b.2 := by
  have h : (rows.zipIdx.map (·.2)).Pairwise (· < ·) := by
    rw [show rows.zipIdx.map (·.2) = List.range' 0 rows.length from List.zipIdx_map_snd 0 rows]
    exact List.pairwise_lt_range'
  rw [List.pairwise_map] at h
  exact h
theorem ord_lt (rows : List GRow) : ∀ n, (ordR rows n).Pairwise liLt
  | 0 => .nil
  | n + 1 => by
    rw [ordR_succ, List.pairwise_append]
    refine ⟨ord_lt rows n, ?_, fun a ha b hb => ?_⟩
    · have h := (zip_lt rows).filter fun q => decide (q.1.2 = n + 1)
      unfold atLen
      refine List.Pairwise.imp_of_mem (fun {a b} ha hb hab => ?_) h
      have h1 := of_decide_eq_true (List.mem_filter.mp ha).2
      have h2 := of_decide_eq_true (List.mem_filter.mp hb).2
      exact .inr ⟨by omega, hab⟩
    · have h1 := (mem_ord.mp ha).2.2
      have h2 := of_decide_eq_true (List.mem_filter.mp hb).2
      exact .inl (by omega)
theorem ord_nodup (rows : List GRow) (n : Nat) : (ordR rows n).Nodup := (ord_lt rows n).imp fun {a b} h e => by
  subst e
  rcases h with h | ⟨_, h⟩ <;> exact absurd h (Nat.lt_irrefl _)
theorem zip_nodup (rows : List GRow) : rows.zipIdx.Nodup := (zip_lt rows).imp fun {a b} h e => by
  subst e
  exact absurd h (Nat.lt_irrefl _)
theorem ord_perm {rows : List GRow} (h : ∀ r ∈ rows, 1 ≤ r.2 ∧ r.2 ≤ 10) : (ordR rows 10).Perm rows.zipIdx := by
  rw [List.perm_ext_iff_of_nodup (ord_nodup _ _) (zip_nodup _)]
  intro q
  rw [mem_ord]
  exact ⟨fun h => h.1, fun hq => ⟨hq, h _ (List.fst_mem_of_mem_zipIdx hq)⟩⟩
theorem liLe_trans (a b c : Nat × Nat) (h1 : liLe a b = true) (h2 : liLe b c = true) : liLe a c = true := by
  unfold liLe at *
  rw [decide_eq_true_eq] at *
  omega
theorem liLe_total (a b : Nat × Nat) : (liLe a b || liLe b a) = true := by
  unfold liLe
  rw [Bool.or_eq_true, decide_eq_true_eq, decide_eq_true_eq]
  omega
theorem zip_li (rows : List GRow) : (rows.map (·.2)).zipIdx = rows.zipIdx.map li := by
  rw [zip_map]
  rfl
theorem sort_ord {rows : List GRow} (h : ∀ r ∈ rows, 1 ≤ r.2 ∧ r.2 ≤ 10) : sortLI (rows.map (·.2)) = (ordR rows 10).map li := by
  unfold sortLI
  refine List.Perm.eq_of_pairwise (le := fun a b => liLe a b = true) (fun a b _ _ h1 h2 => ?_) (List.pairwise_mergeSort liLe_trans liLe_total _) ?_ ?_
  · unfold liLe at h1 h2
    rw [decide_eq_true_eq] at h1 h2
    exact Prod.ext (by omega) (by omega)
  · rw [List.pairwise_map]
    refine (ord_lt rows 10).imp fun {a b} h => ?_
    unfold liLe li
    rw [decide_eq_true_eq]
    rcases h with h | h
    · exact .inl h
    · exact .inr ⟨h.1, Nat.le_of_lt h.2⟩
  · refine (List.mergeSort_perm _ _).trans ?_
    rw [zip_li]
    exact ((ord_perm h).map li).symm
/-! free words -/
def placed : List (List Bool) → Nat → List (Nat × Nat) → List (List Bool)
  | ws, _, [] => ws
  | ws, s, p :: r => placed (ws.set p.2 ((fig s 10).take p.1)) (s + 2 ^ (10 - p.1)) r
def fill : List (List Bool) → Nat → List (Nat × Nat) → Nat ⊕ List (List Bool)
  | ws, _, [] => .inr ws
  | ws, s, p :: r => if s = 1024 then .inl p.2 else fill (ws.set p.2 ((fig s 10).take p.1)) (s + 2 ^ (10 - p.1)) r
theorem div_pow {l : Nat} (h : l ≤ 10) : (1024 : Int) / 2 ^ l = ((2 ^ (10 - l) : Nat) : Int) := by
  rw [two_cast]
  have : 1024 = 2 ^ (10 - l) * 2 ^ l := by rw [← Nat.pow_add, show 10 - l + l = 10 by omega]
  have e : (1024 : Int) = ((1024 : Nat) : Int) := rfl
  rw [e, ← Int.natCast_ediv, this, Nat.mul_div_cancel _ (pow_pos2 l)]
theorem fill_over : ∀ (L : List RI) (ws : List (List Bool)) (s : Nat), Asc s (L.map (·.1)) → s ≤ 1024 → fill ws s (L.map li) = match overF (1024 - (s : Int)) (L.map li) with
    | some i => .inl i
    | none => .inr (placed ws s (L.map li))
  | [], _, _, _, _ => rfl
  | q :: L, ws, s, h, hs => by
    have hl := h.len q.1 List.mem_cons_self
    have hd := h.dv q.1 List.mem_cons_self
    have hd2 : 2 ^ (10 - q.1.2) ∣ 1024 := by
      have : 2 ^ (10 - q.1.2) ∣ 2 ^ 10 := Nat.pow_dvd_pow 2 (by omega)
      exact this
    have hp := pow_pos2 (10 - q.1.2)
    show (if s = 1024 then Sum.inl q.2 else fill (ws.set q.2 ((fig s 10).take q.1.2)) (s + 2 ^ (10 - q.1.2)) (L.map li)) = match (if (1024 - (s : Int)) - 1024 / 2 ^ q.1.2 < 0 then some q.2 else overF ((1024 - (s : Int)) - 1024 / 2 ^ q.1.2) (L.map li)) with
      | some i => .inl i
      | none => .inr (placed (ws.set q.2 ((fig s 10).take q.1.2)) (s + 2 ^ (10 - q.1.2)) (L.map li))
    rw [div_pow hl.2]
    by_cases e : s = 1024
    · rw [if_pos e, if_pos (by omega)]
    · have hle : s + 2 ^ (10 - q.1.2) ≤ 1024 := by
        obtain ⟨a, ha⟩ := hd
        obtain ⟨b, hb⟩ := hd2
        have : a < b := by
          rcases Nat.lt_or_ge a b with h | h
          · exact h
          · have := Nat.mul_le_mul_left (2 ^ (10 - q.1.2)) h
            omega
        have := Nat.mul_le_mul_left (2 ^ (10 - q.1.2)) (Nat.succ_le_of_lt this)
        rw [Nat.mul_succ] at this
        omega
      rw [if_neg e, if_neg (by omega), fill_over L _ _ h.tail hle]
      rw [show (1024 - (s : Int)) - ((2 ^ (10 - q.1.2) : Nat) : Int) = 1024 - ((s + 2 ^ (10 - q.1.2) : Nat) : Int) by omega]
theorem over_used : ∀ (L : List RI) (s : Nat), (∀ q ∈ L, q.1.2 ≤ 10) → s ≤ 1024 → overF (1024 - (s : Int)) (L.map li) = none → used s (L.map (·.1)) ≤ 1024
  | [], s, _, hs, _ => hs
  | q :: L, s, h, hs, ho => by
    have ho : (if (1024 - (s : Int)) - 1024 / 2 ^ q.1.2 < 0 then some q.2 else overF ((1024 - (s : Int)) - 1024 / 2 ^ q.1.2) (L.map li)) = none := ho
    have hl := h q List.mem_cons_self
    rw [div_pow hl] at ho
    by_cases e : (1024 - (s : Int)) - ((2 ^ (10 - q.1.2) : Nat) : Int) < 0
    · rw [if_pos e] at ho; cases ho
    · rw [if_neg e, show (1024 - (s : Int)) - ((2 ^ (10 - q.1.2) : Nat) : Int) = 1024 - ((s + 2 ^ (10 - q.1.2) : Nat) : Int) by omega] at ho
      exact over_used L (s + 2 ^ (10 - q.1.2)) (fun q hq => h q (List.mem_cons_of_mem _ hq)) (by omega) ho
theorem placed_len : ∀ (L : List (Nat × Nat)) (ws : List (List Bool)) (s : Nat), (placed ws s L).length = ws.length
  | [], _, _ => rfl
  | p :: L, ws, s => by
    show (placed _ _ L).length = _
    rw [placed_len L, List.length_set]
theorem placed_other : ∀ (L : List (Nat × Nat)) (ws : List (List Bool)) (s i : Nat), i ∉ L.map (·.2) → (placed ws s L)[i]? = ws[i]?
  | [], _, _, _, _ => rfl
  | p :: L, ws, s, i, h => by
    rw [List.map_cons, List.mem_cons, not_or] at h
    show (placed _ _ L)[i]? = _
    rw [placed_other L _ _ i h.2, List.getElem?_set_ne (Ne.symm h.1)]
theorem heads_placed : ∀ (L : List RI) (ws : List (List Bool)) (s : Nat), (L.map (·.2)).Nodup → (∀ q ∈ L, q.2 < ws.length) → heads s (L.map (·.1)) = L.map fun q => ((placed ws s (L.map li)).getD q.2 [], q.1.1)
  | [], _, _, _, _ => rfl
  | q :: L, ws, s, hn, hl => by
    have hn' := List.nodup_cons.mp hn
    have ih := heads_placed L (ws.set q.2 ((fig s 10).take q.1.2)) (s + 2 ^ (10 - q.1.2)) hn'.2 fun p hp => by rw [List.length_set]; exact hl p (List.mem_cons_of_mem _ hp)
    show ((fig s 10).take q.1.2, q.1.1) :: heads (s + 2 ^ (10 - q.1.2)) (L.map (·.1)) = _
    rw [ih, List.map_cons]
    refine congr (congrArg List.cons ?_) rfl
    have e : (placed (ws.set q.2 ((fig s 10).take q.1.2)) (s + 2 ^ (10 - q.1.2)) (L.map li))[q.2]? = some ((fig s 10).take q.1.2) := by
      rw [placed_other _ _ _ _ (by rw [List.map_map]; exact hn'.1), List.getElem?_set_self (hl q List.mem_cons_self)]
    show _ = ((placed (ws.set q.2 ((fig s 10).take q.1.2)) (s + 2 ^ (10 - q.1.2)) (L.map li)).getD q.2 [], q.1.1)
    rw [List.getD_eq_getElem?_getD, e]
    rfl
def hsOf (rows : List GRow) : List (List Bool) := placed (List.replicate rows.length []) 0 (sortLI (rows.map (·.2)))
def tokW (rows : List GRow) : List W := rows.zipIdx.flatMap fun q => spreadOn ((hsOf rows).getD q.2 [], q.1.1)
theorem tokW_perm {rows : List GRow} (h : RowsOk rows) : (tokW rows).Perm (wordsOf rows) := by
  have hs := sort_ord h.len
  have hp := ord_perm h.len
  have hsnd : ((ordR rows 10).map (·.2)).Nodup := by
    have : (rows.zipIdx.map (·.2)).Nodup := by
      rw [show rows.zipIdx.map (·.2) = List.range' 0 rows.length from List.zipIdx_map_snd 0 rows]
      exact List.nodup_range'
    exact (hp.map (·.2)).symm.nodup this
  have e : heads 0 (byLen rows 10) = (ordR rows 10).map fun q => ((hsOf rows).getD q.2 [], q.1.1) := by
    rw [byLen_ord, heads_placed (ordR rows 10) (List.replicate rows.length []) 0 hsnd fun q hq => by
      rw [List.length_replicate]
      have := List.snd_lt_of_mem_zipIdx (hp.mem_iff.mp hq)
      omega]
    unfold hsOf
    rw [hs]
  unfold tokW wordsOf
  rw [e, List.flatMap_map]
  exact (hp.symm).flatMap_right _
end Lr
set_option Elab.async false
set_option maxRecDepth 100000
set_option maxHeartbeats 4000000
set_option linter.all false
set_option autoImplicit false
/-! Gaps; the first word of a token; sorted texts; splitting. -/
namespace Lr
open PySem L2 PyProof.Rows
theorem share_perm {n : Nat} {a b : List (List Bool)} (h : a.Perm b) : share n a = share n b := (h.map _).sum_nat
theorem share_append {n : Nat} (a b : List (List Bool)) : share n (a ++ b) = share n a + share n b := by
  unfold share
  rw [List.map_append, List.sum_append]
theorem share_filter {n : Nat} (p : List Bool → Bool) (l : List (List Bool)) : share n l = share n (l.filter p) + share n (l.filter fun x => !p x) := by
  rw [← share_append, share_perm (List.filter_append_perm p l)]
theorem share_cons {n : Nat} (w : List Bool) (l : List (List Bool)) : share n (w :: l) = 2 ^ (n - w.length) + share n l := rfl
/-- p is a proper beginning of a word -/
def Begun (ws : List (List Bool)) (p : List Bool) : Prop := ∃ w ∈ ws, ∃ b r, w = p ++ b :: r
structure WsOk (ws : List (List Bool)) : Prop where
  pre : ws.Pairwise prec
  ne : ∀ w ∈ ws, 1 ≤ w.length
  len : ∀ w ∈ ws, w.length ≤ 16
theorem pairwise_two {α : Type} {R : α → α → Prop} : ∀ {l : List α}, l.Pairwise R → ∀ a ∈ l, ∀ b ∈ l, a = b ∨ R a b ∨ R b a
  | [], _, _, h, _, _ => by cases h
  | x :: l, hp, a, ha, b, hb => by
    obtain ⟨h1, h2⟩ := List.pairwise_cons.mp hp
    rcases List.mem_cons.mp ha with e1 | ha1 <;> rcases List.mem_cons.mp hb with e2 | hb1
    · exact .inl (e1.trans e2.symm)
    · exact .inr (.inl (e1 ▸ h1 b hb1))
    · exact .inr (.inr (e2 ▸ h1 a ha1))
    · exact pairwise_two h2 a ha1 b hb1
theorem WsOk.free {ws : List (List Bool)} (h : WsOk ws) {w : List Bool} (hw : w ∈ ws) : ¬ Begun ws w := by
  rintro ⟨v, hv, b, r, e⟩
  rcases pairwise_two h.pre w hw v hv with z | z | z
  · have := congrArg List.length e
    rw [← z, List.length_append, List.length_cons] at this
    omega
  · exact prec_no_prefix z (b :: r) [] (by rw [List.append_nil]; exact e.symm)
  · exact prec_no_prefix z [] (b :: r) (by rw [List.append_nil]; exact e)
theorem WsOk.nodup {ws : List (List Bool)} (h : WsOk ws) : ws.Nodup := h.pre.imp fun {a b} h e => prec_ne h e
abbrev kids (P : List (List Bool)) : List (List Bool) := P.flatMap fun p => [p ++ [false], p ++ [true]]
theorem mem_kids {P : List (List Bool)} {c : List Bool} : c ∈ kids P ↔ ∃ p ∈ P, ∃ b, c = p ++ [b] := by
  unfold kids
  rw [List.mem_flatMap]
  constructor
  · rintro ⟨p, hp, hc⟩
    rcases List.mem_cons.mp hc with rfl | hc
    · exact ⟨p, hp, false, rfl⟩
    · exact ⟨p, hp, true, List.mem_singleton.mp hc⟩
  · rintro ⟨p, hp, b, rfl⟩
    refine ⟨p, hp, ?_⟩
    cases b
    · exact List.mem_cons_self
    · exact List.mem_cons_of_mem _ (List.mem_singleton.mpr rfl)
theorem snoc_inj {a b : List Bool} {x y : Bool} (h : a ++ [x] = b ++ [y]) : a = b ∧ x = y := by
  have := List.append_inj' h rfl
  exact ⟨this.1, by simpa using this.2⟩
theorem kids_nodup {P : List (List Bool)} (h : P.Nodup) : (kids P).Nodup := by
  induction P with
  | nil => exact .nil
  | cons p P ih =>
    obtain ⟨h1, h2⟩ := List.nodup_cons.mp h
    show ([p ++ [false], p ++ [true]] ++ kids P).Nodup
    rw [List.nodup_append]
    refine ⟨?_, ih h2, fun a ha b hb e => ?_⟩
    · refine List.nodup_cons.mpr ⟨fun hm => ?_, List.nodup_cons.mpr ⟨(by simp), .nil⟩⟩
      have := snoc_inj (List.mem_singleton.mp hm)
      exact absurd this.2 (by decide)
    · subst e
      obtain ⟨q, hq, y, e⟩ := mem_kids.mp hb
      have : ∃ x, a = p ++ [x] := by
        rcases List.mem_cons.mp ha with h | h
        · exact ⟨_, h⟩
        · exact ⟨_, List.mem_singleton.mp h⟩
      obtain ⟨x, e2⟩ := this
      rw [e] at e2
      exact h1 ((snoc_inj e2).1 ▸ hq)
theorem kids_share : ∀ {P : List (List Bool)}, (∀ p ∈ P, p.length < 16) → share 16 (kids P) = share 16 P
  | [], _ => rfl
  | p :: P, h => by
    show share 16 ([p ++ [false], p ++ [true]] ++ kids P) = _
    rw [share_append, kids_share fun q hq => h q (List.mem_cons_of_mem _ hq), share_cons, share_cons, share_cons, List.length_append, List.length_append]
    have hp := h p List.mem_cons_self
    have e : 2 ^ (16 - p.length) = 2 ^ (16 - (p.length + 1)) * 2 := by rw [← Nat.pow_succ]; congr 1; omega
    show 2 ^ (16 - (p.length + 1)) + (2 ^ (16 - (p.length + 1)) + 0) + _ = _
    rw [e]
    omega
def gapsOf (ws P : List (List Bool)) : List (List Bool) := (kids P).filter fun c => !P.contains c && !ws.contains c
theorem gaps_share {ws P : List (List Bool)} (h : WsOk ws) (hne : ws ≠ []) (hn : P.Nodup) (hP : ∀ p, p ∈ P ↔ Begun ws p) : share 16 ws + share 16 (gapsOf ws P) = 65536 := by
  have p16 : ∀ p ∈ P, p.length < 16 := fun p hp => by
    obtain ⟨w, hw, b, r, e⟩ := (hP p).mp hp
    have := h.len w hw
    rw [e, List.length_append, List.length_cons] at this
    omega
  have up : ∀ {p : List Bool} {b : Bool}, Begun ws (p ++ [b]) → Begun ws p := fun {p b} ⟨w, hw, c, r, e⟩ => ⟨w, hw, b, c :: r, by rw [e, List.append_assoc]; rfl⟩
  have nil : [] ∈ P := by
    obtain ⟨w, hw⟩ := List.exists_mem_of_ne_nil _ hne
    have := h.ne w hw
    cases w with
    | nil => cases this
    | cons b r => exact (hP []).mpr ⟨_, hw, b, r, rfl⟩
  have s1 := share_filter (n := 16) (fun c => P.contains c) (kids P)
  have s2 := share_filter (n := 16) (fun c => ws.contains c) ((kids P).filter fun c => !P.contains c)
  have kn := kids_nodup hn
  have e1 : P.Perm ([] :: (kids P).filter fun c => P.contains c) := by
    rw [List.perm_ext_iff_of_nodup hn (List.nodup_cons.mpr ⟨fun hm => ?_, kn.filter _⟩)]
    · intro x
      rw [List.mem_cons, List.mem_filter]
      constructor
      · intro hx
        rcases List.eq_nil_or_concat x with e | ⟨p, b, e⟩
        · exact .inl e
        · right
          have e : x = p ++ [b] := by rw [e, List.concat_eq_append]
          refine ⟨mem_kids.mpr ⟨p, (hP p).mpr (up (e ▸ (hP x).mp hx)), b, e⟩, by simpa using hx⟩
      · rintro (e | ⟨_, hx⟩)
        · rw [e]; exact nil
        · simpa using hx
    · obtain ⟨hm, _⟩ := List.mem_filter.mp hm
      obtain ⟨p, _, b, e⟩ := mem_kids.mp hm
      exact absurd e (by simp)
  have e2 : ws.Perm (((kids P).filter fun c => !P.contains c).filter fun c => ws.contains c) := by
    rw [List.perm_ext_iff_of_nodup h.nodup ((kn.filter _).filter _)]
    intro x
    rw [List.mem_filter, List.mem_filter]
    constructor
    · intro hx
      have hnp : x ∉ P := fun hp => h.free hx ((hP x).mp hp)
      refine ⟨⟨?_, by simpa using hnp⟩, by simpa using hx⟩
      rcases List.eq_nil_or_concat x with e | ⟨p, b, e⟩
      · have := h.ne x hx
        rw [e] at this
        cases this
      · have e : x = p ++ [b] := by rw [e, List.concat_eq_append]
        exact mem_kids.mpr ⟨p, (hP p).mpr ⟨x, hx, b, [], e⟩, b, e⟩
    · rintro ⟨_, hx⟩
      simpa using hx
  have e3 : ((kids P).filter fun c => !P.contains c).filter (fun c => !ws.contains c) = gapsOf ws P := by
    unfold gapsOf
    rw [List.filter_filter]
    congr 1
    funext c
    rw [Bool.and_comm]
  rw [e3, ← share_perm e2] at s2
  have s3 := share_perm (n := 16) e1
  rw [share_cons] at s3
  have s4 := kids_share p16
  have : (2 : Nat) ^ (16 - ([] : List Bool).length) = 65536 := rfl
  omega
theorem share_nil_iff {n : Nat} {l : List (List Bool)} : share n l = 0 ↔ l = [] := by
  cases l with
  | nil => exact ⟨fun _ => rfl, fun _ => rfl⟩
  | cons a l =>
    rw [share_cons]
    have := pow_pos2 (n - a.length)
    constructor
    · intro h; omega
    · intro h; cases h
/-! the first word of a token -/
def better : Option (List Bool) → List Bool → Bool
  | none, _ => true
  | some b, w => decide (w.length < b.length)
def firstW (ws : List W) (t : Tok) : Option (List Bool) := ws.foldl (fun a q => if (decide (q.2 = t) && better a q.1) = true then some q.1 else a) none
def wordsFor (ws : List W) (t : Tok) : List (List Bool) := (ws.filter fun q => decide (q.2 = t)).map (·.1)
def least (a : List Bool) (l : List (List Bool)) : List Bool := l.foldl (fun a y => if y.length < a.length then y else a) a
theorem first_some (t : Tok) : ∀ (ws : List W) (a : List Bool), ws.foldl (fun a q => if (decide (q.2 = t) && better a q.1) = true then some q.1 else a) (some a) = some (least a (wordsFor ws t))
  | [], _ => rfl
  | q :: ws, a => by
    rw [List.foldl_cons]
    unfold wordsFor
    by_cases h : q.2 = t
    · rw [List.filter_cons_of_pos (by simpa using h), List.map_cons, decide_eq_true h, Bool.true_and]
      show List.foldl _ (if decide (q.1.length < a.length) = true then some q.1 else some a) ws = some (least (if q.1.length < a.length then q.1 else a) _)
      by_cases h2 : q.1.length < a.length
      · rw [if_pos (decide_eq_true h2), if_pos h2]; exact first_some t ws _
      · rw [if_neg (by simpa using h2), if_neg h2]; exact first_some t ws _
    · rw [List.filter_cons_of_neg (by simpa using h), decide_eq_false h, Bool.false_and, if_neg (by decide)]
      exact first_some t ws _
theorem firstW_eq (t : Tok) : ∀ (ws : List W), firstW ws t = match wordsFor ws t with
    | [] => none
    | a :: l => some (least a l)
  | [] => rfl
  | q :: ws => by
    unfold firstW wordsFor
    rw [List.foldl_cons]
    by_cases h : q.2 = t
    · rw [List.filter_cons_of_pos (by simpa using h), List.map_cons, decide_eq_true h]
      show List.foldl _ (some q.1) ws = _
      exact first_some t ws q.1
    · rw [List.filter_cons_of_neg (by simpa using h), decide_eq_false h, Bool.false_and, if_neg (by decide)]
      exact firstW_eq t ws
def lwD (w : List Bool) : D := .tup [.int (w.length : Nat), .str (bs w)]
theorem pd_lw (w : List Bool) : pd (lwD w) = .tuple [.int (w.length : Nat), .str (bs w)] := by simp only [lwD, pd, pds]
theorem lw_lt {a y : List Bool} (h : prec a y) : PySem.W.dataLt (pd (lwD y)) (pd (lwD a)) = decide (y.length < a.length) := by
  rw [pd_lw, pd_lw, PySem.W.dataLt_pair (by simp [PySem.W.alike]) (by simp [PySem.W.alike])]
  have ne : PyData.eqv (.str (bs y)) (.str (bs a)) = false := by
    have : bs y ≠ bs a := fun e => prec_ne h (bs_inj e).symm
    simpa [PyData.eqv] using this
  rw [ne, PySem.W.dataLt_int, PySem.W.dataLt_str, bs_cps, bs_cps, decide_eq_false (prec_lt h).2]
  by_cases e : y.length = a.length
  · rw [if_pos (by simp [PyData.eqv, e]), decide_eq_false (by omega)]
    rfl
  · rw [if_neg (by simp [PyData.eqv]; omega)]
    apply decide_eq_decide.mpr
    omega
theorem min_least : ∀ (l : List (List Bool)) (a : List Bool), (a :: l).Pairwise prec → PySem.W.minD (pd (lwD a)) ((l.map lwD).map pd) = pd (lwD (least a l))
  | [], _, _ => rfl
  | y :: l, a, h => by
    obtain ⟨h1, h2⟩ := List.pairwise_cons.mp h
    obtain ⟨h3, h4⟩ := List.pairwise_cons.mp h2
    unfold PySem.W.minD least
    rw [List.map_cons, List.map_cons, List.foldl_cons, List.foldl_cons, lw_lt (h1 y List.mem_cons_self)]
    by_cases e : y.length < a.length
    · rw [if_pos (decide_eq_true e), if_pos e]
      exact min_least l y h2
    · rw [if_neg (by simpa using e), if_neg e]
      exact min_least l a (List.pairwise_cons.mpr ⟨fun z hz => h1 z (List.mem_cons_of_mem _ hz), h4⟩)
/-! sorted texts -/
theorem strLe_trans (a b c : Str) (h1 : strLe a b = true) (h2 : strLe b c = true) : strLe a c = true := by
  unfold strLe at *
  rw [decide_eq_true_eq] at *
  exact List.le_trans h1 h2
theorem strLe_total (a b : Str) : (strLe a b || strLe b a) = true := by
  unfold strLe
  rw [Bool.or_eq_true, decide_eq_true_eq, decide_eq_true_eq]
  exact List.le_total _ _
theorem strLe_prec {a b : List Bool} (h : prec a b) : strLe (bs a) (bs b) = true := by
  unfold strLe
  rw [decide_eq_true_eq, bs_cps, bs_cps]
  exact List.le_of_lt (prec_lt h).1
theorem strLe_anti {a b : Str} (h1 : strLe a b = true) (h2 : strLe b a = true) : a = b := by
  unfold strLe at *
  rw [decide_eq_true_eq] at *
  have := List.le_antisymm h1 h2
  cases a
  cases b
  congr
  exact Array.toList_inj.mp this
theorem sort_texts {l m : List (List Bool)} (hm : m.Pairwise prec) (hp : l.Perm m) : (l.map bs).mergeSort strLe = m.map bs := by
  refine List.Perm.eq_of_pairwise (le := fun a b => strLe a b = true) (fun a b _ _ h1 h2 => strLe_anti h1 h2) (List.pairwise_mergeSort strLe_trans strLe_total _) ?_ ?_
  · rw [List.pairwise_map]
    exact hm.imp fun h => strLe_prec h
  · exact (List.mergeSort_perm _ _).trans (hp.map bs)
end Lr
set_option Elab.async false
set_option maxRecDepth 100000
set_option maxHeartbeats 4000000
set_option linter.all false
set_option autoImplicit false
namespace Lr
open PySem L2 PyProof.Rows
def txt (w : List Bool) : D := .str (bs w)
def optW : Option (List Bool) → D
  | none => .non
  | some w => txt w
abbrev s_law_share_of : Stmt := topS 81
abbrev ns_law_share_of : List Str := ["_law_texts", "_law_units", "_law_text"]
theorem sc_law_share_of : FnScope ns_law_share_of ["_law_texts"] (defScope s_law_share_of) := ⟨rfl, rfl, rfl, by decide +kernel, rfl, by decide +kernel, by decide +kernel⟩
abbrev s_law_shortest : Stmt := topS 83
abbrev ns_law_shortest : List Str := ["_law_words_here", "_law_token", "_law_found", "_law_part"]
theorem sc_law_shortest : FnScope ns_law_shortest ["_law_words_here", "_law_token"] (defScope s_law_shortest) := ⟨rfl, rfl, rfl, by decide +kernel, rfl, by decide +kernel, by decide +kernel⟩
section
variable {P : Program} {w : World} {K : PySem.W.Frag} {mg : Str → Option Value} {base : Heap} {C : Addr} {XA : ExAds}
def sShareOf : Spec := fun ds P _ => ∃ ws : List (List Bool), ds = [.lst (ws.map txt)] ∧ (∀ v ∈ ws, v.length ≤ 16) ∧ P (.int (share 16 ws : Nat))
theorem c_law_share_of (F : Df K mg "_law_share_of" s_law_share_of ["_law_texts"]) (B : Blt mg) (c_law_two : Cal P w K mg base 1 "_law_two" (spX K C XA sTwo)) : Cal P w K mg base 2 "_law_share_of" (spX K C XA sShareOf) := by
  refine fn_X F sc_law_share_of (fun ds Q E ⟨_, e, _⟩ => by rw [e]; rfl) fun f cdv A outer s H E hr => ⟨_, (pss_cons (ps_st 1 sc_law_share_of.nd pe_int)
        (pss_cons (ps_for (passes_of rfl) rfl (pi_list (pv 0)) (pg_nm 2 sc_law_share_of.nd) (pss_one (ps_st 1 sc_law_share_of.nd (pe_op (xAdd K) (pv 1) (pe_cal c_law_two hr (pa_cons (pe_op xSub pe_int (pe_callB (xLen K) rfl B.b_len bt_len (pa_cons (pv 2) pa_nil))) pa_nil))))))
        (pss_one (ps_ret (pv 1))))), ?_⟩
  rintro N H0 ds Pd PE ⟨ws, rfl, hw, hp⟩ hE De hrt hnx
  have bb := pure_base (K := K) (C := C) (N := N) (H0 := H0)
  refine go_asg bb.ok ev_int fun _ e => ?_
  subst e
  refine go_for bb (ei_lst (ev_var (i := 0) rfl)) (fun i δ M => M = [] ∧ ∃ t : Option D, δ = [some (.lst (ws.map txt)), some (.int (share 16 (ws.take i) : Nat)), t]) ⟨rfl, none, rfl⟩ ?_ ?_
  · rintro x i d δ' M' hd ea ⟨rfl, t, rfl⟩
    rw [List.getElem?_map] at hd
    cases e : ws[i]? with
    | none => rw [e] at hd; cases hd
    | some v =>
      rw [e] at hd
      have hd := Option.some.inj hd
      subst hd
      have hv := hw v (List.mem_of_getElem? e)
      refine ⟨_, eg_name, ?_⟩
      refine go_asg' bb.ok (ev_op (ev_var (i := 1) rfl) (ev_call (P := fun d => d = .int (2 ^ (16 - v.length))) (ea_cons (ev_op ev_int (ev_cb (P := fun d => d = .int (v.length : Nat)) (ea_cons (ev_var (i := 2) rfl) ea_nil) (rc_len (by show (if (bs v).length ≤ 100000 then some (bs v).length else none) = _; rw [bs_len, if_pos (by omega)]))) r2_sub) ea_nil) ⟨16 - v.length, by congr 2; omega, by omega, rfl⟩) r2_add) fun _ e => ?_
      subst e
      refine go_kept rfl ⟨rfl, some (txt v), ?_⟩
      rw [take_succ' e, share_append, share_cons]
      have : ((share 16 (ws.take i) : Nat) : Int) + 2 ^ (16 - v.length) = ((share 16 (ws.take i) + (2 ^ (16 - v.length) + share 16 []) : Nat) : Int) := by
        rw [two_cast, ← Int.natCast_add]
        rfl
      rw [← this]
      rfl
  · rintro δ' M' ea ⟨rfl, t, rfl⟩
    rw [List.length_map, List.take_length]
    refine go_ret bb.ok (ev_var (i := 1) rfl) fun d v H pd e I r => ?_
    subst pd
    exact hrt _ _ _ hp e r
def sShortest : Spec := fun ds P _ => ∃ (ws : List W) (t : Tok), ds = [.lst (ws.map pairD), t.d] ∧ (ws.map (·.1)).Pairwise prec ∧ (∀ v ∈ ws, v.1.length ≤ 16) ∧ ws.length ≤ 10000 ∧ P (optW (firstW ws t))
theorem rc_index {ws : List (List Bool)} {k : Nat} : ws.length = k → ws.length = k := id
theorem srtOk_lw {l : List (List Bool)} (hl : l.length ≤ 100000) : SrtOk (l.map lwD) := by
  refine srtOk_tup (n := 1) (fun x _ => ?_) (by decide) ?_ ?_ hl
  · show ([D.int (x.length : Nat), .str (bs x)].all (shD 0)) = true
    rw [List.all_cons, List.all_cons]
    show (true && (PyData.strOk (bs x) && true)) = true
    rw [ok_bs]
    rfl
  · rw [List.map_map]
    exact PySem.W.AllAlike.of fun a b => by simp [lwD, pd, pds, PySem.W.alike, PySem.W.alikeAll]
  · rw [List.map_map]
    exact PySem.W.Sortable.tuples fun b => ⟨.int (b.length : Nat), [.str (bs b)], by simp only [Function.comp_apply, lwD, pd, pds]⟩
theorem c_law_shortest (F : Df K mg "_law_shortest" s_law_shortest ["_law_words_here", "_law_token"]) (B : Blt mg) : Cal P w K mg base 1 "_law_shortest" (spX K C XA sShortest) := by
  refine fn_X F sc_law_shortest (fun ds Q E ⟨_, _, e, _⟩ => by rw [e]; rfl) fun f cdv A outer s H E hr => ⟨_, (pss_cons (ps_setLc (i := 2) (own := [("_law_part", 3)]) (g := gName 3) rfl sc_law_shortest.nd rfl rfl (sw_true rfl rfl rfl (by decide +kernel)) (pi_list (pv 0)) (blkOk_by (N := ns_law_shortest) (sc := defScope s_law_shortest) (by decide +kernel)) (fun _ _ _ _ _ => (pg_nm 3 sc_law_shortest.nd)) (fun _ _ _ _ _ => (pts_one (pt_cmpR (xEq K hr.units) (pe_ix (xIx K w) (pv 3) pe_int (fun _ _ => rfl)) (pv 1) (nomark _)))) (fun _ _ _ _ _ => (pe_tup (pa_cons (pe_callB (xLen K) rfl B.b_len bt_len (pa_cons (pe_ix (xIx K w) (pv 3) pe_int (fun _ _ => rfl)) pa_nil)) (pa_cons (pe_ix (xIx K w) (pv 3) pe_int (fun _ _ => rfl)) pa_nil)))))
        (pss_cons (ps_if (pt_cmpR (xEq K hr.units) (pe_callB (xLen K) rfl B.b_len bt_len (pa_cons (pv 2) pa_nil)) pe_int (nomark _)) (pss_one (ps_ret pe_non)) pss_nil)
        (pss_one (ps_ret (pe_ix (xIx K w) (pe_callB (xMin K hr.units) rfl B.b_min bt_min (pa_cons (pv 2) pa_nil)) pe_int (fun _ _ => rfl)))))), ?_⟩
  rintro N H0 ds Pd PE ⟨ws, t, rfl, hpre, hlen, hl, hp⟩ hE De hrt hnx
  have bb := pure_base (K := K) (C := C) (N := N) (H0 := H0)
  have hfw := firstW_eq t ws
  have hpre2 : (wordsFor ws t).Pairwise prec := by
    rw [List.pairwise_map] at hpre
    unfold wordsFor
    rw [List.pairwise_map]
    exact hpre.filter _
  have hml : (wordsFor ws t).length ≤ 10000 := by
    unfold wordsFor
    rw [List.length_map]
    exact Nat.le_trans (List.length_filter_le _ _) hl
  have lc : Ev ((pureW K C N H0).wi []) (tLc (iList K (tVar 0)) (gName 3) (tTest (tOp (rEqU K) (tOp (rIxU K w) (tVar 3) (tC (.int 1))) (tVar 1))) (tTup (tCons (tCB (rLenU K) (tCons (tOp (rIxU K w) (tVar 3) (tC (.int 0))) tNil)) (tCons (tOp (rIxU K w) (tVar 3) (tC (.int 0))) tNil))) [3]) (startD ns_law_shortest [.lst (ws.map pairD), t.d]) (.lst ((wordsFor ws t).map lwD)) := by
    refine (evn_lc bb (ei_lst (ev_var (i := 0) rfl)) (by rw [List.length_map]; omega) (fun i acc => acc = (wordsFor (ws.take i) t).map lwD) rfl ?_).ev fun ds e => ?_
    · intro i d hd p acc np _ pv
      rw [List.getElem?_map] at hd
      cases e : ws[i]? with
      | none => rw [e] at hd; cases hd
      | some q =>
        rw [e] at hd
        have hd := Option.some.inj hd
        subst hd
        have hq := hlen q (List.mem_of_getElem? e)
        have et : wordsFor (ws.take (i + 1)) t = wordsFor (ws.take i) t ++ (if q.2 = t then [q.1] else []) := by
          unfold wordsFor
          rw [take_succ' e, List.filter_append, List.map_append]
          congr 1
          by_cases h : q.2 = t
          · rw [if_pos h, List.filter_cons_of_pos (by simpa using h)]; rfl
          · rw [if_neg h, List.filter_cons_of_neg (by simpa using h)]; rfl
        have e0 : ∀ {M : ML} {δ : List (Option D)}, δ[3]? = some (some (pairD q)) → Ev ((pureW K C N H0).wi M) (tOp (rIxU K w) (tVar 3) (tC (.int 0))) δ (.str (bs q.1)) := fun h => ev_op (ev_var h) ev_int (r2_xT rfl)
        refine ⟨_, decide (q.2 = t), fun e => e = lwD q.1, gw_name, et_testd (ev_is (ev_op (a := q.2.d) (ev_op (ev_var rfl) ev_int (r2_xT rfl)) (ev_var (i := 1) rfl) (r2_eD (eqOk_sh (Tok.sh _)) (eqOk_sh (Tok.sh _)))) (by unfold deq; rw [tok_eqv])), fun h => ⟨ev_tup (ea_cons (ev_cb (ea_cons (e0 rfl) ea_nil) (rc_len (by show (if (bs q.1).length ≤ 100000 then some (bs q.1).length else none) = _; rw [bs_len, if_pos (by omega)]))) (ea_cons (e0 rfl) ea_nil)), fun e he => ?_⟩, fun h => ?_⟩
        · rw [pv, et, if_pos (of_decide_eq_true h), List.map_append, he]
          rfl
        · rw [pv, et, if_neg (of_decide_eq_false h), List.append_nil]
    · rw [e, List.length_map, List.take_length]
  refine go_asg bb.ok lc fun _ e => ?_
  subst e
  refine go_when bb.ok (et_testd (ev_op (ev_cb (ea_cons (ev_var (i := 2) rfl) ea_nil) (rc_len rfl)) ev_int r2_eI)) (fun h => ?_) (fun h => ?_)
  · have h := of_decide_eq_true h.symm
    rw [List.length_map] at h
    have hn : wordsFor ws t = [] := List.length_eq_zero_iff.mp (by omega)
    rw [hn] at hfw
    refine go_ret bb.ok ev_non fun d v H pd e I r => ?_
    subst pd
    rw [hfw] at hp
    exact hrt _ _ _ hp e r
  · have h := of_decide_eq_false h.symm
    rw [List.length_map] at h
    cases hw : wordsFor ws t with
    | nil => rw [hw] at h; exact absurd rfl h
    | cons a l =>
      rw [hw] at hfw hpre2 hml
      refine go_ret bb.ok (P := fun d => d = txt (least a l)) (evp_op (Pa := fun d => d = lwD (least a l)) (Pb := fun _ d => d = .int 1) (EvP.imp (ev_cb (ea_cons (ev_var (i := 2) rfl) ea_nil) (rc_minL (d0 := lwD a) (ds := l.map lwD) (srtOk_lw (l := a :: l) (by omega)) fun d hd => ?_)) ?_) (fun _ _ => ev_int) fun x y ex ey => ?_) fun d v H pd e I r => ?_
      · obtain ⟨w', _, rfl⟩ := List.mem_map.mp (show d ∈ (a :: l).map lwD from hd)
        rw [pd_lw]
        intro z; cases z
      · rintro d ⟨hd, hpd⟩
        obtain ⟨w', _, rfl⟩ := List.mem_map.mp (show d ∈ (a :: l).map lwD from hd)
        rw [min_least l a hpre2, pd_lw, pd_lw] at hpd
        injection hpd with hpd
        injection hpd with _ hpd
        injection hpd with hpd _
        injection hpd with hpd
        rw [bs_inj hpd]
      · subst ex
        subst ey
        exact r2_xT rfl
      · subst pd
        rw [hfw] at hp
        exact hrt _ _ _ hp e r
end
end Lr
set_option Elab.async false
set_option maxRecDepth 100000
set_option maxHeartbeats 4000000
set_option linter.all false
set_option autoImplicit false
/-! Own errors whose __init__ begins with super().__init__(f'..'). -/
namespace Lr
open PySem PySem.W PySem.Calls PyProof.Rows PySem.HandSPX
/-- what the written part says of the class at C, and of its __init__ at fI -/
structure SupTxt (prog : Program) (K : Frag) (mg : Str → Option Value) (name fld qual : Str) (params : Arguments) (body : List Stmt) (scope : Scope) (C fI : Addr) : Prop where
  gC : mg name = some (.ref C)
  cls : ∃ nm q N bs bm sn sub ab col dd k0 k1 k2 k3 k5, K.lookup C = some (excClassObj nm q C N bs bm true sn sub ab col dd k0 k1 k2 k3 k5 "ValueError.__new__") ∧ refsVE bm = true
  sa : findIn K (.ref C) "__setattr__" = some (some (.builtin "object.__setattr__"))
  ga : findIn K (.ref C) "__getattribute__" = some (some (.builtin "BaseException.__getattribute__"))
  gg : findIn K (.ref C) "__getattr__" = some none
  noN : findIn K (.ref C) fld = some none
  iC : findIn K (.ref C) "__init__" = some (some (.ref fI))
  tC : typeIn K (.ref fI) = some (.type "function")
  kC : keepIn K (.ref C) = true
  exC : subIn K (.ref C) (.type "BaseException") = some true
  tyC : typeIn K (.ref C) = some (.type "type")
  hdC : hasDictIn K C = true
  sub : subIn K (.ref C) (.type "ValueError") = some true
  self_ : mroIn K C (.ref C) = some true
  sup : ks_superIn K C C "__init__" = some (some (.builtin "ValueError.__init__"))
  opq : nsIn K cStatics "thirdparty.any" = some none
  gS : mg "super" = none
  top : (prog.main.scope.names.lookup ("super" : Str)).isSome = false
  fn : ∃ (oc : Value) (od : Option Addr) (doc pm : Value) (an : Option Addr) (cda cc : Addr) (ct : Value) (osl : Array (Option Value)) (ccl cl : Value) (cdd cld : Option Addr) (ccs csl : Array (Option Value)) (vs : Array Value) (file : Str) (tf : PySem.Tok),
    K.lookup fI = some ⟨oc, od, .func (ksFn "__init__" qual params body scope .none .none doc pm an (.ref cda) ct cc), osl⟩ ∧ codeIn K (.ref cda) qual = true ∧
    K.lookup cda = some ⟨ccl, cdd, .fields vs, ccs⟩ ∧ vs[2]? = some (.str file tf) ∧ ((prog.main.file : Str) == file) = true ∧ K.lookup cc = some ⟨cl, cld, .cell (some (.ref C)), csl⟩
/-- the text of such an __init__ -/
structure SupBody (fld : Str) (params : Arguments) (body : List Stmt) (scope : Scope) (msg : List Expr) (mp : Pos) : Prop where
  body : ∃ p0 p1 p2 p3 p4 q1 q2 q3 q4 : Pos, body = [.Expr (.Call (.Attribute (.Call (.Name "super" p0) [] [] p1) "__init__" p2) [.JoinedStr msg mp] [] p3) p4, .Assign [.Attribute (.Name "self" q1) fld q2] (.Name fld q3) q4] ∧
    (∀ env, ∃ pl : Sem Bool, eval (.Call (.Attribute (.Call (.Name "super" p0) [] [] p1) "__init__" p2) [.JoinedStr msg mp] [] p3) env = (do
      let ov ← attributeBase (.Call (.Name "super" p0) [] [] p1) "__init__" env (eval (.Call (.Name "super" p0) [] [] p1) env)
      standAt p2.atName
      let (f, first) ← holding [ov] (getMethod ov "__init__" pl)
      callWith p3 f first (backTo p3 (starEach [.JoinedStr msg mp] env)) [])) ∧
    ∀ env, swapsWith (.Call (.Attribute (.Call (.Name "super" p0) [] [] p1) "__init__" p2) [.JoinedStr msg mp] [] p3) none p4.line env = pure false
  ks : scope.names.lookup ("super" : Str) = some .globalImplicit
  kc : scope.names.lookup ("__class__" : Str) = some .free
  ka : scope.names.lookup ("self" : Str) = some .local
  kf : scope.names.lookup fld = some .local
  kind : scope.kind = .function
  nocell : ∀ x ∈ scope.names, x.2 ≠ .cell
  co : scope.isCoroutine = false
  gen : scope.isGenerator = false
  par : ∃ ar : Arg, (params.posonlyargs ++ params.args).head? = some ar ∧ ar.arg = "self"
  bind : ∀ (name qual : Str) (body : List Stmt) (doc pm : Value) (an : Option Addr) (cd ct : Value) (cc : Addr) (u v : Value), bindArgs (ksFn name qual params body scope .none .none doc pm an cd ct cc) ⟨[u, v], []⟩ = pure [(("self" : Str), u), (fld, v)]
  ne : fld ≠ "self"
  nd : (fld == ("__debug__" : Str)) = false
  inter : ∀ (name : Str) (L a : Addr) (cd : Value) (cc : Addr), interactive (ksEnv name scope L a cd cc) = false
/-- the text that is told: a whole number in it -/
def MsgOk (fld : Str) (msg : List Expr) (mp : Pos) : Prop := ∀ (prog : Program) (w : World) (A : Around) (E : Value → Shared → Prop) (env : Env) (m : Str → Option Value) (i : Int) (t : PySem.Tok) (s : Shared) (Q : Value → Shared → Prop),
  s.heap.Ns env.locals m → m fld = some (.int i t) → env.scope.kind = .function → env.kindOf fld = some .local → i.natAbs.log2 < 1920 → (toString i).length ≤ 1000 → (∀ z tk tks, Q (.str z tk) { s with toks := tks }) → wpAny (model prog w) A (eval (.JoinedStr msg mp) env) Q E s
/-- what __init__ leaves of a fresh exception at x -/
structure SupEnd (fld : Str) (h h' : Heap) (x C dx t1 : Addr) (v : Value) : Prop where
  keep : ∀ b o, b ≠ x → h.get? b = some o → h'.get? b = some o
  obj : h'.get? x = some { cls := .ref C, dict := some dx, data := .fields #[.ref t1, .none, .none, .none, .bool false, .none] }
  dbig : h.objs.size ≤ dx
  dne : dx ≠ x
  ns : h'.Ns1 dx (fun y => if y = fld then some v else none)
section
variable {prog : Program} {w : World} {A : Around} {E : Value → Shared → Prop} {h : Heap} {g : Array GenState} {d : Drawn} {t : Nat} {os : OsState}
theorem call_mw {nm q : Str} {C N : Addr} {bs bm : List Value} {hdct : Bool} {sn : List Str} {sub : List Value} {ab : Bool} {col : Option Bool} {dd : Option Addr} {k0 k1 k2 k3 k5 : Option Value} {u e t0 : Addr} {rest : List Value} {Q : Value → Shared → Prop}
    (hC : h.get? C = some (excClassObj nm q C N bs bm hdct sn sub ab col dd k0 k1 k2 k3 k5 "ValueError.__new__")) (he : h.get? e = some (excO C t0)) (hu : h.get? u = some (kxs_mw "ValueError.__init__" e)) (hrest : rest.length ≤ sizeLine)
    (hq : ∀ h' t1, (∀ b o, b ≠ e → h.get? b = some o → h'.get? b = some o) → h'.get? e = some (excO C t1) → Q .none ⟨h', g, d, t, os⟩) :
    wpAny (model prog w) A (call (.ref u) rest) Q E ⟨h, g, d, t, os⟩ := by
  refine wpAny_call (codeAny_of_tree ?_)
  show wpAny _ A.in1 (callAny (.ref u) ⟨rest, []⟩) _ _ _
  simp only [callAny]
  refine wpAny_bind (wpAny_load hu ?_)
  simp only [kxs_mw, show (Value.type "method-wrapper" == Value.type "method" || Value.type "method-wrapper" == Value.type "builtin_function_or_method" || Value.type "method-wrapper" == Value.type "method-wrapper") = true by decide, if_true]
  refine KFB.if_so (by decide) ?_
  refine wpAny_bind (check_bound_init F.excBase_ValueError.toExcCallFacts hC he rfl ?_)
  refine wpAny_bind (wpAny_pure (wpAny_pure ?_))
  refine ⟨plainId_quiet F.excBase_ValueError.init.plain _, codeAny_builtin F.excBase_ValueError.initEntry ?_⟩
  exact exc_init_tree (cls := .ref C) (t0 := t0) (dv := none) (c2 := .none) (c3 := .none) (b4 := .bool false) he hrest fun h' k e' _ => hq h' _ k e'
end
section
variable {prog : Program} {w : World} {A : Around} {E : Value → Shared → Prop} {R : Result → Shared → Prop} {s : Shared} {K : Frag} {mg : Str → Option Value} {base : Heap} {name fld qual : Str} {params : Arguments} {body : List Stmt} {scope : Scope} {msg : List Expr} {mp : Pos} {C fI : Addr}
theorem sup_init (T : SupTxt prog K mg name fld qual params body scope C fI) (TB : SupBody fld params body scope msg mp) (TM : MsgOk fld msg mp) {x t0 : Addr} {i : Int} {tk : PySem.Tok} (mod : L2.Mod K mg base) (bk : ∀ b o, base.get? b = some o → s.heap.get? b = some o) (hx : s.heap.get? x = some (excO C t0)) (hnx : K.lookup x = none)
    (hroom : A.depth < recursionLimit) (hi : i.natAbs.log2 < 1920) (hi2 : (toString i).length ≤ 1000)
    (hq : ∀ h' tk' dx t1, SupEnd fld s.heap h' x C dx t1 (.int i tk) → R (.ok (.ret .none)) { s with heap := h', toks := tk' }) :
    codeAny (model prog w) A (.call (.ref fI) ⟨[.ref x, .int i tk], []⟩) R s := by
  obtain ⟨oc, od, doc, pm, an, cda, cc, ct, osl, ccl, cl, cdd, cld, ccs, csl, vs, file, tf, ho, hcd, hcode, hvs, hfile, hcell⟩ := T.fn
  obtain ⟨nm, q, N, bs, bm, sn, sub, ab, col, dd, k0, k1, k2, k3, k5, hC, hbm⟩ := T.cls
  obtain ⟨p0, p1, p2, p3, p4, q1, q2, q3, q4, rfl, hev, hsw⟩ := TB.body
  obtain ⟨pl, hev⟩ := hev (ksEnv qual scope s.heap.objs.size fI (.ref cda) cc)
  obtain ⟨ar, har, eself⟩ := TB.par
  have X : K.In s.heap := mod.kin.keeps bk
  have hcl : clsIn K C = some { name := nm, bases := bs, mro := .ref C :: bm, ns := N, qualname := q, hasDict := true, slotNames := sn, subclasses := sub, abstract := ab, collection := col, hasDel := false } := by unfold clsIn; rw [hC] <;> rfl
  obtain ⟨mb, hb1, hb2⟩ := mod.blt
  refine ks_codeAny_call_defAt (fd := ksFn "__init__" qual params _ scope .none .none doc pm an (.ref cda) ct cc) (binds := [(("self" : Str), .ref x), (fld, .int i tk)]) hroom (X _ _ ho) rfl (mod.nolimit.keeps bk) (codeRec_of X hcd) rfl (BindsTo.of_eq (TB.bind _ _ _ _ _ _ _ _ _ _ _)) TB.nocell (fun y hy => ?_) (fun h₁ hns hk₁ => ?_) TB.co TB.gen TB.kind
  · rcases List.mem_cons.mp hy with rfl | hy
    · exact TB.ka
    · rw [List.mem_singleton.mp hy]
      exact TB.kf
  have X₁ : K.In h₁ := X.keeps hk₁
  have hx₁ := hk₁ _ _ hx
  have hC₁ := X₁ _ _ hC
  have mself : ([(("self" : Str), Value.ref x), (fld, Value.int i tk)] : List (Str × Value)).reverse.lookup ("self" : Str) = some (Value.ref x) := by
    show List.lookup _ [(fld, Value.int i tk), (("self" : Str), Value.ref x)] = _
    rw [List.lookup_cons, beq_eq_false_iff_ne.mpr (Ne.symm TB.ne)]
    rfl
  have mfld : ([(("self" : Str), Value.ref x), (fld, Value.int i tk)] : List (Str × Value)).reverse.lookup fld = some (Value.int i tk) := by
    show List.lookup _ [(fld, Value.int i tk), (("self" : Str), Value.ref x)] = _
    rw [List.lookup_cons, beq_self_eq_true]
  have hxL : x ≠ s.heap.objs.size := Nat.ne_of_lt (Heap.lt_size hx)
  refine ks_wpAt_execs_cons (ks_wpAt_Expr_any (ks_wpAt_MethodCall (pl := pl) ?_ hev) (TB.inter _ _ _ _ _) (hsw _))
  refine ks_wpAt_super_base (env := ksEnv qual scope s.heap.objs.size fI (.ref cda) cc) TB.ks TB.kc (by decide) rfl (X₁ _ _ ho) rfl har rfl (X₁ _ _ hcode) rfl hvs hfile T.top ?_
  refine ks_loadName_global TB.kind TB.ks (loadGlobal_builtin (env := ksEnv qual scope s.heap.objs.size fI (.ref cda) cc) (mod.glob.keeps fun b o e => hk₁ b o (bk b o e)) T.gS (hb1.keeps fun b o e => hk₁ b o (bk b o e)) ((hb2 "super" (by decide)).trans (by decide +kernel)) ⟨rfl, ?_⟩)
  refine wpAny_loadName_free TB.kind TB.kc rfl ⟨_, X₁ _ _ hcell, rfl⟩ ?_
  rw [eself]
  refine wpAny_loadName_local TB.kind TB.ka hns mself ?_
  refine ks_wpAny_isType_cls hC₁ rfl ⟨rfl, ?_⟩
  refine ks_wpAny_call_super hC₁ rfl hx₁ rfl (fun c e => by cases e) (looks_mroIn X₁ T.self_) (fun h₂ hso k₂ => ?_)
  have X₂ : K.In h₂ := X₁.keeps k₂
  have hx₂ := k₂ _ _ hx₁
  have hC₂ := k₂ _ _ hC₁
  have hxC : x ≠ C := fun e => by
    rw [e, hC₁] at hx₁
    have := congrArg (fun o : Option Obj => o.map (·.cls)) hx₁
    have := Option.some.inj this
    cases this
  have hal := T.sup
  unfold ks_superIn at hal
  rw [hcl] at hal
  have hns₂ : h₂.Ns s.heap.objs.size _ := hns.keeps k₂
  refine kxs_getMethod kxs_ValueError hso (looks_opaque X₂ T.opq) (l₀ := .ref C :: bm) (fun A Q E s k q => wpAny_bind ((looks_clsIn X₂ hcl) A _ E s k (wpAny_pure q))) rfl X₂ hal ((show InstAt h₂ x (excO C t0) C none from ⟨hx₂, rfl, rfl, trivial⟩).type.andThen (looks_subIn X₂ T.sub)) hxC (by decide) ?_
  have k₃ : ∀ b o, h₂.get? b = some o → (h₂.push (kxs_mw "ValueError.__init__" x)).get? b = some o := fun b o e => Heap.get?_push_of_some _ e
  have hu₃ : (h₂.push (kxs_mw "ValueError.__init__" x)).get? h₂.objs.size = some (kxs_mw "ValueError.__init__" x) := Heap.get?_push_size _ rfl
  refine kxs_callWith (i := "ValueError.__init__") (x := x) (by rfl) (evalArgs_plain ?_)
  show wpAny _ _ (spliced ((false, eval (.JoinedStr msg mp) _) :: backTo p3 (starEach [] _))) _ _ _
  refine Calls.spliced_cons (TM prog w _ _ _ _ i tk _ _ (hns₂.keeps k₃) mfld TB.kind TB.kf hi hi2 fun z tz tks => Calls.spliced_nil ⟨hu₃, ?_⟩)
  refine call_mw (k₃ _ _ hC₂) (k₃ _ _ hx₂) hu₃ (by show 1 ≤ sizeLine; rw [sizeLine_eq]; omega) fun h₄ t1 k₄ hx₄ => ?_
  have X₄ : K.In h₄ := fun a o e => k₄ a o (fun z => by rw [z, hnx] at e; cases e) (k₃ _ _ (X₂ a o e))
  have hns₄ : h₄.Ns s.heap.objs.size _ := (hns₂.keeps k₃).at fun o e => k₄ _ _ (Ne.symm hxL) e
  show PySem.wpAt _ _ _ (execs [_] _) _ _ _
  refine wpAt_of_wpAny (wpAny_execs_cons (plainObj_wpAny_Assign_Attribute ?_))
  refine wpAny_Name (wpAny_loadName_local TB.kind TB.kf hns₄ mfld ?_) TB.nd
  refine wpAny_Name (wpAny_loadName_local TB.kind TB.ka hns₄ mself ?_) (by decide)
  refine set_plain X₄ (ox := excO C t1) (od := none) ⟨hx₄, rfl, rfl, trivial⟩ T.sa ?_
  refine exc_osa X₄ hx₄ hcl (show refsVE (.ref C :: bm) = true from hbm) rfl T.noN (fun h₅ tk₅ dx k₅ dn dne hx₅ hn₅ => ?_)
  show wpAny _ _ (execs _ _) _ _ _
  have z1 : s.heap.objs.size ≤ h₄.objs.size := Nat.le_of_lt hns₄.lt
  exact wpAny_execs_nil (hq h₅ tk₅ dx t1 ⟨fun b o hb e => k₅ b o hb (k₄ b o hb (k₃ _ _ (k₂ _ _ (hk₁ _ _ e)))), hx₅, Nat.le_trans z1 dn, dne, hn₅⟩)
/-- a made one -/
structure SupMade (fld : Str) (h h' : Heap) (e C d : Addr) (v : Value) : Prop where
  keep : ∀ b o, h.get? b = some o → h'.get? b = some o
  new : h.objs.size ≤ e
  obj : ∃ oe vs, h'.get? e = some oe ∧ oe.cls = .ref C ∧ oe.dict = some d ∧ oe.data = .fields vs ∧ vs[1]? = some .none
  dbig : h.objs.size ≤ d
  dne : d ≠ e
  ns : h'.Ns1 d (fun y => if y = fld then some v else none)
theorem sup_made (T : SupTxt prog K mg name fld qual params body scope C fI) (TB : SupBody fld params body scope msg mp) (TM : MsgOk fld msg mp) {i : Int} {tk : PySem.Tok} (mod : L2.Mod K mg base) (bk : ∀ b o, base.get? b = some o → s.heap.get? b = some o)
    (hroom : A.depth + 1 < recursionLimit) (hi : i.natAbs.log2 < 1920) (hi2 : (toString i).length ≤ 1000)
    (hq : ∀ h' tk' e d, SupMade fld s.heap h' e C d (.int i tk) → R (.ok (.ret (.ref e))) { s with heap := h', toks := tk' }) :
    codeAny (model prog w) A (.call (.ref C) ⟨[.int i tk], []⟩) R s := by
  obtain ⟨nm, q, N, bs, bm, sn, sub, ab, col, dd, k0, k1, k2, k3, k5, hC, hbm⟩ := T.cls
  have X : K.In s.heap := mod.kin.keeps bk
  obtain ⟨hp, g, dr, tk0, os⟩ := s
  have k : ∀ b o, hp.get? b = some o → ((hp.push (kdv_tup [.int i tk])).push (excO C hp.objs.size)).get? b = some o := fun b o e => Heap.get?_push_of_some _ (Heap.get?_push_of_some _ e)
  have hget : ((hp.push (kdv_tup [.int i tk])).push (excO C hp.objs.size)).get? (hp.objs.size + 1) = some (excO C hp.objs.size) := by heap_get
  have hnx : K.lookup (hp.objs.size + 1) = none := by
    cases e : K.lookup (hp.objs.size + 1) with
    | none => rfl
    | some o =>
      have z : hp.get? (hp.objs.size + 1) = some o := X _ _ e
      exact absurd (Nat.lt_of_succ_lt (Heap.lt_size z)) (Nat.lt_irrefl _)
  refine PySem.HandSPX.call_own F.excBase_ValueError (fun X => refsVE_contains X bm hbm) (X _ _ hC) (looks_findIn X T.iC) (fun self => bind_fn X self T.tC) (by show 1 ≤ sizeLine; rw [sizeLine_eq]; omega) ?_
  refine sup_init (base := base) (s := ⟨(hp.push (kdv_tup [.int i tk])).push (excO C hp.objs.size), g, dr, tk0, os⟩) T TB TM mod (fun b o e => k _ _ (bk _ _ e)) hget hnx ?_ hi hi2 fun h' tk' dx t1 ⟨k', hx, dn, dne, hns⟩ => ?_
  · show A.depth + 1 < recursionLimit
    exact hroom
  · have old : ∀ b o, hp.get? b = some o → h'.get? b = some o := fun b o e => k' b o (Nat.ne_of_lt (Nat.lt_succ_of_lt (Heap.lt_size e))) (k b o e)
    have z : hp.objs.size + 1 + 1 ≤ dx := by
      have q := dn
      rw [Heap.size_push, Heap.size_push] at q
      exact q
    exact ⟨rfl, hq h' tk' (hp.objs.size + 1) dx ⟨old, Nat.le_succ _, ⟨_, _, hx, rfl, rfl, rfl, rfl⟩, Nat.le_trans (Nat.le_trans (Nat.le_succ _) (Nat.le_succ _)) z, dne, hns⟩⟩
end
/-! as a rule -/
open L2
theorem relO_sup {fld : Str} {v : V} {v' : Value} (r : RelV v v') (f : Str) : RelO (List.lookup f [(fld, v)]) (if f = fld then some v' else none) := by
  by_cases hw : f = fld
  · subst hw
    rw [if_pos rfl, List.lookup_cons, beq_self_eq_true]
    exact r
  · rw [if_neg hw, List.lookup_cons, beq_eq_false_iff_ne.mpr hw]
    trivial
section
variable {X : Cx} {name fld qual : Str} {params : Arguments} {body : List Stmt} {scope : Scope} {msg : List Expr} {mp : Pos} {C fI : Addr}
def tMkSup (fld : Str) (C : Addr) (te : TE) : L2.St → Hp → XK → Prop := fun σ H Q => te σ H fun v H1 => ∃ i : Int, v = .int i ∧ i.natAbs.log2 < 1920 ∧ (toString i).length ≤ 1000 ∧ ∀ d, H1 d = none → Q (.ref C) (some d) (upd H1 d (.xd [(fld, v)]))
theorem pmk_sup {a : Expr} {te : TE} {p pos : Pos} {k : Nat} (T : SupTxt X.prog X.K X.mg name fld qual params body scope C fI) (TB : SupBody fld params body scope msg mp) (TM : MsgOk fld msg mp) (hr : Room k X.A) (ha : PE X a te) (hg : Gl X name := by rfl) (hdb : (name == ("__debug__" : Str)) = false := by decide)
    (he : starEach (a :: []) X.env = (false, eval a X.env) :: starEach [] X.env := by rfl) (hpl : (backTo pos (starEach [] X.env)).any (·.1) = false := by rfl) :
    PMk X (.Call (.Name name p) [a] [] pos) (tMkSup fld C te) := by
  intro pins s σ H Q I h
  refine wpAny_Call_Name_kw (ld_glob I hg T.gC ?_ hdb)
  refine PySem.W.callWith_K (h₀ := X.base) I.ok.mod.kin T.kC ?_ he hpl
  rw [he]
  show wpAny _ _ (spliced ((false, eval a X.env) :: backTo pos (starEach [] X.env))) _ _ s
  refine Calls.spliced_cons (thn (ha.run pins s σ H _ I h) fun v' s1 ⟨v, H1, I1, rv, i, ev, hi, hi2, q1⟩ => ?_)
  refine Calls.spliced_nil ⟨I1.kIn, ?_⟩
  subst ev
  obtain ⟨tk, rfl⟩ := rv
  show wpAny _ _ (call (.ref C) [.int i tk]) _ _ _
  obtain ⟨hp, g, dr, tk0, os⟩ := s1
  refine wpAny_call (sup_made (base := X.base) T TB TM I1.ok.mod (fun b o e => I1.bk b o e) (by have := hr.dp; omega) hi hi2 fun h' tk' e d M => ?_)
  show MkP X pins σ Q (.ref e) ⟨h', g, dr, tk', os⟩
  obtain ⟨oe, fv, hoe, hc, hd, hdat, h1⟩ := M.obj
  have hns := M.ns
  obtain ⟨G', g1, g2⟩ := restrict h' fun b => decide (b ≠ e)
  have gk : ∀ b, b ≠ e → G'.get? b = h'.get? b := fun b hb => g1 b (decide_eq_true hb)
  have ge : G'.get? e = none := g2 e (by simp)
  have old : ∀ b o, hp.get? b = some o → G'.get? b = some o := fun b o q => (gk b (Nat.ne_of_lt (Nat.lt_of_lt_of_le (Heap.lt_size q) M.new))).trans (M.keep b o q)
  have ob : ObjOk X.prog X.w (upd H1 d (.xd [(fld, .int i)])) G' d (.xd [(fld, .int i)]) :=
    ⟨_, hns.at (fun o q => (gk d M.dne).trans q), fun f => relO_sup (show RelV (.int i) (.int i tk) from ⟨tk, rfl⟩) f⟩
  have J : Inv X pins σ (upd H1 d (.xd [(fld, .int i)])) ⟨G', g, dr, tk', os⟩ := I1.laid (t' := tk') old M.dbig ob
  refine ⟨e, oe, fv, ⟨G', g, dr, tk', os⟩, _, .ref C, some d, rfl, J, fun b o q => ?_, ge, hoe, ⟨hc, hd⟩, hdat, h1, ?_, rfl, I1.bare, raises_own T.exC T.tyC, q1 d (I1.hok.fresh M.dbig)⟩
  · by_cases hb : b = e
    · have q' : G'.get? b = some o := q
      rw [hb, ge] at q'; cases q'
    · exact (gk b hb).symm.trans q
  · rw [upd_ne (Ne.symm M.dne)]
    exact I1.hok.fresh M.new
end
end Lr
set_option Elab.async false
set_option maxRecDepth 100000
set_option maxHeartbeats 4000000
set_option linter.all false
set_option autoImplicit false
/-! The program's checks. -/
namespace Lr
open PySem L2 PyProof.Rows
abbrev veTail : List Value := [.type "ValueError", .type "Exception", .type "BaseException", .type "object"]
/-- a class of errors without own __init__ -/
structure ErrC (K : PySem.W.Frag) (mg : Str → Option Value) (x : Str) (C : Addr) : Prop where
  q : PySem.W.excIn K C veTail "ValueError.__new__" = true
  gC : mg x = some (.ref C)
  kC : PySem.W.keepIn K (.ref C) = true
  exC : PySem.W.subIn K (.ref C) (.type "BaseException") = some true
  tyC : PySem.W.typeIn K (.ref C) = some (.type "type")
section
variable {X : Cx} {x m : Str} {C : Addr} {j : Nat} {p p2 pos : Pos} {e : Expr} {te : TE}
theorem ErrC.mk0 (c : ErrC X.K X.mg x C) (hg : Gl X x) (hdb : (x == ("__debug__" : Str)) = false := by decide) : PMk X (.Call (.Name x p) [.Constant (.str m) j p2] [] pos) (fun _ H Q => Q (.ref C) none H) :=
  pmk_own PySem.F.excBase_ValueError c.q c.gC c.kC (raises_own c.exC c.tyC) hg hdb
theorem ErrC.mk1 (c : ErrC X.K X.mg x C) (he : PE X e te) (hg : Gl X x) (hs : starEach [e] X.env = (false, eval e X.env) :: starEach [] X.env := by rfl) (hdb : (x == ("__debug__" : Str)) = false := by decide) : PMk X (.Call (.Name x p) [e] [] pos) (fun σ H Q => te σ H fun _ H1 => Q (.ref C) none H1) :=
  SkE.pmk_own1 PySem.F.excBase_ValueError c.q c.gC c.kC (raises_own c.exC c.tyC) hg he hs hdb
/-- a written dict of whole numbers -/
def NumD (K : PySem.W.Frag) (w : World) (d : Addr) (l : List (Str × Int)) : Prop := ∃ es n, KDict K w d es n ∧ ∀ p ∈ l, ∃ u, PySem.W.nsIn K d p.1 = some (some u) ∧ RelV (.int p.2) u
def rNotKd (d : Addr) (l : List (Str × Int)) : R2 := fun x y H Q => ∃ p ∈ l, x = .str p.1 ∧ y = .ref d ∧ Q (.bl false) H
theorem xNotInN {d : Addr} {l : List (Str × Int)} (D : NumD X.K X.w d l) : OpR X (compareOp .NotIn) (rNotKd d l) := by
  obtain ⟨es, n, D, h⟩ := D
  intro pins s σ H x y v u Q I rx ry ⟨p, hp, e1, e2, q⟩
  obtain ⟨u0, h1, _⟩ := h p hp
  exact op_notIn_kd D pins s σ H x y v u Q I rx ry ⟨p.1, some u0, e1, e2, h1, q⟩
end
section
variable {w : Wd} {δ : List (Option D)} {te : TE}
theorem ev_adr {a : Addr} : Ev w (tC (.ref a)) δ (.adr a) := fun ok σ H e I Q q => q _ _ H rfl (Ex.refl H) I (.adr a)
theorem r2_notKd {d : Addr} {l : List (Str × Int)} {p : Str × Int} (hp : p ∈ l) : R2P w (rNotKd d l) (.str p.1) (.adr d) fun x => x = .bl false := fun ok H x y I ra rb Q q => by
  cases ra
  cases rb
  exact ⟨p, hp, rfl, rfl, q _ _ H rfl (Ex.refl H) I (.bl _)⟩
theorem r2_xKd {W : World} {d : Addr} {l : List (Str × Int)} {p : Str × Int} (D : NumD w.K W d l) (hp : p ∈ l) : R2P w (rIxU w.K W) (.adr d) (.str p.1) fun x => x = .int p.2 := fun ok H x y I ra rb Q q => by
  cases ra
  cases rb
  obtain ⟨es, n, D, h⟩ := D
  obtain ⟨u0, h1, h2⟩ := h p hp
  exact .inr (.inr ⟨d, p.1, .int p.2, rfl, rfl, ⟨es, n, u0, D.at_, D.lit, h1, h2⟩, q _ _ H rfl (Ex.refl H) I (.int _)⟩)
end
theorem log_small {i : Int} (h : -1000 ≤ i ∧ i ≤ 1000) : i.natAbs.log2 < 1920 := by
  have h1 : i.natAbs ≤ 1000 := by omega
  by_cases h0 : i.natAbs = 0
  · rw [h0]; decide
  · have := (Nat.log2_lt h0 (k := 10)).mpr (by omega)
    omega
abbrev s_check_count : Stmt := topS 16
abbrev ns_check_count : List Str := ["value", "least", "most"]
theorem sc_check_count : FnScope ns_check_count ["value", "least", "most"] (defScope s_check_count) := ⟨rfl, rfl, rfl, by decide +kernel, rfl, by decide +kernel, by decide +kernel⟩
abbrev s_check_sizes : Stmt := topS 24
abbrev ns_check_sizes : List Str := ["n", "width", "many"]
theorem sc_check_sizes : FnScope ns_check_sizes ["n", "width", "many"] (defScope s_check_sizes) := ⟨rfl, rfl, rfl, by decide +kernel, rfl, by decide +kernel, by decide +kernel⟩
section
variable {P : Program} {w : World} {K : PySem.W.Frag} {mg : Str → Option Value} {base : Heap} {C : Addr} {XA : ExAds}
theorem same_in {N : Addr → Prop} {H0 H : Hp} {M : ML} (I : ((pureW K C N H0).wi M).I H) : Same H0 H := I.1.2
theorem ex_same {H H' : Hp} (e : Ex (fun _ => False) H H') : Same H H' := fun a o h => e a o h (.inl id)
def sCheckCount : Spec := fun ds P PE => ∃ (s : Sc) (a b : Int), ds = [s.d, .int a, .int b] ∧ (-1000 ≤ a ∧ a ≤ 1000) ∧ (-1000 ≤ b ∧ b ≤ 1000) ∧ (s.wi a b = true → P s.d) ∧ (s.wi a b = false → PE .size)
theorem str_len_small {i : Int} (h : -1000 ≤ i ∧ i ≤ 1000) : (Str.ofString (toString i)).length ≤ 1000 := by
  have := int_text_length_le10 (a := i) (k := 4) (by decide) (by have : i.natAbs ≤ 1000 := by omega
                                                                 omega)
  rw [PySem.ofString_length]
  omega
theorem c_check_count (F : Df K mg "check_count" s_check_count ["value", "least", "most"]) (c_integer_within : Cal P w K mg base 1 "integer_within" (spX K C XA sNumber)) (x_BadSize : ErrC K mg "BadSize" XA.size) : Cal P w K mg base 2 "check_count" (spX K C XA sCheckCount) := by
  refine fn_X F sc_check_count (fun ds Q E ⟨_, _, _, e, _⟩ => by rw [e]; rfl) fun f cdv A outer s H E hr => ⟨_, (pss_cons (ps_if (pt_not (pt_val (pe_cal c_integer_within hr (pa_cons (pv 0) (pa_cons (pv 1) (pa_cons (pv 2) pa_nil)))))) (pss_one (ps_raise rfl (takes_of rfl rfl rfl rfl) (x_BadSize.mk1 (pe_joined (.cons pe_str (.cons (pe_fmt (pv 1)) (.cons pe_str (.cons (pe_fmt (pv 2)) (.cons pe_str .nil)))))) rfl))) pss_nil)
        (pss_one (ps_ret (pv 0)))), ?_⟩
  rintro N H0 ds Pd PE ⟨s, a, b, rfl, ha, hb, hp, hpe⟩ hE De hrt hnx
  have bb := pure_base (K := K) (C := C) (N := N) (H0 := H0)
  refine go_when bb.ok (et_notd (et_Bd (ev_call (P := fun d => d = .bl (s.wi a b)) (ea_cons (ev_var rfl) (ea_cons (ev_var rfl) (ea_cons (ev_var rfl) ea_nil))) ⟨s, a, b, rfl, rfl⟩))) (fun h => ?_) (fun h => ?_)
  · have hw : s.wi a b = false := by cases e : s.wi a b with | false => rfl | true => rw [e] at h; cases h
    refine go_raise1 bb (evp_joined (ej_cons ev_str (Nat.le_refl _) (ej_cons (ev_fmtI (ev_var rfl) (log_small ha)) (str_len_small ha) (ej_cons ev_str (Nat.le_refl _) (ej_cons (ev_fmtI (ev_var rfl) (log_small hb)) (str_len_small hb) (ej_cons ev_str (Nat.le_refl _) ej_nil))))) (by decide)) fun H e I => hE .size _ _ _ (hpe hw) (same_in I) rfl
  · have hw : s.wi a b = true := by cases e : s.wi a b with | false => rw [e] at h; cases h | true => rfl
    refine go_ret bb.ok (ev_var rfl) fun d v H pd e I r => ?_
    subst pd
    exact hrt _ _ _ (hp hw) e r
def sCheckSizes : Spec := fun ds P PE => ∃ (n w m : Sc), ds = [n.d, w.d, m.d] ∧ ((n.wi 2 16 = true ∧ w.wi 1 24 = true ∧ m.wi 0 4 = true) → P .non) ∧ (¬ (n.wi 2 16 = true ∧ w.wi 1 24 = true ∧ m.wi 0 4 = true) → PE .size)
theorem ev_count {N : Addr → Prop} {H0 : Hp} {M : ML} {δ : List (Option D)} {E : XK} {PE : Er → Prop} {ta tb tc : TE} {s : Sc} {a b : Int} (hE : ∀ er c dx H', PE er → Same H0 H' → ErAt XA er c dx H' → E c dx H') (h1 : Ev ((pureW K C N H0).wi M) ta δ s.d) (h2 : Ev ((pureW K C N H0).wi M) tb δ (.int a)) (h3 : Ev ((pureW K C N H0).wi M) tc δ (.int b)) (ha : -1000 ≤ a ∧ a ≤ 1000) (hb : -1000 ≤ b ∧ b ≤ 1000) (he : s.wi a b = false → PE .size) :
    EvP ((pureW K C N H0).wi M) (tCall (spX K C XA sCheckCount) [] E (tCons ta (tCons tb (tCons tc tNil)))) δ (fun d => s.wi a b = true ∧ d = s.d) :=
  ev_callX (PE := fun er => er = .size ∧ s.wi a b = false) (ea_cons h1 (ea_cons h2 (ea_cons h3 ea_nil))) ⟨s, a, b, rfl, ha, hb, fun h => ⟨h, rfl⟩, fun h => ⟨rfl, h⟩⟩ fun er c dx H' ⟨e, z⟩ I ea => hE er c dx H' (by rw [e]; exact he z) (same_in I) ea
theorem c_check_sizes (F : Df K mg "check_sizes" s_check_sizes ["n", "width", "many"]) (c_check_count : Cal P w K mg base 2 "check_count" (spX K C XA sCheckCount)) (g_LEAST_LETTERS : Gc mg "LEAST_LETTERS" (.int 2)) (g_MOST_LETTERS : Gc mg "MOST_LETTERS" (.int 16)) (g_MOST_WIDTH : Gc mg "MOST_WIDTH" (.int 24)) (g_MOST_RECENTS : Gc mg "MOST_RECENTS" (.int 4)) :
    Cal P w K mg base 3 "check_sizes" (spX K C XA sCheckSizes) := by
  refine fn_X F sc_check_sizes (fun ds Q E ⟨_, _, _, e, _⟩ => by rw [e]; rfl) fun f cdv A outer s H E hr => ⟨_, (pss_cons (ps_expr (pe_calX (takes_of rfl rfl rfl rfl) c_check_count hr (pa_cons (pv 0) (pa_cons (pe_gk g_LEAST_LETTERS) (pa_cons (pe_gk g_MOST_LETTERS) pa_nil)))))
        (pss_cons (ps_expr (pe_calX (takes_of rfl rfl rfl rfl) c_check_count hr (pa_cons (pv 1) (pa_cons pe_int (pa_cons (pe_gk g_MOST_WIDTH) pa_nil)))))
        (pss_one (ps_expr (pe_calX (takes_of rfl rfl rfl rfl) c_check_count hr (pa_cons (pv 2) (pa_cons pe_int (pa_cons (pe_gk g_MOST_RECENTS) pa_nil)))))))), ?_⟩
  rintro N H0 ds Pd PE ⟨n, wd, m, rfl, hp, hpe⟩ hE De hrt hnx
  have bb := pure_base (K := K) (C := C) (N := N) (H0 := H0)
  refine go_drop bb.ok (ev_count hE (ev_var rfl) ev_int ev_int (by omega) (by omega) fun h => hpe fun z => by rw [h] at z; cases z.1) fun ⟨d, h1, _⟩ => ?_
  refine go_drop bb.ok (ev_count hE (ev_var rfl) ev_int ev_int (by omega) (by omega) fun h => hpe fun z => by rw [h] at z; cases z.2.1) fun ⟨d, h2, _⟩ => ?_
  refine go_drop' bb.ok (ev_count hE (ev_var rfl) ev_int ev_int (by omega) (by omega) fun h => hpe fun z => by rw [h] at z; cases z.2.2) fun ⟨d, h3, _⟩ => ?_
  exact go_next fun σ H q => hnx (hp ⟨h1, h2, h3⟩) σ H q.ex
/-! tokens -/
inductive TokR where
  | tk (t : Tok)
  | bad
  | non
def TokR.d : TokR → D
  | .tk t => t.d
  | .bad => .lst [.str "stop"]
  | .non => .non
structure Z3 where
  n : Nat
  w : Nat
  m : Nat
def Tok.okB (z : Z3) : Tok → Bool
  | .letter a => (Sc.int a).wi 0 ((z.n : Int) - 1)
  | .copy d l => (Sc.int d).wi 1 z.w && (Sc.int l).wi 1 40
  | .again i e l => decide ((i : Int) < z.m) && (decide ((e : Int) < z.w) && (Sc.int l).wi 1 40)
  | .turn j => decide ((j : Int) < 6)
  | .stop => true
def TokR.okB (z : Z3) : TokR → Bool
  | .tk t => t.okB z
  | _ => false
end
abbrev numsL : List (Str × Int) := [("letter", 1), ("copy", 2), ("again", 3), ("turn", 1), ("stop", 0)]
abbrev sgnL : List (Str × Int) := [("letter", 2), ("copy", 4), ("again", 4), ("turn", 1), ("stop", 0)]
abbrev s_has_form : Stmt := topS 22
abbrev ns_has_form : List Str := ["token", "number"]
theorem sc_has_form : FnScope ns_has_form ["token"] (defScope s_has_form) := ⟨rfl, rfl, rfl, by decide +kernel, rfl, by decide +kernel, by decide +kernel⟩
abbrev s_in_bounds : Stmt := topS 23
abbrev ns_in_bounds : List Str := ["token", "n", "width", "many"]
theorem sc_in_bounds : FnScope ns_in_bounds ["token", "n", "width", "many"] (defScope s_in_bounds) := ⟨rfl, rfl, rfl, by decide +kernel, rfl, by decide +kernel, by decide +kernel⟩
abbrev s_check_token : Stmt := topS 25
abbrev ns_check_token : List Str := ["token", "n", "width", "many"]
theorem sc_check_token : FnScope ns_check_token ["token", "n", "width", "many"] (defScope s_check_token) := ⟨rfl, rfl, rfl, by decide +kernel, rfl, by decide +kernel, by decide +kernel⟩
abbrev s_has_sign_form : Stmt := topS 30
abbrev ns_has_sign_form : List Str := ["sign", "number"]
theorem sc_has_sign_form : FnScope ns_has_sign_form ["sign"] (defScope s_has_sign_form) := ⟨rfl, rfl, rfl, by decide +kernel, rfl, by decide +kernel, by decide +kernel⟩
section
variable {P : Program} {w : World} {K : PySem.W.Frag} {mg : Str → Option Value} {base : Heap} {C : Addr} {XA : ExAds} {dN dS : Addr}
def sHasForm : Spec := fun ds P _ => ∃ t : TokR, ds = [t.d] ∧ P (.bl (match t with | .tk _ => true | _ => false))
theorem c_has_form (F : Df K mg "has_form" s_has_form ["token"]) (B : Blt mg) (g_NUMBERS : Gc mg "NUMBERS" (.ref dN)) (d_NUMBERS : NumD K w dN numsL) : Cal P w K mg base 1 "has_form" (spX K C XA sHasForm) := by
  refine fn_X F sc_has_form (fun ds Q E ⟨_, e, _⟩ => by rw [e]; rfl) fun f cdv A outer s H E hr => ⟨_, (pss_cons (ps_if (PW.pt (pw_or (pt_not (pt_val (pe_callB call_isi rfl B.b_isinstance bt_isinstance (pa_cons (pv 0) (pa_cons (pe_bltn (v := .ty "tuple") rfl B.b_tuple bt_tuple rfl) pa_nil))))) (pw_or (pt_cmpR (xEq K hr.units) (pe_callB (xLen K) rfl B.b_len bt_len (pa_cons (pv 0) pa_nil)) pe_int (nomark _)) (pw_or1 (pt_not (pt_val (pe_callB call_isi rfl B.b_isinstance bt_isinstance (pa_cons (pe_ix (xIx K w) (pv 0) pe_int (fun _ _ => rfl)) (pa_cons (pe_bltn (v := .ty "str") rfl B.b_str bt_str rfl) pa_nil))))))))) (pss_one (ps_ret pe_bl)) pss_nil)
        (pss_cons (ps_if (PW.pt (pw_or (pt_cmpR (xNotInN d_NUMBERS) (pe_ix (xIx K w) (pv 0) pe_int (fun _ _ => rfl)) (pe_gk g_NUMBERS) (by with_unfolding_all rfl)) (pw_or1 (pt_cmpR (xNe K hr.units) (pe_callB (xLen K) rfl B.b_len bt_len (pa_cons (pv 0) pa_nil)) (pe_op (xAdd K) pe_int (pe_ix (xIx K w) (pe_gk g_NUMBERS) (pe_ix (xIx K w) (pv 0) pe_int (fun _ _ => rfl)) (fun _ _ => rfl))) (nomark _))))) (pss_one (ps_ret pe_bl)) pss_nil)
        (pss_cons (ps_for (passes_of rfl) rfl (pi_tup (pe_slice (xSl K) (pv 0) (po_some pe_int) po_none)) (pg_nm 1 sc_has_form.nd) (pss_one (ps_if (PW.pt (pw_or (pt_not (pt_val (pe_callB call_isi rfl B.b_isinstance bt_isinstance (pa_cons (pv 1) (pa_cons (pe_bltn (v := .ty "int") rfl B.b_int bt_int rfl) pa_nil))))) (pw_or (pt_val (pe_callB call_isi rfl B.b_isinstance bt_isinstance (pa_cons (pv 1) (pa_cons (pe_bltn (v := .ty "bool") rfl B.b_bool bt_bool rfl) pa_nil)))) (pw_or1 (pt_cmpR xLt (pv 1) pe_int (nomark _)))))) (pss_one (ps_ret pe_bl)) pss_nil)))
        (pss_one (ps_ret pe_bl))))), ?_⟩
  rintro N H0 ds Pd PE ⟨t, rfl, hp⟩ hE De hrt hnx
  have bb := pure_base (K := K) (C := C) (N := N) (H0 := H0)
  have fin : ∀ {M : ML} {δ : List (Option D)} {k : Bool}, Pd (.bl k) → Go (pureW K C N H0) H0 [] M δ (tRet (tC (.bl k))) De := fun h => go_ret bb.ok ev_bl fun d v H pd ex I r => by
    subst pd
    exact hrt _ _ _ h ex r
  cases t with
  | bad =>
    refine go_when bb.ok (et_ord (y := true) (et_notd (et_Bd (ev_isi (T := "list") (k := false) (ev_var rfl) rfl rfl))) fun h => by cases h) (fun _ => fin hp) fun h => by cases h
  | non =>
    refine go_when bb.ok (et_ord (y := true) (et_notd (et_Bd (ev_isi (T := "NoneType") (k := false) (ev_var rfl) rfl rfl))) fun h => by cases h) (fun _ => fin hp) fun h => by cases h
  | tk t =>
    obtain ⟨z, ns, k, et, hk, hl, h0⟩ : ∃ (z : Str) (ns : List Nat) (k : Int), t.d = .tup (.str z :: ns.map fun n => .int (n : Nat)) ∧ (z, k) ∈ numsL ∧ (ns.length : Int) = k ∧ ns.length ≤ 3 := by
      cases t with
      | letter a => exact ⟨"letter", [a], 1, rfl, by simp, rfl, by simp⟩
      | copy d l => exact ⟨"copy", [d, l], 2, rfl, by simp, rfl, by simp⟩
      | again i e l => exact ⟨"again", [i, e, l], 3, rfl, by simp, rfl, by simp⟩
      | turn j => exact ⟨"turn", [j], 1, rfl, by simp, rfl, by simp⟩
      | stop => exact ⟨"stop", [], 0, rfl, by simp, rfl, by simp⟩
    have ed : TokR.d (.tk t) = .tup (.str z :: ns.map fun n => .int (n : Nat)) := et
    rw [ed]
    have e0 : ∀ {M : ML} {δ : List (Option D)}, δ[0]? = some (some (.tup (.str z :: ns.map fun n => .int (n : Nat)))) → Ev ((pureW K C N H0).wi M) (tOp (rIxU K w) (tVar 0) (tC (.int 0))) δ (.str z) := fun h => ev_op (ev_var h) ev_int (r2_xT (atI_nat (j := 0) rfl))
    have len : ∀ {M : ML} {δ : List (Option D)}, δ[0]? = some (some (.tup (.str z :: ns.map fun n => .int (n : Nat)))) → Ev ((pureW K C N H0).wi M) (tCB (rLenU K) (tCons (tVar 0) tNil)) δ (.int (1 + k)) := fun h => ev_is (ev_cb (ea_cons (ev_var h) ea_nil) (rc_len rfl)) (by rw [List.length_cons, List.length_map, ← hl, Int.natCast_add, Int.add_comm]; rfl)
    refine go_when bb.ok (Pb := fun b => b = false) (et_is (et_ord (et_notd (et_Bd (ev_isi (T := "tuple") (k := true) (ev_var rfl) rfl rfl))) fun _ => et_ord (et_testd (ev_op (len rfl) ev_int r2_eI)) fun _ => et_notd (et_Bd (ev_isi (T := "str") (k := true) (e0 rfl) rfl rfl))) ?_) (fun h => by cases h) fun _ => ?_
    · rw [decide_eq_false (by omega)]
      rfl
    refine go_when bb.ok (Pb := fun b => b = false) (et_is (et_ord (et_testd (ev_op (e0 rfl) ev_adr (r2_notKd hk))) fun _ => et_testd (ev_op (len rfl) (ev_op ev_int (ev_op ev_adr (e0 rfl) (r2_xKd d_NUMBERS hk)) r2_add) r2_nI)) ?_) (fun h => by cases h) fun _ => ?_
    · rw [decide_eq_true rfl]
      rfl
    refine go_for bb (ei_tup (ds := ns.map fun n => .int (n : Nat)) (ev_is (ev_sl (ev_var rfl) (eo_some ev_int) eo_none rs_T) (by rw [show cutD _ (some (1 : Int)) none = _ from cut_drop _ 1]; rfl))) (fun i δ M => M = [] ∧ ∃ u : Option D, δ = [some (.tup (.str z :: ns.map fun n => .int (n : Nat))), u]) ⟨rfl, none, rfl⟩ ?_ ?_
    · rintro x i d δ' M' hd ea ⟨rfl, u, rfl⟩
      rw [List.getElem?_map] at hd
      cases en : ns[i]? with
      | none => rw [en] at hd; cases hd
      | some m =>
        rw [en] at hd
        have hd := Option.some.inj hd
        subst hd
        refine ⟨_, eg_name, ?_⟩
        refine go_when' bb.ok (Pb := fun b => b = false) (et_is (et_ord (et_notd (et_Bd (ev_isi (T := "int") (k := true) (ev_var rfl) rfl rfl))) fun _ => et_ord (et_Bd (ev_isi (T := "int") (k := false) (ev_var rfl) rfl rfl)) fun _ => et_testd (ev_op (ev_var rfl) ev_int r2_lt)) ?_) (fun h => by cases h) fun _ => go_kept rfl ⟨rfl, _, rfl⟩
        rw [decide_eq_false (by omega)]
        rfl
    · rintro δ' M' ea ⟨rfl, u, rfl⟩
      exact fin hp
end
end Lr
set_option Elab.async false
set_option maxRecDepth 100000
set_option maxHeartbeats 4000000
set_option linter.all false
set_option autoImplicit false
/-! Tokens and signs, checked by the program; spread. -/
namespace Lr
open PySem L2 PyProof.Rows
section
variable {P : Program} {w : World} {K : PySem.W.Frag} {mg : Str → Option Value} {base : Heap} {C : Addr} {XA : ExAds} {dN dS eb : Addr}
def sInBounds : Spec := fun ds P _ => ∃ (t : Tok) (z : Z3), ds = [t.d, .int (z.n : Nat), .int (z.w : Nat), .int (z.m : Nat)] ∧ P (.bl (t.okB z))
theorem ev_within {N : Addr → Prop} {H0 : Hp} {M : ML} {δ : List (Option D)} {E : XK} {ta tb tc : TE} {i a b : Int} (h1 : Ev ((pureW K C N H0).wi M) ta δ (.int i)) (h2 : Ev ((pureW K C N H0).wi M) tb δ (.int a)) (h3 : Ev ((pureW K C N H0).wi M) tc δ (.int b)) :
    Ev ((pureW K C N H0).wi M) (tCall (spX K C XA sNumber) [] E (tCons ta (tCons tb (tCons tc tNil)))) δ (.bl ((Sc.int i).wi a b)) := ev_call (ea_cons h1 (ea_cons h2 (ea_cons h3 ea_nil))) ⟨.int i, _, _, rfl, rfl⟩
theorem c_in_bounds (F : Df K mg "in_bounds" s_in_bounds ["token", "n", "width", "many"]) (c_integer_within : Cal P w K mg base 1 "integer_within" (spX K C XA sNumber)) (g_MOST_LENGTH : Gc mg "MOST_LENGTH" (.int 40)) (g_MOST_TABLES : Gc mg "MOST_TABLES" (.int 6)) :
    Cal P w K mg base 2 "in_bounds" (spX K C XA sInBounds) := by
  refine fn_X F sc_in_bounds (fun ds Q E ⟨_, _, e, _⟩ => by rw [e]; rfl) fun f cdv A outer s H E hr => ⟨_, (pss_one (ps_match (pe_ix (xIx K w) (pv 0) pe_int (fun _ _ => rfl)) (pm_str (pss_one (ps_ret (pe_cal c_integer_within hr (pa_cons (pe_ix (xIx K w) (pv 0) pe_int (fun _ _ => rfl)) (pa_cons pe_int (pa_cons (pe_op xSub (pv 1) pe_int) pa_nil)))))) (pm_str (pss_one (ps_ret (pe_and (pe_cal c_integer_within hr (pa_cons (pe_ix (xIx K w) (pv 0) pe_int (fun _ _ => rfl)) (pa_cons pe_int (pa_cons (pv 2) pa_nil)))) (pe_one (pe_cal c_integer_within hr (pa_cons (pe_ix (xIx K w) (pv 0) pe_int (fun _ _ => rfl)) (pa_cons pe_int (pa_cons (pe_gk g_MOST_LENGTH) pa_nil)))))))) (pm_str (pss_one (ps_ret (pe_and (pe_cmpR xLt (pe_ix (xIx K w) (pv 0) pe_int (fun _ _ => rfl)) (pv 3) (nomark _)) (pe_and (pe_cmpR xLt (pe_ix (xIx K w) (pv 0) pe_int (fun _ _ => rfl)) (pv 2) (nomark _)) (pe_one (pe_cal c_integer_within hr (pa_cons (pe_ix (xIx K w) (pv 0) pe_int (fun _ _ => rfl)) (pa_cons pe_int (pa_cons (pe_gk g_MOST_LENGTH) pa_nil))))))))) (pm_str (pss_one (ps_ret (pe_cmpR xLt (pe_ix (xIx K w) (pv 0) pe_int (fun _ _ => rfl)) (pe_gk g_MOST_TABLES) (nomark _)))) (pm_any (pss_one (ps_ret pe_bl))))))))), ?_⟩
  rintro N H0 ds Pd PE ⟨t, z, rfl, hp⟩ hE De hrt hnx
  have bb := pure_base (K := K) (C := C) (N := N) (H0 := H0)
  have fin : ∀ {M : ML} {δ : List (Option D)} {te : TE} {k : Bool}, Ev ((pureW K C N H0).wi M) te δ (.bl k) → k = t.okB z → Go (pureW K C N H0) H0 [] M δ (tRet te) De := fun h e => go_ret bb.ok h fun d v H pd ex I r => by
    subst pd
    subst e
    exact hrt _ _ _ hp ex r
  have isT : t.d = .tup t.d.ds := by cases t <;> rfl
  have e0 : ∀ {M : ML} {δ : List (Option D)} {i : Int} {d : D}, atI t.d.ds i = some d → δ[0]? = some (some t.d) → Ev ((pureW K C N H0).wi M) (tOp (rIxU K w) (tVar 0) (tC (.int i))) δ d := fun h h0 => ev_op (ev_var h0) ev_int (r2_xT' isT h)
  cases t with
  | letter a =>
    refine go_match bb (e0 rfl rfl) ?_
    exact fin (ev_within (e0 rfl rfl) ev_int (ev_op (ev_var rfl) ev_int r2_sub)) rfl
  | copy d l =>
    refine go_match bb (e0 rfl rfl) ?_
    exact fin (ev_andV (ev_within (e0 rfl rfl) ev_int (ev_var rfl)) fun _ => ev_within (e0 rfl rfl) ev_int ev_int) rfl
  | again i e l =>
    refine go_match bb (e0 rfl rfl) ?_
    exact fin (ev_andV (ev_op (e0 rfl rfl) (ev_var rfl) r2_lt) fun _ => ev_andV (ev_op (e0 rfl rfl) (ev_var rfl) r2_lt) fun _ => ev_within (e0 rfl rfl) ev_int ev_int) rfl
  | turn j =>
    refine go_match bb (e0 rfl rfl) ?_
    exact fin (ev_op (e0 rfl rfl) ev_int r2_lt) rfl
  | stop =>
    refine go_match bb (e0 rfl rfl) ?_
    exact fin ev_bl rfl
structure Z3.Ok (z : Z3) : Prop where
  n : 2 ≤ z.n ∧ z.n ≤ 16
  w : 1 ≤ z.w ∧ z.w ≤ 24
  m : z.m ≤ 4
theorem wi_true {i a b : Int} (h1 : a ≤ i) (h2 : i ≤ b) : (Sc.int i).wi a b = true := by
  simp only [Sc.wi, Bool.and_eq_true, decide_eq_true_eq]
  exact ⟨h1, h2⟩
theorem ev_sizes {N : Addr → Prop} {H0 : Hp} {M : ML} {δ : List (Option D)} {E : XK} {ta tb tc : TE} {z : Z3} (hz : z.Ok) (h1 : Ev ((pureW K C N H0).wi M) ta δ (.int (z.n : Nat))) (h2 : Ev ((pureW K C N H0).wi M) tb δ (.int (z.w : Nat))) (h3 : Ev ((pureW K C N H0).wi M) tc δ (.int (z.m : Nat))) :
    EvP ((pureW K C N H0).wi M) (tCall (spX K C XA sCheckSizes) [] E (tCons ta (tCons tb (tCons tc tNil)))) δ (fun d => d = .non) :=
  ev_callX (PE := fun _ => False) (ea_cons h1 (ea_cons h2 (ea_cons h3 ea_nil))) ⟨.int z.n, .int z.w, .int z.m, rfl, fun _ => rfl, fun h => h ⟨wi_true (by have := hz.n; omega) (by have := hz.n; omega), wi_true (by have := hz.w; omega) (by have := hz.w; omega), wi_true (by omega) (by have := hz.m; omega)⟩⟩ fun _ _ _ _ z => z.elim
def sCheckToken : Spec := fun ds P PE => ∃ (t : TokR) (z : Z3), ds = [t.d, .int (z.n : Nat), .int (z.w : Nat), .int (z.m : Nat)] ∧ z.Ok ∧ (t.okB z = true → P t.d) ∧ (t.okB z = false → PE .token)
theorem c_check_token (F : Df K mg "check_token" s_check_token ["token", "n", "width", "many"]) (c_check_sizes : Cal P w K mg base 3 "check_sizes" (spX K C XA sCheckSizes)) (c_has_form : Cal P w K mg base 1 "has_form" (spX K C XA sHasForm)) (c_in_bounds : Cal P w K mg base 2 "in_bounds" (spX K C XA sInBounds))
    (x_BadToken : ErrC K mg "BadToken" XA.token) : Cal P w K mg base 4 "check_token" (spX K C XA sCheckToken) := by
  refine fn_X F sc_check_token (fun ds Q E ⟨_, _, e, _⟩ => by rw [e]; rfl) fun f cdv A outer s H E hr => ⟨_, (pss_cons (ps_expr (pe_calX (takes_of rfl rfl rfl rfl) c_check_sizes hr (pa_cons (pv 1) (pa_cons (pv 2) (pa_cons (pv 3) pa_nil)))))
        (pss_cons (ps_if (PW.pt (pw_or (pt_not (pt_val (pe_cal c_has_form hr (pa_cons (pv 0) pa_nil)))) (pw_or1 (pt_not (pt_val (pe_cal c_in_bounds hr (pa_cons (pv 0) (pa_cons (pv 1) (pa_cons (pv 2) (pa_cons (pv 3) pa_nil)))))))))) (pss_one (ps_raise rfl (takes_of rfl rfl rfl rfl) (x_BadToken.mk0 rfl))) pss_nil)
        (pss_one (ps_ret (pv 0))))), ?_⟩
  rintro N H0 ds Pd PE ⟨t, z, rfl, hz, hp, hpe⟩ hE De hrt hnx
  have bb := pure_base (K := K) (C := C) (N := N) (H0 := H0)
  refine go_drop bb.ok (ev_sizes hz (ev_var rfl) (ev_var rfl) (ev_var rfl)) fun _ => ?_
  have test : EvT ((pureW K C N H0).wi []) (tOr (tNot (tB (tCall (spX K C XA sHasForm) [] E0 (tCons (tVar 0) tNil)))) (tNot (tB (tCall (spX K C XA sInBounds) [] E0 (tCons (tVar 0) (tCons (tVar 1) (tCons (tVar 2) (tCons (tVar 3) tNil)))))))) [some t.d, some (.int (z.n : Nat)), some (.int (z.w : Nat)), some (.int (z.m : Nat))] (!t.okB z) := by
    cases t with
    | bad => exact et_is (et_ord (y := true) (et_notd (et_Bd (ev_call (ea_cons (ev_var rfl) ea_nil) ⟨.bad, rfl, rfl⟩))) fun h => by cases h) rfl
    | non => exact et_is (et_ord (y := true) (et_notd (et_Bd (ev_call (ea_cons (ev_var rfl) ea_nil) ⟨.non, rfl, rfl⟩))) fun h => by cases h) rfl
    | tk t => exact et_is (et_ord (et_notd (et_Bd (ev_call (ea_cons (ev_var rfl) ea_nil) ⟨.tk t, rfl, rfl⟩))) fun _ => et_notd (et_Bd (ev_call (P := fun d => d = .bl (t.okB z)) (ea_cons (ev_var rfl) (ea_cons (ev_var rfl) (ea_cons (ev_var rfl) (ea_cons (ev_var rfl) ea_nil)))) ⟨t, z, rfl, rfl⟩))) rfl
  refine go_when bb.ok test (fun h => ?_) (fun h => ?_)
  · have hw : t.okB z = false := by cases e : t.okB z with | false => rfl | true => rw [e] at h; cases h
    exact go_raise fun H e I => hE .token _ _ _ (hpe hw) (same_in I) rfl
  · have hw : t.okB z = true := by cases e : t.okB z with | false => rw [e] at h; cases h | true => rfl
    refine go_ret bb.ok (ev_var rfl) fun d v H pd e I r => ?_
    subst pd
    exact hrt _ _ _ (hp hw) e r
/-! signs -/
def sHasSignForm : Spec := fun ds P _ => ∃ g : SgR, ds = [g.d] ∧ P (.bl (match g with | .sg _ => true | _ => false))
theorem c_has_sign_form (F : Df K mg "has_sign_form" s_has_sign_form ["sign"]) (B : Blt mg) (g_SIGN_NUMBERS : Gc mg "SIGN_NUMBERS" (.ref dS)) (d_SIGN_NUMBERS : NumD K w dS sgnL) : Cal P w K mg base 1 "has_sign_form" (spX K C XA sHasSignForm) := by
  refine fn_X F sc_has_sign_form (fun ds Q E ⟨_, e, _⟩ => by rw [e]; rfl) fun f cdv A outer s H E hr => ⟨_, (pss_cons (ps_if (PW.pt (pw_or (pt_not (pt_val (pe_callB call_isi rfl B.b_isinstance bt_isinstance (pa_cons (pv 0) (pa_cons (pe_bltn (v := .ty "tuple") rfl B.b_tuple bt_tuple rfl) pa_nil))))) (pw_or (pt_cmpR (xEq K hr.units) (pe_callB (xLen K) rfl B.b_len bt_len (pa_cons (pv 0) pa_nil)) pe_int (nomark _)) (pw_or1 (pt_not (pt_val (pe_callB call_isi rfl B.b_isinstance bt_isinstance (pa_cons (pe_ix (xIx K w) (pv 0) pe_int (fun _ _ => rfl)) (pa_cons (pe_bltn (v := .ty "str") rfl B.b_str bt_str rfl) pa_nil))))))))) (pss_one (ps_ret pe_bl)) pss_nil)
        (pss_cons (ps_if (PW.pt (pw_or (pt_cmpR (xNotInN d_SIGN_NUMBERS) (pe_ix (xIx K w) (pv 0) pe_int (fun _ _ => rfl)) (pe_gk g_SIGN_NUMBERS) (by with_unfolding_all rfl)) (pw_or1 (pt_cmpR (xNe K hr.units) (pe_callB (xLen K) rfl B.b_len bt_len (pa_cons (pv 0) pa_nil)) (pe_op (xAdd K) pe_int (pe_ix (xIx K w) (pe_gk g_SIGN_NUMBERS) (pe_ix (xIx K w) (pv 0) pe_int (fun _ _ => rfl)) (fun _ _ => rfl))) (nomark _))))) (pss_one (ps_ret pe_bl)) pss_nil)
        (pss_cons (ps_for (passes_of rfl) rfl (pi_tup (pe_slice (xSl K) (pv 0) (po_some pe_int) po_none)) (pg_nm 1 sc_has_sign_form.nd) (pss_one (ps_if (PW.pt (pw_or (pt_not (pt_val (pe_callB call_isi rfl B.b_isinstance bt_isinstance (pa_cons (pv 1) (pa_cons (pe_bltn (v := .ty "int") rfl B.b_int bt_int rfl) pa_nil))))) (pw_or1 (pt_val (pe_callB call_isi rfl B.b_isinstance bt_isinstance (pa_cons (pv 1) (pa_cons (pe_bltn (v := .ty "bool") rfl B.b_bool bt_bool rfl) pa_nil))))))) (pss_one (ps_ret pe_bl)) pss_nil)))
        (pss_one (ps_ret pe_bl))))), ?_⟩
  rintro N H0 ds Pd PE ⟨t, rfl, hp⟩ hE De hrt hnx
  have bb := pure_base (K := K) (C := C) (N := N) (H0 := H0)
  have fin : ∀ {M : ML} {δ : List (Option D)} {k : Bool}, Pd (.bl k) → Go (pureW K C N H0) H0 [] M δ (tRet (tC (.bl k))) De := fun h => go_ret bb.ok ev_bl fun d v H pd ex I r => by
    subst pd
    exact hrt _ _ _ h ex r
  cases t with
  | bad =>
    refine go_when bb.ok (et_ord (y := true) (et_notd (et_Bd (ev_isi (T := "list") (k := false) (ev_var rfl) rfl rfl))) fun h => by cases h) (fun _ => fin hp) fun h => by cases h
  | sg t =>
    obtain ⟨z, ns, k, et, hk, hl, h0⟩ : ∃ (z : Str) (ns : List Nat) (k : Int), t.d = .tup (.str z :: ns.map fun n => .int (n : Nat)) ∧ (z, k) ∈ sgnL ∧ (ns.length : Int) = k ∧ ns.length ≤ 4 := by
      cases t with
      | letter a x => exact ⟨"letter", [a, x], 2, rfl, by simp, rfl, by simp⟩
      | copy d x l y => exact ⟨"copy", [d, x, l, y], 4, rfl, by simp, rfl, by simp⟩
      | again i e l y => exact ⟨"again", [i, e, l, y], 4, rfl, by simp, rfl, by simp⟩
      | turn j => exact ⟨"turn", [j], 1, rfl, by simp, rfl, by simp⟩
      | stop => exact ⟨"stop", [], 0, rfl, by simp, rfl, by simp⟩
    have ed : SgR.d (.sg t) = .tup (.str z :: ns.map fun n => .int (n : Nat)) := et
    rw [ed]
    have e0 : ∀ {M : ML} {δ : List (Option D)}, δ[0]? = some (some (.tup (.str z :: ns.map fun n => .int (n : Nat)))) → Ev ((pureW K C N H0).wi M) (tOp (rIxU K w) (tVar 0) (tC (.int 0))) δ (.str z) := fun h => ev_op (ev_var h) ev_int (r2_xT (atI_nat (j := 0) rfl))
    have len : ∀ {M : ML} {δ : List (Option D)}, δ[0]? = some (some (.tup (.str z :: ns.map fun n => .int (n : Nat)))) → Ev ((pureW K C N H0).wi M) (tCB (rLenU K) (tCons (tVar 0) tNil)) δ (.int (1 + k)) := fun h => ev_is (ev_cb (ea_cons (ev_var h) ea_nil) (rc_len rfl)) (by rw [List.length_cons, List.length_map, ← hl, Int.natCast_add, Int.add_comm]; rfl)
    refine go_when bb.ok (Pb := fun b => b = false) (et_is (et_ord (et_notd (et_Bd (ev_isi (T := "tuple") (k := true) (ev_var rfl) rfl rfl))) fun _ => et_ord (et_testd (ev_op (len rfl) ev_int r2_eI)) fun _ => et_notd (et_Bd (ev_isi (T := "str") (k := true) (e0 rfl) rfl rfl))) ?_) (fun h => by cases h) fun _ => ?_
    · rw [decide_eq_false (by omega)]
      rfl
    refine go_when bb.ok (Pb := fun b => b = false) (et_is (et_ord (et_testd (ev_op (e0 rfl) ev_adr (r2_notKd hk))) fun _ => et_testd (ev_op (len rfl) (ev_op ev_int (ev_op ev_adr (e0 rfl) (r2_xKd d_SIGN_NUMBERS hk)) r2_add) r2_nI)) ?_) (fun h => by cases h) fun _ => ?_
    · rw [decide_eq_true rfl]
      rfl
    refine go_for bb (ei_tup (ds := ns.map fun n => .int (n : Nat)) (ev_is (ev_sl (ev_var rfl) (eo_some ev_int) eo_none rs_T) (by rw [show cutD _ (some (1 : Int)) none = _ from cut_drop _ 1]; rfl))) (fun i δ M => M = [] ∧ ∃ u : Option D, δ = [some (.tup (.str z :: ns.map fun n => .int (n : Nat))), u]) ⟨rfl, none, rfl⟩ ?_ ?_
    · rintro x i d δ' M' hd ea ⟨rfl, u, rfl⟩
      rw [List.getElem?_map] at hd
      cases en : ns[i]? with
      | none => rw [en] at hd; cases hd
      | some m =>
        rw [en] at hd
        have hd := Option.some.inj hd
        subst hd
        refine ⟨_, eg_name, ?_⟩
        exact go_when' bb.ok (Pb := fun b => b = false) (et_is (et_ord (et_notd (et_Bd (ev_isi (T := "int") (k := true) (ev_var rfl) rfl rfl))) fun _ => et_Bd (ev_isi (T := "int") (k := false) (ev_var rfl) rfl rfl)) rfl) (fun h => by cases h) fun _ => go_kept rfl ⟨rfl, _, rfl⟩
    · rintro δ' M' ea ⟨rfl, u, rfl⟩
      exact fin hp
end
end Lr
set_option Elab.async false
set_option maxRecDepth 100000
set_option maxHeartbeats 4000000
set_option linter.all false
set_option autoImplicit false
/-! enumerate of a tuple, of a text. -/
namespace Lr
open PySem L2 PyProof.Rows
theorem meets_enum1 {v : Value} {o : Obj} {H : Heap → Prop} (B : Begins v o H) :
    Meets (Builtin.«enumerate.__new__» ⟨[.type "enumerate", v], []⟩) (fun _ R s => H s.heap ∧
      R (.ok (.ret (.ref (s.heap.push o).objs.size))) { s with heap := (s.heap.push o).push { cls := .type "enumerate", data := .fields #[.none, .bool false, .ref s.heap.objs.size, rawInt 0, .none, .none] } }) :=
  .of_wp fun prog w A R s h => by
    obtain ⟨hp, g, d, tk, os⟩ := s
    obtain ⟨h1, h⟩ := h
    have hsub := sub_enumerate
    have q1 : ∀ {A' : Around} {E : Value → Shared → Prop} {Q : Value → Shared → Prop}, Q (.ref hp.objs.size) ⟨hp.push o, g, d, tk, os⟩ → wpAny (model prog w) A' (pyIter v) Q E ⟨hp, g, d, tk, os⟩ :=
      fun q => B.iter prog w _ _ ⟨hp, g, d, tk, os⟩ _ h1 q
    wp_walk using q1
    refine wpAny_stack_any fun st => wpAny_pure ?_
    split
    · rename_i c _ _ _ _ _
      cases (c == Value.type "enumerate")
      · wp_walk using q1
        exact ⟨_, rfl, h⟩
      · wp_walk using q1
        exact ⟨_, rfl, h⟩
    · wp_walk using q1
      exact ⟨_, rfl, h⟩
section
variable {prog : Program} {w : World} {A : Around} {E : Value → Shared → Prop} {s : Shared}
theorem call_enum1 {v : Value} {o : Obj} {H : Heap → Prop} {Q : Value → Shared → Prop} (B : Begins v o H) (h1 : H s.heap)
    (h : ∀ h', IsEnum h' (s.heap.objs.size + 1) s.heap.objs.size 0 .none → h'.get? s.heap.objs.size = some o → h'.objs.size = s.heap.objs.size + 2 →
      (∀ b o, s.heap.get? b = some o → h'.get? b = some o) → Q (.ref (s.heap.objs.size + 1)) { s with heap := h' }) :
    wpAny (model prog w) A (call (.type "enumerate") [v]) Q E s := by
  refine callType_new F.called_enumerate (by decide) (F.typeCall_enumerate_1 _) (F.newCall_enumerate_1 _) (fun obj => F.args_object_init_2 obj _) F.entry_enumerate_new (meets_enum1 B) ⟨h1, ?_⟩
  have hz : (s.heap.push o).objs.size = s.heap.objs.size + 1 := Heap.size_push ..
  show _ ∧ _
  rw [hz]
  have he : IsEnum ((s.heap.push o).push { cls := .type "enumerate", data := .fields #[.none, .bool false, .ref s.heap.objs.size, rawInt 0, .none, .none] }) (s.heap.objs.size + 1) s.heap.objs.size 0 .none := by
    have := Heap.get?_push_size (s.heap.push o) (o := { cls := .type "enumerate", data := .fields #[.none, .bool false, .ref s.heap.objs.size, rawInt 0, .none, .none] }) rfl
    rw [hz] at this
    exact this
  exact ⟨⟨_, he, rfl⟩, h _ he (Heap.get?_push_of_some _ (Heap.get?_push_size _ B.free)) (by rw [Heap.size_push, hz]) fun b o x => Heap.get?_push_of_some _ (Heap.get?_push_of_some _ x)⟩
end
/-- items in new pairs with their places; at: the i-th item in a heap -/
def IteG (n : Hp → Nat → Prop) (at_ : Nat → V → Hp → Prop) : It :=
  ⟨fun i H => ∃ m, n H m ∧ i < m, fun i H v H' => ∃ T x, v = .ref T ∧ H T = none ∧ H' = upd H T (.tup [.int (i : Nat), x]) ∧ at_ i x H, fun i H => n H i⟩
/-- what is walked: how many items, which, and how its iterator stands -/
structure Src1 (K : PySem.W.Frag) (n : Hp → Nat → Prop) (at_ : Nat → V → Hp → Prop) (it : Addr) (tn : Nat → Heap → Prop) : Prop where
  obj : ∀ i h, tn i h → ∃ o, h.get? it = some o ∧ ∀ v, o.data ≠ .cell v
  keep : ∀ i h h', tn i h → (∀ o, h.get? it = some o → h'.get? it = some o) → tn i h'
  draws : ∀ (X : Cx), X.K = K → ∀ (pins : List (Addr × Obj)) (s : Shared) (σ : L2.St) (H : Hp) (m i : Nat), Inv X pins σ H s → X.A.handled = none → n H m → tn i s.heap → ∃ (fp : List Addr) (P : Nat → Value → Prop) (St : Nat → Heap → Prop),
    Draws X.prog X.w X.A.in1 it fp m P St ∧ St i s.heap ∧ (∀ i h, St i h → tn i h) ∧ (∀ e, e ≠ it → (∃ c, s.heap.get? e = some c ∧ c.cls = .type "enumerate") → e ∉ fp) ∧ ∀ i v, P i v → ∃ x, RelV x v ∧ at_ i x H
theorem turn_enumG {P : Program} {w : World} {K : PySem.W.Frag} {elts : List Expr} {kk : Nat} {tpos : Pos} {n : Hp → Nat → Prop} {at_ : Nat → V → Hp → Prop} {it : Addr} {tn : Nat → Heap → Prop} (e : Addr) (S : Src1 K n at_ it tn) :
    Turn P w K (.Tuple elts kk tpos) (IteG n at_) [e, it] e (fun i h => (∃ old, IsEnum h e it ((i : Nat) : Int) old) ∧ tn i h ∧ e ≠ it) where
  mem := by simp
  obj := fun i h st b hb => by
    obtain ⟨⟨old, he⟩, ht, _⟩ := st
    have e' : b = e ∨ b = it := by simpa using hb
    rcases e' with z | z
    · rw [z]; exact ⟨_, he, fun v q => nomatch q⟩
    · rw [z]; exact S.obj i h ht
  keep := fun i h h' st k => let ⟨⟨old, he⟩, ht, hne⟩ := st; ⟨⟨old, k e (by simp) _ he⟩, S.keep i h h' ht fun o q => k it (by simp) o q, hne⟩
  item := by
    intro X hP hw hK hc i pins s σ H E I hf st hg
    subst hP hw hK
    obtain ⟨⟨old, he⟩, ht, hne⟩ := st
    obtain ⟨m, hm, hlt⟩ := hg
    obtain ⟨fp, Pv, St, D, hF, hSt, hfp, hP⟩ := S.draws X rfl pins s σ H m i I (I.ok.hd hc) hm ht
    have hel : e < s.heap.objs.size := Heap.lt_size he
    have hil : it < s.heap.objs.size := by obtain ⟨_, q, _⟩ := S.obj _ _ ht; exact Heap.lt_size q
    refine wpAny_pyNext_enum_itemD D he hF hlt hne (hfp e hne ⟨_, he, rfl⟩) fun u h' tk hPu ho hst' hT hsz hk => ?_
    obtain ⟨x, ru, hat⟩ := hP i u hPu
    refine ⟨_, rfl, wpAny_letOwnedTupleGo_enum (s := { s with heap := h', toks := tk + 1 }) ho fun h'' he' sb => ?_⟩
    have hT2 : h''.get? s.heap.objs.size = some { cls := .type "tuple", data := .seq #[.int i tk, u] } := (sb.2 _ (Nat.ne_of_gt hel)).trans hT
    have new : ObjOk X.prog X.w (upd H s.heap.objs.size (.tup [.int (i : Nat), x])) h'' s.heap.objs.size (.tup [.int (i : Nat), x]) :=
      ⟨by show 2 ≤ sizeLine; decide, [.int i tk, u], .cons ⟨_, rfl⟩ (.cons ru .nil), ⟨_, hT2, rfl, _, rfl⟩⟩
    have I1 : Inv X pins σ (upd H s.heap.objs.size (.tup [.int (i : Nat), x])) { s with heap := h'', toks := tk + 1 } :=
      I.turnedNew (ch := [e, it]) (fun b ob hb q => (sb.2 b (fun z => hb (by simp [z]))).trans (hk b ob (fun z => hb (by simp [z])) (fun z => hb (by simp [z])) q)) hf (Nat.le_refl _) new
    refine ⟨.ref s.heap.objs.size, _, I1, rfl, ⟨_, x, rfl, I.hok.fresh (Nat.le_refl _), rfl, hat⟩, ⟨⟨u, ?_⟩, S.keep _ _ _ (hSt _ _ hst') fun o q => (sb.2 it (Ne.symm hne)).trans q, hne⟩, fun b hb => ?_⟩
    · have e1 : ((i + 1 : Nat) : Int) = (i : Int) + 1 := by omega
      rw [e1]; exact he'
    · have hb' : b < s.heap.objs.size := by
        have e' : b = e ∨ b = it := by simpa using hb
        rcases e' with z | z
        · rw [z]; exact hel
        · rw [z]; exact hil
      rw [upd_ne (Nat.ne_of_lt hb')]
      exact (hf b hb).1
  done := by
    intro X hP hw hK hc i pins s σ H E I hf st hg
    subst hP hw hK
    obtain ⟨⟨old, he⟩, ht, hne⟩ := st
    obtain ⟨fp, Pv, St, D, hF, hSt, hfp, hP⟩ := S.draws X rfl pins s σ H i i I (I.ok.hd hc) hg ht
    obtain ⟨f0, f1, f2, f3, f4, f5⟩ := hf it (by simp)
    exact wpAny_pyNext_enum_endD D he hF fun h' eb => ⟨rfl, I.turned (t' := s.toks) (fun b o hb q => eb b o hb q) f0 f1 f3 f4 f5⟩
  self := fun A i s Q E st h => let ⟨⟨_, he⟩, _⟩ := st; wpAny_pyIter_enum he h
def nT (K : PySem.W.Frag) (a : Addr) (H : Hp) (m : Nat) : Prop := ∃ xs, SqT K H a xs ∧ m = xs.length
def atT (K : PySem.W.Frag) (a : Addr) (i : Nat) (x : V) (H : Hp) : Prop := ∀ xs, SqT K H a xs → xs[i]? = some x
theorem src_tuple {K : PySem.W.Frag} (a it : Addr) : Src1 K (nT K a) (atT K a) it (fun i h => h.IsTupleIter it a i) where
  obj := fun i h ⟨o, e, c, d⟩ => ⟨o, e, fun v z => by rw [d] at z; cases z⟩
  keep := fun i h h' st k => st.at fun o e => k o e
  draws := fun X hK pins s σ H m i I hh ⟨xs, hs, hm⟩ ht => by
    subst hK
    obtain ⟨its, rv, p, hz⟩ := I.tuple hs
    have p : s.heap.IsTuple a its.toArray := p
    have hne : a ≠ it := fun e => by
      obtain ⟨o, ho, hc, _⟩ := p
      obtain ⟨o', ho', hc', _⟩ := ht
      rw [e, ho'] at ho
      have := Option.some.inj ho
      rw [← this, hc'] at hc
      injection hc with hc
      exact absurd hc (by decide)
    have hl : m = its.toArray.size := by rw [hm, rv.length]; rfl
    refine ⟨[it, a], fun i v => its.toArray[i]? = some v, fun i h => h.IsTupleIter it a i ∧ h.IsTuple a its.toArray, hl ▸ Draws.tuple (A := X.A.in1) hh it a hne its.toArray, ⟨ht, p⟩, fun i h z => z.1, fun e h1 ⟨c, h2, h3⟩ hm => ?_, fun i v hv => ?_⟩
    · rcases List.mem_cons.mp hm with z | hm
      · exact h1 z
      · have z := List.mem_singleton.mp hm
        obtain ⟨o, ho, hc, _⟩ := p
        rw [← z, h2] at ho
        have := Option.some.inj ho
        rw [← this, h3] at hc
        injection hc with hc
        exact absurd hc (by decide)
    · have hv' : its[i]? = some v := by simpa using hv
      have hi : i < xs.length := by rw [rv.length]; exact (List.getElem?_eq_some_iff.mp hv').1
      obtain ⟨u, hu, ru⟩ := rv.get (List.getElem?_eq_getElem hi)
      rw [hv'] at hu
      cases hu
      exact ⟨xs[i], ru, fun ys hy => by rw [I.tuple_inj hy hs]; exact List.getElem?_eq_getElem hi⟩
def atS (x : Str) (i : Nat) (v : V) (_ : Hp) : Prop := ∃ c, x.cps[i]? = some c ∧ v = .str ⟨#[c]⟩
theorem src_text {K : PySem.W.Frag} (x : Str) (t : PySem.Tok) (it : Addr) : Src1 K (fun _ m => m = x.cps.size) (atS x) it (fun i h => h.IsStrIter it (strIterType x) x t i) where
  obj := fun i h ⟨o, e, c, d⟩ => ⟨o, e, fun v z => by rw [d] at z; cases z⟩
  keep := fun i h h' ⟨o, e, r⟩ k => ⟨o, k _ e, r⟩
  draws := fun X hK pins s σ H m i I hh hm ht => by
    subst hm
    refine ⟨[it], _, _, Draws.text (A := X.A.in1) hh it x t, ht, fun _ _ z => z, fun e h1 _ hm => h1 (List.mem_singleton.mp hm), fun i v ⟨c, u, hc, hv⟩ => ⟨.str ⟨#[c]⟩, ⟨u, hv⟩, c, hc, rfl⟩⟩
/-- enumerate(e) -/
def iEnumT (K : PySem.W.Frag) (ta : TA) : TI := fun σ H R => ta σ H fun vs H1 => ∃ a xs, vs = [.ref a] ∧ SqT K H1 a xs ∧ R (IteG (nT K a) (atT K a)) H1
def iEnumS (ta : TA) : TI := fun σ H R => ta σ H fun vs H1 => ∃ x, vs = [.str x] ∧ R (IteG (fun _ m => m = x.cps.size) (atS x)) H1
section
variable {X : Cx} {e : Expr} {ta : TA} {p pos tpos : Pos} {elts : List Expr} {kk : Nat}
theorem pie_enum {pins : List (Addr × Obj)} {s : Shared} {σ : L2.St} {H : Hp} {R : It → Hp → Prop} {n : Hp → Nat → Prop} {at_ : Nat → V → Hp → Prop} {tn : Nat → Heap → Prop} {h' : Heap} {E : Value → Shared → Prop} (I : Inv X pins σ H s) (S : Src1 X.K n at_ s.heap.objs.size tn)
    (he : IsEnum h' (s.heap.objs.size + 1) s.heap.objs.size 0 .none) (ht : tn 0 h') (hk : ∀ b o, s.heap.get? b = some o → h'.get? b = some o) (q : R (IteG n at_) H) :
    wpAny (model X.prog X.w) X.A (pyIter (.ref (s.heap.objs.size + 1))) (PIE X pins σ (.Tuple elts kk tpos) R) E { s with heap := h' } := by
  refine wpAny_pyIter_enum he ?_
  refine ⟨s.heap.objs.size + 1, [s.heap.objs.size + 1, s.heap.objs.size], _, _, H, rfl, I.kept (t' := s.toks) hk, turn_enumG (s.heap.objs.size + 1) S, ⟨⟨.none, he⟩, ht, Nat.succ_ne_self _⟩, fun b hb => ?_, q⟩
  have e' : b = s.heap.objs.size + 1 ∨ b = s.heap.objs.size := by simpa using hb
  have hle : s.heap.objs.size ≤ b := by
    rcases e' with z | z
    · rw [z]; exact Nat.le_add_right _ _
    · rw [z]; exact Nat.le_refl _
  exact I.fpOk hle (I.hok.fresh hle)
theorem pi_enumT (hg : Gl X "enumerate") (hm : X.mg "enumerate" = none) (ha : PA X [e] ta) (hs : starEach [e] X.env = [(false, eval e X.env)] := by rfl) : PI X (.Tuple elts kk tpos) (.Call (.Name "enumerate" p) [e] [] pos) (iEnumT X.K ta) := by
  refine ⟨fun pins s σ H R I h => ?_⟩
  refine Call_ (ld_blt I hg hm boot_enumerate (PyProof.Rows.callWith_type1 (thn (ha.run pos pins s σ H _ I h) fun us s1 ⟨vs, H1, I1, r1, q1⟩ => ?_) hs rfl))
  obtain ⟨a, xs, ex, hq, q⟩ := q1
  subst ex
  cases r1 with
  | cons r rr =>
    cases rr
    cases r
    obtain ⟨its, rv, p', hz⟩ := I1.tuple hq
    exact call_enum1 (begins_tuple a its.toArray) (show s1.heap.IsTuple a its.toArray from p') fun h' he hit hsz hk => pie_enum I1 (src_tuple a _) he ⟨_, hit, rfl, rfl⟩ hk q
theorem pi_enumS (hg : Gl X "enumerate") (hm : X.mg "enumerate" = none) (ha : PA X [e] ta) (hs : starEach [e] X.env = [(false, eval e X.env)] := by rfl) : PI X (.Tuple elts kk tpos) (.Call (.Name "enumerate" p) [e] [] pos) (iEnumS ta) := by
  refine ⟨fun pins s σ H R I h => ?_⟩
  refine Call_ (ld_blt I hg hm boot_enumerate (PyProof.Rows.callWith_type1 (thn (ha.run pos pins s σ H _ I h) fun us s1 ⟨vs, H1, I1, r1, q1⟩ => ?_) hs rfl))
  obtain ⟨x, ex, q⟩ := q1
  subst ex
  cases r1 with
  | cons r rr =>
    cases rr
    obtain ⟨t, rfl⟩ := r
    exact call_enumerate_str fun h' he hit hsz hk => pie_enum I1 (src_text x t _) he hit hk q
end
/-! over data -/
section
variable {K : PySem.W.Frag} {C : Addr} {w : Wd} {δ : List (Option D)} {ta : TA} {ds : List D}
theorem walks_enumT {a : Addr} : Walks K C (IteG (nT K a) (atT K a)) (numbered ds) (.ref a) (.tup ds) where
  go := fun N H i r hi => by
    cases r with
    | @tup _ xs _ hs rr => exact ⟨xs.length, ⟨xs, hs, rfl⟩, by rw [rr.len]; rwa [numbered_len] at hi⟩
  yld := fun N H i x H' r hi y => by
    cases r with
    | @tup _ xs _ hs rr =>
      obtain ⟨T, z, rfl, hT, rfl, hz⟩ := y
      obtain ⟨d, h1, h2⟩ := rr.getV (hz xs hs)
      exact ⟨same_new hT, _, numbered_get h1, .tup (SqT.of upd_same) (.cons (.int _) (.cons (h2.car (Same.car (same_new hT))) .nil))⟩
  stop := fun N H i r hi => by
    cases r with
    | @tup _ xs _ hs rr => exact ⟨xs, hs, by rw [hi, numbered_len, rr.len]⟩
theorem ei_enumT (h : EvA w ta δ [.tup ds]) : EvI w (iEnumT w.K ta) δ (numbered ds) := fun ok σ H e I R q =>
  h ok σ H e I _ fun as vs H1 p e1 I1 r => by
    subst p
    cases r with
    | cons r t =>
      cases t
      cases r with
      | @tup a xs _ hs rr => exact ⟨a, xs, rfl, hs, q _ H1 _ _ e1 I1 walks_enumT (.tup hs rr)⟩
theorem walks_enumS (x : Str) : Walks K C (IteG (fun _ m => m = x.cps.size) (atS x)) (numbered (signsD x)) .non .non := by
  have hl : (numbered (signsD x)).length = x.cps.size := by rw [numbered_len]; simp [signsD]
  refine ⟨fun N H i _ hi => ⟨_, rfl, by rwa [hl] at hi⟩, fun N H i y H' _ hi z => ?_, fun N H i _ hi => by rw [hi, hl]; rfl⟩
  obtain ⟨T, u, rfl, hT, rfl, c, hc, rfl⟩ := z
  refine ⟨same_new hT, _, numbered_get (d := .str ⟨#[c]⟩) ?_, .tup (SqT.of upd_same) (.cons (.int _) (.cons (.str _) .nil))⟩
  unfold signsD
  rw [List.getElem?_map, Array.getElem?_toList, hc]
  rfl
theorem ei_enumS {x : Str} (h : EvA w ta δ [.str x]) : EvI w (iEnumS ta) δ (numbered (signsD x)) := fun ok σ H e I R q =>
  h ok σ H e I _ fun as vs H1 p e1 I1 r => by
    subst p
    cases r with
    | cons r t =>
      cases t
      cases r
      exact ⟨x, rfl, q _ H1 _ _ e1 I1 (walks_enumS x) .non⟩
end
end Lr
set_option Elab.async false
set_option maxRecDepth 100000
set_option maxHeartbeats 4000000
set_option linter.all false
set_option autoImplicit false
/-! Signs, checked by the program; spread. -/
namespace Lr
open PySem L2 PyProof.Rows
theorem RCP.imp' {w : Wd} {r : List V → Hp → VK → Prop} {as : List D} {P P' : D → Prop} (h : RCP w r as P) (i : ∀ d, P d → P' d) : RCP w r as P' := fun ok H xs I ra Q q => h ok H xs I ra Q fun d v H2 p => q d v H2 (i d p)
def strsT (l : List Str) : D := .tup (l.map .str)
/-- the written extra bits -/
def extraD : D := .tup [strsT [""], strsT ["0", "1"], strsT ["00", "01", "10", "11"], strsT ["000", "001", "010", "011", "100", "101", "110", "111"]]
def Wrt (K : PySem.W.Frag) (C : Addr) (v : V) (d : D) : Prop := ∀ (N : Addr → Prop) (H : Hp), Rp K C N H v d
theorem ev_wrt {w : Wd} {δ : List (Option D)} {v : V} {d : D} (h : Wrt w.K w.C v d) : Ev w (tC v) δ d := fun ok σ H e I Q q => q _ _ H rfl (Ex.refl H) I (h _ _)
def bitsL (x : Nat) : List (List Bool) := (List.range (2 ^ x)).map fun v => fig v x
def bitsD (x : Nat) : D := strsT ((bitsL x).map bs)
theorem bits0 : ([""] : List Str) = (bitsL 0).map bs := by decide +kernel
theorem bits1 : (["0", "1"] : List Str) = (bitsL 1).map bs := by decide +kernel
theorem bits2 : (["00", "01", "10", "11"] : List Str) = (bitsL 2).map bs := by decide +kernel
theorem bits3 : (["000", "001", "010", "011", "100", "101", "110", "111"] : List Str) = (bitsL 3).map bs := by decide +kernel
theorem extra_at {x : Nat} (h : x ≤ 3) : atI extraD.ds (x : Int) = some (bitsD x) := by
  have : x = 0 ∨ x = 1 ∨ x = 2 ∨ x = 3 := by omega
  unfold extraD bitsD
  rw [bits0, bits1, bits2, bits3]
  rcases this with rfl | rfl | rfl | rfl <;> exact atI_nat rfl
theorem bitsL_len (x : Nat) : (bitsL x).length = 2 ^ x := by simp [bitsL]
abbrev s_spans : Stmt := topS 31
abbrev ns_spans : List Str := ["first", "extra", "least", "most"]
theorem sc_spans : FnScope ns_spans ["first", "extra", "least", "most"] (defScope s_spans) := ⟨rfl, rfl, rfl, by decide +kernel, rfl, by decide +kernel, by decide +kernel⟩
abbrev s_sign_in_bounds : Stmt := topS 32
abbrev ns_sign_in_bounds : List Str := ["sign", "n", "width", "many", "tables"]
theorem sc_sign_in_bounds : FnScope ns_sign_in_bounds ["sign", "n", "width", "many", "tables"] (defScope s_sign_in_bounds) := ⟨rfl, rfl, rfl, by decide +kernel, rfl, by decide +kernel, by decide +kernel⟩
abbrev s_check_sign : Stmt := topS 33
abbrev ns_check_sign : List Str := ["sign", "n", "width", "many", "tables"]
theorem sc_check_sign : FnScope ns_check_sign ["sign", "n", "width", "many", "tables"] (defScope s_check_sign) := ⟨rfl, rfl, rfl, by decide +kernel, rfl, by decide +kernel, by decide +kernel⟩
abbrev s_spread : Stmt := topS 34
abbrev ns_spread : List Str := ["sign", "pairs", "v", "bits", "u", "more"]
theorem sc_spread : FnScope ns_spread ["sign"] (defScope s_spread) := ⟨rfl, rfl, rfl, by decide +kernel, rfl, by decide +kernel, by decide +kernel⟩
section
variable {P : Program} {w : World} {K : PySem.W.Frag} {mg : Str → Option Value} {base : Heap} {C : Addr} {XA : ExAds} {dN dS eb : Addr}
def sSpansP : Spec := fun ds P _ => ∃ (v x : Nat) (a b : Int), ds = [.int (v : Nat), .int (x : Nat), .int a, .int b] ∧ P (.bl (spansB v x a b))
theorem c_spans (F : Df K mg "spans" s_spans ["first", "extra", "least", "most"]) (B : Blt mg) (c_integer_within : Cal P w K mg base 1 "integer_within" (spX K C XA sNumber)) (g_MOST_EXTRA : Gc mg "MOST_EXTRA" (.int 3)) (g_EXTRA_BITS : Gc mg "EXTRA_BITS" (.ref eb)) (w_EXTRA : Wrt K C (.ref eb) extraD) :
    Cal P w K mg base 2 "spans" (spX K C XA sSpansP) := by
  refine fn_X F sc_spans (fun ds Q E ⟨_, _, _, _, e, _⟩ => by rw [e]; rfl) fun f cdv A outer s H E hr => ⟨_, (pss_cons (ps_if (pt_not (pt_val (pe_cal c_integer_within hr (pa_cons (pv 1) (pa_cons pe_int (pa_cons (pe_gk g_MOST_EXTRA) pa_nil)))))) (pss_one (ps_ret pe_bl)) pss_nil)
        (pss_one (ps_ret (pe_cal c_integer_within hr (pa_cons (pv 0) (pa_cons (pv 2) (pa_cons (pe_op xSub (pe_op (xAdd K) (pv 3) pe_int) (pe_callB (xLen K) rfl B.b_len bt_len (pa_cons (pe_ix (xIx K w) (pe_gk g_EXTRA_BITS) (pv 1) (fun _ _ => rfl)) pa_nil))) pa_nil))))))), ?_⟩
  rintro N H0 ds Pd PE ⟨v, x, a, b, rfl, hp⟩ hE De hrt hnx
  have bb := pure_base (K := K) (C := C) (N := N) (H0 := H0)
  refine go_when bb.ok (et_notd (et_Bd (ev_within (ev_var rfl) ev_int ev_int))) (fun h => ?_) (fun h => ?_)
  · have hx : (Sc.int (x : Nat)).wi 0 3 = false := by cases e : (Sc.int (x : Nat)).wi 0 3 with | false => rfl | true => rw [e] at h; cases h
    refine go_ret bb.ok ev_bl fun d v' H pd e I r => ?_
    subst pd
    have : spansB v x a b = false := by unfold spansB; rw [hx]; rfl
    rw [this] at hp
    exact hrt _ _ _ hp e r
  · have hx : (Sc.int (x : Nat)).wi 0 3 = true := by cases e : (Sc.int (x : Nat)).wi 0 3 with | false => rw [e] at h; cases h | true => rfl
    have h3 := wi_le hx
    refine go_ret bb.ok (ev_within (i := (v : Nat)) (a := a) (b := b + 1 - 2 ^ x) (ev_var rfl) (ev_var rfl) (ev_op (ev_op (ev_var rfl) ev_int r2_add) (ev_cb (P := fun d => d = .int (2 ^ x)) (ea_cons (ev_op (ev_wrt w_EXTRA) (ev_var rfl) (r2_xT (extra_at h3))) ea_nil) ((rc_len (n := 2 ^ x) (by show some ((((bitsL x).map bs).map D.str).length) = _; rw [List.length_map, List.length_map, bitsL_len])).imp' fun d e => by rw [e, two_cast])) r2_sub)) fun d v' H pd e I r => ?_
    subst pd
    have : spansB v x a b = (Sc.int (v : Nat)).wi a (b + 1 - 2 ^ x) := by unfold spansB; rw [hx]; rfl
    rw [this] at hp
    exact hrt _ _ _ hp e r
def sSignInBounds : Spec := fun ds P _ => ∃ (g : Sign) (z : Sz), ds = g.d :: z.ds ∧ P (.bl (g.okB z))
theorem c_sign_in_bounds (F : Df K mg "sign_in_bounds" s_sign_in_bounds ["sign", "n", "width", "many", "tables"]) (c_integer_within : Cal P w K mg base 1 "integer_within" (spX K C XA sNumber)) (c_spans : Cal P w K mg base 2 "spans" (spX K C XA sSpansP)) (g_MOST_LENGTH : Gc mg "MOST_LENGTH" (.int 40)) :
    Cal P w K mg base 3 "sign_in_bounds" (spX K C XA sSignInBounds) := by
  refine fn_X F sc_sign_in_bounds (fun ds Q E ⟨_, _, e, _⟩ => by rw [e]; rfl) fun f cdv A outer s H E hr => ⟨_, (pss_one (ps_match (pe_ix (xIx K w) (pv 0) pe_int (fun _ _ => rfl)) (pm_str (pss_one (ps_ret (pe_cal c_spans hr (pa_cons (pe_ix (xIx K w) (pv 0) pe_int (fun _ _ => rfl)) (pa_cons (pe_ix (xIx K w) (pv 0) pe_int (fun _ _ => rfl)) (pa_cons pe_int (pa_cons (pe_op xSub (pv 1) pe_int) pa_nil))))))) (pm_str (pss_one (ps_ret (pe_and (pe_cal c_spans hr (pa_cons (pe_ix (xIx K w) (pv 0) pe_int (fun _ _ => rfl)) (pa_cons (pe_ix (xIx K w) (pv 0) pe_int (fun _ _ => rfl)) (pa_cons pe_int (pa_cons (pv 2) pa_nil))))) (pe_one (pe_cal c_spans hr (pa_cons (pe_ix (xIx K w) (pv 0) pe_int (fun _ _ => rfl)) (pa_cons (pe_ix (xIx K w) (pv 0) pe_int (fun _ _ => rfl)) (pa_cons pe_int (pa_cons (pe_gk g_MOST_LENGTH) pa_nil))))))))) (pm_str (pss_cons (ps_if (PW.pt (pw_or (pt_not (pt_val (pe_cal c_integer_within hr (pa_cons (pe_ix (xIx K w) (pv 0) pe_int (fun _ _ => rfl)) (pa_cons pe_int (pa_cons (pe_op xSub (pv 3) pe_int) pa_nil)))))) (pw_or1 (pt_not (pt_val (pe_cal c_integer_within hr (pa_cons (pe_ix (xIx K w) (pv 0) pe_int (fun _ _ => rfl)) (pa_cons pe_int (pa_cons (pe_op xSub (pv 2) pe_int) pa_nil))))))))) (pss_one (ps_ret pe_bl)) pss_nil)
        (pss_one (ps_ret (pe_cal c_spans hr (pa_cons (pe_ix (xIx K w) (pv 0) pe_int (fun _ _ => rfl)) (pa_cons (pe_ix (xIx K w) (pv 0) pe_int (fun _ _ => rfl)) (pa_cons pe_int (pa_cons (pe_gk g_MOST_LENGTH) pa_nil)))))))) (pm_str (pss_one (ps_ret (pe_cal c_integer_within hr (pa_cons (pe_ix (xIx K w) (pv 0) pe_int (fun _ _ => rfl)) (pa_cons pe_int (pa_cons (pe_op xSub (pv 4) pe_int) pa_nil)))))) (pm_any (pss_one (ps_ret pe_bl))))))))), ?_⟩
  rintro N H0 ds Pd PE ⟨t, z, rfl, hp⟩ hE De hrt hnx
  have bb := pure_base (K := K) (C := C) (N := N) (H0 := H0)
  have fin : ∀ {M : ML} {δ : List (Option D)} {te : TE} {k : Bool}, Ev ((pureW K C N H0).wi M) te δ (.bl k) → k = t.okB z → Go (pureW K C N H0) H0 [] M δ (tRet te) De := fun h e => go_ret bb.ok h fun d v H pd ex I r => by
    subst pd
    subst e
    exact hrt _ _ _ hp ex r
  have ei : ∀ {M : ML} {δ : List (Option D)} {i : Int} {d : D}, atI t.d.ds i = some d → δ[0]? = some (some t.d) → Ev ((pureW K C N H0).wi M) (tOp (rIxU K w) (tVar 0) (tC (.int i))) δ d := fun h h0 => ev_op (ev_var h0) ev_int (r2_xT' (Sign.isT t) h)
  have span : ∀ {M : ML} {δ : List (Option D)} {ta tx tb tc : TE} {i x : Nat} {a b : Int}, Ev ((pureW K C N H0).wi M) ta δ (.int (i : Nat)) → Ev ((pureW K C N H0).wi M) tx δ (.int (x : Nat)) → Ev ((pureW K C N H0).wi M) tb δ (.int a) → Ev ((pureW K C N H0).wi M) tc δ (.int b) → Ev ((pureW K C N H0).wi M) (tCall (spX K C XA sSpansP) [] E0 (tCons ta (tCons tx (tCons tb (tCons tc tNil))))) δ (.bl (spansB i x a b)) := fun ha hx hb hc => ev_call (ea_cons ha (ea_cons hx (ea_cons hb (ea_cons hc ea_nil)))) ⟨_, _, _, _, rfl, rfl⟩
  cases t with
  | letter a x =>
    refine go_match bb (ei rfl rfl) ?_
    exact fin (span (ei rfl rfl) (ei rfl rfl) ev_int (ev_op (ev_var rfl) ev_int r2_sub)) rfl
  | copy d x l y =>
    refine go_match bb (ei rfl rfl) ?_
    exact fin (ev_andV (span (ei rfl rfl) (ei rfl rfl) ev_int (ev_var rfl)) fun _ => span (ei rfl rfl) (ei rfl rfl) ev_int ev_int) rfl
  | again i e l y =>
    refine go_match bb (ei rfl rfl) ?_
    refine go_when bb.ok (et_ord (et_notd (et_Bd (ev_within (i := (i : Nat)) (a := 0) (b := (z.m : Int) - 1) (ei rfl rfl) ev_int (ev_op (ev_var (i := 3) rfl) ev_int r2_sub)))) fun _ => et_notd (et_Bd (ev_within (i := (e : Nat)) (a := 0) (b := (z.w : Int) - 1) (ei rfl rfl) ev_int (ev_op (ev_var (i := 2) rfl) ev_int r2_sub)))) (fun h => ?_) (fun h => ?_)
    · refine fin ev_bl ?_
      show false = (((Sc.int (i : Nat)).wi 0 ((z.m : Int) - 1) && (Sc.int (e : Nat)).wi 0 ((z.w : Int) - 1)) && spansB l y 1 40)
      cases h1 : (Sc.int (i : Nat)).wi 0 ((z.m : Int) - 1) <;> cases h2 : (Sc.int (e : Nat)).wi 0 ((z.w : Int) - 1) <;> rw [h1, h2] at h <;> first | rfl | cases h
    · refine fin (span (ei rfl rfl) (ei rfl rfl) ev_int ev_int) ?_
      show spansB l y 1 40 = (((Sc.int (i : Nat)).wi 0 ((z.m : Int) - 1) && (Sc.int (e : Nat)).wi 0 ((z.w : Int) - 1)) && spansB l y 1 40)
      cases h1 : (Sc.int (i : Nat)).wi 0 ((z.m : Int) - 1) <;> cases h2 : (Sc.int (e : Nat)).wi 0 ((z.w : Int) - 1) <;> rw [h1, h2] at h <;> first | rfl | cases h
  | turn j =>
    refine go_match bb (ei rfl rfl) ?_
    exact fin (ev_within (ei rfl rfl) ev_int (ev_op (ev_var (i := 4) rfl) ev_int r2_sub)) rfl
  | stop =>
    refine go_match bb (ei rfl rfl) ?_
    exact fin ev_bl rfl
structure Sz.Ok (z : Sz) : Prop where
  n : 2 ≤ z.n ∧ z.n ≤ 16
  w : 1 ≤ z.w ∧ z.w ≤ 24
  m : z.m ≤ 4
  t : 1 ≤ z.t ∧ z.t ≤ 6
def sCheckSign : Spec := fun ds P PE => ∃ (g : SgR) (z : Sz), ds = g.d :: z.ds ∧ z.Ok ∧ (g.okB z = true → P g.d) ∧ (g.okB z = false → PE .sign)
theorem c_check_sign (F : Df K mg "check_sign" s_check_sign ["sign", "n", "width", "many", "tables"]) (c_check_sizes : Cal P w K mg base 3 "check_sizes" (spX K C XA sCheckSizes)) (c_check_count : Cal P w K mg base 2 "check_count" (spX K C XA sCheckCount)) (c_has_sign_form : Cal P w K mg base 1 "has_sign_form" (spX K C XA sHasSignForm))
    (c_sign_in_bounds : Cal P w K mg base 3 "sign_in_bounds" (spX K C XA sSignInBounds)) (g_MOST_TABLES : Gc mg "MOST_TABLES" (.int 6)) (x_BadSign : ErrC K mg "BadSign" XA.sign) : Cal P w K mg base 4 "check_sign" (spX K C XA sCheckSign) := by
  refine fn_X F sc_check_sign (fun ds Q E ⟨_, _, e, _⟩ => by rw [e]; rfl) fun f cdv A outer s H E hr => ⟨_, (pss_cons (ps_expr (pe_calX (takes_of rfl rfl rfl rfl) c_check_sizes hr (pa_cons (pv 1) (pa_cons (pv 2) (pa_cons (pv 3) pa_nil)))))
        (pss_cons (ps_expr (pe_calX (takes_of rfl rfl rfl rfl) c_check_count hr (pa_cons (pv 4) (pa_cons pe_int (pa_cons (pe_gk g_MOST_TABLES) pa_nil)))))
        (pss_cons (ps_if (PW.pt (pw_or (pt_not (pt_val (pe_cal c_has_sign_form hr (pa_cons (pv 0) pa_nil)))) (pw_or1 (pt_not (pt_val (pe_cal c_sign_in_bounds hr (pa_cons (pv 0) (pa_cons (pv 1) (pa_cons (pv 2) (pa_cons (pv 3) (pa_cons (pv 4) pa_nil))))))))))) (pss_one (ps_raise rfl (takes_of rfl rfl rfl rfl) (x_BadSign.mk0 rfl))) pss_nil)
        (pss_one (ps_ret (pv 0)))))), ?_⟩
  rintro N H0 ds Pd PE ⟨t, z, rfl, hz, hp, hpe⟩ hE De hrt hnx
  have bb := pure_base (K := K) (C := C) (N := N) (H0 := H0)
  refine go_drop bb.ok (ev_sizes (z := ⟨z.n, z.w, z.m⟩) ⟨hz.n, hz.w, hz.m⟩ (ev_var rfl) (ev_var rfl) (ev_var rfl)) fun _ => ?_
  refine go_drop bb.ok (ev_count (PE := PE) (s := .int (z.t : Nat)) hE (ev_var rfl) ev_int ev_int (by omega) (by omega) fun h => by rw [wi_true (by have := hz.t; omega) (by have := hz.t; omega)] at h; cases h) fun _ => ?_
  have test : EvT ((pureW K C N H0).wi []) (tOr (tNot (tB (tCall (spX K C XA sHasSignForm) [] E0 (tCons (tVar 0) tNil)))) (tNot (tB (tCall (spX K C XA sSignInBounds) [] E0 (tCons (tVar 0) (tCons (tVar 1) (tCons (tVar 2) (tCons (tVar 3) (tCons (tVar 4) tNil))))))))) [some t.d, some (.int (z.n : Nat)), some (.int (z.w : Nat)), some (.int (z.m : Nat)), some (.int (z.t : Nat))] (!t.okB z) := by
    cases t with
    | bad => exact et_is (et_ord (y := true) (et_notd (et_Bd (ev_call (ea_cons (ev_var rfl) ea_nil) ⟨.bad, rfl, rfl⟩))) fun h => by cases h) rfl
    | sg t => exact et_is (et_ord (et_notd (et_Bd (ev_call (ea_cons (ev_var rfl) ea_nil) ⟨.sg t, rfl, rfl⟩))) fun _ => et_notd (et_Bd (ev_call (P := fun d => d = .bl (t.okB z)) (ea_cons (ev_var rfl) (ea_cons (ev_var rfl) (ea_cons (ev_var rfl) (ea_cons (ev_var rfl) (ea_cons (ev_var rfl) ea_nil))))) ⟨t, z, rfl, rfl⟩))) rfl
  refine go_when bb.ok test (fun h => ?_) (fun h => ?_)
  · have hw : t.okB z = false := by cases e : t.okB z with | false => rfl | true => rw [e] at h; cases h
    exact go_raise fun H e I => hE .sign _ _ _ (hpe hw) (same_in I) rfl
  · have hw : t.okB z = true := by cases e : t.okB z with | false => rw [e] at h; cases h | true => rfl
    refine go_ret bb.ok (ev_var rfl) fun d v H pd e I r => ?_
    subst pd
    exact hrt _ _ _ (hp hw) e r
def zMax : Sz := ⟨16, 24, 4, 6⟩
theorem bits_get {x i : Nat} (h : i < 2 ^ x) : (((bitsL x).map bs).map D.str)[i]? = some (txt (fig i x)) := by
  rw [List.getElem?_map, List.getElem?_map]
  unfold bitsL
  rw [List.getElem?_map, List.getElem?_range h]
  rfl
theorem numbered_bits {x i : Nat} {d : D} (hd : (numbered (((bitsL x).map bs).map D.str))[i]? = some d) : i < 2 ^ x ∧ d = .tup [.int (i : Nat), txt (fig i x)] := by
  have hi : i < 2 ^ x := by
    have := (List.getElem?_eq_some_iff.mp hd).1
    rwa [numbered_len, List.length_map, List.length_map, bitsL_len] at this
  rw [numbered_get (bits_get hi)] at hd
  exact ⟨hi, (Option.some.inj hd).symm⟩
theorem numbered_bits_len (x : Nat) : (numbered (((bitsL x).map bs).map D.str)).length = 2 ^ x := by rw [numbered_len, List.length_map, List.length_map, bitsL_len]
def sSpread : Spec := fun ds P _ => ∃ g : Sign, ds = [g.d] ∧ g.okB zMax = true ∧ P (.lst (g.spread.map pairD))
theorem c_spread (F : Df K mg "spread" s_spread ["sign"]) (B : Blt mg) (c_check_sign : Cal P w K mg base 4 "check_sign" (spX K C XA sCheckSign)) (g_MOST_LETTERS : Gc mg "MOST_LETTERS" (.int 16)) (g_MOST_WIDTH : Gc mg "MOST_WIDTH" (.int 24)) (g_MOST_RECENTS : Gc mg "MOST_RECENTS" (.int 4)) (g_MOST_TABLES : Gc mg "MOST_TABLES" (.int 6))
    (g_EXTRA_BITS : Gc mg "EXTRA_BITS" (.ref eb)) (w_EXTRA : Wrt K C (.ref eb) extraD) : Cal P w K mg base 5 "spread" (spX K C XA sSpread) := by
  refine fn_X F sc_spread (fun ds Q E ⟨_, e, _⟩ => by rw [e]; rfl) fun f cdv A outer s H E hr => ⟨_, (pss_cons (ps_expr (pe_cal c_check_sign hr (pa_cons (pv 0) (pa_cons (pe_gk g_MOST_LETTERS) (pa_cons (pe_gk g_MOST_WIDTH) (pa_cons (pe_gk g_MOST_RECENTS) (pa_cons (pe_gk g_MOST_TABLES) pa_nil)))))))
        (pss_cons (ps_st 1 sc_spread.nd (pe_lst pa_nil))
        (pss_cons (ps_match (pe_ix (xIx K w) (pv 0) pe_int (fun _ _ => rfl)) (pm_str (pss_one (ps_for (passes_of rfl) rfl (pi_enumT rfl B.b_enumerate (pa_cons (pe_ix (xIx K w) (pe_gk g_EXTRA_BITS) (pe_ix (xIx K w) (pv 0) pe_int (fun _ _ => rfl)) (fun _ _ => rfl)) pa_nil)) (pg_tup rfl (pgs_cons (pg_nm 2 sc_spread.nd) (pgs_cons (pg_nm 3 sc_spread.nd) pgs_nil))) (pss_one (ps_expr (pe_bm PySem.F.plainAttrs_list PySem.F.slot_list_append PySem.F.type_list_append mt_append (pv 1) (pa_cons (pe_tup (pa_cons (pv 3) (pa_cons (pe_tup (pa_cons pe_str (pa_cons (pe_op (xAdd K) (pe_ix (xIx K w) (pv 0) pe_int (fun _ _ => rfl)) (pv 2)) pa_nil))) pa_nil))) pa_nil)))))) (pm_str (pss_one (ps_for (passes_of rfl) rfl (pi_enumT rfl B.b_enumerate (pa_cons (pe_ix (xIx K w) (pe_gk g_EXTRA_BITS) (pe_ix (xIx K w) (pv 0) pe_int (fun _ _ => rfl)) (fun _ _ => rfl)) pa_nil)) (pg_tup rfl (pgs_cons (pg_nm 2 sc_spread.nd) (pgs_cons (pg_nm 3 sc_spread.nd) pgs_nil))) (pss_one (ps_for (passes_of rfl) rfl (pi_enumT rfl B.b_enumerate (pa_cons (pe_ix (xIx K w) (pe_gk g_EXTRA_BITS) (pe_ix (xIx K w) (pv 0) pe_int (fun _ _ => rfl)) (fun _ _ => rfl)) pa_nil)) (pg_tup rfl (pgs_cons (pg_nm 4 sc_spread.nd) (pgs_cons (pg_nm 5 sc_spread.nd) pgs_nil))) (pss_one (ps_expr (pe_bm PySem.F.plainAttrs_list PySem.F.slot_list_append PySem.F.type_list_append mt_append (pv 1) (pa_cons (pe_tup (pa_cons (pe_op (xAdd K) (pv 3) (pv 5)) (pa_cons (pe_tup (pa_cons pe_str (pa_cons (pe_op (xAdd K) (pe_ix (xIx K w) (pv 0) pe_int (fun _ _ => rfl)) (pv 2)) (pa_cons (pe_op (xAdd K) (pe_ix (xIx K w) (pv 0) pe_int (fun _ _ => rfl)) (pv 4)) pa_nil)))) pa_nil))) pa_nil)))))))) (pm_str (pss_one (ps_for (passes_of rfl) rfl (pi_enumT rfl B.b_enumerate (pa_cons (pe_ix (xIx K w) (pe_gk g_EXTRA_BITS) (pe_ix (xIx K w) (pv 0) pe_int (fun _ _ => rfl)) (fun _ _ => rfl)) pa_nil)) (pg_tup rfl (pgs_cons (pg_nm 4 sc_spread.nd) (pgs_cons (pg_nm 5 sc_spread.nd) pgs_nil))) (pss_one (ps_expr (pe_bm PySem.F.plainAttrs_list PySem.F.slot_list_append PySem.F.type_list_append mt_append (pv 1) (pa_cons (pe_tup (pa_cons (pv 5) (pa_cons (pe_tup (pa_cons pe_str (pa_cons (pe_ix (xIx K w) (pv 0) pe_int (fun _ _ => rfl)) (pa_cons (pe_ix (xIx K w) (pv 0) pe_int (fun _ _ => rfl)) (pa_cons (pe_op (xAdd K) (pe_ix (xIx K w) (pv 0) pe_int (fun _ _ => rfl)) (pv 4)) pa_nil))))) pa_nil))) pa_nil)))))) (pm_any (pss_one (ps_expr (pe_bm PySem.F.plainAttrs_list PySem.F.slot_list_append PySem.F.type_list_append mt_append (pv 1) (pa_cons (pe_tup (pa_cons pe_str (pa_cons (pv 0) pa_nil))) pa_nil)))))))))
        (pss_one (ps_ret (pv 1)))))), ?_⟩
  rintro N H0 ds Pd PE ⟨g, rfl, hg, hp⟩ hE De hrt hnx
  have bb := pure_base (K := K) (C := C) (N := N) (H0 := H0)
  have hx := Sign.okB_ext hg
  refine go_drop bb.ok (ev_call (P := fun _ => True) (ea_cons (ev_var rfl) (ea_cons ev_int (ea_cons ev_int (ea_cons ev_int (ea_cons ev_int ea_nil))))) ⟨.sg g, zMax, rfl, ⟨by decide, by decide, by decide, by decide⟩, fun _ => trivial, fun h => by rw [show SgR.okB zMax (.sg g) = g.okB zMax from rfl, hg] at h; cases h⟩) fun _ => ?_
  refine go_new bb evn_nil fun ds q hds hq hm => ?_
  subst hds
  have ei : ∀ {M : ML} {δ : List (Option D)} {i : Int} {d : D}, atI g.d.ds i = some d → δ[0]? = some (some g.d) → Ev ((pureW K C N H0).wi M) (tOp (rIxU K w) (tVar 0) (tC (.int i))) δ d := fun h h0 => ev_op (ev_var h0) ev_int (r2_xT' (Sign.isT g) h)
  have ex : ∀ {M : ML} {δ : List (Option D)} {te : TE} {x : Nat}, x ≤ 3 → Ev ((pureW K C N H0).wi M) te δ (.int (x : Nat)) → Ev ((pureW K C N H0).wi M) (tOp (rIxU K w) (tC (.ref eb)) te) δ (bitsD x) := fun h h0 => ev_op (ev_wrt w_EXTRA) h0 (r2_xT (extra_at h))
  have fin : ∀ {M : ML} {δ : List (Option D)}, M = [(q, .lst (g.spread.map pairD))] → δ[1]? = some (some (.adr q)) → Go (pureW K C N H0) H0 [] M δ (tRet (tVar 1)) De := fun e h => by
    subst e
    refine go_freeze (i := 1) bb h hm hq ?_
    refine go_ret bb.ok (ev_var (i := 1) (by rw [List.getElem?_set_self (List.getElem?_eq_some_iff.mp h).1])) fun d v H pd ex I r => ?_
    subst pd
    exact hrt _ _ _ hp ex r
  refine go_cut (fun δ M => M = [(q, .lst (g.spread.map pairD))] ∧ δ[1]? = some (some (.adr q))) (fun nx hj => ?_) fun δ M ⟨h1, h2⟩ => fin h1 h2
  cases g with
  | letter a x =>
    have hx : x ≤ 3 := hx
    have h8 := pow8 hx
    refine go_match bb (ei rfl rfl) ?_
    refine go_for' bb (ei_enumT (ea_cons (ex hx (ei rfl rfl)) ea_nil)) (fun i δ M => M = [(q, .lst (((List.range i).map fun v => (fig v x, Tok.letter (a + v))).map pairD))] ∧ ∃ v b u m : Option D, δ = [some (Sign.letter a x).d, some (.adr q), v, b, u, m]) ⟨rfl, none, none, none, none, rfl⟩ ?_ ?_
    · rintro y i d δ' M' hd ea ⟨rfl, v, b, u, m, rfl⟩
      obtain ⟨hi, rfl⟩ := numbered_bits hd
      refine ⟨_, eg_tup (eg_cons eg_name (eg_cons eg_name eg_nil)), ?_⟩
      refine go_app' bb rfl (by simp [ads]) (P := fun d => d = pairD (fig i x, Tok.letter (a + i))) (ev_tup (ea_cons (ev_var (i := 3) rfl) (ea_cons (ev_tup (ea_cons ev_str (ea_cons (ev_op (ei rfl rfl) (ev_var (i := 2) rfl) r2_add) ea_nil))) ea_nil))) (by simp; omega) fun e he => ?_
      subst he
      refine go_kept rfl ⟨?_, _, _, _, _, rfl⟩
      rw [List.range_succ, List.map_append, List.map_append]
      rfl
    · rintro δ' M' ea ⟨rfl, v, b, u, m, rfl⟩
      refine go_out hj ⟨?_, rfl⟩
      rw [numbered_bits_len]
      rfl
  | again i e l y =>
    have hx : y ≤ 3 := hx
    have h8 := pow8 hx
    refine go_match bb (ei rfl rfl) ?_
    refine go_for' bb (ei_enumT (ea_cons (ex hx (ei rfl rfl)) ea_nil)) (fun j δ M => M = [(q, .lst (((List.range j).map fun u => (fig u y, Tok.again i e (l + u))).map pairD))] ∧ ∃ v b u m : Option D, δ = [some (Sign.again i e l y).d, some (.adr q), v, b, u, m]) ⟨rfl, none, none, none, none, rfl⟩ ?_ ?_
    · rintro y' j d δ' M' hd ea ⟨rfl, v, b, u, m, rfl⟩
      obtain ⟨hi, rfl⟩ := numbered_bits hd
      refine ⟨_, eg_tup (eg_cons eg_name (eg_cons eg_name eg_nil)), ?_⟩
      refine go_app' bb rfl (by simp [ads]) (P := fun d => d = pairD (fig j y, Tok.again i e (l + j))) (ev_tup (ea_cons (ev_var (i := 5) rfl) (ea_cons (ev_tup (ea_cons ev_str (ea_cons (ei rfl rfl) (ea_cons (ei rfl rfl) (ea_cons (ev_op (ei rfl rfl) (ev_var (i := 4) rfl) r2_add) ea_nil))))) ea_nil))) (by simp; omega) fun e he => ?_
      subst he
      refine go_kept rfl ⟨?_, _, _, _, _, rfl⟩
      rw [List.range_succ, List.map_append, List.map_append]
      rfl
    · rintro δ' M' ea ⟨rfl, v, b, u, m, rfl⟩
      refine go_out hj ⟨?_, rfl⟩
      rw [numbered_bits_len]
      rfl
  | turn j =>
    refine go_match bb (ei rfl rfl) ?_
    refine go_app' bb rfl (by simp [ads]) (ev_tup (ea_cons ev_str (ea_cons (ev_var (i := 0) rfl) ea_nil))) (by simp) fun e he => ?_
    subst he
    refine go_out hj ⟨?_, rfl⟩
    show [(q, MO.lst [.tup [.str "", (Sign.turn j).d]])] = [(q, MO.lst [.tup [.str (bs []), (Sign.turn j).d]])]
    rw [bs_nil]
  | stop =>
    refine go_match bb (ei rfl rfl) ?_
    refine go_app' bb rfl (by simp [ads]) (ev_tup (ea_cons ev_str (ea_cons (ev_var (i := 0) rfl) ea_nil))) (by simp) fun e he => ?_
    subst he
    refine go_out hj ⟨?_, rfl⟩
    show [(q, MO.lst [.tup [.str "", Sign.stop.d]])] = [(q, MO.lst [.tup [.str (bs []), Sign.stop.d]])]
    rw [bs_nil]
  | copy d x l y =>
    obtain ⟨hx, hy⟩ := hx
    have h8x := pow8 hx
    have h8y := pow8 hy
    let row : Nat → List W := fun v => (List.range (2 ^ y)).map fun u => (fig v x ++ fig u y, Tok.copy (d + v) (l + u))
    have rlen : ∀ v, (row v).length = 2 ^ y := fun v => by simp [row]
    have flen : ∀ n, ((List.range n).flatMap row).length = n * 2 ^ y := fun n => by
      induction n with
      | zero => simp
      | succ n ih => rw [List.range_succ, List.flatMap_append, List.length_append, ih, List.flatMap_singleton, rlen, Nat.succ_mul]
    refine go_match bb (ei rfl rfl) ?_
    refine go_for' bb (ei_enumT (ea_cons (ex hx (ei rfl rfl)) ea_nil)) (fun i δ M => M = [(q, .lst (((List.range i).flatMap row).map pairD))] ∧ ∃ v b u m : Option D, δ = [some (Sign.copy d x l y).d, some (.adr q), v, b, u, m]) ⟨rfl, none, none, none, none, rfl⟩ ?_ ?_
    · rintro y' v dd δ' M' hd ea ⟨rfl, _, _, _, _, rfl⟩
      obtain ⟨hv, rfl⟩ := numbered_bits hd
      refine ⟨_, eg_tup (eg_cons eg_name (eg_cons eg_name eg_nil)), ?_⟩
      refine go_for' bb (ei_enumT (ea_cons (ex hy (ei rfl rfl)) ea_nil)) (fun j δ M => M = [(q, .lst (((List.range v).flatMap row ++ (row v).take j).map pairD))] ∧ ∃ u m : Option D, δ = [some (Sign.copy d x l y).d, some (.adr q), some (.int (v : Nat)), some (txt (fig v x)), u, m]) ⟨by simp, _, _, rfl⟩ ?_ ?_
      · rintro y2 u dd δ' M' hd ea2 ⟨rfl, _, _, rfl⟩
        obtain ⟨hu, rfl⟩ := numbered_bits hd
        refine ⟨_, eg_tup (eg_cons eg_name (eg_cons eg_name eg_nil)), ?_⟩
        refine go_app' bb rfl (by simp [ads]) (P := fun e => e = pairD (fig v x ++ fig u y, Tok.copy (d + v) (l + u))) (ev_tup (ea_cons (ev_is (ev_op (ev_var (i := 3) rfl) (ev_var (i := 5) rfl) (r2_addSS (by rw [bs_len, bs_len, fig_len, fig_len]; omega))) (by rw [bs_append])) (ea_cons (ev_tup (ea_cons ev_str (ea_cons (ev_op (ei rfl rfl) (ev_var (i := 2) rfl) r2_add) (ea_cons (ev_op (ei rfl rfl) (ev_var (i := 4) rfl) r2_add) ea_nil)))) ea_nil))) ?_ fun e he => ?_
        · rw [List.length_map, List.length_append, flen, List.length_take, rlen]
          have : v * 2 ^ y ≤ 8 * 8 := Nat.mul_le_mul (by omega) h8y
          omega
        · refine go_kept rfl ⟨?_, _, _, rfl⟩
          have : (row v)[u]? = some (fig v x ++ fig u y, Tok.copy (d + v) (l + u)) := by simp [row, hu]
          rw [take_succ' this, he, ← List.append_assoc, List.map_append (l₂ := [_])]
          rfl
      · rintro δ' M' ea2 ⟨rfl, _, _, rfl⟩
        refine go_kept rfl ⟨?_, _, _, _, _, rfl⟩
        rw [numbered_bits_len, ← rlen v, List.take_length, List.range_succ, List.flatMap_append, List.flatMap_singleton]
    · rintro δ' M' ea ⟨rfl, _, _, _, _, rfl⟩
      refine go_out hj ⟨?_, rfl⟩
      rw [numbered_bits_len]
      rfl
end
end Lr
set_option Elab.async false
set_option maxRecDepth 100000
set_option maxHeartbeats 4000000
set_option linter.all false
set_option autoImplicit false
/-! f'{n:010b}' -/
namespace Lr
open PySem L2 PyProof.Rows Builtin Builtin.Str Builtin.Int Builtin.Float
abbrev spec10 : PySem.Str := "010b"
def f10 : FormatSpec := { fill := 48, align := 61, width := some 10, type := some 98 }
theorem parse10 : parseFormatSpec spec10.cps.toList "int" 62 = .ok f10 := rfl
theorem text10 : ∀ a ∈ List.range 1024, intField' f10 false [] ((Nat.toDigits 2 a).map fun c => c.toNat) [] 4 = bs (fig a 10) := by decide +kernel
end Lr
set_option Elab.async false
set_option maxRecDepth 100000
set_option maxHeartbeats 4000000
set_option linter.all false
set_option autoImplicit false
/-! f'{n:010b}' -/
namespace Lr
open PySem L2 PyProof.Rows Builtin Builtin.Str Builtin.Int Builtin.Float
theorem gives10 (a : Nat) (ha : a < 1024) (t u : PySem.Tok) : Gives («int.__format__» ⟨[.int (a : Int) t, .str spec10 u], []⟩) (.str (bs (fig a 10))) := by
  intro prog w A R s hq
  unfold Builtin.«int.__format__»
  have hne : (spec10.length == 0) = false := by decide
  have hasc : ((spec10.cps.toList.drop 1).any (· ≥ 128) || (spec10.cps.getD 0 0 ≥ 128 && !([60, 62, 61, 94] : List Nat).contains (spec10.cps.getD 1 0))) = false := by decide
  simp only [selfAndOne, noKeywords, Int.intOfSelf, asInt?, asStr?, List.isEmpty_nil, if_true, pure_bind, bind_pure, bind_assoc, hne, hasc, Bool.false_eq_true, if_false, show (Value.str spec10 u == Value.none) = false from rfl]
  refine wpAny_bind (wpAny_typeNameOf (T := "str") (typeIs_str _ _ _) (by decide) fun _ => ?_)
  refine wpAny_bind (wpAny_typeNameOfCut_int ?_)
  simp only [parse10]
  rw [if_pos (by decide)]
  have h1 := text10 a (List.mem_range.mpr ha)
  rw [show f10.type.getD (if (spec10.cps.back? == some 0) = true then 0 else 100) = 98 from rfl]
  conv => arg 3; whnf
  have key : ∀ X : PySem.Str, X = bs (fig a 10) → wpAny (model prog w) A.in1 ((mkStr X).bind fun y => ret y) (fun fin s' => match fin with | .done f => R (.ok f) s' | .again c' => c'.quiet = true ∧ codeAny (model prog w) A c' R s') (fun e s' => R (.error e) s') s := fun X e => by
    subst e
    exact wpAny_bind (wpAny_mkStr (wpAny_pure hq.2) hq.1)
  refine key _ ?_
  rw [show decide ((a : Int) < 0) = false from decide_eq_false (by omega), Int.natAbs_natCast]
  exact h1
section
variable {X : Cx} {e : Expr} {te : TE} {pos p1 p2 : Pos} {j : Nat}
def tFmtB (te : TE) : TE := fun σ H Q => te σ H fun x H1 => ∃ a : Nat, x = .int (a : Int) ∧ a < 1024 ∧ Q (.str (bs (fig a 10))) H1
theorem pe_fmtB (he : PE X e te) : PE X (.FormattedValue e (-1) (some (.JoinedStr [.Constant (.str spec10) j p1] p2)) pos) (tFmtB te) := by
  refine ⟨fun pins s σ H Q I h => ?_⟩
  refine wpAny_FormattedValue_spec (thn (he.run pins s σ H _ I h) fun v s1 ⟨x, H1, I1, r1, a, ex, ha, q⟩ => ?_)
  subst ex
  obtain ⟨t, rfl⟩ := r1
  refine wpAny_JoinedStr_one (thn ((pe_str (X := X)).run pins s1 σ H1 (fun v H2 => v = .str spec10 ∧ H2 = H1) I1 ⟨rfl, rfl⟩) fun u s2 ⟨v, H2, I2, r2, ev, eH⟩ => ?_)
  subst ev
  subst eH
  obtain ⟨k', rfl⟩ := r2
  refine ⟨spec10, k', rfl, ?_⟩
  exact wpAny_formatField_spec (by decide) (fun s' => typeIs_int s' _ t) PySem.F.slot_int_format PySem.F.entry_int_format PySem.F.args_int_format_2 (fun u => gives10 a ha t u) ⟨.str (bs (fig a 10)), H2, I2.tok _, ⟨_, rfl⟩, q⟩ (by rw [sizeLine_eq]; decide) (by rw [bs_len, fig_len, sizeLine_eq]; omega)
end
theorem ev_fmtB {w : Wd} {δ : List (Option D)} {te : TE} {a : Nat} (h : Ev w te δ (.int (a : Int))) (ha : a < 1024) : Ev w (tFmtB te) δ (.str (bs (fig a 10))) := fun ok σ H e I Q q =>
  h ok σ H e I _ fun d v H1 p e1 I1 r => by
    subst p
    cases r
    exact ⟨a, rfl, ha, q _ _ H1 rfl e1 I1 (.str _)⟩
end Lr
set_option Elab.async false
set_option maxRecDepth 100000
set_option maxHeartbeats 4000000
set_option linter.all false
set_option autoImplicit false
/-! Free words, by the program. -/
namespace Lr
open PySem L2 PyProof.Rows
abbrev s_is_bits : Stmt := topS 38
abbrev ns_is_bits : List Str := ["value", "bit"]
theorem sc_is_bits : FnScope ns_is_bits ["value"] (defScope s_is_bits) := ⟨rfl, rfl, rfl, by decide +kernel, rfl, by decide +kernel, by decide +kernel⟩
abbrev s_check_lengths : Stmt := topS 39
abbrev ns_check_lengths : List Str := ["lengths", "most", "length"]
theorem sc_check_lengths : FnScope ns_check_lengths ["lengths", "most"] (defScope s_check_lengths) := ⟨rfl, rfl, rfl, by decide +kernel, rfl, by decide +kernel, by decide +kernel⟩
abbrev s_in_order : Stmt := topS 40
abbrev ns_in_order : List Str := ["lengths", "places", "length", "at", "own"]
theorem sc_in_order : FnScope ns_in_order ["lengths"] (defScope s_in_order) := ⟨rfl, rfl, rfl, by decide +kernel, rfl, by decide +kernel, by decide +kernel⟩
abbrev s_word_from : Stmt := topS 41
abbrev ns_word_from : List Str := ["used", "length"]
theorem sc_word_from : FnScope ns_word_from ["used", "length"] (defScope s_word_from) := ⟨rfl, rfl, rfl, by decide +kernel, rfl, by decide +kernel, by decide +kernel⟩
def intsD (ls : List Nat) : D := .lst (ls.map fun n => .int (n : Nat))
theorem sign_get {v : List Bool} {i : Nat} {b : Bool} (h : v[i]? = some b) : (signsD (bs v))[i]? = some (txt [b]) := by
  unfold signsD
  rw [bs_cps, List.getElem?_map, List.getElem?_map, h]
  rfl
theorem signs_len (v : List Bool) : (signsD (bs v)).length = v.length := by
  unfold signsD
  rw [bs_cps, List.length_map, List.length_map]
theorem signs_at {v : List Bool} {i : Nat} {d : D} (h : (signsD (bs v))[i]? = some d) : ∃ b, v[i]? = some b ∧ d = txt [b] := by
  have hi : i < v.length := by
    have := (List.getElem?_eq_some_iff.mp h).1
    rwa [signs_len] at this
  have hb := List.getElem?_eq_getElem hi
  rw [sign_get hb] at h
  exact ⟨_, hb, (Option.some.inj h).symm⟩
section
variable {P : Program} {w : World} {K : PySem.W.Frag} {mg : Str → Option Value} {base : Heap} {C : Addr} {XA : ExAds}
def sIsBits : Spec := fun ds P _ => ∃ v : List Bool, ds = [txt v] ∧ P (.bl true)
theorem c_is_bits (F : Df K mg "is_bits" s_is_bits ["value"]) (B : Blt mg) : Cal P w K mg base 1 "is_bits" (spX K C XA sIsBits) := by
  refine fn_X F sc_is_bits (fun ds Q E ⟨_, e, _⟩ => by rw [e]; rfl) fun f cdv A outer s H E hr => ⟨_, (pss_cons (ps_if (pt_not (pt_val (pe_callB call_isi rfl B.b_isinstance bt_isinstance (pa_cons (pv 0) (pa_cons (pe_bltn (v := .ty "str") rfl B.b_str bt_str rfl) pa_nil))))) (pss_one (ps_ret pe_bl)) pss_nil)
        (pss_cons (ps_for (passes_of rfl) rfl (pi_str (pv 0)) (pg_nm 1 sc_is_bits.nd) (pss_one (ps_if (PW.pt (pw_and (pt_cmpR (xNe K hr.units) (pv 1) pe_str (nomark _)) (pw_and1 (pt_cmpR (xNe K hr.units) (pv 1) pe_str (nomark _))))) (pss_one (ps_ret pe_bl)) pss_nil)))
        (pss_one (ps_ret pe_bl)))), ?_⟩
  rintro N H0 ds Pd PE ⟨v, rfl, hp⟩ hE De hrt hnx
  have bb := pure_base (K := K) (C := C) (N := N) (H0 := H0)
  refine go_when bb.ok (et_notd (et_Bd (ev_isi (T := "str") (k := true) (ev_var rfl) rfl rfl))) (fun h => by cases h) fun _ => ?_
  refine go_for bb (ei_str (x := bs v) (ev_var rfl)) (fun i δ M => M = [] ∧ ∃ u : Option D, δ = [some (txt v), u]) ⟨rfl, none, rfl⟩ ?_ ?_
  · rintro x i d δ' M' hd ea ⟨rfl, u, rfl⟩
    obtain ⟨b, hb, rfl⟩ := signs_at hd
    refine ⟨_, eg_name, ?_⟩
    refine go_when' bb.ok (Pb := fun k => k = false) (et_is (et_andd (et_testd (ev_op (ev_var rfl) ev_str r2_nS)) fun _ => et_testd (ev_op (ev_var rfl) ev_str r2_nS)) ?_) (fun h => by cases h) fun _ => go_kept rfl ⟨rfl, _, rfl⟩
    cases b <;> decide +kernel
  · rintro δ' M' ea ⟨rfl, u, rfl⟩
    refine go_ret bb.ok ev_bl fun d v H pd e I r => ?_
    subst pd
    exact hrt _ _ _ hp e r
def sCheckLengths : Spec := fun ds P _ => ∃ ls : List Nat, ds = [intsD ls, .int 10] ∧ (∀ l ∈ ls, 1 ≤ l ∧ l ≤ 10) ∧ P (intsD ls)
theorem c_check_lengths (F : Df K mg "check_lengths" s_check_lengths ["lengths", "most"]) (B : Blt mg) (c_integer_within : Cal P w K mg base 1 "integer_within" (spX K C XA sNumber)) (x_BadTable : ErrC K mg "BadTable" XA.table) : Cal P w K mg base 2 "check_lengths" (spX K C XA sCheckLengths) := by
  refine fn_X F sc_check_lengths (fun ds Q E ⟨_, e, _⟩ => by rw [e]; rfl) fun f cdv A outer s H E hr => ⟨_, (pss_cons (ps_if (pt_not (pt_val (pe_callB call_isiT rfl B.b_isinstance bt_isinstance (pa_cons (pv 0) (pa_cons (pe_tup (pa_cons (pe_bltn (v := .ty "tuple") rfl B.b_tuple bt_tuple rfl) (pa_cons (pe_bltn (v := .ty "list") rfl B.b_list bt_list rfl) pa_nil))) pa_nil))))) (pss_one (ps_raise rfl (takes_of rfl rfl rfl rfl) (x_BadTable.mk0 rfl))) pss_nil)
        (pss_cons (ps_for (passes_of rfl) rfl (pi_list (pv 0)) (pg_nm 2 sc_check_lengths.nd) (pss_one (ps_if (pt_not (pt_val (pe_cal c_integer_within hr (pa_cons (pv 2) (pa_cons pe_int (pa_cons (pv 1) pa_nil)))))) (pss_one (ps_raise rfl (takes_of rfl rfl rfl rfl) (x_BadTable.mk1 (pe_joined (.cons pe_str (.cons (pe_fmt (pv 1)) .nil))) rfl))) pss_nil)))
        (pss_one (ps_ret (pe_callTy (xList K) rfl B.b_list bt_list (pa_cons (pv 0) pa_nil)))))), ?_⟩
  rintro N H0 ds Pd PE ⟨ls, rfl, hl, hp⟩ hE De hrt hnx
  have bb := pure_base (K := K) (C := C) (N := N) (H0 := H0)
  refine go_when bb.ok (et_notd (et_Bd (ev_isi2 (T := "list") (k1 := false) (k2 := true) (ev_var rfl) rfl rfl rfl))) (fun h => by cases h) fun _ => ?_
  refine go_for bb (ei_lst (ev_var (i := 0) rfl)) (fun i δ M => M = [] ∧ ∃ u : Option D, δ = [some (intsD ls), some (.int 10), u]) ⟨rfl, none, rfl⟩ ?_ ?_
  · rintro x i d δ' M' hd ea ⟨rfl, u, rfl⟩
    rw [List.getElem?_map] at hd
    cases en : ls[i]? with
    | none => rw [en] at hd; cases hd
    | some m =>
      rw [en] at hd
      have hd := Option.some.inj hd
      subst hd
      have hm := hl m (List.mem_of_getElem? en)
      refine ⟨_, eg_name, ?_⟩
      refine go_when' bb.ok (Pb := fun k => k = false) (et_is (et_notd (et_Bd (ev_within (i := (m : Nat)) (ev_var rfl) ev_int (ev_var rfl)))) ?_) (fun h => by cases h) fun _ => go_kept rfl ⟨rfl, _, rfl⟩
      rw [wi_true (by omega) (by omega)]
      rfl
  · rintro δ' M' ea ⟨rfl, u, rfl⟩
    refine go_ret bb.ok (ev_cb (ea_cons (ev_var (i := 0) rfl) ea_nil) rc_listL) fun d v H pd e I r => ?_
    subst pd
    exact hrt _ _ _ hp e r
def ordL (ls : List Nat) (n : Nat) : List (Nat × Nat) := (List.range n).flatMap fun k => ls.zipIdx.filter fun p => decide (p.1 = k + 1)
theorem ordL_succ (ls : List Nat) (n : Nat) : ordL ls (n + 1) = ordL ls n ++ ls.zipIdx.filter fun p => decide (p.1 = n + 1) := by
  unfold ordL
  rw [List.range_succ, List.flatMap_append, List.flatMap_singleton]
theorem ordL_rows (rows : List GRow) : ∀ n, ordL (rows.map (·.2)) n = (ordR rows n).map li
  | 0 => rfl
  | n + 1 => by
    rw [ordL_succ, ordR_succ, List.map_append, ordL_rows rows n, zip_li]
    unfold atLen
    rw [List.filter_map]
    rfl
def sInOrder : Spec := fun ds P _ => ∃ ls : List Nat, ds = [intsD ls] ∧ ls.length ≤ 100 ∧ P (intsD ((ordL ls 10).map (·.2)))
theorem zip_take {α : Type} {l : List α} {i : Nat} {x : α} (h : l[i]? = some x) : (l.zipIdx).take (i + 1) = (l.zipIdx).take i ++ [(x, i)] := by
  refine take_succ' ?_
  rw [List.getElem?_zipIdx, h, Nat.zero_add]
  rfl
theorem c_in_order (F : Df K mg "in_order" s_in_order ["lengths"]) (B : Blt mg) (g_MOST_BITS : Gc mg "MOST_BITS" (.int 10)) : Cal P w K mg base 1 "in_order" (spX K C XA sInOrder) := by
  refine fn_X F sc_in_order (fun ds Q E ⟨_, e, _⟩ => by rw [e]; rfl) fun f cdv A outer s H E hr => ⟨_, (pss_cons (ps_st 1 sc_in_order.nd (pe_lst pa_nil))
        (pss_cons (ps_for (passes_of rfl) rfl (pi_range2 rfl B.b_range (pa_cons pe_int (pa_cons (pe_op (xAdd K) (pe_gk g_MOST_BITS) pe_int) pa_nil))) (pg_nm 2 sc_in_order.nd) (pss_one (ps_for (passes_of rfl) rfl (pi_enum rfl B.b_enumerate (pa_cons (pv 0) pa_nil)) (pg_tup rfl (pgs_cons (pg_nm 3 sc_in_order.nd) (pgs_cons (pg_nm 4 sc_in_order.nd) pgs_nil))) (pss_one (ps_if (pt_cmpR (xEq K hr.units) (pv 4) (pv 2) (nomark _)) (pss_one (ps_expr (pe_bm PySem.F.plainAttrs_list PySem.F.slot_list_append PySem.F.type_list_append mt_append (pv 1) (pa_cons (pv 3) pa_nil)))) pss_nil)))))
        (pss_one (ps_ret (pv 1))))), ?_⟩
  rintro N H0 ds Pd PE ⟨ls, rfl, hl, hp⟩ hE De hrt hnx
  have bb := pure_base (K := K) (C := C) (N := N) (H0 := H0)
  refine go_new bb evn_nil fun ds p hds hN hpm => ?_
  subst hds
  let toD : List (Nat × Nat) → List D := fun l => (l.map (·.2)).map fun n => .int (n : Nat)
  have hlen : ∀ n, (ordL ls n).length ≤ n * 100 := fun n => by
    induction n with
    | zero => exact Nat.zero_le _
    | succ n ih =>
      rw [ordL_succ, List.length_append, Nat.succ_mul]
      have := List.length_filter_le (fun p : Nat × Nat => decide (p.1 = n + 1)) ls.zipIdx
      rw [List.length_zipIdx] at this
      omega
  refine go_for bb (ei_rng2 (ea_cons ev_int (ea_cons (ev_op ev_int ev_int r2_add) ea_nil)) (by omega) (by omega) (by omega)) (fun i δ M => M = [(p, .lst (toD (ordL ls i)))] ∧ ∃ k a o : Option D, δ = [some (intsD ls), some (.adr p), k, a, o]) ⟨rfl, none, none, none, rfl⟩ ?_ ?_
  · rintro x i d δ' M' hd ea ⟨rfl, k, a, o, rfl⟩
    obtain ⟨hi, rfl⟩ := upto_get hd
    have hi : i < 10 := hi
    refine ⟨_, eg_name, ?_⟩
    refine go_for' bb (ei_enumL (ea_cons (ev_var (i := 0) rfl) ea_nil)) (fun j δ M => M = [(p, .lst (toD (ordL ls i ++ ((ls.zipIdx).take j).filter fun q => decide (q.1 = i + 1))))] ∧ ∃ a o : Option D, δ = [some (intsD ls), some (.adr p), some (.int (1 + (i : Int))), a, o]) ⟨?_, a, o, rfl⟩ ?_ ?_
    · show _ = [(p, MO.lst (toD (ordL ls i ++ [])))]
      rw [List.append_nil]
    · rintro x2 j d δ' M' hd ea2 ⟨rfl, a, o, rfl⟩
      cases en : ls[j]? with
      | none =>
        have : (numbered (ls.map fun n => D.int (n : Nat)))[j]? = none := by
          rw [List.getElem?_eq_none_iff, numbered_len, List.length_map]
          exact List.getElem?_eq_none_iff.mp en
        rw [this] at hd
        cases hd
      | some m =>
        rw [numbered_get (d := .int (m : Nat)) (by rw [List.getElem?_map, en]; rfl)] at hd
        have hd := Option.some.inj hd
        subst hd
        have ht := zip_take en
        refine ⟨_, eg_tup (eg_cons eg_name (eg_cons eg_name eg_nil)), ?_⟩
        refine go_when' bb.ok (et_testd (ev_op (ev_var (i := 4) rfl) (ev_var (i := 2) rfl) r2_eI)) (fun h => ?_) (fun h => ?_)
        · have h := of_decide_eq_true h.symm
          have e2 : (((ls.zipIdx).take (j + 1)).filter fun q => decide (q.1 = i + 1)) = (((ls.zipIdx).take j).filter fun q => decide (q.1 = i + 1)) ++ [(m, j)] := by
            rw [ht, List.filter_append, List.filter_cons_of_pos (by simp; omega)]
            rfl
          refine go_app' bb rfl (by simp [ads]) (ev_var (i := 3) rfl) ?_ fun e he => ?_
          · show (toD _).length < _
            rw [List.length_map, List.length_map, List.length_append]
            have h1 := hlen i
            have h2 := List.length_filter_le (fun q : Nat × Nat => decide (q.1 = i + 1)) ((ls.zipIdx).take j)
            rw [List.length_take, List.length_zipIdx] at h2
            omega
          · subst he
            refine go_kept rfl ⟨?_, some (.int (j : Nat)), some (.int (m : Nat)), rfl⟩
            rw [e2, ← List.append_assoc]
            show [(p, MO.lst (toD _ ++ [_]))] = [(p, MO.lst (toD (_ ++ [(m, j)])))]
            show _ = [(p, MO.lst (((_ ++ [(m, j)]).map (·.2)).map fun n => .int (n : Nat)))]
            rw [List.map_append, List.map_append]
            rfl
        · have h := of_decide_eq_false h.symm
          have e2 : (((ls.zipIdx).take (j + 1)).filter fun q => decide (q.1 = i + 1)) = (((ls.zipIdx).take j).filter fun q => decide (q.1 = i + 1)) := by
            rw [ht, List.filter_append, List.filter_cons_of_neg (by simp; omega)]
            simp
          refine go_kept rfl ⟨by rw [e2], some (.int (j : Nat)), some (.int (m : Nat)), rfl⟩
    · rintro δ' M' ea2 ⟨rfl, a, o, rfl⟩
      refine go_kept rfl ⟨?_, _, _, _, rfl⟩
      rw [numbered_len, List.length_map, List.take_of_length_le (by rw [List.length_zipIdx]; exact Nat.le_refl _), ← ordL_succ]
  · rintro δ' M' ea ⟨rfl, k, a, o, rfl⟩
    rw [upto_len]
    refine go_freeze (i := 1) bb rfl hpm hN ?_
    refine go_ret bb.ok (ev_var (i := 1) rfl) fun d v H pd e I r => ?_
    subst pd
    exact hrt _ _ _ hp e r
def sWordFrom : Spec := fun ds P _ => ∃ s l : Nat, ds = [.int (s : Nat), .int (l : Nat)] ∧ s < 1024 ∧ P (txt ((fig s 10).take l))
theorem c_word_from (F : Df K mg "word_from" s_word_from ["used", "length"]) : Cal P w K mg base 1 "word_from" (spX K C XA sWordFrom) := by
  refine fn_X F sc_word_from (fun ds Q E ⟨_, _, e, _⟩ => by rw [e]; rfl) fun f cdv A outer s H E hr => ⟨_, (pss_one (ps_ret (pe_slice (xSl K) (pe_joined1 (pe_fmtB (pv 0))) po_none (po_some (pv 1))))), ?_⟩
  rintro N H0 ds Pd PE ⟨s, l, rfl, hs, hp⟩ hE De hrt hnx
  have bb := pure_base (K := K) (C := C) (N := N) (H0 := H0)
  refine go_ret bb.ok (ev_sl (ev_fmtB (ev_var rfl) hs) eo_none (eo_some (ev_var rfl)) (rs_S (by rw [bs_len, fig_len]; omega))) fun d v H pd e I r => ?_
  subst pd
  rw [cutS_bs] at r
  exact hrt _ _ _ hp e r
end
end Lr
set_option Elab.async false
set_option maxRecDepth 100000
set_option maxHeartbeats 4000000
set_option linter.all false
set_option autoImplicit false
namespace Lr
open PySem L2 PyProof.Rows
abbrev s_free_words : Stmt := topS 42
abbrev ns_free_words : List Str := ["lengths", "row", "words", "used", "at"]
theorem sc_free_words : FnScope ns_free_words ["lengths"] (defScope s_free_words) := ⟨rfl, rfl, rfl, by decide +kernel, rfl, by decide +kernel, by decide +kernel⟩
section
variable {b : Wd} {H0 : Hp} {Γ : List (V × D)} {M : ML} {δ : List (Option D)} {ta tb te : TE} {De : Ends} {E : XK}
theorem evn_rep {w : Wd} {xs : List D} {k : Nat} (h : Ev w ta δ (.lst xs)) (h2 : Ev w tb δ (.int (k : Nat))) (hk : k ≤ 1000) (hx : xs.length ≤ 1000) : EvN w (tOp rMulU ta tb) δ (fun ds => ds = (List.replicate k xs).flatten) := fun ok σ H e I Q q =>
  h ok σ H e I _ fun a x H1 pa e1 I1 ra => h2 ok σ H1 (e.car (Ex.car ok e1)) I1 _ fun c y H2 pc e2 I2 rc => by
    subst pa
    subst pc
    cases rc
    cases ra.car (Ex.car ok e2) with
    | @lst ad vs _ n1 e1' r1 =>
      refine .inr ⟨_, _, _, rfl, rfl, e1', by omega, by omega, ?_, fun p np => ?_⟩
      · rw [r1.len, sizeLine_eq]
        have : xs.length * k ≤ 1000 * 1000 := Nat.mul_le_mul hx hk
        simp only [Int.toNat_natCast]
        omega
      · have s := same_new (o := .lst (List.replicate ((k : Int)).toNat vs).flatten) np
        refine q _ p _ H2 _ rfl (e1.trans e2) I2 np (Ex.same s) (ok.ext _ _ I2 s) upd_same ?_
        rw [Int.toNat_natCast]
        exact (r1.rep k).car ⟨fun a o ho n => ⟨by rw [upd_ne (ne_of_none ho np)]; exact ho, n, ne_of_none ho np⟩, fun a o ho _ => by rw [upd_ne (ne_of_none ho np)]; exact ho⟩
/-- raise C(n), C's own __init__ keeping n -/
theorem go_raiseS {fld : Str} {C : Addr} {i : Int} (bb : b.Base H0) (he : Ev (b.wi M) te δ (.int i)) (hi : -1000 ≤ i ∧ i ≤ 1000) (h : ∀ H d, Ex b.Z H0 H → (b.wi M).I H → H d = none → E (.ref C) (some d) (upd H d (.xd [(fld, .int i)]))) : Go b H0 Γ M δ (fun _ σ H => tMkSup fld C te σ H fun c d H' => (fun (c : Value) (d : Option Addr) (_ : L2.St) (H : Hp) => E c d H) c d σ H') De := fun σ H p =>
  he (bb.ok.wi M) σ H p.env p.inv _ fun d v H1 pd e1 I1 r => by
    subst pd
    cases r
    have := int_text_length_le10 (a := i) (k := 4) (by decide) (by have : i.natAbs ≤ 1000 := by omega
                                                                   omega)
    exact ⟨i, rfl, log_small hi, by omega, fun d hd => h H1 d (p.ex.trans e1) I1 hd⟩
end
theorem asc_room {s : Nat} {r : GRow} {L : List GRow} (h : Asc s (r :: L)) (hs : s ≤ 1024) (hn : s ≠ 1024) : s + 2 ^ (10 - r.2) ≤ 1024 := by
  have hl := h.len r List.mem_cons_self
  have hd : 2 ^ (10 - r.2) ∣ s := h.dv r List.mem_cons_self
  have hd2 : 2 ^ (10 - r.2) ∣ 1024 := by
    have : 2 ^ (10 - r.2) ∣ 2 ^ 10 := Nat.pow_dvd_pow 2 (by omega)
    exact this
  obtain ⟨a, ha⟩ := hd
  obtain ⟨b, hb⟩ := hd2
  have : a < b := by
    rcases Nat.lt_or_ge a b with h | h
    · exact h
    · have := Nat.mul_le_mul_left (2 ^ (10 - r.2)) h
      omega
  have := Nat.mul_le_mul_left (2 ^ (10 - r.2)) (Nat.succ_le_of_lt this)
  rw [Nat.mul_succ] at this
  omega
abbrev stops (ls : List Nat) : List GRow := ls.map fun l => (Sign.stop, l)
theorem stops_len (ls : List Nat) : (stops ls).map (·.2) = ls := by
  rw [List.map_map]
  show ls.map id = ls
  rw [List.map_id]
section
variable {P : Program} {w : World} {K : PySem.W.Frag} {mg : Str → Option Value} {base : Heap} {C : Addr} {XA : ExAds}
  {q1 : Str} {a1 : Arguments} {b1 : List Stmt} {sc1 : Scope} {v1 : List Expr} {mp1 : Pos} {f1 : Addr}
def sFreeWords : Spec := fun ds P PE => ∃ ls : List Nat, ds = [intsD ls] ∧ (∀ l ∈ ls, 1 ≤ l ∧ l ≤ 10) ∧ ls.length ≤ 100 ∧ (∀ ws, fill (List.replicate ls.length []) 0 (ordL ls 10) = .inr ws → P (.lst (ws.map txt))) ∧ ∀ i, fill (List.replicate ls.length []) 0 (ordL ls 10) = .inl i → PE (.full (i : Nat))
theorem c_free_words (F : Df K mg "free_words" s_free_words ["lengths"]) (B : Blt mg) (c_check_lengths : Cal P w K mg base 2 "check_lengths" (spX K C XA sCheckLengths)) (c_in_order : Cal P w K mg base 1 "in_order" (spX K C XA sInOrder)) (c_word_from : Cal P w K mg base 1 "word_from" (spX K C XA sWordFrom))
    (g_MOST_BITS : Gc mg "MOST_BITS" (.int 10)) (g_UNITS : Gc mg "UNITS" (.int 1024)) (t_TooFull : SupTxt P K mg "TooFull" "at" q1 a1 b1 sc1 XA.full f1) (b_TooFull : SupBody "at" a1 b1 sc1 v1 mp1) (m_TooFull : MsgOk "at" v1 mp1) : Cal P w K mg base 3 "free_words" (spX K C XA sFreeWords) := by
  refine fn_X F sc_free_words (fun ds Q E ⟨_, e, _⟩ => by rw [e]; rfl) fun f cdv A outer s H E hr => ⟨_, (pss_cons (ps_st 1 sc_free_words.nd (pe_cal c_check_lengths hr (pa_cons (pv 0) (pa_cons (pe_gk g_MOST_BITS) pa_nil))))
        (pss_cons (ps_st 2 sc_free_words.nd (pe_op xMul (pe_lst (pa_cons pe_str pa_nil)) (pe_callB (xLen K) rfl B.b_len bt_len (pa_cons (pv 1) pa_nil))))
        (pss_cons (ps_st 3 sc_free_words.nd pe_int)
        (pss_cons (ps_for (passes_of rfl) rfl (pi_list (pe_cal c_in_order hr (pa_cons (pv 1) pa_nil))) (pg_nm 4 sc_free_words.nd) (pss_cons (ps_if (pt_cmpR (xEq K hr.units) (pv 3) (pe_gk g_UNITS) (nomark _)) (pss_one (ps_raise rfl (takes_of rfl rfl rfl rfl) (pmk_sup t_TooFull b_TooFull m_TooFull hr (pv 4) rfl))) pss_nil)
        (pss_cons (ps_asg (pe_cal c_word_from hr (pa_cons (pv 3) (pa_cons (pe_ix (xIx K w) (pv 1) (pv 4) (fun _ _ => rfl)) pa_nil))) (pg_sub (pv 2) (pv 4) set_list))
        (pss_one (ps_au 3 sc_free_words.nd (pe_op xShr (pe_gk g_UNITS) (pe_ix (xIx K w) (pv 1) (pv 4) (fun _ _ => rfl))) xIadd)))))
        (pss_one (ps_ret (pv 2))))))), ?_⟩
  rintro N H0 ds Pd PE ⟨ls, rfl, hl, hn, hp, hpe⟩ hE De hrt hnx
  have bb := pure_base (K := K) (C := C) (N := N) (H0 := H0)
  refine go_asg bb.ok (ev_call (P := fun d => d = intsD ls) (ea_cons (ev_var rfl) (ea_cons ev_int ea_nil)) ⟨ls, rfl, hl, rfl⟩) fun _ e => ?_
  subst e
  refine go_new bb (evn_rep (k := ls.length) (ev_lst (ea_cons ev_str ea_nil)) (ev_cb (ea_cons (ev_var (i := 1) rfl) ea_nil) (rc_len (by show some (ls.map _).length = _; rw [List.length_map]))) (by omega) (by simp)) fun ds p hds hN hpm => ?_
  subst hds
  refine go_asg bb.ok ev_int fun _ e => ?_
  subst e
  let L := ordR (stops ls) 10
  have hL : ordL ls 10 = L.map li := by
    have := ordL_rows (stops ls) 10
    rwa [stops_len] at this
  have hstops : ∀ r ∈ stops ls, 1 ≤ r.2 ∧ r.2 ≤ 10 := fun r hr => by
    obtain ⟨l, h, rfl⟩ := List.mem_map.mp hr
    exact hl l h
  have hasc : Asc 0 (L.map (·.1)) := by
    rw [← byLen_ord]
    exact ⟨byLen_asc _ 10, fun _ _ => Nat.dvd_zero _, fun r hr => hstops r (byLen_mem hr)⟩
  have hfl : (List.replicate ls.length ([] : List Bool)).map txt = (List.replicate ls.length [D.str ""]).flatten := by
    rw [List.map_replicate]
    show List.replicate _ (D.str (bs [])) = _
    rw [bs_nil]
    generalize ls.length = n
    induction n with
    | zero => rfl
    | succ n ih => rw [List.replicate_succ, List.replicate_succ, List.flatten_cons, ih]; rfl
  refine go_for bb (ds := (L.map li).map fun q => .int (q.2 : Nat)) (ei_lst (ev_call (P := fun d => d = intsD ((L.map li).map (·.2))) (ea_cons (ev_var (i := 1) rfl) ea_nil) ⟨ls, rfl, hn, by rw [hL]⟩ |>.imp fun d e => by rw [e]; unfold intsD; rw [List.map_map]; rfl))
    (fun i δ M => ∃ (ws : List (List Bool)) (s : Nat) (a : Option D), M = [(p, .lst (ws.map txt))] ∧ δ = [some (intsD ls), some (intsD ls), some (.adr p), some (.int (s : Nat)), a] ∧ ws.length = ls.length ∧ s ≤ 1024 ∧ Asc s ((L.drop i).map (·.1)) ∧ fill (List.replicate ls.length []) 0 (ordL ls 10) = fill ws s ((L.drop i).map li))
    ⟨List.replicate ls.length [], 0, none, by rw [hfl], rfl, List.length_replicate, by omega, hasc, by rw [hL]; rfl⟩ ?_ ?_
  · rintro x i d δ' M' hd ea ⟨ws, s, a, rfl, rfl, hws, hs, hA, hF⟩
    rw [List.getElem?_map, List.getElem?_map] at hd
    cases eq : L[i]? with
    | none => rw [eq] at hd; cases hd
    | some q =>
      rw [eq] at hd
      have hd := Option.some.inj hd
      subst hd
      have hi : i < L.length := (List.getElem?_eq_some_iff.mp eq).1
      have hdrop : L.drop i = q :: L.drop (i + 1) := by
        rw [List.drop_eq_getElem_cons hi]
        congr 1
        exact (List.getElem?_eq_some_iff.mp eq).2
      rw [hdrop] at hA hF
      have hq : q ∈ (stops ls).zipIdx := (mem_ord.mp (List.mem_of_getElem? eq)).1
      have hql : ls[q.2]? = some q.1.2 := by
        have h1 := List.mem_zipIdx_iff_getElem?.mp hq
        rw [List.getElem?_map] at h1
        cases e : ls[q.2]? with
        | none => rw [e] at h1; cases h1
        | some l =>
          rw [e] at h1
          have := Option.some.inj h1
          rw [← this]
      have hqn : q.2 < ls.length := (List.getElem?_eq_some_iff.mp hql).1
      have hql2 := hl _ (List.mem_of_getElem? hql)
      have hF : fill (List.replicate ls.length []) 0 (ordL ls 10) = if s = 1024 then .inl q.2 else fill (ws.set q.2 ((fig s 10).take q.1.2)) (s + 2 ^ (10 - q.1.2)) ((L.drop (i + 1)).map li) := hF
      have row : ∀ {M : ML} {δ : List (Option D)}, δ[1]? = some (some (intsD ls)) → δ[4]? = some (some (.int (q.2 : Nat))) → Ev ((pureW K C N H0).wi M) (tOp (rIxU K w) (tVar 1) (tVar 4)) δ (.int (q.1.2 : Nat)) := fun h1 h4 => ev_op (ev_var h1) (ev_var h4) (r2_xL (atI_nat (by rw [List.getElem?_map, hql]; rfl)))
      refine ⟨_, eg_name, ?_⟩
      refine go_when bb.ok (et_testd (ev_op (ev_var (i := 3) rfl) ev_int r2_eI)) (fun h => ?_) (fun h => ?_)
      · have h := of_decide_eq_true h.symm
        have h : s = 1024 := by omega
        rw [if_pos h] at hF
        refine go_raiseS bb (ev_var (i := 4) rfl) (by show -1000 ≤ ((q.2 : Nat) : Int) ∧ ((q.2 : Nat) : Int) ≤ 1000; omega) fun H d e I hd => hE (.full (q.2 : Nat)) _ _ _ (hpe _ hF) ((same_in I).trans (same_new hd)) ⟨rfl, d, rfl, upd_same⟩
      · have h := of_decide_eq_false h.symm
        have h : s ≠ 1024 := by omega
        rw [if_neg h] at hF
        have hroom := asc_room hA hs h
        refine go_setL (i := 2) (j := q.2) bb rfl (by simp [ads]) (ev_call (P := fun d => d = txt ((fig s 10).take q.1.2)) (ea_cons (ev_var (i := 3) rfl) (ea_cons (row rfl rfl) ea_nil)) ⟨s, q.1.2, rfl, by omega, rfl⟩) (fun _ _ => ev_var (i := 4) rfl) (by rw [List.length_map]; omega) fun z hz => ?_
        subst hz
        refine go_aug' bb (i := 3) rfl (ev_op (P := fun d => d = .int ((2 ^ (10 - q.1.2) : Nat) : Int)) ev_int (row rfl rfl) ((r2_shr (by omega)).imp fun d e => by rw [e, Int.toNat_natCast, div_pow hql2.2])) r2_iadd fun z hz => ?_
        subst hz
        refine go_kept rfl ⟨ws.set q.2 ((fig s 10).take q.1.2), s + 2 ^ (10 - q.1.2), some (.int (q.2 : Nat)), ?_, rfl, by rw [List.length_set]; exact hws, hroom, hA.tail, hF⟩
        rw [List.map_set]
  · rintro δ' M' ea ⟨ws, s, a, rfl, rfl, hws, hs, hA, hF⟩
    rw [List.length_map, List.length_map, List.drop_length] at hF
    refine go_freeze (i := 2) bb rfl hpm hN ?_
    refine go_ret bb.ok (ev_var (i := 2) rfl) fun d v H pd e I r => ?_
    subst pd
    exact hrt _ _ _ (hp ws hF) e r
end
end Lr
set_option Elab.async false
set_option maxRecDepth 100000
set_option maxHeartbeats 4000000
set_option linter.all false
set_option autoImplicit false
/-! The program's tables: pairs, words. -/
namespace Lr
open PySem L2 PyProof.Rows
abbrev s_check_pairs : Stmt := topS 47
abbrev ns_check_pairs : List Str := ["rows", "pair"]
theorem sc_check_pairs : FnScope ns_check_pairs ["rows"] (defScope s_check_pairs) := ⟨rfl, rfl, rfl, by decide +kernel, rfl, by decide +kernel, by decide +kernel⟩
def iOr (i j : TI) : TI := fun σ H R => i σ H R ∨ j σ H R
theorem pi_or {X : Cx} {tg e : Expr} {i j : TI} (h1 : PI X tg e i) (h2 : PI X tg e j) : PI X tg e (iOr i j) := ⟨fun pins s σ H R I h => h.elim (h1.run pins s σ H R I) (h2.run pins s σ H R I)⟩
theorem ei_or1 {w : Wd} {i j : TI} {δ : List (Option D)} {ds : List D} (h : EvI w i δ ds) : EvI w (iOr i j) δ ds := fun ok σ H e I R q => .inl (h ok σ H e I R q)
theorem ei_or2 {w : Wd} {i j : TI} {δ : List (Option D)} {ds : List D} (h : EvI w j δ ds) : EvI w (iOr i j) δ ds := fun ok σ H e I R q => .inr (h ok σ H e I R q)
def rowsD (t : Bool) (ps : List PairR) : D := if t then .tup (ps.map PairR.d) else .lst (ps.map PairR.d)
def pairsOk (ps : List PairR) : Bool := decide (2 ≤ ps.length) && decide (ps.length ≤ 40) && ps.all PairR.ok
section
variable {P : Program} {w : World} {K : PySem.W.Frag} {mg : Str → Option Value} {base : Heap} {C : Addr} {XA : ExAds}
def sCheckPairs : Spec := fun ds P PE => ∃ (t : Bool) (ps : List PairR), ds = [rowsD t ps] ∧ ps.length ≤ 1000 ∧ (pairsOk ps = true → P (.tup (ps.map PairR.d))) ∧ (pairsOk ps = false → PE .table)
theorem c_check_pairs (F : Df K mg "check_pairs" s_check_pairs ["rows"]) (B : Blt mg) (c_integer_within : Cal P w K mg base 1 "integer_within" (spX K C XA sNumber)) (g_LEAST_PAIRS : Gc mg "LEAST_PAIRS" (.int 2)) (g_MOST_PAIRS : Gc mg "MOST_PAIRS" (.int 40)) (g_MOST_BITS : Gc mg "MOST_BITS" (.int 10)) (x_BadTable : ErrC K mg "BadTable" XA.table) : Cal P w K mg base 2 "check_pairs" (spX K C XA sCheckPairs) := by
  refine fn_X F sc_check_pairs (fun ds Q E ⟨_, _, e, _⟩ => by rw [e]; rfl) fun f cdv A outer s H E hr => ⟨_, (pss_cons (ps_if (PW.pt (pw_or (pt_not (pt_val (pe_callB call_isiT rfl B.b_isinstance bt_isinstance (pa_cons (pv 0) (pa_cons (pe_tup (pa_cons (pe_bltn (v := .ty "tuple") rfl B.b_tuple bt_tuple rfl) (pa_cons (pe_bltn (v := .ty "list") rfl B.b_list bt_list rfl) pa_nil))) pa_nil))))) (pw_or1 (pt_not (pt_chain xLe xLe (pe_gk g_LEAST_PAIRS) (pe_callB (xLen K) rfl B.b_len bt_len (pa_cons (pv 0) pa_nil)) (pe_gk g_MOST_PAIRS)))))) (pss_one (ps_raise rfl (takes_of rfl rfl rfl rfl) (x_BadTable.mk1 (pe_joined (.cons pe_str (.cons (pe_fmt (pe_gk g_LEAST_PAIRS)) (.cons pe_str (.cons (pe_fmt (pe_gk g_MOST_PAIRS)) (.cons pe_str .nil)))))) rfl))) pss_nil)
        (pss_cons (ps_for (passes_of rfl) rfl (pi_or (pi_list (pv 0)) (pi_tup (pv 0))) (pg_nm 1 sc_check_pairs.nd) (pss_cons (ps_if (PW.pt (pw_or (pt_not (pt_val (pe_callB call_isi rfl B.b_isinstance bt_isinstance (pa_cons (pv 1) (pa_cons (pe_bltn (v := .ty "tuple") rfl B.b_tuple bt_tuple rfl) pa_nil))))) (pw_or1 (pt_cmpR (xNe K hr.units) (pe_callB (xLen K) rfl B.b_len bt_len (pa_cons (pv 1) pa_nil)) pe_int (nomark _))))) (pss_one (ps_raise rfl (takes_of rfl rfl rfl rfl) (x_BadTable.mk0 rfl))) pss_nil)
        (pss_one (ps_if (pt_not (pt_val (pe_cal c_integer_within hr (pa_cons (pe_ix (xIx K w) (pv 1) pe_int (fun _ _ => rfl)) (pa_cons pe_int (pa_cons (pe_gk g_MOST_BITS) pa_nil)))))) (pss_one (ps_raise rfl (takes_of rfl rfl rfl rfl) (x_BadTable.mk1 (pe_joined (.cons pe_str (.cons (pe_fmt (pe_gk g_MOST_BITS)) .nil))) rfl))) pss_nil))))
        (pss_one (ps_ret (pe_callTy (xTuple K) rfl B.b_tuple bt_tuple (pa_cons (pv 0) pa_nil)))))), ?_⟩
  rintro N H0 ds Pd PE ⟨t, ps, rfl, hl, hp, hpe⟩ hE De hrt hnx
  have bb := pure_base (K := K) (C := C) (N := N) (H0 := H0)
  have bad : ∀ {H d}, pairsOk ps = false → Ex (pureW K C N H0).Z H0 H → ((pureW K C N H0).wi []).I H → E (.ref XA.table) d H := fun h e I => hE .table _ _ _ (hpe h) (same_in I) rfl
  have hlen : ∀ {M : ML} {δ : List (Option D)}, δ[0]? = some (some (rowsD t ps)) → Ev ((pureW K C N H0).wi M) (tCB (rLenU K) (tCons (tVar 0) tNil)) δ (.int (ps.length : Nat)) := fun h => ev_cb (ea_cons (ev_var h) ea_nil) (rc_len (by cases t <;> exact congrArg some (List.length_map _)))
  have tests : EvT ((pureW K C N H0).wi []) (tOr (tNot (tB (tCB (rIsiT K) (tCons (tVar 0) (tCons (tTup (tCons (tC (.ty "tuple")) (tCons (tC (.ty "list")) tNil))) tNil))))) (tNot (tTest (tChain rLeU rLeU (tC (.int 2)) (tCB (rLenU K) (tCons (tVar 0) tNil)) (tC (.int 40)))))) [some (rowsD t ps), none] (!(decide ((2 : Int) ≤ (ps.length : Nat)) && decide (((ps.length : Nat) : Int) ≤ 40))) := by
    have h2 := et_notd (et_testd (ev_chain (w := (pureW K C N H0).wi []) (δ := [some (rowsD t ps), none]) (ev_int (i := 2)) (hlen rfl) r2_le (fun _ => ev_int (i := 40)) fun _ => r2_le))
    cases t with
    | true => exact et_ord (et_notd (et_Bd (ev_isi2 (T := "tuple") (k1 := true) (k2 := false) (ev_var rfl) rfl rfl rfl))) fun _ => h2
    | false => exact et_ord (et_notd (et_Bd (ev_isi2 (T := "list") (k1 := false) (k2 := true) (ev_var rfl) rfl rfl rfl))) fun _ => h2
  refine go_when bb.ok tests (fun h => ?_) (fun h => ?_)
  · refine go_raise1 bb (evp_joined (ej_cons ev_str (Nat.le_refl _) (ej_cons (ev_fmtI ev_int (log_small (by omega))) (str_len_small (by omega)) (ej_cons ev_str (Nat.le_refl _) (ej_cons (ev_fmtI ev_int (log_small (by omega))) (str_len_small (by omega)) (ej_cons ev_str (Nat.le_refl _) ej_nil))))) (by decide)) fun H e I => bad ?_ e I
    have h := h.symm
    rw [Bool.not_eq_true', Bool.and_eq_false_iff, decide_eq_false_iff_not, decide_eq_false_iff_not] at h
    unfold pairsOk
    rcases h with h | h
    · rw [decide_eq_false (by omega)]; rfl
    · rw [decide_eq_false (p := ps.length ≤ 40) (by omega), Bool.and_false]; rfl
  have h := h.symm
  rw [Bool.not_eq_false', Bool.and_eq_true, decide_eq_true_eq, decide_eq_true_eq] at h
  refine go_for bb (ds := ps.map PairR.d) ?_ (fun i δ M => M = [] ∧ ∃ u : Option D, δ = [some (rowsD t ps), u] ∧ ∀ j (h : j < ps.length), j < i → (ps[j]).ok = true) ⟨rfl, none, rfl, fun j _ h => by omega⟩ ?_ ?_
  · cases t with
    | true => exact ei_or2 (ei_tup (w := (pureW K C N H0).wi []) (δ := [some (rowsD true ps), none]) (ds := ps.map PairR.d) (ev_var (i := 0) rfl))
    | false => exact ei_or1 (ei_lst (w := (pureW K C N H0).wi []) (δ := [some (rowsD false ps), none]) (ds := ps.map PairR.d) (ev_var (i := 0) rfl))
  · rintro x i d δ' M' hd ea ⟨rfl, u, rfl, hj⟩
    rw [List.getElem?_map] at hd
    have hi : i < ps.length := by
      rcases Nat.lt_or_ge i ps.length with h | h
      · exact h
      · rw [List.getElem?_eq_none h] at hd; cases hd
    rw [List.getElem?_eq_getElem hi] at hd
    have hd := Option.some.inj hd
    subst hd
    refine ⟨_, eg_name, ?_⟩
    have step : ((ps[i]).ok = false → pairsOk ps = false) := fun h => by
      have : ps.all PairR.ok = false := by
        rw [List.all_eq_false]
        exact ⟨_, List.getElem_mem hi, by rw [h]; decide⟩
      unfold pairsOk
      rw [this, Bool.and_false]
    have next : (ps[i]).ok = true → ∀ j (h : j < ps.length), j < i + 1 → (ps[j]).ok = true := fun h j hj1 hj2 => by
      by_cases e : j = i
      · subst e; exact h
      · exact hj j hj1 (by omega)
    generalize ps[i] = q at step next ⊢
    have hn : EvT ((pureW K C N H0).wi []) (tNot (tB (tCall (spX K C XA sNumber) [] E0 (tCons (tOp (rIxU K w) (tVar 1) (tC (.int 1))) (tCons (tC (.int 1)) (tCons (tC (.int 10)) tNil)))))) [some (rowsD t ps), some q.d] (!(q.n.wi 1 10)) :=
      et_notd (et_Bd (ev_call (ea_cons (PairR.ev1 (p := q) (ev_var rfl)) (ea_cons ev_int (ea_cons ev_int ea_nil))) ⟨q.n, _, _, rfl, rfl⟩))
    have test : EvT ((pureW K C N H0).wi []) (tOr (tNot (tB (tCB (rIsi K) (tCons (tVar 1) (tCons (tC (.ty "tuple")) tNil))))) (tTest (tOp (rNeU K) (tCB (rLenU K) (tCons (tVar 1) tNil)) (tC (.int 2))))) [some (rowsD t ps), some q.d] (!(q.tup && !q.three)) := by
      obtain ⟨tt, g, n, th⟩ := q
      cases tt with
      | false => exact et_is (et_ord (y := true) (et_notd (et_Bd (ev_isi (T := "list") (k := false) (ev_var rfl) rfl rfl))) fun h => by cases h) rfl
      | true =>
        cases th with
        | true => exact et_is (et_ord (et_notd (et_Bd (ev_isi (T := "tuple") (k := true) (ev_var rfl) rfl rfl))) fun _ => et_testd (ev_op (ev_cb (ea_cons (ev_var rfl) ea_nil) (rc_len (n := 3) rfl)) ev_int r2_nI)) rfl
        | false => exact et_is (et_ord (et_notd (et_Bd (ev_isi (T := "tuple") (k := true) (ev_var rfl) rfl rfl))) fun _ => et_testd (ev_op (ev_cb (ea_cons (ev_var rfl) ea_nil) (rc_len (n := 2) rfl)) ev_int r2_nI)) rfl
    refine go_when bb.ok test (fun h => ?_) (fun h => ?_)
    · refine go_raise fun H e I => bad (step ?_) e I
      unfold PairR.ok
      have h := h.symm
      rw [Bool.not_eq_true'] at h
      rw [h]; rfl
    refine go_when' bb.ok hn (fun h2 => ?_) (fun h2 => ?_)
    · refine go_raise1 bb (evp_joined (ej_cons ev_str (Nat.le_refl _) (ej_cons (ev_fmtI ev_int (log_small (by omega))) (str_len_small (by omega)) ej_nil)) (by decide)) fun H e I => bad (step ?_) e I
      unfold PairR.ok
      have h := h2.symm
      rw [Bool.not_eq_true'] at h
      rw [h, Bool.and_false]
    · refine go_kept rfl ⟨rfl, _, rfl, next ?_⟩
      unfold PairR.ok
      have h := h.symm
      have h2 := h2.symm
      rw [Bool.not_eq_false'] at h h2
      rw [h, h2]; rfl
  · rintro δ' M' ea ⟨rfl, u, rfl, hj⟩
    rw [List.length_map] at hj
    have hok : pairsOk ps = true := by
      unfold pairsOk
      rw [decide_eq_true (by omega), decide_eq_true (by omega), List.all_eq_true.mpr fun p hp => by
        obtain ⟨j, hj1, rfl⟩ := List.mem_iff_getElem.mp hp
        exact hj j hj1 hj1]
      rfl
    refine go_ret bb.ok (ev_cb (P := fun d => d = .tup (ps.map PairR.d)) (ea_cons (ev_var (i := 0) rfl) ea_nil) ?_) fun d v H pd e I r => ?_
    · cases t with
      | true => exact rc_tupT
      | false => exact rc_tupL
    · subst pd
      exact hrt _ _ _ (hp hok) e r
end
end Lr
set_option Elab.async false
set_option maxRecDepth 100000
set_option maxHeartbeats 4000000
set_option linter.all false
set_option autoImplicit false
/-! Own dicts; words_of. -/
namespace Lr
open PySem L2 PyProof.Rows
section
variable {b : Wd} {H0 : Hp} {Γ : List (V × D)} {M : ML} {δ : List (Option D)} {te tj : TE} {tu tz : TS} {De : Ends} {P : D → Prop}
theorem go_newD {i : Nat} (bb : b.Base H0) (k : ∀ q, b.N q → q ∉ ads M → Go b H0 Γ ((q, .dic []) :: M) (δ.set i (some (.adr q))) tz De) : Go b H0 Γ M δ (tSeq (tAsg tDNewK (gName i)) tz) De := fun σ H p q np => by
  have h0 : H0 q = none := bb.h0 _ _ p.inv.1 np
  have s := same_new (o := .dK []) np
  have e2 : Ex b.Z H (upd H q (.dK [])) := Ex.same s
  have I2 := (bb.ok.wi M).ext _ _ p.inv s
  have c : Car (fun a => b.N a ∧ a ∉ ads M) (fun a => b.N a ∧ a ∉ ads ((q, MO.dic []) :: M)) H (upd H q (.dK [])) := car_new bb.ok.zn np e2
  have nm : q ∉ ads M := ((bb.ok.wi M).fr _ _ p.inv np).2
  refine k q (bb.ok.fr _ _ p.inv.1 np) nm _ _ ⟨(p.env.car c).set (.adr q) i, ⟨I2.1, fun m hm => ?_⟩, p.ex.trans e2, fun a ha => ?_, fun x hx => (p.gh x hx).car c⟩
  · rcases List.mem_cons.mp hm with rfl | hm
    · exact ⟨bb.zok _ _ p.inv.1 np, [], upd_same, .nil⟩
    · obtain ⟨z1, z2⟩ := p.inv.2 m hm
      obtain ⟨o, ho, _⟩ := z2.there
      exact ⟨z1, z2.car c fun o ho => e2 _ o ho (.inl z1)⟩
  · rcases List.mem_cons.mp ha with rfl | ha
    · exact h0
    · exact p.new a ha
/-- d[k] = e, d one's own -/
theorem pt_dput {i : Nat} {p : Addr} {ds : List (Str × D)} {M' : ML} {k : Str} (bb : b.Base H0) (hi : δ[i]? = some (some (.adr p))) (np : p ∉ ads M') (h : EvP (b.wi ((p, .dic ds) :: M')) te δ P) (hj : ∀ d, P d → Ev (b.wi ((p, .dic ds) :: M')) tj δ (.str k)) (hl : ds.length < 100000)
    {σ : L2.St} {H : Hp} (q : Pt b H0 Γ ((p, .dic ds) :: M') δ σ H)
    {R : L2.St → Hp → Prop} (kk : ∀ d, P d → ∀ σ' H', Pt b H0 Γ ((p, .dic (putD ds k d)) :: M') δ σ' H' → R σ' H') : sDPut (tVar i) tj te { nx := R, rt := De.rt, bk := De.bk, ct := De.ct } σ H := by
  refine h (bb.ok.wi _) σ H q.env q.inv _ fun d y H1 pd e1 I1 r => ?_
  have q1 := q.step bb.ok e1 I1
  obtain ⟨v, h1, h2⟩ := q1.env.get hi
  cases h2
  refine ⟨_, h1, ?_⟩
  refine hj d pd (bb.ok.wi _) σ H1 q1.env I1 _ fun dj x H2 pj e2 I2 rj => ?_
  subst pj
  cases rj
  have q2 := q1.step bb.ok e2 I2
  have r2 := r.car (Ex.car (bb.ok.wi _) e2)
  obtain ⟨vs, hv, rv⟩ := q2.dic
  refine ⟨p, _, rfl, .inl ⟨vs, Sum.inr k, hv, rfl, by rw [rv.len, sizeLine_eq]; exact Nat.lt_of_lt_of_le hl (by decide), rfl⟩, kk d pd _ _ (pt_mut bb q2 np ⟨_, upd_same, ?_⟩)⟩
  have c : Car (fun a => b.N a ∧ a ∉ ads ((p, .dic ds) :: M')) (fun a => b.N a ∧ a ∉ ads ((p, .dic (putD ds k d)) :: M')) H2 (upd H2 p (.dK (putK vs (Sum.inr k) y))) := car_mut hv rfl
  exact (rv.put r2).car c
theorem go_dput' {i : Nat} {p : Addr} {ds : List (Str × D)} {M' : ML} {k : Str} (bb : b.Base H0) (hi : δ[i]? = some (some (.adr p))) (np : p ∉ ads M') (h : EvP (b.wi ((p, .dic ds) :: M')) te δ P) (hj : ∀ d, P d → Ev (b.wi ((p, .dic ds) :: M')) tj δ (.str k)) (hl : ds.length < 100000)
    (kk : ∀ d, P d → Go b H0 Γ ((p, .dic (putD ds k d)) :: M') δ tNext De) : Go b H0 Γ ((p, .dic ds) :: M') δ (sDPut (tVar i) tj te) De := fun σ H q =>
  pt_dput (De := De) bb hi np h hj hl q fun d pd σ' H' q' => kk d pd σ' H' q'
theorem pt_freezeD {p : Addr} {ds : List (Str × D)} {M' : ML} (bb : b.Base H0) {σ : L2.St} {H : Hp} (q : Pt b H0 Γ ((p, .dic ds) :: M') δ σ H) (np : p ∉ ads M') (hN : b.N p) : Pt b H0 Γ M' δ σ H ∧ (b.wi M').Rp H (.ref p) (.dic ds) := by
  obtain ⟨vs, hv, rv⟩ := q.dic
  have c : Car (fun a => b.N a ∧ a ∉ ads ((p, MO.dic ds) :: M')) (fun a => b.N a ∧ a ∉ ads M') H H := ⟨fun a o h n => ⟨h, n.1, fun hm => n.2 (List.mem_cons_of_mem _ hm)⟩, fun a o h _ => h⟩
  exact ⟨⟨q.env.car c, ⟨q.inv.1, fun m hm => ⟨(q.inv.2 m (List.mem_cons_of_mem _ hm)).1, (q.inv.2 m (List.mem_cons_of_mem _ hm)).2.car c fun o h => h⟩⟩, q.ex, fun a ha => q.new a (List.mem_cons_of_mem _ ha), fun x hx => (q.gh x hx).car c⟩, .dic ⟨hN, np⟩ hv (rv.car c)⟩
theorem go_freezeD {i : Nat} {p : Addr} {ds : List (Str × D)} {M' : ML} (bb : b.Base H0) (hi : δ[i]? = some (some (.adr p))) (np : p ∉ ads M') (hN : b.N p) (k : Go b H0 Γ M' (δ.set i (some (.dic ds))) tu De) : Go b H0 Γ ((p, .dic ds) :: M') δ tu De := fun σ H q => by
  obtain ⟨q1, r⟩ := pt_freezeD bb q np hN
  obtain ⟨v, h1, h2⟩ := q1.env.get hi
  cases h2
  refine k _ _ ⟨?_, q1.inv, q1.ex, q1.new, q1.gh⟩
  have e := q1.env.set r i
  have : σ.set i (some (.ref p)) = σ := by
    have hlt := (List.getElem?_eq_some_iff.mp h1).1
    have he := (List.getElem?_eq_some_iff.mp h1).2
    rw [← he]
    exact List.set_getElem_self hlt
  rw [this] at e
  exact e
end
theorem fill_rows {rows : List GRow} (h : ∀ r ∈ rows, 1 ≤ r.2 ∧ r.2 ≤ 10) : fill (List.replicate rows.length []) 0 (ordL (rows.map (·.2)) 10) = match overfull (rows.map (·.2)) with
    | some i => .inl i
    | none => .inr (hsOf rows) := by
  have hasc : Asc 0 ((ordR rows 10).map (·.1)) := by
    rw [← byLen_ord]
    exact ⟨byLen_asc _ 10, fun _ _ => Nat.dvd_zero _, fun r hr => h r (byLen_mem hr)⟩
  rw [ordL_rows, fill_over _ _ _ hasc (by omega)]
  unfold hsOf overfull
  rw [sort_ord h]
  rfl
theorem used_fit {rows : List GRow} (h : ∀ r ∈ rows, 1 ≤ r.2 ∧ r.2 ≤ 10) (ho : overfull (rows.map (·.2)) = none) : used 0 (byLen rows 10) ≤ 1024 := by
  rw [byLen_ord]
  unfold overfull at ho
  rw [sort_ord h] at ho
  exact over_used _ 0 (fun q hq => (mem_ord.mp hq).2.2) (by omega) ho
theorem hs_len {rows : List GRow} : (hsOf rows).length = rows.length := by
  unfold hsOf
  rw [placed_len, List.length_replicate]
theorem placed_short : ∀ (L : List (Nat × Nat)) (ws : List (List Bool)) (s : Nat), (∀ w ∈ ws, w.length ≤ 10) → ∀ w ∈ placed ws s L, w.length ≤ 10
  | [], _, _, h, w, hw => h w hw
  | p :: L, ws, s, h, w, hw => placed_short L _ _ (fun v hv => by
      rcases List.mem_or_eq_of_mem_set hv with hv | rfl
      · exact h v hv
      · rw [List.length_take, fig_len]; omega) w hw
theorem hs_short {rows : List GRow} {w : List Bool} (h : w ∈ hsOf rows) : w.length ≤ 10 := placed_short _ _ _ (fun v hv => by rw [List.eq_of_mem_replicate hv]; exact Nat.zero_le _) w h
theorem tok_nodup {rows : List GRow} (h : RowsOk rows) (ho : overfull (rows.map (·.2)) = none) : ((tokW rows).map (·.1)).Nodup := by
  have p := (tokW_perm h).map (·.1)
  exact p.nodup_iff.mpr ((words_prec h (used_fit h.len ho)).imp fun {a b} h e => prec_ne h e)
abbrev kvW (q : W) : Str × D := (bs q.1, q.2.d)
theorem putD_new {l : List W} {q : W} (h : q.1 ∉ l.map (·.1)) : putD (l.map kvW) (bs q.1) q.2.d = (l ++ [q]).map kvW := by
  have : ((l.map kvW).any fun p => decide (p.1 = bs q.1)) = false := by
    rw [List.any_eq_false]
    intro p hp e
    obtain ⟨x, hx, rfl⟩ := List.mem_map.mp hp
    have e : bs x.1 = bs q.1 := of_decide_eq_true e
    exact h (List.mem_map.mpr ⟨x, hx, bs_inj e⟩)
  unfold putD
  rw [this, List.map_append]
  rfl
def tokP (rows : List GRow) (n : Nat) : List W := (rows.zipIdx.take n).flatMap fun q => spreadOn ((hsOf rows).getD q.2 [], q.1.1)
theorem tokP_all {rows : List GRow} : tokP rows rows.length = tokW rows := by
  unfold tokP tokW
  rw [List.take_of_length_le (by rw [List.length_zipIdx]; exact Nat.le_refl _)]
theorem tokP_succ {rows : List GRow} {i : Nat} {r : GRow} (h : rows[i]? = some r) : tokP rows (i + 1) = tokP rows i ++ spreadOn ((hsOf rows).getD i [], r.1) := by
  unfold tokP
  have : rows.zipIdx[i]? = some (r, i) := by rw [List.getElem?_zipIdx, h]; simp
  rw [take_succ' this, List.flatMap_append, List.flatMap_singleton]
theorem tokP_split {rows : List GRow} {i : Nat} {r : GRow} (h : rows[i]? = some r) : ∃ t, tokW rows = tokP rows i ++ spreadOn ((hsOf rows).getD i [], r.1) ++ t := by
  have : rows.zipIdx[i]? = some (r, i) := by rw [List.getElem?_zipIdx, h]; simp
  have hi := (List.getElem?_eq_some_iff.mp this).1
  refine ⟨(rows.zipIdx.drop (i + 1)).flatMap fun q => spreadOn ((hsOf rows).getD q.2 [], q.1.1), ?_⟩
  rw [← tokP_succ h]
  unfold tokW tokP
  rw [← List.flatMap_append, List.take_append_drop]
theorem tok_new {rows : List GRow} (hn : ((tokW rows).map (·.1)).Nodup) {i j : Nat} {r : GRow} {q : W} (h : rows[i]? = some r) (hq : (spreadOn ((hsOf rows).getD i [], r.1))[j]? = some q) : q.1 ∉ (tokP rows i ++ (spreadOn ((hsOf rows).getD i [], r.1)).take j).map (·.1) := by
  obtain ⟨t, e⟩ := tokP_split h
  generalize spreadOn ((hsOf rows).getD i [], r.1) = s at hq e ⊢
  have hj := (List.getElem?_eq_some_iff.mp hq).1
  have es : s = s.take j ++ q :: s.drop (j + 1) := by
    have : s.drop j = q :: s.drop (j + 1) := by
      rw [List.drop_eq_getElem_cons hj]
      congr 1
      exact (List.getElem?_eq_some_iff.mp hq).2
    rw [← this, List.take_append_drop]
  have e2 : tokW rows = (tokP rows i ++ s.take j) ++ q :: (s.drop (j + 1) ++ t) := by
    rw [e]
    conv => lhs; rw [es]
    simp only [List.append_assoc, List.cons_append]
  rw [e2, List.map_append, List.map_cons] at hn
  intro hm
  exact (List.nodup_append.mp hn).2.2 _ hm _ List.mem_cons_self rfl
theorem tokP_len {rows : List GRow} (h : ∀ r ∈ rows, r.1.ext) : ∀ n, (tokP rows n).length ≤ 64 * n := fun n => by
  unfold tokP
  rw [List.length_flatMap]
  have : ∀ l : List (GRow × Nat), (∀ q ∈ l, q.1 ∈ rows) → (l.map fun q => (spreadOn ((hsOf rows).getD q.2 [], q.1.1)).length).sum ≤ 64 * l.length := by
    intro l
    induction l with
    | nil => intro _; exact Nat.zero_le _
    | cons q l ih =>
      intro hl
      rw [List.map_cons, List.sum_cons, List.length_cons]
      have h1 := spread_len8 (h _ (hl q List.mem_cons_self))
      have h2 := ih fun p hp => hl p (List.mem_cons_of_mem _ hp)
      have : (spreadOn ((hsOf rows).getD q.2 [], q.1.1)).length = q.1.1.spread.length := by unfold spreadOn; rw [List.length_map]
      omega
  refine Nat.le_trans (this _ fun q hq => ?_) (Nat.mul_le_mul_left _ (by rw [List.length_take]; omega))
  have := List.mem_of_mem_take hq
  exact (List.mem_zipIdx_iff_getElem?.mp this) |> List.mem_of_getElem?
abbrev s_words_of : Stmt := topS 48
abbrev ns_words_of : List Str := ["pairs", "heads", "_", "length", "spreads", "sign", "part", "tokens", "at", "bits", "token"]
theorem sc_words_of : FnScope ns_words_of ["pairs"] (defScope s_words_of) := ⟨rfl, rfl, rfl, by decide +kernel, rfl, by decide +kernel, by decide +kernel⟩
def tokN (rows : List GRow) : Nat := (rows.map fun r => r.1.spread.length).sum
theorem sum_cast : ∀ l : List Nat, (l.map fun n : Nat => (n : Int)).sum = ((l.sum : Nat) : Int)
  | [] => rfl
  | a :: l => by rw [List.map_cons, List.sum_cons, List.sum_cons, sum_cast l]; omega
section
variable {P : Program} {w : World} {K : PySem.W.Frag} {mg : Str → Option Value} {base : Heap} {C : Addr} {XA : ExAds}
  {q1 : Str} {a1 : Arguments} {b1 : List Stmt} {sc1 : Scope} {v1 : List Expr} {mp1 : Pos} {f1 : Addr}
def sWordsOf : Spec := fun ds P PE => ∃ rows : List GRow, ds = [.tup (rows.map growD)] ∧ RowsOk rows ∧ (∀ r ∈ rows, r.1.okB zMax = true) ∧ (∀ i, overfull (rows.map (·.2)) = some i → PE (.full (i : Nat))) ∧ (overfull (rows.map (·.2)) = none → 120 < tokN rows → PE (.large 120)) ∧
  (overfull (rows.map (·.2)) = none → tokN rows ≤ 120 → P (.dic ((tokW rows).map kvW)))
theorem c_words_of (F : Df K mg "words_of" s_words_of ["pairs"]) (B : Blt mg) (c_free_words : Cal P w K mg base 3 "free_words" (spX K C XA sFreeWords)) (c_spread : Cal P w K mg base 5 "spread" (spX K C XA sSpread)) (g_MOST_WORDS : Gc mg "MOST_WORDS" (.int 120))
    (t_TooLarge : SupTxt P K mg "TooLarge" "limit" q1 a1 b1 sc1 XA.large f1) (b_TooLarge : SupBody "limit" a1 b1 sc1 v1 mp1) (m_TooLarge : MsgOk "limit" v1 mp1) : Cal P w K mg base 6 "words_of" (spX K C XA sWordsOf) := by
  refine fn_X F sc_words_of (fun ds Q E ⟨_, e, _⟩ => by rw [e]; rfl) fun f cdv A outer s H E hr => ⟨_, (pss_cons (ps_st 1 sc_words_of.nd (pe_calX (takes_of rfl rfl rfl rfl) c_free_words hr (pa_cons (pe_lc (own := [("_", 2), ("length", 3)]) (g := gTup K 2 (gCons (gName 2) (gCons (gName 3) gNil))) (tt := tYes) rfl sc_words_of.nd (pi_tup (pv 0)) (blkOk_by (N := ns_words_of) (sc := defScope s_words_of) (by decide +kernel)) (fun _ _ _ _ _ => (pg_tup rfl (pgs_cons (pg_nm 2 sc_words_of.nd) (pgs_cons (pg_nm 3 sc_words_of.nd) pgs_nil)))) (fun _ _ _ _ _ => pts_nil) (fun _ _ _ _ _ => (pv 3))) pa_nil)))
        (pss_cons (ps_setLc (i := 4) (own := [("sign", 5), ("_", 2)]) (g := gTup K 2 (gCons (gName 5) (gCons (gName 2) gNil))) (tt := tYes) rfl sc_words_of.nd rfl rfl (sw_true rfl rfl rfl (by decide +kernel)) (pi_tup (pv 0)) (blkOk_by (N := ns_words_of) (sc := defScope s_words_of) (by decide +kernel)) (fun _ _ _ _ _ => (pg_tup rfl (pgs_cons (pg_nm 5 sc_words_of.nd) (pgs_cons (pg_nm 2 sc_words_of.nd) pgs_nil)))) (fun _ _ _ _ _ => pts_nil) (fun _ _ _ _ _ => (pe_cal c_spread hr (pa_cons (pv 5) pa_nil))))
        (pss_cons (ps_if (pt_cmpR xGt (pe_callB (cr_sum rfl) rfl B.b_sum bt_sum (pa_cons (pe_lc (own := [("part", 6)]) (g := gName 6) (tt := tYes) rfl sc_words_of.nd (pi_list (pv 4)) (blkOk_by (N := ns_words_of) (sc := defScope s_words_of) (by decide +kernel)) (fun _ _ _ _ _ => (pg_nm 6 sc_words_of.nd)) (fun _ _ _ _ _ => pts_nil) (fun _ _ _ _ _ => (pe_callB (xLen K) rfl B.b_len bt_len (pa_cons (pv 6) pa_nil)))) pa_nil)) (pe_gk g_MOST_WORDS) (nomark _)) (pss_one (ps_raise rfl (takes_of rfl rfl rfl rfl) (pmk_sup t_TooLarge b_TooLarge m_TooLarge hr (pe_gk g_MOST_WORDS) rfl))) pss_nil)
        (pss_cons (ps_st 7 sc_words_of.nd pe_dnewK)
        (pss_cons (ps_for (passes_of rfl) rfl (pi_enum rfl B.b_enumerate (pa_cons (pv 4) pa_nil)) (pg_tup rfl (pgs_cons (pg_nm 8 sc_words_of.nd) (pgs_cons (pg_nm 6 sc_words_of.nd) pgs_nil))) (pss_one (ps_for (passes_of rfl) rfl (pi_list (pv 6)) (pg_tup rfl (pgs_cons (pg_nm 9 sc_words_of.nd) (pgs_cons (pg_nm 10 sc_words_of.nd) pgs_nil))) (pss_one (ps_dput hr.u1 (pv 7) (pe_op (xAdd K) (pe_ix (xIx K w) (pv 1) (pv 8) (fun _ _ => rfl)) (pv 9)) (pv 10) rfl)))))
        (pss_one (ps_ret (pv 7)))))))), ?_⟩
  rintro N H0 ds Pd PE ⟨rows, rfl, hR, hok, hfull, hlarge, hp⟩ hE De hrt hnx
  have bb := pure_base (K := K) (C := C) (N := N) (H0 := H0)
  have fl := fill_rows hR.len
  have few := hR.few
  have growAt : ∀ {i : Nat} {d : D}, (rows.map growD)[i]? = some d → ∃ r, rows[i]? = some r ∧ d = growD r := fun {i d} hd => by
    rw [List.getElem?_map] at hd
    cases e : rows[i]? with
    | none => rw [e] at hd; cases hd
    | some r => rw [e] at hd; exact ⟨r, rfl, (Option.some.inj hd).symm⟩
  have lens : Ev ((pureW K C N H0).wi []) (tLc (iTup K (tVar 0)) (gTup K 2 (gCons (gName 2) (gCons (gName 3) gNil))) tYes (tVar 3) [2, 3]) (startD ns_words_of [.tup (rows.map growD)]) (intsD (rows.map (·.2))) := by
    refine ev_lcmap bb (ei_tup (w := (pureW K C N H0).wi []) (δ := startD ns_words_of [.tup (rows.map growD)]) (ds := rows.map growD) (ev_var (i := 0) rfl)) (by rw [List.length_map]; omega) ((rows.map (·.2)).map fun n => .int (n : Nat)) (by rw [List.length_map, List.length_map, List.length_map]) fun i d e hd he p acc np => ?_
    obtain ⟨r, hr, rfl⟩ := growAt hd
    rw [List.getElem?_map, List.getElem?_map, hr] at he
    have he := Option.some.inj he
    subst he
    exact ⟨_, gw_tup (gw_cons gw_name (gw_cons gw_name gw_nil)), ev_var rfl⟩
  refine go_asg bb.ok (P := fun d => overfull (rows.map (·.2)) = none ∧ d = .lst ((hsOf rows).map txt)) (ev_callX (PE := fun er => ∃ i : Nat, er = .full i ∧ overfull (rows.map (·.2)) = some i) (ea_cons lens ea_nil) ⟨rows.map (·.2), rfl, fun l hl => ?_, by rw [List.length_map]; omega, fun ws e => ?_, fun i e => ?_⟩ fun er c dx H' z I ea => ?_) fun d ⟨hov, hd⟩ => ?_
  · obtain ⟨r, hr, rfl⟩ := List.mem_map.mp hl
    exact hR.len r hr
  · rw [List.length_map, fl] at e
    cases ho : overfull (rows.map (·.2)) with
    | some i => rw [ho] at e; cases e
    | none =>
      rw [ho] at e
      have e := Sum.inr.inj e
      subst e
      exact ⟨rfl, rfl⟩
  · rw [List.length_map, fl] at e
    cases ho : overfull (rows.map (·.2)) with
    | some j =>
      rw [ho] at e
      have e := Sum.inl.inj e
      subst e
      exact ⟨j, rfl, rfl⟩
    | none => rw [ho] at e; cases e
  · obtain ⟨i, rfl, ho⟩ := z
    exact hE (.full i) _ _ _ (hfull i ho) (same_in I) ea
  subst hd
  let δ1 : List (Option D) := [some (.tup (rows.map growD)), some (.lst ((hsOf rows).map txt)), none, none, none, none, none, none, none, none, none]
  have sps : Ev ((pureW K C N H0).wi []) (tLc (iTup K (tVar 0)) (gTup K 2 (gCons (gName 5) (gCons (gName 2) gNil))) tYes (tCall (spX K C XA sSpread) [] E0 (tCons (tVar 5) tNil)) [5, 2]) δ1 (.lst (rows.map fun r : GRow => D.lst (r.1.spread.map pairD))) := by
    refine ev_lcmap bb (ei_tup (w := (pureW K C N H0).wi []) (δ := δ1) (ds := rows.map growD) (ev_var (i := 0) rfl)) (by rw [List.length_map]; omega) (rows.map fun r : GRow => D.lst (r.1.spread.map pairD)) (by rw [List.length_map, List.length_map]) fun i d e hd he p acc np => ?_
    obtain ⟨r, hr, rfl⟩ := growAt hd
    rw [List.getElem?_map, hr] at he
    have he := Option.some.inj he
    subst he
    exact ⟨_, gw_tup (gw_cons gw_name (gw_cons gw_name gw_nil)), ev_call (ea_cons (ev_var (i := 5) rfl) ea_nil) ⟨r.1, rfl, hok r (List.mem_of_getElem? hr), rfl⟩⟩
  refine go_asg bb.ok sps fun d hd => ?_
  subst hd
  let δ2 : List (Option D) := [some (.tup (rows.map growD)), some (.lst ((hsOf rows).map txt)), none, none, some (.lst (rows.map fun r : GRow => D.lst (r.1.spread.map pairD))), none, none, none, none, none, none]
  have spAt : ∀ {i : Nat} {d : D}, (rows.map fun r : GRow => D.lst (r.1.spread.map pairD))[i]? = some d → ∃ r, rows[i]? = some r ∧ d = .lst (r.1.spread.map pairD) := fun {i d} hd => by
    rw [List.getElem?_map] at hd
    cases e : rows[i]? with
    | none => rw [e] at hd; cases hd
    | some r => rw [e] at hd; exact ⟨r, rfl, (Option.some.inj hd).symm⟩
  have test : EvT ((pureW K C N H0).wi []) (tTest (tOp rGtU (tCB (rSum K) (tCons (tLc (iList K (tVar 4)) (gName 6) tYes (tCB (rLenU K) (tCons (tVar 6) tNil)) [6]) tNil)) (tC (.int 120)))) δ2 (decide (((tokN rows : Nat) : Int) > 120)) := by
    refine et_testd (ev_op (a := .int ((tokN rows : Nat) : Int)) (b := .int 120) (EvP.imp (ev_cb (ea_cons (ev_lcmap bb (ei_lst (w := (pureW K C N H0).wi []) (δ := δ2) (ds := rows.map fun r : GRow => D.lst (r.1.spread.map pairD)) (ev_var (i := 4) rfl)) (by rw [List.length_map]; omega) (((rows.map fun r => r.1.spread.length).map fun n : Nat => (n : Int)).map D.int) (by simp only [List.length_map]) fun i d e hd he p acc np => ?_) ea_nil) rc_sum) fun d e => by rw [e, sum_cast]; rfl) ev_int r2_gt)
    obtain ⟨r, hr, rfl⟩ := spAt hd
    rw [List.getElem?_map, List.getElem?_map, List.getElem?_map, hr] at he
    have he := Option.some.inj he
    subst he
    exact ⟨_, gw_name, ev_cb (ea_cons (ev_var rfl) ea_nil) (rc_len (by show some (r.1.spread.map pairD).length = _; rw [List.length_map]))⟩
  refine go_when bb.ok test (fun h => ?_) (fun h => ?_)
  · have h := of_decide_eq_true h.symm
    refine go_raiseS bb ev_int (by omega) fun H d e I hd => hE (.large 120) _ _ _ (hlarge hov (by omega)) ((same_in I).trans (same_new hd)) ⟨rfl, d, rfl, upd_same⟩
  have h := of_decide_eq_false h.symm
  have hp := hp hov (by omega)
  have hnd := tok_nodup hR hov
  refine go_newD bb fun q hq hm => ?_
  refine go_for bb (ei_enumL (w := (pureW K C N H0).wi [(q, .dic [])]) (δ := δ2.set 7 (some (.adr q))) (ds := rows.map fun r : GRow => D.lst (r.1.spread.map pairD)) (ea_cons (ev_var (i := 4) rfl) ea_nil)) (fun i δ M => ∃ a6 a8 a9 a10 : Option D, M = [(q, .dic ((tokP rows i).map kvW))] ∧ δ = [some (.tup (rows.map growD)), some (.lst ((hsOf rows).map txt)), none, none, some (.lst (rows.map fun r : GRow => D.lst (r.1.spread.map pairD))), none, a6, some (.adr q), a8, a9, a10]) ⟨none, none, none, none, rfl, rfl⟩ ?_ ?_
  · rintro x i d δ' M' hd ea ⟨a6, a8, a9, a10, rfl, rfl⟩
    obtain ⟨r, hr, rfl⟩ : ∃ r, rows[i]? = some r ∧ d = .tup [.int (i : Int), .lst (r.1.spread.map pairD)] := by
      have hi : i < rows.length := by
        have := (List.getElem?_eq_some_iff.mp hd).1
        rwa [numbered_len, List.length_map] at this
      have hr : rows[i]? = some rows[i] := List.getElem?_eq_getElem hi
      have : (rows.map fun r : GRow => D.lst (r.1.spread.map pairD))[i]? = some (.lst (rows[i].1.spread.map pairD)) := by rw [List.getElem?_map, hr]; rfl
      rw [numbered_get this] at hd
      exact ⟨_, hr, (Option.some.inj hd).symm⟩
    have hrm := List.mem_of_getElem? hr
    have hi : i < rows.length := (List.getElem?_eq_some_iff.mp hr).1
    have hext := hR.ext r hrm
    have hh : (hsOf rows)[i]? = some ((hsOf rows).getD i []) := by
      have : i < (hsOf rows).length := by rw [hs_len]; exact hi
      rw [List.getD_eq_getElem?_getD, List.getElem?_eq_getElem this]
      rfl
    refine ⟨_, eg_tup (eg_cons eg_name (eg_cons eg_name eg_nil)), ?_⟩
    refine go_for' bb (ei_lst (w := (pureW K C N H0).wi [(q, .dic ((tokP rows i).map kvW))]) (δ := [some (.tup (rows.map growD)), some (.lst ((hsOf rows).map txt)), none, none, some (.lst (rows.map fun r : GRow => D.lst (r.1.spread.map pairD))), none, some (.lst (r.1.spread.map pairD)), some (.adr q), some (.int (i : Int)), a9, a10]) (ds := r.1.spread.map pairD) (ev_var (i := 6) rfl)) (fun j δ M => ∃ a9 a10 : Option D, M = [(q, .dic ((tokP rows i ++ (spreadOn ((hsOf rows).getD i [], r.1)).take j).map kvW))] ∧ δ = [some (.tup (rows.map growD)), some (.lst ((hsOf rows).map txt)), none, none, some (.lst (rows.map fun r : GRow => D.lst (r.1.spread.map pairD))), none, some (.lst (r.1.spread.map pairD)), some (.adr q), some (.int (i : Int)), a9, a10]) ⟨a9, a10, by rw [List.take_zero, List.append_nil], rfl⟩ ?_ ?_
    · rintro y j d δ' M' hd ea ⟨a9, a10, rfl, rfl⟩
      rw [List.getElem?_map] at hd
      cases es : r.1.spread[j]? with
      | none => rw [es] at hd; cases hd
      | some p =>
        rw [es] at hd
        have hd := Option.some.inj hd
        subst hd
        have eo : (spreadOn ((hsOf rows).getD i [], r.1))[j]? = some ((hsOf rows).getD i [] ++ p.1, p.2) := by
          unfold spreadOn
          rw [List.getElem?_map, es]
          rfl
        refine ⟨_, eg_tup (eg_cons eg_name (eg_cons eg_name eg_nil)), ?_⟩
        refine go_dput' (k := bs ((hsOf rows).getD i [] ++ p.1)) bb rfl (by simp [ads]) (ev_var (i := 10) rfl) (fun _ _ => ev_is (ev_op (ev_op (ev_var (i := 1) rfl) (ev_var (i := 8) rfl) (r2_xL (d := txt ((hsOf rows).getD i [])) (atI_nat (by rw [List.getElem?_map, hh]; rfl)))) (ev_var (i := 9) rfl) (r2_addSS ?_)) (by rw [bs_append])) ?_ fun d hd => ?_
        · rw [bs_len, bs_len]
          have := hs_short (List.mem_of_getElem? hh)
          have := spread_bits hext (List.mem_of_getElem? es)
          omega
        · rw [List.length_map, List.length_append, List.length_take]
          have := tokP_len hR.ext i
          have : (spreadOn ((hsOf rows).getD i [], r.1)).length = r.1.spread.length := by unfold spreadOn; rw [List.length_map]
          have := spread_len8 hext
          omega
        · subst hd
          refine go_kept rfl ⟨_, _, ?_, rfl⟩
          rw [putD_new (q := ((hsOf rows).getD i [] ++ p.1, p.2)) (tok_new hnd hr eo), take_succ' eo, List.append_assoc]
    · rintro δ' M' ea ⟨a9, a10, rfl, rfl⟩
      refine go_kept rfl ⟨_, _, _, _, ?_, rfl⟩
      have : (spreadOn ((hsOf rows).getD i [], r.1)).length = (r.1.spread.map pairD).length := by unfold spreadOn; rw [List.length_map, List.length_map]
      rw [← this, List.take_length, tokP_succ hr]
  · rintro δ' M' ea ⟨a6, a8, a9, a10, rfl, rfl⟩
    refine go_freezeD (i := 7) bb rfl hm hq ?_
    refine go_ret bb.ok (ev_var (i := 7) rfl) fun d v H pd e I r => ?_
    subst pd
    rw [numbered_len, List.length_map, tokP_all] at r
    exact hrt _ _ _ hp e r
end
end Lr
set_option Elab.async false
set_option maxRecDepth 100000
set_option maxHeartbeats 4000000
set_option linter.all false
set_option autoImplicit false
/-! check_letters. -/
namespace Lr
open PySem L2 PyProof.Rows
abbrev s_check_letters : Stmt := topS 49
abbrev ns_check_letters : List Str := ["tokens", "n", "letter"]
theorem sc_check_letters : FnScope ns_check_letters ["tokens", "n"] (defScope s_check_letters) := ⟨rfl, rfl, rfl, by decide +kernel, rfl, by decide +kernel, by decide +kernel⟩
section
variable {P : Program} {w : World} {K : PySem.W.Frag} {mg : Str → Option Value} {base : Heap} {C : Addr} {XA : ExAds}
  {q1 : Str} {a1 : Arguments} {b1 : List Stmt} {sc1 : Scope} {v1 : List Expr} {mp1 : Pos} {f1 : Addr}
def sCheckLetters : Spec := fun ds P PE => ∃ (ts : List Tok) (n : Nat), ds = [.lst (ts.map Tok.d), .int (n : Nat)] ∧ n ≤ 16 ∧ (lacking n ts = none → P .non) ∧ ∀ l, lacking n ts = some l → PE (.less (l : Nat))
theorem c_check_letters (F : Df K mg "check_letters" s_check_letters ["tokens", "n"]) (B : Blt mg) (t_Letterless : SupTxt P K mg "Letterless" "letter" q1 a1 b1 sc1 XA.less f1) (b_Letterless : SupBody "letter" a1 b1 sc1 v1 mp1) (m_Letterless : MsgOk "letter" v1 mp1) : Cal P w K mg base 3 "check_letters" (spX K C XA sCheckLetters) := by
  refine fn_X F sc_check_letters (fun ds Q E ⟨_, _, e, _⟩ => by rw [e]; rfl) fun f cdv A outer s H E hr => ⟨_, (pss_one (ps_for (passes_of rfl) rfl (pi_range1 rfl B.b_range (pa_cons (pv 1) pa_nil)) (pg_nm 2 sc_check_letters.nd) (pss_one (ps_if (pt_cmpR (op_notInD hr.u65) (pe_tup (pa_cons pe_str (pa_cons (pv 2) pa_nil))) (pv 0) (by with_unfolding_all rfl)) (pss_one (ps_raise rfl (takes_of rfl rfl rfl rfl) (pmk_sup t_Letterless b_Letterless m_Letterless hr (pv 2) rfl))) pss_nil)))), ?_⟩
  rintro N H0 ds Pd PE ⟨ts, n, rfl, hn, hp, hpe⟩ hE De hrt hnx
  have bb := pure_base (K := K) (C := C) (N := N) (H0 := H0)
  refine go_for' bb (ei_rng1 (n := (n : Int)) (ea_cons (ev_var (i := 1) rfl) ea_nil) (by omega) (by omega)) (fun i δ M => M = [] ∧ ∃ l : Option D, δ = [some (.lst (ts.map Tok.d)), some (.int (n : Nat)), l] ∧ ∀ j, j < i → ts.contains (.letter j) = true) ⟨rfl, none, rfl, fun j h => by omega⟩ ?_ ?_
  · rintro x i d δ' M' hd ea ⟨rfl, l, rfl, hj⟩
    obtain ⟨hi, rfl⟩ := upto_get hd
    refine ⟨_, eg_name, ?_⟩
    have hany : ((pds (ts.map Tok.d)).any fun y => PyData.eqv y (pd (Tok.letter i).d)) = ts.contains (.letter i) := by
      rw [pds_map, List.map_map, List.any_map, List.contains_eq_any_beq]
      congr 1
      funext t
      show PyData.eqv (pd t.d) (pd (Tok.letter i).d) = _
      rw [tok_eqv]
      by_cases e : t = .letter i
      · subst e; simp
      · rw [decide_eq_false e]
        exact (beq_eq_false_iff_ne.mpr (Ne.symm e)).symm
    refine go_when' bb.ok (et_testd (ev_is (ev_op (a := (Tok.letter i).d) (ev_is (ev_tup (ea_cons ev_str (ea_cons (ev_var (i := 2) rfl) ea_nil))) (by rw [Int.zero_add]; rfl)) (ev_var (i := 0) rfl) (r2_notInD (eqOk_sh (Tok.sh _)) (eqOk_sh (n := 2) (sh_map fun t _ => Tok.sh t)))) (by rw [hany]))) (fun h => ?_) (fun h => ?_)
    · have hc : ts.contains (.letter i) = false := by cases e : ts.contains (Tok.letter i) with | false => rfl | true => rw [e] at h; cases h
      have el : lacking n ts = some i := by
        unfold lacking
        rw [List.find?_eq_some_iff_getElem]
        refine ⟨by rw [hc]; rfl, i, by rw [List.length_range]; omega, by rw [List.getElem_range], fun j hji => ?_⟩
        rw [List.getElem_range, hj j hji]
        rfl
      refine go_raiseS bb (i := (i : Nat)) (ev_is (ev_var (i := 2) rfl) (by rw [Int.zero_add])) (by omega) fun H d e I hd => hE (.less (i : Nat)) _ _ _ (hpe i el) ((same_in I).trans (same_new hd)) ⟨rfl, d, rfl, upd_same⟩
    · have hc : ts.contains (.letter i) = true := by cases e : ts.contains (Tok.letter i) with | false => rw [e] at h; cases h | true => rfl
      refine go_kept rfl ⟨rfl, _, rfl, fun j hji => ?_⟩
      by_cases e : j = i
      · subst e; exact hc
      · exact hj j (by omega)
  rintro δ' M' ea ⟨rfl, l, rfl, hj⟩
  rw [upto_len] at hj
  have el : lacking n ts = none := by
    unfold lacking
    rw [List.find?_eq_none]
    intro j hjm
    have := hj j (by rw [Int.toNat_natCast]; exact List.mem_range.mp hjm)
    rw [this]
    decide
  exact go_next fun σ H q => hnx (hp el) σ H q.ex
end
end Lr
set_option Elab.async false
set_option maxRecDepth 100000
set_option maxHeartbeats 4000000
set_option linter.all false
set_option autoImplicit false
/-! Own objects that grow in number; setdefault; rests_of. -/
namespace Lr
open PySem L2 PyProof.Rows
section
variable {b : Wd} {H0 : Hp} {Γ : List (V × D)} {M M' : ML} {δ : List (Option D)} {te tj : TE} {tu tz : TS} {De : Ends} {P : D → Prop} {g : TG} {ds : List D} {wi : TI} {σ : L2.St} {H : Hp}
theorem mem_ads (h : ∀ m, m ∈ M' ↔ m ∈ M) {a : Addr} : a ∈ ads M' ↔ a ∈ ads M := by
  unfold ads
  rw [List.mem_map, List.mem_map]
  exact ⟨fun ⟨m, hm, e⟩ => ⟨m, (h m).mp hm, e⟩, fun ⟨m, hm, e⟩ => ⟨m, (h m).mpr hm, e⟩⟩
theorem Pt.perm (p : Pt b H0 Γ M δ σ H) (h : ∀ m, m ∈ M' ↔ m ∈ M) : Pt b H0 Γ M' δ σ H := by
  have c : Car (fun a => b.N a ∧ a ∉ ads M) (fun a => b.N a ∧ a ∉ ads M') H H := ⟨fun a o ho n => ⟨ho, n.1, fun hm => n.2 ((mem_ads h).mp hm)⟩, fun a o ho _ => ho⟩
  exact ⟨p.env.car c, ⟨p.inv.1, fun m hm => ⟨(p.inv.2 m ((h m).mp hm)).1, (p.inv.2 m ((h m).mp hm)).2.car c fun o ho => ho⟩⟩, p.ex, fun a ha => p.new a ((mem_ads h).mp ha), fun x hx => (p.gh x hx).car c⟩
theorem go_perm (M' : ML) (h : ∀ m, m ∈ M' ↔ m ∈ M) (k : Go b H0 Γ M' δ tu De) : Go b H0 Γ M δ tu De := fun σ H p => k σ H (p.perm h)
/-- as Kept, with own objects that may grow in number -/
def KeptW (b : Wd) (H0 : Hp) (Γ : List (V × D)) (Pv : List (Option D) → ML → Prop) : L2.St → Hp → Prop := fun σ H => ∃ δ M, Pv δ M ∧ Pt b H0 Γ M δ σ H
theorem pt_forW (bb : b.Base H0) (h : EvI (b.wi M) wi δ ds) (Pv : Nat → List (Option D) → ML → Prop) (h0 : Pv 0 δ M) {σ : L2.St} {H : Hp} (p : Pt b H0 Γ M δ σ H)
    (hs : ∀ x, ∀ i d δ' M', ds[i]? = some d → Pv i δ' M' → ∃ δ'', EvG (b.wi M') g d δ' δ'' ∧ Go b H0 (x :: Γ) M' δ'' tu { De with nx := KeptW b H0 (x :: Γ) (Pv (i + 1)), ct := KeptW b H0 (x :: Γ) (Pv (i + 1)), bk := De.nx })
    (hd : ∀ δ' M' σ' H', Pv ds.length δ' M' → Pt b H0 Γ M' δ' σ' H' → De.nx σ' H') : tFor wi g tu De σ H := by
  refine h (bb.ok.wi M) σ H p.env p.inv _ fun J H1 gv gd e1 I1 wk l1 => ?_
  have p1 := p.step bb.ok e1 I1
  refine ⟨fun i m σ' H' => m = ds.length - i ∧ i ≤ ds.length ∧ KeptW b H0 ((gv, gd) :: Γ) (Pv i) σ' H', ⟨_, rfl, Nat.zero_le _, δ, M, h0, p1.env, p1.inv, p1.ex, p1.new, fun x hx => ?_⟩, fun i m σ' H' hw => ?_⟩
  · rcases List.mem_cons.mp hx with rfl | hx
    · exact l1
    · exact p1.gh x hx
  obtain ⟨rfl, hi, δ', M', pv, p'⟩ := hw
  have r : Rp b.K b.C (b.wi M').N H' gv gd := p'.gh (gv, gd) List.mem_cons_self
  by_cases hlt : i < ds.length
  · refine .inr ⟨wk.go _ H' i r hlt, KeptW b H0 ((gv, gd) :: Γ) (Pv (i + 1)), fun σ2 H2 n => ⟨_, by omega, rfl, hlt, n⟩, fun x H2 y => ?_⟩
    obtain ⟨s, d, hd1, rx⟩ := wk.yld _ H' i x H2 r hlt y
    obtain ⟨δ'', eg, k⟩ := hs (gv, gd) i d δ' M' hd1 pv
    have p2 := p'.same bb s
    exact eg σ' H2 x p2.env rx _ fun σ3 e3 => k σ3 H2 (p2.slots e3)
  · have : i = ds.length := by omega
    subst this
    exact .inl ⟨wk.stop _ H' _ r rfl, hd δ' M' σ' H' pv ⟨p'.env, p'.inv, p'.ex, p'.new, fun x hx => p'.gh x (List.mem_cons_of_mem _ hx)⟩⟩
theorem go_forW (bb : b.Base H0) (h : EvI (b.wi M) wi δ ds) (Pv : Nat → List (Option D) → ML → Prop) (h0 : Pv 0 δ M)
    (hs : ∀ x, ∀ i d δ' M', ds[i]? = some d → Pv i δ' M' → ∃ δ'', EvG (b.wi M') g d δ' δ'' ∧ Go b H0 (x :: Γ) M' δ'' tu { De with nx := KeptW b H0 (x :: Γ) (Pv (i + 1)), ct := KeptW b H0 (x :: Γ) (Pv (i + 1)), bk := tz De })
    (hd : ∀ δ' M', Pv ds.length δ' M' → Go b H0 Γ M' δ' tz De) : Go b H0 Γ M δ (tSeq (tFor wi g tu) tz) De := fun σ H p =>
  pt_forW (De := { De with nx := tz De }) bb h Pv h0 p hs fun δ' M' σ' H' pv p' => hd δ' M' pv σ' H' p'
theorem go_forW' (bb : b.Base H0) (h : EvI (b.wi M) wi δ ds) (Pv : Nat → List (Option D) → ML → Prop) (h0 : Pv 0 δ M)
    (hs : ∀ x, ∀ i d δ' M', ds[i]? = some d → Pv i δ' M' → ∃ δ'', EvG (b.wi M') g d δ' δ'' ∧ Go b H0 (x :: Γ) M' δ'' tu { De with nx := KeptW b H0 (x :: Γ) (Pv (i + 1)), ct := KeptW b H0 (x :: Γ) (Pv (i + 1)), bk := De.nx })
    (hd : ∀ δ' M', Pv ds.length δ' M' → Go b H0 Γ M' δ' tNext De) : Go b H0 Γ M δ (tFor wi g tu) De := fun σ H p =>
  pt_forW bb h Pv h0 p hs fun δ' M' σ' H' pv p' => hd δ' M' pv σ' H' p'
theorem go_keptW {Pv : List (Option D) → ML → Prop} {rt : VK} {bk ct : L2.St → Hp → Prop} (pv : Pv δ M) : Go b H0 Γ M δ tNext ⟨KeptW b H0 Γ Pv, rt, bk, ct⟩ := fun σ H p => ⟨δ, M, pv, p⟩
/-- x = d.setdefault(k, []), d one's own -/
theorem go_setd {i j : Nat} {p : Addr} {kvs : List (Str × D)} {R : ML} {k : Str} (bb : b.Base H0) (hi : δ[i]? = some (some (.adr p))) (np : p ∉ ads R) (hk : Ev (b.wi ((p, .dic kvs) :: R)) tj δ (.str k)) (hl : kvs.length < 100000)
    (k1 : ∀ d, valD kvs k = some d → Go b H0 Γ ((p, .dic kvs) :: R) (δ.set j (some d)) tz De)
    (k2 : ∀ q, valD kvs k = none → b.N q → q ≠ p → q ∉ ads R → Go b H0 Γ ((p, .dic (putD kvs k (.adr q))) :: (q, .lst []) :: R) (δ.set j (some (.adr q))) tz De) :
    Go b H0 Γ ((p, .dic kvs) :: R) δ (tSeq (tAsg (tDSetd (tVar i) tj (tLst tNil)) (gName j)) tz) De := fun σ H q0 => by
  obtain ⟨v, h1, h2⟩ := q0.env.get hi
  cases h2
  obtain ⟨vs0, hv0, _⟩ := q0.dic
  refine ⟨_, h1, p, rfl, ?_, ?_⟩
  · exact .inl ⟨vs0, .inl hv0⟩
  refine hk (bb.ok.wi _) σ H q0.env q0.inv _ fun dj x H2 pj e2 I2 rj => ?_
  subst pj
  cases rj
  have q2 := q0.step bb.ok e2 I2
  refine ⟨Nat.zero_le _, fun n hn => ?_⟩
  have sm := same_new (o := .lst []) hn
  have q3 := q2.same bb sm
  obtain ⟨vs, hv, rv⟩ := q3.dic
  refine ⟨vs, Sum.inr k, hv, rfl, by rw [rv.len, sizeLine_eq]; exact Nat.lt_of_lt_of_le hl (by decide), fun v hvv => ?_, fun hvv => ?_⟩
  · cases e : valD kvs k with
    | none => rw [rv.val.2 e] at hvv; cases hvv
    | some d =>
      obtain ⟨v', h3, h4⟩ := rv.val.1 d e
      rw [h3] at hvv
      cases hvv
      exact k1 d e _ _ ⟨q3.env.set h4 j, q3.inv, q3.ex, q3.new, q3.gh⟩
  · have e : valD kvs k = none := by
      cases e : valD kvs k with
      | none => rfl
      | some d =>
        obtain ⟨v', h3, h4⟩ := rv.val.1 d e
        rw [h3] at hvv
        cases hvv
    have hN : b.N n := bb.ok.fr _ _ I2.1 hn
    have hM := ((bb.ok.wi ((p, .dic kvs) :: R)).fr _ _ I2 hn).2
    have hnp : n ≠ p := fun z => hM (by rw [z]; exact List.mem_cons_self)
    have hnR : n ∉ ads R := fun z => hM (List.mem_cons_of_mem _ z)
    have h0n : H0 n = none := bb.h0 _ _ I2.1 hn
    have c : Car (fun a => b.N a ∧ a ∉ ads ((p, MO.dic kvs) :: R)) (fun a => b.N a ∧ a ∉ ads ((n, MO.lst []) :: (p, MO.dic kvs) :: R)) H2 (upd H2 n (.lst [])) := car_new bb.ok.zn hn (Ex.same sm)
    have q4 : Pt b H0 Γ ((n, .lst []) :: (p, .dic kvs) :: R) (δ.set j (some (.adr n))) (σ.set j (some (.ref n))) (upd H2 n (.lst [])) := by
      refine ⟨(q2.env.car c).set (.adr n) j, ⟨q3.inv.1, fun m hm => ?_⟩, q3.ex, fun a ha => ?_, fun x hx => (q2.gh x hx).car c⟩
      · rcases List.mem_cons.mp hm with rfl | hm
        · exact ⟨bb.zok _ _ I2.1 hn, [], upd_same, .nil⟩
        · obtain ⟨z1, z2⟩ := I2.2 m hm
          exact ⟨z1, z2.car c fun o ho => sm _ o ho⟩
      · rcases List.mem_cons.mp ha with rfl | ha
        · exact h0n
        · exact q2.new a ha
    have q5 : Pt b H0 Γ ((p, .dic kvs) :: (n, .lst []) :: R) (δ.set j (some (.adr n))) (σ.set j (some (.ref n))) (upd H2 n (.lst [])) := q4.perm fun m => by
      simp only [List.mem_cons]
      exact ⟨fun h => by rcases h with h | h | h <;> simp [h], fun h => by rcases h with h | h | h <;> simp [h]⟩
    have np5 : p ∉ ads ((n, MO.lst []) :: R) := fun hm => by
      rcases List.mem_cons.mp hm with z | z
      · exact hnp z.symm
      · exact np z
    obtain ⟨vs5, hv5, rv5⟩ := q5.dic
    rw [hv] at hv5
    cases hv5
    have c5 : Car (fun a => b.N a ∧ a ∉ ads ((p, MO.dic kvs) :: (n, MO.lst []) :: R)) (fun a => b.N a ∧ a ∉ ads ((p, MO.dic (putD kvs k (.adr n))) :: (n, MO.lst []) :: R)) (upd H2 n (.lst [])) (upd (upd H2 n (.lst [])) p (.dK (putK vs (Sum.inr k) (.ref n)))) := car_mut hv rfl
    exact k2 n e hN hnp hnR _ _ (pt_mut bb q5 np5 ⟨_, upd_same, (rv5.put (.adr n)).car c5⟩)
end
section
variable {b : Wd} {H0 : Hp} {M : ML} {δ : List (Option D)} {tk tv : TE} {g : TG} {ds : List D} {wi : TI} {vs : List Nat}
/-- {k: v for target in iter} -/
theorem ev_dc (bb : b.Base H0) (hi : EvI (b.wi M) wi δ ds) (hn : ds.length ≤ 100000) (Pv : Nat → List (Str × D) → Prop) (h0 : Pv 0 [])
    (hs : ∀ i d, ds[i]? = some d → ∀ p acc, p ∉ ads M → acc.length ≤ i → Pv i acc → ∃ δ' k Pe, EvGw (b.wi ((p, .dic acc) :: M)) g d (wipeD δ vs) δ' vs ∧ Ev (b.wi ((p, .dic acc) :: M)) tk δ' (.str k) ∧
      EvP (b.wi ((p, .dic acc) :: M)) tv δ' Pe ∧ ∀ e, Pe e → Pv (i + 1) (putD acc k e) ∧ (putD acc k e).length ≤ i + 1) :
    EvP (b.wi M) (tDc wi g tYes tk tv vs) δ (fun d => ∃ kvs, d = .dic kvs ∧ Pv ds.length kvs) := fun ok σ H e I Q q => by
  refine hi ok σ H e I _ fun J H1 gv gd e1 I1 wk l1 => ?_
  have env1 := e.car (Ex.car ok e1)
  intro p np
  have hp0 : H0 p = none := bb.h0 _ _ I1.1 np
  have zp : ¬ b.Z p := bb.zok _ _ I1.1 np
  have npM : p ∉ ads M := (ok.fr _ _ I1 np).2
  let St' : List (Str × D) → Hp → Prop := fun acc H' => Ex b.Z H1 H' ∧ (b.wi ((p, .dic acc) :: M)).I H' ∧ (b.wi ((p, .dic acc) :: M)).Env H' σ δ ∧ (b.wi ((p, .dic acc) :: M)).Rp H' gv gd
  have start : St' [] (upd H1 p (.dK [])) := by
    have c : Car (fun a => b.N a ∧ a ∉ ads M) (fun a => b.N a ∧ a ∉ ads ((p, MO.dic []) :: M)) H1 (upd H1 p (.dK [])) := car_new bb.ok.zn np (Ex.same (Z := b.Z) (same_new np))
    refine ⟨Ex.same (same_new np), ⟨bb.ok.ext _ _ I1.1 (same_new np), fun m hm => ?_⟩, env1.car c, l1.car c⟩
    rcases List.mem_cons.mp hm with rfl | hm
    · exact ⟨zp, [], upd_same, .nil⟩
    · obtain ⟨z1, z2⟩ := I1.2 m hm
      obtain ⟨o, ho, _⟩ := z2.there
      exact ⟨z1, z2.car c fun o ho => by rw [upd_ne (ne_of_none ho np)]; exact ho⟩
  refine ⟨fun i m H' => m = ds.length - i ∧ i ≤ ds.length ∧ ∃ acc, acc.length ≤ i ∧ Pv i acc ∧ St' acc H', ⟨_, rfl, Nat.zero_le _, [], Nat.le_refl _, h0, start⟩, fun i m H' hw => ?_⟩
  obtain ⟨rfl, hil, acc, hacc, pv, s1, s2, s3, s4⟩ := hw
  have okp := bb.ok.wi ((p, .dic acc) :: M)
  by_cases hlt : i < ds.length
  · refine .inr ⟨wk.go _ H' i s4 hlt, fun H2 => ∃ acc, acc.length ≤ i + 1 ∧ Pv (i + 1) acc ∧ St' acc H2, fun H2 ⟨acc, z1, z2, z3⟩ => ⟨_, by omega, rfl, hlt, acc, z1, z2, z3⟩, fun x H2 y => ?_⟩
    obtain ⟨s, d, hd, rx⟩ := wk.yld _ H' i x H2 s4 hlt y
    obtain ⟨δ', k, Pe, hg, hk, he, hv⟩ := hs i d hd p acc npM hacc pv
    have c2 := Same.car (N := (b.wi ((p, .dic acc) :: M)).N) s
    have I2 := okp.ext _ _ s2 s
    refine hg (L2.wipe σ vs) H2 x ((s3.car c2).wipe vs) rx _ fun σ2 e2 w2 => ⟨w2.trans wipe_wipe, ?_⟩
    refine et_yes okp σ2 H2 e2 I2 _ fun kk H9 pk e9 I9 => ?_
    subst pk
    refine iteT ?_
    have e2 := e2.car (Ex.car okp e9)
    refine hk okp σ2 H9 e2 I9 _ fun dk yk H3 pk e3 I3 rk => ?_
    subst pk
    cases rk
    have e39 := e9.trans e3
    have c3 := (Ex.car okp e39)
    refine he okp σ2 H3 (e2.car (Ex.car okp e3)) I3 _ fun dd yv H4 pe e4 I4 ry => ?_
    have c4 := Ex.car okp e4
    obtain ⟨zz, us, hu, ru⟩ := I4.2 _ List.mem_cons_self
    obtain ⟨hv1, hv2⟩ := hv dd pe
    refine ⟨us, Sum.inr k, rfl, hu, by rw [ru.len, sizeLine_eq]; omega, putD acc k dd, hv2, hv1, ?_⟩
    have cm : Car (fun a => b.N a ∧ a ∉ ads ((p, MO.dic acc) :: M)) (fun a => b.N a ∧ a ∉ ads ((p, MO.dic (putD acc k dd)) :: M)) H4 (upd H4 p (.dK (putK us (Sum.inr k) yv))) := car_mut hu rfl
    refine ⟨fun a o ho z => ?_, ⟨bb.mu _ _ _ I4.1 hp0 zp, fun m hm => ?_⟩, (((s3.car c2).car c3).car c4).car cm, (((s4.car c2).car c3).car c4).car cm⟩
    · rw [upd_ne (ne_of_none ho np)]
      exact ((s1.trans (Ex.same s)).trans (e39.trans e4)) _ _ ho z
    · rcases List.mem_cons.mp hm with rfl | hm
      · exact ⟨zp, _, upd_same, (ru.put ry).car cm⟩
      · obtain ⟨z1, z2⟩ := I4.2 m (List.mem_cons_of_mem _ hm)
        refine ⟨z1, z2.car cm fun o ho => ?_⟩
        have : m.1 ≠ p := fun z => npM (by rw [← z]; exact List.mem_map_of_mem hm)
        rw [upd_ne this]; exact ho
  · have : i = ds.length := by omega
    subst this
    refine .inl ⟨wk.stop _ H' _ s4 rfl, ?_⟩
    obtain ⟨zz, us, hu, ru⟩ := s2.2 _ List.mem_cons_self
    have c : Car (fun a => b.N a ∧ a ∉ ads ((p, MO.dic acc) :: M)) (fun a => b.N a ∧ a ∉ ads M) H' H' := ⟨fun a o ho n => ⟨ho, n.1, fun z => n.2 (List.mem_cons_of_mem _ z)⟩, fun a o ho _ => ho⟩
    refine q (.dic acc) (.ref p) H' ⟨acc, rfl, pv⟩ (e1.trans s1) ⟨s2.1, fun m hm => ?_⟩ (.dic ⟨bb.ok.fr _ _ I1.1 np, npM⟩ hu (ru.car c))
    obtain ⟨z1, z2⟩ := s2.2 m (List.mem_cons_of_mem _ hm)
    exact ⟨z1, z2.car c fun o ho => ho⟩
end
abbrev s_rests_of : Stmt := topS 50
abbrev ns_rests_of : List Str := ["words", "found", "word", "cut", "row", "begun"]
theorem sc_rests_of : FnScope ns_rests_of ["words"] (defScope s_rests_of) := ⟨rfl, rfl, rfl, by decide +kernel, rfl, by decide +kernel, by decide +kernel⟩
structure RI' (q : Addr) (Q : List Bool → Prop) (n : Nat) (kvs : List (Str × D)) (R : ML) : Prop where
  nd : (q :: ads R).Nodup
  B : ∃ B : List (List Bool), kvs.map (·.1) = B.map bs ∧ B.Nodup ∧ (∀ p, p ∈ B ↔ Q p) ∧ B.length ≤ n
  val : ∀ kv ∈ kvs, ∃ a ds, kv.2 = .adr a ∧ (a, MO.lst ds) ∈ R
  lst : ∀ m ∈ R, ∃ ds, m.2 = MO.lst ds ∧ ds.length ≤ n
theorem valD_mem {kvs : List (Str × D)} {k : Str} {d : D} (h : valD kvs k = some d) : (k, d) ∈ kvs := by
  unfold valD at h
  cases e : kvs.find? fun p => decide (p.1 = k) with
  | none => rw [e] at h; cases h
  | some p =>
    rw [e] at h
    have h := Option.some.inj h
    have h1 := List.mem_of_find?_eq_some e
    have h2 : p.1 = k := of_decide_eq_true (List.find?_some (p := fun p : Str × D => decide (p.1 = k)) e)
    rw [← h, ← h2]
    exact h1
theorem valD_no {kvs : List (Str × D)} {k : Str} (h : valD kvs k = none) : k ∉ kvs.map (·.1) := by
  unfold valD at h
  rw [Option.map_eq_none_iff, List.find?_eq_none] at h
  intro hm
  obtain ⟨p, hp, e⟩ := List.mem_map.mp hm
  exact h p hp (decide_eq_true e)
theorem putD_app {kvs : List (Str × D)} {k : Str} {d : D} (h : k ∉ kvs.map (·.1)) : putD kvs k d = kvs ++ [(k, d)] := by
  have : (kvs.any fun p => decide (p.1 = k)) = false := by
    rw [List.any_eq_false]
    intro p hp e
    exact h (List.mem_map.mpr ⟨p, hp, of_decide_eq_true e⟩)
  unfold putD
  rw [this]
  rfl
theorem valD_yes {kvs : List (Str × D)} {k : Str} (h : k ∈ kvs.map (·.1)) : ∃ d, valD kvs k = some d := by
  cases e : valD kvs k with
  | some d => exact ⟨d, rfl⟩
  | none => exact absurd h (valD_no e)
theorem RI'.app {q : Addr} {Q : List Bool → Prop} {n : Nat} {kvs : List (Str × D)} {R1 R2 : ML} {a : Addr} {ds : List D} {x : D} (h : RI' q Q n kvs (R1 ++ (a, .lst ds) :: R2)) : RI' q Q (n + 1) kvs ((a, .lst (ds ++ [x])) :: (R1 ++ R2)) where
  nd := by
    have := h.nd
    have p : (ads (R1 ++ (a, MO.lst ds) :: R2)).Perm (a :: ads (R1 ++ R2)) := by
      unfold ads
      rw [List.map_append, List.map_append]
      exact List.perm_middle
    exact ((List.Perm.cons q p).nodup_iff).mp this
  B := by
    obtain ⟨B, h1, h2, h3, h4⟩ := h.B
    exact ⟨B, h1, h2, h3, by omega⟩
  val := fun kv hkv => by
    obtain ⟨b, ds', h1, h2⟩ := h.val kv hkv
    rcases List.mem_append.mp h2 with h2 | h2
    · exact ⟨b, ds', h1, List.mem_cons_of_mem _ (List.mem_append_left _ h2)⟩
    · rcases List.mem_cons.mp h2 with h2 | h2
      · cases h2
        exact ⟨a, _, h1, List.mem_cons_self⟩
      · exact ⟨b, ds', h1, List.mem_cons_of_mem _ (List.mem_append_right _ h2)⟩
  lst := fun m hm => by
    rcases List.mem_cons.mp hm with rfl | hm
    · obtain ⟨ds', e, l⟩ := h.lst (a, .lst ds) (List.mem_append_right _ List.mem_cons_self)
      cases e
      exact ⟨_, rfl, by rw [List.length_append]; exact Nat.succ_le_succ l⟩
    · have : m ∈ R1 ++ (a, MO.lst ds) :: R2 := by
        rcases List.mem_append.mp hm with hm | hm
        · exact List.mem_append_left _ hm
        · exact List.mem_append_right _ (List.mem_cons_of_mem _ hm)
      obtain ⟨ds', e, l⟩ := h.lst m this
      exact ⟨ds', e, by omega⟩
theorem RI'.old {q : Addr} {Q : List Bool → Prop} {n : Nat} {kvs : List (Str × D)} {R : ML} {v : List Bool} {d : D} (h : RI' q Q n kvs R) (hd : valD kvs (bs v) = some d) : Q v ∧ ∃ a ds, d = .adr a ∧ (a, MO.lst ds) ∈ R := by
  have hm := valD_mem hd
  obtain ⟨a, ds, h1, h2⟩ := h.val _ hm
  obtain ⟨B, e, _, hB, _⟩ := h.B
  have : bs v ∈ kvs.map (·.1) := List.mem_map.mpr ⟨_, hm, rfl⟩
  rw [e] at this
  obtain ⟨p, hp, ep⟩ := List.mem_map.mp this
  exact ⟨(hB v).mp (bs_inj ep ▸ hp), a, ds, h1, h2⟩
theorem RI'.new {q : Addr} {Q : List Bool → Prop} {n : Nat} {kvs : List (Str × D)} {R : ML} {v : List Bool} {a : Addr} (h : RI' q Q n kvs R) (hd : valD kvs (bs v) = none) (ha : a ≠ q) (hR : a ∉ ads R) : RI' q (fun p => Q p ∨ p = v) (n + 1) (putD kvs (bs v) (.adr a)) ((a, .lst []) :: R) where
  nd := by
    have h1 := List.nodup_cons.mp h.nd
    refine List.nodup_cons.mpr ⟨fun hm => ?_, List.nodup_cons.mpr ⟨hR, h1.2⟩⟩
    rcases List.mem_cons.mp hm with e | hm
    · exact ha e.symm
    · exact h1.1 hm
  B := by
    obtain ⟨B, h1, h2, h3, h4⟩ := h.B
    have hv := valD_no hd
    have hvB : v ∉ B := fun hm => hv (by rw [h1]; exact List.mem_map_of_mem hm)
    refine ⟨B ++ [v], by rw [putD_app hv, List.map_append, List.map_append, h1]; rfl, ?_, fun p => ?_, by rw [List.length_append]; exact Nat.succ_le_succ h4⟩
    · rw [List.nodup_append]
      exact ⟨h2, by simp, fun x hx y hy => by rw [List.mem_singleton.mp hy]; exact fun e => hvB (e ▸ hx)⟩
    · rw [List.mem_append, List.mem_singleton, h3]
  val := fun kv hkv => by
    rw [putD_app (valD_no hd)] at hkv
    rcases List.mem_append.mp hkv with hkv | hkv
    · obtain ⟨b, ds, h1, h2⟩ := h.val kv hkv
      exact ⟨b, ds, h1, List.mem_cons_of_mem _ h2⟩
    · rw [List.mem_singleton.mp hkv]
      exact ⟨a, [], rfl, List.mem_cons_self⟩
  lst := fun m hm => by
    rcases List.mem_cons.mp hm with rfl | hm
    · exact ⟨[], rfl, Nat.zero_le _⟩
    · obtain ⟨ds, e, l⟩ := h.lst m hm
      exact ⟨ds, e, by omega⟩
theorem RI'.more {q : Addr} {Q Q' : List Bool → Prop} {n m : Nat} {kvs : List (Str × D)} {R : ML} (h : RI' q Q n kvs R) (hQ : ∀ p, Q p ↔ Q' p) (hn : n ≤ m) : RI' q Q' m kvs R where
  nd := h.nd
  B := by
    obtain ⟨B, h1, h2, h3, h4⟩ := h.B
    exact ⟨B, h1, h2, fun p => (h3 p).trans (hQ p), by omega⟩
  val := h.val
  lst := fun m hm => by
    obtain ⟨ds, e, l⟩ := h.lst m hm
    exact ⟨ds, e, by omega⟩
theorem RI'.len {q : Addr} {Q : List Bool → Prop} {n : Nat} {kvs : List (Str × D)} {R : ML} (h : RI' q Q n kvs R) : kvs.length ≤ n := by
  obtain ⟨B, h1, h2, h3, h4⟩ := h.B
  have := congrArg List.length h1
  rw [List.length_map, List.length_map] at this
  omega
theorem begun_cut {w p : List Bool} : (∃ b r, w = p ++ b :: r) ↔ ∃ c, c < w.length ∧ p = w.take c := by
  constructor
  · rintro ⟨b, r, rfl⟩
    exact ⟨p.length, by simp, by simp⟩
  · rintro ⟨c, hc, rfl⟩
    refine ⟨w[c], w.drop (c + 1), ?_⟩
    rw [← List.drop_eq_getElem_cons hc, List.take_append_drop]
theorem begun_succ {ws : List (List Bool)} {i : Nat} {w p : List Bool} (h : ws[i]? = some w) : Begun (ws.take (i + 1)) p ↔ Begun (ws.take i) p ∨ ∃ c, c < w.length ∧ p = w.take c := by
  rw [take_succ' h, ← begun_cut]
  constructor
  · rintro ⟨v, hv, hh⟩
    rcases List.mem_append.mp hv with hv | hv
    · exact .inl ⟨v, hv, hh⟩
    · rw [List.mem_singleton.mp hv] at hh
      exact .inr hh
  · rintro (⟨v, hv, hh⟩ | hh)
    · exact ⟨v, List.mem_append_left _ hv, hh⟩
    · exact ⟨w, List.mem_append_right _ (List.mem_singleton.mpr rfl), hh⟩
theorem all_bs : ∀ {l : List Str}, (∀ x ∈ l, ∃ y, x = bs y) → ∃ B : List (List Bool), l = B.map bs
  | [], _ => ⟨[], rfl⟩
  | x :: l, h => by
    obtain ⟨y, rfl⟩ := h x List.mem_cons_self
    obtain ⟨B, rfl⟩ := all_bs (l := l) fun z hz => h z (List.mem_cons_of_mem _ hz)
    exact ⟨y :: B, rfl⟩
theorem nodup_bs {B : List (List Bool)} (h : B.Nodup) : (B.map bs).Nodup := List.Pairwise.map bs (fun a b h e => h (bs_inj e)) h
theorem nodup_of_bs {B : List (List Bool)} (h : (B.map bs).Nodup) : B.Nodup := by
  unfold List.Nodup at h ⊢
  rw [List.pairwise_map] at h
  exact h.imp fun h e => h (by rw [e])
theorem mem_bs {B : List (List Bool)} {p : List Bool} : bs p ∈ B.map bs ↔ p ∈ B := ⟨fun h => by
  obtain ⟨x, hx, e⟩ := List.mem_map.mp h
  exact bs_inj e ▸ hx, List.mem_map_of_mem⟩
section
variable {P : Program} {w : World} {K : PySem.W.Frag} {mg : Str → Option Value} {base : Heap} {C : Addr} {XA : ExAds}
/-- a dict of begun words; what stands under them is left open -/
def RestsD (kvs : List (Str × D)) (ws : List (List Bool)) : Prop := ∃ B : List (List Bool), kvs.map (·.1) = B.map bs ∧ B.Nodup ∧ (∀ p, p ∈ B ↔ Begun ws p) ∧ ∀ kv ∈ kvs, ∃ a, kv.2 = .adr a
def sRestsOf : Spec := fun ds P _ => ∃ ws : List (List Bool), ds = [.lst (ws.map txt)] ∧ ws.length ≤ 200 ∧ (∀ w ∈ ws, w.length ≤ 16) ∧ ∀ kvs, RestsD kvs ws → P (.dic kvs)
theorem c_rests_of (F : Df K mg "rests_of" s_rests_of ["words"]) (B : Blt mg) : Cal P w K mg base 1 "rests_of" (spX K C XA sRestsOf) := by
  refine fn_X F sc_rests_of (fun ds Q E ⟨_, e, _⟩ => by rw [e]; rfl) fun f cdv A outer s H E hr => ⟨_, (pss_cons (ps_st 1 sc_rests_of.nd pe_dnewK)
        (pss_cons (ps_for (passes_of rfl) rfl (pi_list (pv 0)) (pg_nm 2 sc_rests_of.nd) (pss_one (ps_for (passes_of rfl) rfl (pi_range1 rfl B.b_range (pa_cons (pe_callB (xLen K) rfl B.b_len bt_len (pa_cons (pv 2) pa_nil)) pa_nil)) (pg_nm 3 sc_rests_of.nd) (pss_cons (ps_st 4 sc_rests_of.nd (pe_dsetd (pv 1) (pe_slice (xSl K) (pv 2) po_none (po_some (pv 3))) (pe_lst pa_nil) ⟨rfl, rfl, rfl, rfl⟩))
        (pss_one (ps_expr (pe_bm PySem.F.plainAttrs_list PySem.F.slot_list_append PySem.F.type_list_append mt_append (pv 4) (pa_cons (pe_slice (xSl K) (pv 2) (po_some (pv 3)) po_none) pa_nil))))))))
        (pss_one (ps_ret (pe_dc (own := [("begun", 5)]) (g := gName 5) (tt := tYes) rfl sc_rests_of.nd (pi_list (pe_callB (xSorted K hr.units) rfl B.b_sorted bt_sorted (pa_cons (pv 1) pa_nil))) (blkOk_by (N := ns_rests_of) (sc := defScope s_rests_of) (by decide +kernel)) (fun _ _ _ _ _ => (pg_nm 5 sc_rests_of.nd)) (fun _ _ _ _ _ => pts_nil) (fun _ _ _ _ _ => (pv 5)) (fun _ _ _ _ _ => (pe_dget hr.u1 (pv 1) (pv 5) (fun _ _ => rfl)))))))), ?_⟩
  rintro N H0 ds Pd PE ⟨ws, rfl, hl, hlen, hp⟩ hE De hrt hnx
  have bb := pure_base (K := K) (C := C) (N := N) (H0 := H0)
  refine go_newD bb fun q hq hm => ?_
  have wAt : ∀ {i : Nat} {d : D}, (ws.map txt)[i]? = some d → ∃ v, ws[i]? = some v ∧ d = txt v := fun {i d} hd => by
    rw [List.getElem?_map] at hd
    cases e : ws[i]? with
    | none => rw [e] at hd; cases hd
    | some v => rw [e] at hd; exact ⟨v, rfl, (Option.some.inj hd).symm⟩
  refine go_forW bb (ei_lst (w := (pureW K C N H0).wi [(q, .dic [])]) (δ := [some (.lst (ws.map txt)), some (.adr q), none, none, none, none]) (ds := ws.map txt) (ev_var (i := 0) rfl))
    (fun i δ M => ∃ kvs R a2 a3 a4, M = (q, MO.dic kvs) :: R ∧ RI' q (fun p => Begun (ws.take i) p) (32 * i) kvs R ∧ δ = [some (.lst (ws.map txt)), some (.adr q), a2, a3, a4, none]) ⟨[], [], none, none, none, rfl, ⟨by simp [ads], ⟨[], rfl, by simp, fun p => by simp [Begun], by simp⟩, by simp, by simp⟩, rfl⟩ ?_ ?_
  · rintro x i d δ' M' hd ⟨kvs, R, a2, a3, a4, rfl, hI, rfl⟩
    obtain ⟨v, hv, rfl⟩ := wAt hd
    have hvl := hlen v (List.mem_of_getElem? hv)
    have hil := (List.getElem?_eq_some_iff.mp hv).1
    refine ⟨_, eg_name, ?_⟩
    refine go_forW' bb (ei_rng1 (w := (pureW K C N H0).wi ((q, .dic kvs) :: R)) (δ := [some (.lst (ws.map txt)), some (.adr q), some (txt v), a3, a4, none]) (n := (v.length : Int)) (ea_cons (ev_cb (ea_cons (ev_var (i := 2) rfl) ea_nil) (rc_len (by show (if (bs v).length ≤ 100000 then some (bs v).length else none) = _; rw [bs_len, if_pos (by omega)]))) ea_nil) (by omega) (by omega))
      (fun j δ M => ∃ kvs R a3 a4, M = (q, MO.dic kvs) :: R ∧ RI' q (fun p => Begun (ws.take i) p ∨ ∃ c, c < j ∧ p = v.take c) (32 * i + 2 * j) kvs R ∧ δ = [some (.lst (ws.map txt)), some (.adr q), some (txt v), a3, a4, none]) ⟨kvs, R, a3, a4, rfl, hI.more (fun p => ⟨.inl, fun h => h.elim id fun ⟨c, hc, _⟩ => by omega⟩) (by omega), rfl⟩ ?_ ?_
    · rintro y j d δ' M' hd ⟨kvs, R, a3, a4, rfl, hI, rfl⟩
      obtain ⟨hj, rfl⟩ := upto_get hd
      have hj : j < v.length := by omega
      refine ⟨_, eg_name, ?_⟩
      have app : ∀ {kvs : List (Str × D)} {R : ML} {a : Addr} {ds : List D}, RI' q (fun p => Begun (ws.take i) p ∨ ∃ c, c < j + 1 ∧ p = v.take c) (32 * i + 2 * j + 1) kvs R → (a, MO.lst ds) ∈ R →
          ∀ {Γ : List (V × D)} {De : Ends}, De.nx = KeptW (pureW K C N H0) H0 Γ ((fun j δ M => ∃ kvs R a3 a4, M = (q, MO.dic kvs) :: R ∧ RI' q (fun p => Begun (ws.take i) p ∨ ∃ c, c < j ∧ p = v.take c) (32 * i + 2 * j) kvs R ∧ δ = [some (.lst (ws.map txt)), some (.adr q), some (txt v), a3, a4, none]) (j + 1)) →
          Go (pureW K C N H0) H0 Γ ((q, .dic kvs) :: R) [some (.lst (ws.map txt)), some (.adr q), some (txt v), some (.int ((0 : Int) + (j : Nat))), some (.adr a), none] (tDrop (tBM K "list" rAppend (tVar 4) (tCons (tSl (rSlU K) (tVar 2) (tPart (tVar 3)) tNoPart) tNil))) De := by
        intro kvs R a ds hI ha Γ De hDe
        obtain ⟨R1, R2, rfl⟩ := List.append_of_mem ha
        obtain ⟨ds', e, hdl⟩ := hI.lst _ ha
        cases e
        have hnd := hI.app (x := .non).nd
        have ha1 : a ∉ ads ((q, MO.dic kvs) :: (R1 ++ R2)) := fun hm => by
          have h1 := List.nodup_cons.mp hnd
          have h2 := List.nodup_cons.mp h1.2
          rcases List.mem_cons.mp hm with e | hm
          · exact h1.1 (by rw [← show a = q from e]; exact List.mem_cons_self)
          · exact h2.1 hm
        refine go_perm ((a, .lst ds) :: (q, .dic kvs) :: (R1 ++ R2)) (fun m => by simp only [List.mem_cons, List.mem_append]; exact ⟨fun h => by rcases h with h | h | h | h <;> simp [h], fun h => by rcases h with h | h | h | h <;> simp [h]⟩) ?_
        refine go_app' bb (i := 4) rfl ha1 (P := fun _ => True) (EvP.imp (ev_sl (ev_var (i := 2) rfl) (eo_some (ev_var (i := 3) rfl)) eo_none (rs_S (by rw [bs_len]; omega))) fun _ _ => trivial) (by omega) fun x _ => ?_
        refine go_perm ((q, .dic kvs) :: (a, .lst (ds ++ [x])) :: (R1 ++ R2)) (fun m => by simp only [List.mem_cons, List.mem_append]; exact ⟨fun h => by rcases h with h | h | h | h <;> simp [h], fun h => by rcases h with h | h | h | h <;> simp [h]⟩) ?_
        refine go_next fun σ H p => ?_
        rw [hDe]
        exact ⟨_, _, ⟨kvs, _, _, _, rfl, hI.app.more (fun p => Iff.rfl) (by omega), rfl⟩, p⟩
      refine go_setd bb (i := 1) (j := 4) (k := bs (v.take j)) rfl (fun hm => (List.nodup_cons.mp hI.nd).1 hm) (ev_is (ev_sl (ev_var (i := 2) rfl) eo_none (eo_some (ev_var (i := 3) rfl)) (rs_S (by rw [bs_len]; omega))) ?_) (by have := hI.len; omega) (fun d hd => ?_) fun n hn hN h1 h2 => ?_
      · rw [Int.zero_add]
        exact congrArg D.str (cutS_bs v j)
      · obtain ⟨hQ, a, ds, rfl, hm⟩ := hI.old hd
        refine app (hI.more (fun p => ?_) (by omega)) hm rfl
        constructor
        · rintro (h | ⟨c, hc, rfl⟩)
          · exact .inl h
          · exact .inr ⟨c, by omega, rfl⟩
        · rintro (h | ⟨c, hc, rfl⟩)
          · exact .inl h
          · by_cases e : c = j
            · subst e; exact hQ
            · exact .inr ⟨c, by omega, rfl⟩
      · refine app ((hI.new hn h1 h2).more (fun p => ?_) (by omega)) List.mem_cons_self rfl
        constructor
        · rintro ((h | ⟨c, hc, rfl⟩) | rfl)
          · exact .inl h
          · exact .inr ⟨c, by omega, rfl⟩
          · exact .inr ⟨j, by omega, rfl⟩
        · rintro (h | ⟨c, hc, rfl⟩)
          · exact .inl (.inl h)
          · by_cases e : c = j
            · subst e; exact .inr rfl
            · exact .inl (.inr ⟨c, by omega, rfl⟩)
    · rintro δ' M' ⟨kvs, R, a3, a4, rfl, hI, rfl⟩
      rw [upto_len, Int.toNat_natCast] at hI
      exact go_keptW ⟨kvs, R, _, _, _, rfl, hI.more (fun p => (begun_succ hv).symm) (by omega), rfl⟩
  · rintro δ' M' ⟨kvs, R, a2, a3, a4, rfl, hI, rfl⟩
    rw [List.length_map, List.take_length] at hI
    have hkl := hI.len
    refine go_freezeD (i := 1) bb rfl (fun hm => (List.nodup_cons.mp hI.nd).1 hm) hq ?_
    obtain ⟨B, hB1, hB2, hB3, hB4⟩ := hI.B
    have hperm : ((kvs.map (·.1)).mergeSort strLe).Perm (B.map bs) := by rw [← hB1]; exact List.mergeSort_perm _ _
    obtain ⟨B', hB'⟩ := all_bs (l := (kvs.map (·.1)).mergeSort strLe) fun x hx => by
      obtain ⟨y, _, e⟩ := List.mem_map.mp (hperm.mem_iff.mp hx)
      exact ⟨y, e.symm⟩
    rw [hB'] at hperm
    have hn' : B'.Nodup := nodup_of_bs (hperm.nodup_iff.mpr (nodup_bs hB2))
    have hm' : ∀ p, p ∈ B' ↔ p ∈ B := fun p => by rw [← mem_bs, hperm.mem_iff, mem_bs]
    have hl' : B'.length ≤ 32 * ws.length := by
      have := hperm.length_eq
      rw [List.length_map, List.length_map] at this
      omega
    let δ3 : List (Option D) := [some (.lst (ws.map txt)), some (.dic kvs), a2, a3, a4, none]
    have hdc : EvP ((pureW K C N H0).wi R) (tDc (iList K (tCB (rSortAll K) (tCons (tVar 1) tNil))) (gName 5) tYes (tVar 5) (tDGet (tVar 1) (tVar 5)) [5]) δ3 (fun d => ∃ kvs', d = .dic kvs' ∧ (kvs'.map (·.1) = (B'.take (B'.map txt).length).map bs ∧ ∀ kv ∈ kvs', ∃ a, kv.2 = .adr a)) := by
      refine ev_dc bb (ds := B'.map txt) (ei_lst (EvP.imp (ev_cb (ea_cons (ev_var (i := 1) rfl) ea_nil) (rc_sortD (by omega))) fun d e => by rw [e, hB', List.map_map]; rfl)) (by rw [List.length_map]; omega) (fun i acc => acc.map (·.1) = (B'.take i).map bs ∧ ∀ kv ∈ acc, ∃ a, kv.2 = .adr a) ⟨rfl, fun _ h => by cases h⟩ fun i d hd p acc np hacc ⟨h1, h2⟩ => ?_
      rw [List.getElem?_map] at hd
      cases e : B'[i]? with
      | none => rw [e] at hd; cases hd
      | some v =>
        rw [e] at hd
        have hd := Option.some.inj hd
        subst hd
        have hvB : v ∈ B' := List.mem_of_getElem? e
        have hk : bs v ∈ kvs.map (·.1) := by rw [hB1, mem_bs]; exact (hm' v).mp hvB
        obtain ⟨d0, hd0⟩ := valD_yes hk
        obtain ⟨a, ds, ha, _⟩ := hI.val _ (valD_mem hd0)
        have ha : d0 = .adr a := ha
        subst ha
        have hnew : bs v ∉ acc.map (·.1) := by
          rw [h1, mem_bs]
          intro hm
          have h9 : (B'.take (i + 1)).Nodup := hn'.sublist (List.take_sublist _ _)
          rw [take_succ' e] at h9
          exact (List.nodup_append.mp h9).2.2 v hm v (List.mem_singleton.mpr rfl) rfl
        refine ⟨_, bs v, _, gw_name, ev_var rfl, ev_dget (ev_var (i := 1) rfl) (ev_var (i := 5) rfl) hd0, fun e' he' => ?_⟩
        subst he'
        rw [putD_app hnew]
        refine ⟨⟨by rw [List.map_append, h1, take_succ' e, List.map_append]; rfl, fun kv hkv => ?_⟩, by rw [List.length_append]; exact Nat.succ_le_succ hacc⟩
        rcases List.mem_append.mp hkv with hkv | hkv
        · exact h2 kv hkv
        · rw [List.mem_singleton.mp hkv]
          exact ⟨a, rfl⟩
    refine go_ret bb.ok hdc fun d v H pd e I r => ?_
    obtain ⟨kvs', rfl, h1, h2⟩ := pd
    rw [List.length_map, List.take_length] at h1
    exact hrt _ _ _ (hp _ ⟨B', h1, hn', fun p => (hm' p).trans (hB3 p), h2⟩) e r
end
end Lr
set_option Elab.async false
set_option maxRecDepth 100000
set_option maxHeartbeats 4000000
set_option linter.all false
set_option autoImplicit false
/-! gaps_of: a loop over a dict's keys. -/
namespace Lr
open PySem L2 PyProof.Rows
abbrev s_gaps_of : Stmt := topS 51
abbrev ns_gaps_of : List Str := ["tokens", "rests", "found", "begun", "bit", "longer"]
theorem sc_gaps_of : FnScope ns_gaps_of ["tokens", "rests"] (defScope s_gaps_of) := ⟨rfl, rfl, rfl, by decide +kernel, rfl, by decide +kernel, by decide +kernel⟩
section
theorem rpAll_flat {K : PySem.W.Frag} {C : Addr} {N N' : Addr → Prop} {H : Hp} : ∀ {vs : List V} {ds : List D}, (∀ d ∈ ds, (∃ s, d = .str s) ∨ ∃ i, d = .int i) → RpAll K C N H vs ds → RpAll K C N' H vs ds
  | _, _, _, .nil => .nil
  | _, _, h, .cons r t => .cons (by
      rcases h _ List.mem_cons_self with ⟨s, rfl⟩ | ⟨i, rfl⟩
      · cases r; exact .str _
      · cases r; exact .int _) (rpAll_flat (fun d hd => h d (List.mem_cons_of_mem _ hd)) t)
theorem rpAll_txt {K : PySem.W.Frag} {C : Addr} {N N' : Addr → Prop} {H H' : Hp} : ∀ {vs : List V} {l : List (List Bool)}, RpAll K C N H vs (l.map txt) → RpAll K C N' H' vs (l.map txt)
  | _, [], r => by cases r; exact .nil
  | _, a :: l, r => by
    cases r with
    | cons r t =>
      cases r
      exact .cons (.str _) (rpAll_txt t)
theorem tok_flat (t : Tok) : ∃ ds, t.d = .tup ds ∧ ∀ d ∈ ds, (∃ s, d = .str s) ∨ ∃ i, d = .int i := by
  cases t <;> refine ⟨_, rfl, fun d hd => ?_⟩ <;> simp only [List.mem_cons, List.not_mem_nil, or_false] at hd <;> rcases hd with rfl | hd
  all_goals first
    | exact .inl ⟨_, rfl⟩
    | (rcases hd with rfl | hd <;> first | exact .inr ⟨_, rfl⟩ | (rcases hd with rfl | rfl <;> exact .inr ⟨_, rfl⟩))
    | (subst hd; exact .inr ⟨_, rfl⟩)
theorem rpKv_toks {K : PySem.W.Frag} {C : Addr} {N N' : Addr → Prop} {H H' : Hp} (hs : ∀ a o, H a = some o → stiff o = true → H' a = some o) : ∀ {vs : List (Key × V)} {W : List W}, RpKv K C N H vs (W.map kvW) → RpKv K C N' H' vs (W.map kvW)
  | _, [], r => by cases r; exact .nil
  | _, q :: W, r => by
    cases r with
    | cons r t =>
      refine .cons ?_ (rpKv_toks hs t)
      obtain ⟨ds, e, hd⟩ := tok_flat q.2
      rw [e] at r ⊢
      cases r with
      | tup h rr => exact (Rp.tup (N := fun _ => False) h (rpAll_flat hd rr)).car ⟨fun _ _ _ z => z.elim, hs⟩
theorem srtOk_txt {l : List (List Bool)} (hl : l.length ≤ 100000) : SrtOk (l.map txt) := by
  refine srtOk_tup (n := 1) (fun x _ => ?_) (by decide) ?_ ?_ hl
  · show PyData.strOk (bs x) = true
    exact ok_bs x
  · rw [List.map_map]
    exact PySem.W.AllAlike.of fun a b => by simp [txt, pd, pds, PySem.W.alike, PySem.W.alikeAll]
  · rw [List.map_map]
    exact PySem.W.Sortable.others fun b => ⟨(fun e => nomatch (show PyData.str (bs b) = .none from e)), fun xs e => nomatch (show PyData.str (bs b) = .tuple xs from e)⟩
def lockW (K : PySem.W.Frag) (C : Addr) (N : Addr → Prop) (H0 : Hp) (r : Addr) (od : PySem.Obj) (vs : List (Key × V)) : Wd := { K := K, C := C, N := fun a => N a ∧ a ≠ r, Z := fun a => a = r, I := fun H => (∀ a, H a = none → N a) ∧ (∀ a o, a ≠ r → H0 a = some o → H a = some o) ∧ H r = some (.frz od (.dK vs)) }
theorem lock_base {K : PySem.W.Frag} {C : Addr} {N : Addr → Prop} {H0 : Hp} {r : Addr} {od : PySem.Obj} {vs : List (Key × V)} : (lockW K C N H0 r od vs).Base H0 where
  ok := ⟨fun a z n => n.2 z, fun H H' I s => ⟨fun a h => I.1 a (s.free h), fun a o z h => s _ _ (I.2.1 a o z h), s _ _ I.2.2⟩, fun H a I h => ⟨I.1 a h, fun z => by rw [z, I.2.2] at h; cases h⟩⟩
  zok := fun H a I h z => by
    have z : a = r := z
    rw [z, I.2.2] at h
    cases h
  h0 := fun H p I h => by
    cases e : H0 p with
    | none => rfl
    | some o =>
      by_cases z : p = r
      · rw [z, I.2.2] at h; cases h
      · rw [I.2.1 p o z e] at h; cases h
  mu := fun H p o I n z => ⟨fun a h => I.1 a (by
    by_cases y : a = p
    · subst y; rw [upd_same] at h; cases h
    · rw [upd_ne y] at h; exact h), fun a o' za h => by
      rw [upd_ne (ne_of_none h n)]
      exact I.2.1 a o' za h, by
      rw [upd_ne (fun e => z e.symm)]
      exact I.2.2⟩
theorem valV_any : ∀ {vs : List (Key × V)} {k : Key}, (valV vs k).isSome = vs.any fun p => decide (p.1 = k)
  | [], k => rfl
  | (a, v) :: vs, k => by
    by_cases e : a = k
    · subst e
      rw [valV_pos rfl, List.any_cons, decide_eq_true rfl]
      rfl
    · rw [valV_neg e, valV_any (vs := vs), List.any_cons, decide_eq_false e]
      rfl
theorem slots_none {K : PySem.W.Frag} {C : Addr} {N : Addr → Prop} {H : Hp} : ∀ (n : Nat) {σ : L2.St}, σ.length = n → Slots K C N H σ (List.replicate n none)
  | 0, [], _ => .nil
  | n + 1, s :: σ, h => .skip (slots_none n (Nat.succ.inj h))
theorem valD_isSome {kvs : List (Str × D)} {k : Str} : (valD kvs k).isSome = decide (k ∈ kvs.map (·.1)) := by
  cases e : valD kvs k with
  | none => rw [decide_eq_false (valD_no e)]; rfl
  | some d => rw [decide_eq_true (List.mem_map.mpr ⟨_, valD_mem e, rfl⟩)]; rfl
/-- k not in d, d under a loop over its keys -/
theorem ev_lnotin {K : PySem.W.Frag} {C : Addr} {N : Addr → Prop} {H0 : Hp} {r : Addr} {od : PySem.Obj} {vs : List (Key × V)} {M : ML} {δ : List (Option D)} {ty td : TE} {k : Str}
    (hy : Ev ((lockW K C N H0 r od vs).wi M) ty δ (.str k)) (hd : Ev ((lockW K C N H0 r od vs).wi M) td δ (.adr r)) : Ev ((lockW K C N H0 r od vs).wi M) (tDNotIn ty td) δ (.bl (!(vs.any fun p => decide (p.1 = Sum.inr k)))) := fun ok σ H e I Q q =>
  hy ok σ H e I _ fun y u H1 p e1 I1 ry => hd ok σ H1 (e.car (Ex.car ok e1)) I1 _ fun x v H2 p2 e2 I2 r2 => by
    subst p
    subst p2
    cases ry
    cases r2
    exact ⟨r, valV vs (Sum.inr k), rfl, .inl ⟨vs, Sum.inr k, .inr ⟨od, I2.1.2.2⟩, rfl, rfl⟩, q _ _ H2 (by rw [valV_any]) (e1.trans e2) I2 (.bl _)⟩
variable {P : Program} {w : World} {K : PySem.W.Frag} {mg : Str → Option Value} {base : Heap} {C : Addr} {XA : ExAds}
def sGapsOf : Spec := fun ds P _ => ∃ (W : List W) (kvs : List (Str × D)) (B : List (List Bool)), ds = [.dic (W.map kvW), .dic kvs] ∧ kvs.map (·.1) = B.map bs ∧ B.Nodup ∧ B.length ≤ 10000 ∧ (∀ p ∈ B, p.length ≤ 16) ∧ (∃ q ∈ W, q.1 ∉ B) ∧ ∀ G : List (List Bool), G.Perm (gapsOf (W.map (·.1)) B) → P (.lst (G.map txt))
theorem c_gaps_of (F : Df K mg "gaps_of" s_gaps_of ["tokens", "rests"]) (B : Blt mg) : Cal P w K mg base 1 "gaps_of" (spX K C XA sGapsOf) := by
  refine fn_X F sc_gaps_of (fun ds Q E ⟨_, _, _, e, _⟩ => by rw [e]; rfl) fun f cdv A outer s H E hr => ⟨_, (pss_cons (ps_st 2 sc_gaps_of.nd (pe_lst pa_nil))
        (pss_cons (ps_lock (ps_for (passes_of rfl) rfl (pi_keys (pv 1)) (pg_nm 3 sc_gaps_of.nd) (pss_one (ps_for (passes_of rfl) rfl (pi_str pe_str) (pg_nm 4 sc_gaps_of.nd) (pss_cons (ps_st 5 sc_gaps_of.nd (pe_op (xAdd K) (pv 3) (pv 4)))
        (pss_one (ps_if (PW.pt (pw_and (pt_cmp (pc_dnotin hr.u1 (pv 5) (pv 1))) (pw_and1 (pt_cmp (pc_dnotin hr.u1 (pv 5) (pv 0)))))) (pss_one (ps_expr (pe_bm PySem.F.plainAttrs_list PySem.F.slot_list_append PySem.F.type_list_append mt_append (pv 2) (pa_cons (pv 5) pa_nil)))) pss_nil)))))))
        (pss_one (ps_ret (pe_callB (xSorted K hr.units) rfl B.b_sorted bt_sorted (pa_cons (pv 2) pa_nil)))))), ?_⟩
  rintro N H0 ds Pd PE ⟨W, kvs, B, rfl, hk, hB, hBl, hBs, hsep, hp⟩ hE De hrt hnx
  have bb := pure_base (K := K) (C := C) (N := N) (H0 := H0)
  let okG : List Bool → Bool := fun c => !B.contains c && !(W.map (·.1)).contains c
  refine go_new bb evn_nil fun ds q hds hq hm => ?_
  subst hds
  intro σ H p
  obtain ⟨env0, inv, ex, new, gh⟩ := p
  have env1 : Slots K C (fun a => N a ∧ a ∉ ads [(q, MO.lst [])]) H σ [some (.dic (W.map kvW)), some (.dic kvs), some (.adr q), none, none, none] := env0
  clear env0
  cases env1 with
  | @cons v0 _ σ1 _ r0 env2 =>
  cases env2 with
  | @cons v1 _ σ2 _ r1 env3 =>
  cases env3 with
  | @cons v2 _ σ3 _ r2 env4 =>
  cases r2
  cases r1 with
  | @dic r vs _ nr hr rr =>
  cases r0 with
  | @dic t us _ nt ht rt =>
  have hvk : vs.map (·.1) = (B.map bs).map Sum.inr := by rw [rpKv_keys rr, hk]
  have htr : t ≠ r := fun e => by
    subst e
    rw [ht] at hr
    cases hr
    obtain ⟨x, hx, hxB⟩ := hsep
    have h1 := rpKv_keys rt
    have h2 := rpKv_keys rr
    rw [h1, hk] at h2
    have : (Sum.inr (bs x.1) : Key) ∈ ((W.map kvW).map (·.1)).map Sum.inr := List.mem_map_of_mem (List.mem_map.mpr ⟨kvW x, List.mem_map_of_mem hx, rfl⟩)
    rw [h2] at this
    obtain ⟨y, hy, e⟩ := List.mem_map.mp this
    rw [Sum.inr.inj e, mem_bs] at hy
    exact hxB hy
  have hqr : q ≠ r := fun e => nr.2 (by rw [← e]; exact List.mem_cons_self)
  have hany : ∀ c : List Bool, (vs.any fun p => decide (p.1 = Sum.inr (bs c))) = B.contains c := fun c => by
    have h1 : (vs.any fun p => decide (p.1 = Sum.inr (bs c))) = kvs.any fun p => decide (p.1 = bs c) := rr.any
    rw [h1]
    have h2 : (kvs.any fun p => decide (p.1 = bs c)) = (kvs.map (·.1)).any fun x => decide (x = bs c) := by rw [List.any_map]; rfl
    rw [h2, hk, List.any_map, List.contains_eq_any_beq]
    congr 1
    funext x
    show decide (bs x = bs c) = (c == x)
    by_cases e : x = c
    · subst e; simp
    · rw [decide_eq_false fun h => e (bs_inj h)]
      exact (beq_eq_false_iff_ne.mpr (Ne.symm e)).symm
  have htok : ∀ c : List Bool, (valD (W.map kvW) (bs c)).isSome = (W.map (·.1)).contains c := fun c => by
    rw [valD_isSome, List.map_map, show ((fun x : Str × D => x.1) ∘ kvW) = (bs ∘ fun x : List Bool × Tok => x.1) from rfl, ← List.map_map]
    by_cases e : c ∈ W.map (·.1)
    · rw [decide_eq_true (mem_bs.mpr e)]
      exact (List.contains_iff_mem.mpr e).symm
    · rw [decide_eq_false fun h => e (mem_bs.mp h)]
      cases h : (W.map (·.1)).contains c with
      | false => rfl
      | true => exact absurd (List.contains_iff_mem.mp h) e
  have hvl : vs.length = B.length := by
    have := congrArg List.length hvk
    rw [List.length_map, List.length_map, List.length_map] at this
    exact this
  refine ⟨r, .dK vs, hr, trivial, fun od => ?_⟩
  have b2 := lock_base (K := K) (C := C) (N := N) (H0 := H0) (r := r) (od := od) (vs := vs)
  have hst : ∀ a o, H a = some o → stiff o = true → upd H r (.frz od (.dK vs)) a = some o := fun a o h z => by
    have : a ≠ r := fun e => by subst e; rw [hr] at h; cases h; cases z
    rw [upd_ne this]
    exact h
  have start : Pt (lockW K C N H0 r od vs) H0 [] [(q, .lst [])] [some (.dic (W.map kvW)), some (.adr r), some (.adr q), none, none, none] (some (.ref t) :: some (.ref r) :: some (.ref q) :: σ3) (upd H r (.frz od (.dK vs))) := by
    refine ⟨.cons (.dic ⟨⟨nt.1, htr⟩, nt.2⟩ (by rw [upd_ne htr]; exact ht) (rpKv_toks hst rt)) (.cons (.adr r) (.cons (.adr q) ?_)), ⟨⟨fun a h => inv.1.1 a ?_, fun a o z h => by rw [upd_ne z]; exact inv.1.2 _ _ h, upd_same⟩, fun m hm => ?_⟩, fun a o h z => ?_, new, fun x hx => by cases hx⟩
    · exact slots_none 3 env4.len
    · by_cases z : a = r
      · subst z; rw [upd_same] at h; cases h
      · rw [upd_ne z] at h; exact h
    · rw [List.mem_singleton.mp hm]
      obtain ⟨_, vs', h1, h2⟩ := inv.2 _ List.mem_cons_self
      cases h2
      exact ⟨hqr, [], by rw [upd_ne hqr]; exact h1, .nil⟩
    · by_cases e : a = r
      · subst e
        have := inv.1.2 _ _ h
        rw [hr] at this
        cases this
        rcases z with z | z
        · exact absurd rfl z
        · cases z
      · rw [upd_ne e]
        exact inv.1.2 _ _ h
  refine ⟨_, rfl, r, od, rfl, .inl ⟨vs, upd_same, ?_⟩⟩
  let Pv : Nat → List (Option D) → ML → Prop := fun i δ M => ∃ a3 a4 a5 : Option D, M = [(q, MO.lst (((kids (B.take i)).filter okG).map txt))] ∧ δ = [some (.dic (W.map kvW)), some (.adr r), some (.adr q), a3, a4, a5]
  refine ⟨fun i m σ' H' => m = B.length - i ∧ i ≤ B.length ∧ KeptW (lockW K C N H0 r od vs) H0 [] (Pv i) σ' H', ⟨_, rfl, Nat.zero_le _, _, _, ⟨none, none, none, rfl, rfl⟩, start⟩, fun i m σ' H' hw => ?_⟩
  obtain ⟨rfl, hi, δ', M', ⟨a3, a4, a5, rfl, rfl⟩, p'⟩ := hw
  have hfr : H' r = some (.frz od (.dK vs)) := p'.inv.1.2.2
  by_cases hlt : i < B.length
  · refine .inr ⟨⟨hfr, by omega⟩, KeptW (lockW K C N H0 r od vs) H0 [] (Pv (i + 1)), fun σ2 H2 n => ⟨_, by omega, rfl, hlt, n⟩, fun x H2 ⟨e2, k, v, hkv, ex⟩ => ?_⟩
    subst e2
    subst ex
    have hk2 : k = Sum.inr (bs B[i]) := by
      have h1 : (vs.map (·.1))[i]? = some k := by rw [List.getElem?_map, hkv]; rfl
      rw [hvk, List.getElem?_map, List.getElem?_map, List.getElem?_eq_getElem hlt] at h1
      exact (Option.some.inj h1).symm
    subst hk2
    have hBi := List.getElem?_eq_getElem hlt
    have hb16 := hBs _ (List.getElem_mem hlt)
    generalize B[i] = g at hBi hb16 ⊢
    have hkl : ((kids (B.take i)).filter okG).length ≤ 2 * B.length := by
      refine Nat.le_trans (List.length_filter_le _ _) ?_
      have : ∀ l : List (List Bool), (kids l).length = 2 * l.length := fun l => by
        induction l with
        | nil => rfl
        | cons a l ih =>
          show ((_ :: _ :: []) ++ kids l).length = _
          rw [List.length_append, ih]
          simp only [List.length_cons, List.length_nil]
          omega
      rw [this, List.length_take]
      omega
    have ks : kids (B.take (i + 1)) = kids (B.take i) ++ [g ++ [false], g ++ [true]] := by
      unfold kids
      rw [take_succ' hBi, List.flatMap_append, List.flatMap_singleton]
    let kd : List (List Bool) := [false, true].map fun b => g ++ [b]
    have p3 : Pt (lockW K C N H0 r od vs) H0 [] [(q, .lst (((kids (B.take i)).filter okG).map txt))] [some (.dic (W.map kvW)), some (.adr r), some (.adr q), some (txt g), a4, a5] (σ'.set 3 (some (kV (Sum.inr (bs g))))) H2 := p'.slots (p'.env.set (.str _) 3)
    refine pt_for b2 (ei_str (x := bs [false, true]) ev_str) (fun j δ M => ∃ a4 a5 : Option D, M = [(q, .lst (((kids (B.take i)).filter okG ++ (kd.take j).filter okG).map txt))] ∧ δ = [some (.dic (W.map kvW)), some (.adr r), some (.adr q), some (txt g), a4, a5]) ⟨a4, a5, by simp, rfl⟩ p3 ?_ ?_
    · rintro y j d δ' M' hd ea ⟨a4, a5, rfl, rfl⟩
      obtain ⟨c, hc, rfl⟩ := signs_at hd
      refine ⟨_, eg_name, ?_⟩
      refine go_asg b2.ok (P := fun d => d = txt (g ++ [c])) (ev_is (ev_op (ev_var (i := 3) rfl) (ev_var (i := 4) rfl) (r2_addSS (by rw [bs_len, bs_len]; simp; omega))) (by rw [bs_append]; rfl)) fun d hd2 => ?_
      subst hd2
      have hkd : kd[j]? = some (g ++ [c]) := by
        show ([false, true].map fun b => g ++ [b])[j]? = _
        rw [List.getElem?_map, hc]
        rfl
      have test : EvT ((lockW K C N H0 r od vs).wi [(q, .lst (((kids (B.take i)).filter okG ++ (kd.take j).filter okG).map txt))]) (tAnd (tB (tDNotIn (tVar 5) (tVar 1))) (tB (tDNotIn (tVar 5) (tVar 0)))) [some (.dic (W.map kvW)), some (.adr r), some (.adr q), some (txt g), some (txt [c]), some (txt (g ++ [c]))] (okG (g ++ [c])) := by
        refine et_is (et_andd (et_Bd (ev_lnotin (ev_var (i := 5) rfl) (ev_var (i := 1) rfl))) fun _ => et_Bd (ev_dnotin (ev_var (i := 5) rfl) (ev_var (i := 0) rfl))) ?_
        rw [hany, htok]
      have hadd : (kd.take (j + 1)).filter okG = (kd.take j).filter okG ++ [g ++ [c]].filter okG := by
        rw [take_succ' hkd, List.filter_append]
      refine go_when' b2.ok test (fun h => ?_) fun h => ?_
      · refine go_app' b2 (i := 2) rfl (by simp [ads]) (ev_var (i := 5) rfl) ?_ fun e he => ?_
        · have : ((kd.take j).filter okG).length ≤ 2 := Nat.le_trans (List.length_filter_le _ _) (by rw [List.length_take]; exact Nat.min_le_right _ 2)
          rw [List.length_map, List.length_append]
          omega
        · subst he
          refine go_kept rfl ⟨_, _, ?_, rfl⟩
          rw [hadd, List.filter_cons_of_pos h.symm, List.filter_nil, ← List.append_assoc, List.map_append (l₂ := [g ++ [c]])]
          rfl
      · refine go_kept rfl ⟨_, _, ?_, rfl⟩
        rw [hadd, List.filter_cons_of_neg (by rw [← h]; decide), List.filter_nil, List.append_nil]
    · rintro δ' M' σ4 H4 ea ⟨a4, a5, rfl, rfl⟩ p4
      refine ⟨_, _, ⟨_, _, _, ?_, rfl⟩, p4⟩
      rw [ks, List.filter_append, show (kd.take (signsD (bs [false, true])).length) = [g ++ [false], g ++ [true]] from by rw [signs_len]; rfl]
  · have : i = B.length := by omega
    subst this
    refine .inl ⟨⟨hfr, by omega⟩, hfr, ?_⟩
    have hH0r : H0 r = some (.dK vs) ∨ H0 r = none := by
      cases e : H0 r with
      | none => exact .inr rfl
      | some o =>
        have := inv.1.2 _ _ e
        rw [hr] at this
        exact .inl this.symm
    have hsame : Same H0 (upd H' r (.dK vs)) := fun a o h => by
      by_cases e : a = r
      · subst e
        rcases hH0r with z | z
        · rw [z] at h; cases h; exact upd_same
        · rw [z] at h; cases h
      · rw [upd_ne e]
        exact p'.inv.1.2.1 _ _ e h
    obtain ⟨_, vs', hq', rq'⟩ := p'.inv.2 _ List.mem_cons_self
    obtain ⟨v2, hv2, rv2⟩ := p'.env.get (i := 2) rfl
    cases rv2
    have pEnd : Pt (pureW K C N H0) H0 [] [(q, .lst (((kids B).filter okG).map txt))] [none, none, some (.adr q), none, none, none] σ' (upd H' r (.dK vs)) := by
      refine ⟨?_, ⟨⟨fun a h => ?_, hsame⟩, fun m hm => ?_⟩, Ex.same hsame, fun a ha => new a ha, fun x hx => by cases hx⟩
      · have e0 := (slots_none (K := K) (C := C) (N := ((pureW K C N H0).wi [(q, .lst (((kids B).filter okG).map txt))]).N) (H := upd H' r (.dK vs)) 6 p'.env.len).set (.adr q) 2
        have : σ'.set 2 (some (.ref q)) = σ' := by
          have hlt := (List.getElem?_eq_some_iff.mp hv2).1
          have he := (List.getElem?_eq_some_iff.mp hv2).2
          rw [← he]
          exact List.set_getElem_self hlt
        rw [this] at e0
        exact e0
      · by_cases e : a = r
        · subst e; rw [upd_same] at h; cases h
        · rw [upd_ne e] at h; exact p'.inv.1.1 _ h
      · rw [List.mem_singleton.mp hm]
        rw [List.take_length] at rq'
        exact ⟨fun z => z, vs', by rw [upd_ne hqr]; exact hq', rpAll_txt rq'⟩
    have k : Go (pureW K C N H0) H0 [] [(q, .lst (((kids B).filter okG).map txt))] [none, none, some (.adr q), none, none, none] (tRet (tCB (rSortAll K) (tCons (tVar 2) tNil))) De := by
      refine go_freeze (i := 2) bb rfl hm hq ?_
      have hgl : ((kids B).filter okG).length ≤ 20000 := by
        refine Nat.le_trans (List.length_filter_le _ _) ?_
        have : ∀ l : List (List Bool), (kids l).length = 2 * l.length := fun l => by
          induction l with
          | nil => rfl
          | cons a l ih =>
            show ((_ :: _ :: []) ++ kids l).length = _
            rw [List.length_append, ih]
            simp only [List.length_cons, List.length_nil]
            omega
        rw [this]
        omega
      refine go_ret bb.ok (ev_cb (ea_cons (ev_var (i := 2) rfl) ea_nil) (rc_sortL (srtOk_txt (by omega)))) fun d v H pd e I r => ?_
      subst pd
      rw [show (((kids B).filter okG).map txt).mergeSort leDD = (((kids B).filter okG).mergeSort fun a b => leDD (txt a) (txt b)).map txt from (List.map_mergeSort (r := fun a b => leDD (txt a) (txt b)) (s := leDD) (f := txt) (fun _ _ _ _ => rfl)).symm] at r
      exact hrt _ _ _ (hp _ (List.mergeSort_perm _ _)) e r
    exact k _ _ pEnd
end
end Lr
set_option Elab.async false
set_option maxRecDepth 100000
set_option maxHeartbeats 4000000
set_option linter.all false
set_option autoImplicit false
/-! An instance of one's own; methods by their bodies. -/
namespace Lr
open PySem L2 PyProof.Rows
def putFD (f : Str) (d : D) : List (Str × D) → List (Str × D)
  | [] => [(f, d)]
  | (g, x) :: r => if g = f then (g, d) :: r else (g, x) :: putFD f d r
theorem RpF.put {K : PySem.W.Frag} {C : Addr} {N : Addr → Prop} {H : Hp} {f : Str} {v : V} {d : D} (r0 : Rp K C N H v d) : ∀ {fs : List (Str × V)} {ds : List (Str × D)}, RpF K C N H fs ds → RpF K C N H (putF f v fs) (putFD f d ds)
  | _, _, .nil => .cons r0 .nil
  | _, _, .cons (k := g) r t => by
    unfold putF putFD
    by_cases e : g = f
    · rw [if_pos e, if_pos e]; exact .cons r0 t
    · rw [if_neg e, if_neg e]; exact .cons r (RpF.put r0 t)
theorem RpF.len {K : PySem.W.Frag} {C : Addr} {N : Addr → Prop} {H : Hp} : ∀ {fs : List (Str × V)} {ds : List (Str × D)}, RpF K C N H fs ds → fs.length = ds.length
  | _, _, .nil => rfl
  | _, _, .cons _ t => congrArg Nat.succ t.len
section
variable {b : Wd} {H0 : Hp} {Γ : List (V × D)} {M : ML} {δ : List (Option D)} {te tj : TE} {tu tz : TS} {De : Ends} {P : D → Prop} {σ : L2.St} {H : Hp}
theorem Pt.ins {p : Addr} {ds : List (Str × D)} {M' : ML} (q : Pt b H0 Γ ((p, .ins ds) :: M') δ σ H) : ∃ dx vs, H p = some (.ins b.C dx vs) ∧ RpF b.K b.C (fun a => b.N a ∧ a ∉ ads ((p, .ins ds) :: M')) H vs ds := (q.inv.2 _ List.mem_cons_self).2
/-- self.f = e, self one's own -/
theorem pt_fld {i : Nat} {p : Addr} {ds : List (Str × D)} {M' : ML} {f : Str} (bb : b.Base H0) (c : Cls b.K b.C) (n : NoAttr b.K b.C f) (hi : δ[i]? = some (some (.adr p))) (np : p ∉ ads M') (h : EvP (b.wi ((p, .ins ds) :: M')) te δ P) (hl : ds.length < 1000)
    (q : Pt b H0 Γ ((p, .ins ds) :: M') δ σ H) {R : L2.St → Hp → Prop} (k : ∀ d, P d → ∀ σ' H', Pt b H0 Γ ((p, .ins (putFD f d ds)) :: M') δ σ' H' → R σ' H') : sFld b.K (tVar i) te f { nx := R, rt := De.rt, bk := De.bk, ct := De.ct } σ H := by
  refine h (bb.ok.wi _) σ H q.env q.inv _ fun d y H1 pd e1 I1 r => ?_
  have q1 := q.step bb.ok e1 I1
  obtain ⟨v, h1, h2⟩ := q1.env.get hi
  cases h2
  obtain ⟨dx, vs, hv, rv⟩ := q1.ins
  refine ⟨_, h1, p, b.C, dx, vs, rfl, hv, c, n, by rw [rv.len]; exact hl, k d pd _ _ (pt_mut bb q1 np ⟨dx, _, upd_same, ?_⟩)⟩
  have cm : Car (fun a => b.N a ∧ a ∉ ads ((p, MO.ins ds) :: M')) (fun a => b.N a ∧ a ∉ ads ((p, MO.ins (putFD f d ds)) :: M')) H1 (upd H1 p (.ins b.C dx (putF f y vs))) := car_mut hv rfl
  exact (rv.put r).car cm
theorem go_fld {i : Nat} {p : Addr} {ds : List (Str × D)} {M' : ML} {f : Str} (bb : b.Base H0) (c : Cls b.K b.C) (n : NoAttr b.K b.C f) (hi : δ[i]? = some (some (.adr p))) (np : p ∉ ads M') (h : EvP (b.wi ((p, .ins ds) :: M')) te δ P) (hl : ds.length < 1000)
    (k : ∀ d, P d → Go b H0 Γ ((p, .ins (putFD f d ds)) :: M') δ tz De) : Go b H0 Γ ((p, .ins ds) :: M') δ (tSeq (sFld b.K (tVar i) te f) tz) De := fun σ H q =>
  pt_fld (De := De) bb c n hi np h hl q fun d pd σ' H' q' => k d pd σ' H' q'
theorem go_fld' {i : Nat} {p : Addr} {ds : List (Str × D)} {M' : ML} {f : Str} (bb : b.Base H0) (c : Cls b.K b.C) (n : NoAttr b.K b.C f) (hi : δ[i]? = some (some (.adr p))) (np : p ∉ ads M') (h : EvP (b.wi ((p, .ins ds) :: M')) te δ P) (hl : ds.length < 1000)
    (k : ∀ d, P d → Go b H0 Γ ((p, .ins (putFD f d ds)) :: M') δ tNext De) : Go b H0 Γ ((p, .ins ds) :: M') δ (sFld b.K (tVar i) te f) De := fun σ H q =>
  pt_fld (De := De) bb c n hi np h hl q fun d pd σ' H' q' => k d pd σ' H' q'
/-- self.f, self one's own -/
theorem ev_fldM {i : Nat} {p : Addr} {ds : List (Str × D)} {f : Str} {d : D} (c : Cls b.K b.C) (n : NoAttr b.K b.C f) (hi : δ[i]? = some (some (.adr p))) (hm : (p, MO.ins ds) ∈ M) (hf : ds.lookup f = some d) : Ev (b.wi M) (tFld b.K (tVar i) f) δ d := fun ok σ H e I Q q => by
  obtain ⟨v, h1, h2⟩ := e.get hi
  cases h2
  obtain ⟨_, dx, vs, hv, rv⟩ := I.2 _ hm
  obtain ⟨v', h3, h4⟩ := rv.look.1 _ hf
  exact ⟨_, h1, p, b.C, dx, vs, v', rfl, hv, c, n, h3, q _ _ H rfl (Ex.refl H) I h4⟩
theorem pt_freezeI {p : Addr} {ds : List (Str × D)} {M' : ML} (bb : b.Base H0) (q : Pt b H0 Γ ((p, .ins ds) :: M') δ σ H) (np : p ∉ ads M') (hN : b.N p) : Pt b H0 Γ M' δ σ H ∧ (b.wi M').Rp H (.ref p) (.ins ds) := by
  obtain ⟨dx, vs, hv, rv⟩ := q.ins
  have c : Car (fun a => b.N a ∧ a ∉ ads ((p, MO.ins ds) :: M')) (fun a => b.N a ∧ a ∉ ads M') H H := ⟨fun a o h n => ⟨h, n.1, fun hm => n.2 (List.mem_cons_of_mem _ hm)⟩, fun a o h _ => h⟩
  exact ⟨⟨q.env.car c, ⟨q.inv.1, fun m hm => ⟨(q.inv.2 m (List.mem_cons_of_mem _ hm)).1, (q.inv.2 m (List.mem_cons_of_mem _ hm)).2.car c fun o h => h⟩⟩, q.ex, fun a ha => q.new a (List.mem_cons_of_mem _ ha), fun x hx => (q.gh x hx).car c⟩, .ins ⟨hN, np⟩ hv (rv.car c)⟩
end
end Lr
set_option Elab.async false
set_option maxRecDepth 100000
set_option maxHeartbeats 4000000
set_option linter.all false
set_option autoImplicit false
/-! Methods and __init__ by their bodies. -/
namespace Lr
open PySem L2 PyProof.Rows
structure DfM (K : PySem.W.Frag) (C : Addr) (m qual : Str) (st : Stmt) (ps : List Str) : Prop where
  ex : ∃ (f : Addr) (fd : FuncData), Meth K C m f ∧ Fun K m qual st f fd ∧ Binds K fd ps []
section
variable {P : Program} {w : World} {K : PySem.W.Frag} {mg : Str → Option Value} {base : Heap}
theorem fn_M {m qual : Str} {st : Stmt} {names ps : List Str} {k : Nat} {C : Addr} {XA : ExAds} {S : Spec} (F : DfM K C m qual st ps) (sc : FnScope names ps (defScope st)) (hl : ∀ ds Q E, S ds Q E → ds.length = ps.length)
    (body : ∀ (f : Addr) (cdv : Value) (A : Around) (outer : List Env) (s : Shared) (H : Hp) (E : XK), Room k (A.deeper (envOfC qual (defScope st) s.heap.objs.size f cdv)) →
      ∃ t, PSs (cxOf (L2.CX P w) P w K mg base names qual (defScope st) f cdv A outer s H E) (defBody st) t ∧
        ∀ (N : Addr → Prop) (H0 : Hp) (ds : List D) (Pd : D → Prop) (PE : Er → Prop), S ds Pd PE → (∀ er c dx H', PE er → Same H0 H' → ErAt XA er c dx H' → E c dx H') →
          ∀ De : Ends, (∀ d v H', Pd d → Ex (fun _ => False) H0 H' → (pureW K C N H0).Rp H' v d → De.rt v H') → (Pd .non → ∀ σ H', Ex (fun _ => False) H0 H' → De.nx σ H') → Go (pureW K C N H0) H0 [] [] (startD names ds) t De) :
    CalM P w K mg base (k + 1) C m (spX K C XA S) := by
  obtain ⟨f, fd, hm, hf, hb⟩ := F.ex
  refine ⟨f, fd, ps, hm, hb, hf.okX sc (fun vs H Q E ⟨_, ds, Pd, PE, r, _, s, _⟩ => r.len.trans (hl ds Pd PE s)) fun cdv A outer s H vs Q E hr h => ?_⟩
  obtain ⟨N, ds, Pd, PE, r, fr, hS, hq, he⟩ := h
  obtain ⟨t, ht, g⟩ := body f cdv A outer s H E hr
  refine ⟨t, ht, g N H ds Pd PE hS he { nx := fun _ H' => Q .non H', rt := Q } (fun d v H' p e r' => hq d v H' p (fun a o h => e a o h (.inl id)) r') (fun p σ H' e => hq .non .non H' p (fun a o h => e a o h (.inl id)) .non) _ _ ⟨(Slots.start names r).car ⟨fun a o h n => ⟨h, n, by simp [ads]⟩, fun a o h _ => h⟩, ⟨⟨fr, Same.refl _⟩, (fun m hm => by cases hm)⟩, Ex.refl _, (fun a ha => by cases ha), (fun x hx => by cases hx)⟩⟩
/-- the promise of an __init__ -/
def spI (K : PySem.W.Frag) (C : Addr) (XA : ExAds) (S : Spec) : Sp := fun vs H Q E => ∃ (N : Addr → Prop) (x dx : Addr) (H0 : Hp) (rest : List V) (ds : List D) (P : D → Prop) (PE : Er → Prop), vs = .ref x :: rest ∧ H0 x = none ∧ H0 dx = none ∧ dx ≠ x ∧ H = upd (upd H0 dx (.own x)) x (.ins C dx []) ∧
  RpAll K C N H0 rest ds ∧ (∀ a, H0 a = none → N a) ∧ S ds P PE ∧ (∀ d H', P d → Same H0 H' → Rp K C N H' (.ref x) d → Q .non H') ∧ ∀ er c dx H', PE er → Same H0 H' → ErAt XA er c dx H' → E c dx H'
/-- an __init__ by its body -/
structure InOk (P : Program) (w : World) (K : PySem.W.Frag) (mg : Str → Option Value) (base : Heap) (k : Nat) (C : Addr) (qual : Str) (st : Stmt) (ps : List Str) (sp : Sp) : Prop where
  ex : ∀ (f : Addr) (fd : FuncData), Fun K "__init__" qual st f fd → FnOk P w K mg base (L2.CX P w) k f fd ps sp
theorem fn_I {qual : Str} {st : Stmt} {names ps : List Str} {k : Nat} {C : Addr} {XA : ExAds} {S : Spec} (sc : FnScope names ps (defScope st)) (hl : ∀ ds Q E, S ds Q E → ds.length + 1 = ps.length)
    (body : ∀ (f : Addr) (cdv : Value) (A : Around) (outer : List Env) (s : Shared) (H : Hp) (E : XK), Room k (A.deeper (envOfC qual (defScope st) s.heap.objs.size f cdv)) →
      ∃ t, PSs (cxOf (L2.CX P w) P w K mg base names qual (defScope st) f cdv A outer s H E) (defBody st) t ∧
        ∀ (N : Addr → Prop) (H0 : Hp) (x : Addr) (ds : List D) (Pd : D → Prop) (PE : Er → Prop), S ds Pd PE → (∀ er c dx H', PE er → Same H0 H' → ErAt XA er c dx H' → E c dx H') → N x →
          ∀ De : Ends, (∀ d H', Pd d → Ex (fun _ => False) H0 H' → (pureW K C N H0).Rp H' (.ref x) d → ∀ σ, De.nx σ H') → Go (pureW K C N H0) H0 [] [(x, .ins [])] (startD names (.adr x :: ds)) t De) :
    InOk P w K mg base (k + 1) C qual st ps (spI K C XA S) := ⟨fun f fd hf => by
  refine hf.okX sc (fun vs H Q E ⟨_, x, dx, H0, rest, ds, Pd, PE, e, _, _, _, _, r, _, s, _⟩ => by rw [e, List.length_cons, r.len]; exact hl ds Pd PE s) fun cdv A outer s H vs Q E hr h => ?_
  obtain ⟨N, x, dx, H0, rest, ds, Pd, PE, rfl, hx, hdx, hne, rfl, r, fr, hS, hq, he⟩ := h
  obtain ⟨t, ht, g⟩ := body f cdv A outer s _ E hr
  have sm : Same H0 (upd (upd H0 dx (.own x)) x (.ins C dx [])) := fun a o h => by
    rw [upd_ne (ne_of_none h hx), upd_ne (ne_of_none h hdx)]; exact h
  refine ⟨t, ht, g N H0 x ds Pd PE hS he (fr x hx) { nx := fun _ H' => Q .non H', rt := Q } (fun d H' p e r' σ => hq d H' p (fun a o h => e a o h (.inl id)) r') _ _ ⟨(Slots.start names (.cons (.adr x) r)).car ⟨fun a o h n => ⟨sm _ _ h, n, fun hm => (by rw [List.mem_singleton.mp hm, hx] at h; cases h)⟩, fun a o h _ => sm _ _ h⟩, ⟨⟨fun a h => fr a (sm.free h), sm⟩, (fun m hm => (by rw [List.mem_singleton.mp hm]; exact ⟨fun z => z, dx, [], upd_same, .nil⟩))⟩, Ex.same sm, (fun a ha => (by rw [List.mem_singleton.mp ha]; exact hx)), (fun x hx => by cases hx)⟩⟩⟩
end
/-- a property of the class at C -/
structure DfP (K : PySem.W.Frag) (C : Addr) (m qual : Str) (st : Stmt) (ps : List Str) : Prop where
  ex : ∃ (p g : Addr) (fd : FuncData), PropOf K C m p g ∧ Fun K m qual st g fd ∧ Binds K fd ps []
structure CalP (P : Program) (w : World) (K : PySem.W.Frag) (mg : Str → Option Value) (base : Heap) (k : Nat) (C : Addr) (m : Str) (sp : Sp) : Prop where
  ex : ∃ (p g : Addr) (fd : FuncData) (ps : List Str), PropOf K C m p g ∧ Binds K fd ps [] ∧ FnOk P w K mg base (L2.CX P w) k g fd ps sp
section
variable {P : Program} {w : World} {K : PySem.W.Frag} {mg : Str → Option Value} {base : Heap}
theorem fn_P {m qual : Str} {st : Stmt} {names ps : List Str} {k : Nat} {C : Addr} {XA : ExAds} {S : Spec} (F : DfP K C m qual st ps) (sc : FnScope names ps (defScope st)) (hl : ∀ ds Q E, S ds Q E → ds.length = ps.length)
    (body : ∀ (f : Addr) (cdv : Value) (A : Around) (outer : List Env) (s : Shared) (H : Hp) (E : XK), Room k (A.deeper (envOfC qual (defScope st) s.heap.objs.size f cdv)) →
      ∃ t, PSs (cxOf (L2.CX P w) P w K mg base names qual (defScope st) f cdv A outer s H E) (defBody st) t ∧
        ∀ (N : Addr → Prop) (H0 : Hp) (ds : List D) (Pd : D → Prop) (PE : Er → Prop), S ds Pd PE → (∀ er c dx H', PE er → Same H0 H' → ErAt XA er c dx H' → E c dx H') →
          ∀ De : Ends, (∀ d v H', Pd d → Ex (fun _ => False) H0 H' → (pureW K C N H0).Rp H' v d → De.rt v H') → (Pd .non → ∀ σ H', Ex (fun _ => False) H0 H' → De.nx σ H') → Go (pureW K C N H0) H0 [] [] (startD names ds) t De) :
    CalP P w K mg base (k + 1) C m (spX K C XA S) := by
  obtain ⟨p, f, fd, hm, hf, hb⟩ := F.ex
  refine ⟨p, f, fd, ps, hm, hb, hf.okX sc (fun vs H Q E ⟨_, ds, Pd, PE, r, _, s, _⟩ => r.len.trans (hl ds Pd PE s)) fun cdv A outer s H vs Q E hr h => ?_⟩
  obtain ⟨N, ds, Pd, PE, r, fr, hS, hq, he⟩ := h
  obtain ⟨t, ht, g⟩ := body f cdv A outer s H E hr
  refine ⟨t, ht, g N H ds Pd PE hS he { nx := fun _ H' => Q .non H', rt := Q } (fun d v H' p e r' => hq d v H' p (fun a o h => e a o h (.inl id)) r') (fun p σ H' e => hq .non .non H' p (fun a o h => e a o h (.inl id)) .non) _ _ ⟨(Slots.start names r).car ⟨fun a o h n => ⟨h, n, by simp [ads]⟩, fun a o h _ => h⟩, ⟨⟨fr, Same.refl _⟩, (fun m hm => by cases hm)⟩, Ex.refl _, (fun a ha => by cases ha), (fun x hx => by cases hx)⟩⟩
end
section
variable {X : Cx} {m : Str} {pos : Pos} {o : Expr} {ta : TE} {sp : Sp} {j k : Nat} {C : Addr}
theorem pe_propC (he : PE X o ta) (c : CalP X.prog X.w X.K X.mg X.base k C m sp) (cl : Cls X.K C) (hr : Room j X.A) (hk : k + 1 ≤ j := by decide) (hab : attributeBase o m X.env (eval o X.env) = eval o X.env := by rfl) : PE X (.Attribute o m pos) (tProp C sp [] E0 ta) := by
  obtain ⟨p, g, fd, ps, h1, h2, h3⟩ := c.ex
  exact pe_prop he cl h1 h3 (hr.mono hk) h2 .nil passL hab
end
section
variable {w : Wd} {δ : List (Option D)} {P : D → Prop} {XA : ExAds} {S : Spec} {te : TE} {fs : List (Str × D)} {E : XK}
theorem ev_prop (h : Ev w te δ (.ins fs)) (hS : S [.ins fs] P fun _ => False) : EvP w (tProp w.C (spX w.K w.C XA S) [] E te) δ P := fun ok σ H e I Q q =>
  h ok σ H e I _ fun d v H1 p e1 I1 r => by
    subst p
    cases r with
    | @ins a dx vs _ n hs rr =>
      exact ⟨a, dx, vs, rfl, hs, w.N, [.ins fs], P, _, .cons (.ins n hs rr) .nil, fun a ha => ok.fr _ _ I1 ha, hS, fun d v H' pd s r' => q d v H' pd (e1.trans (Ex.same s)) (ok.ext _ _ I1 s) r', fun _ _ _ _ z _ _ => z.elim⟩
end
end Lr
set_option Elab.async false
set_option maxRecDepth 100000
set_option maxHeartbeats 4000000
set_option linter.all false
set_option autoImplicit false
/-! class Table. -/
namespace Lr
open PySem L2 PyProof.Rows
abbrev s_Table_words : Stmt := inClass (topS 52) 6
abbrev ns_Table_words : List Str := ["self"]
theorem sc_Table_words : FnScope ns_Table_words ["self"] (defScope s_Table_words) := ⟨rfl, rfl, rfl, by decide +kernel, rfl, by decide +kernel, by decide +kernel⟩
abbrev s_Table_gaps : Stmt := inClass (topS 52) 10
abbrev ns_Table_gaps : List Str := ["self"]
theorem sc_Table_gaps : FnScope ns_Table_gaps ["self"] (defScope s_Table_gaps) := ⟨rfl, rfl, rfl, by decide +kernel, rfl, by decide +kernel, by decide +kernel⟩
abbrev s_Table_pairs : Stmt := inClass (topS 52) 13
abbrev ns_Table_pairs : List Str := ["self"]
theorem sc_Table_pairs : FnScope ns_Table_pairs ["self"] (defScope s_Table_pairs) := ⟨rfl, rfl, rfl, by decide +kernel, rfl, by decide +kernel, by decide +kernel⟩
abbrev s_Table_token : Stmt := inClass (topS 52) 7
abbrev ns_Table_token : List Str := ["self", "word"]
theorem sc_Table_token : FnScope ns_Table_token ["self", "word"] (defScope s_Table_token) := ⟨rfl, rfl, rfl, by decide +kernel, rfl, by decide +kernel, by decide +kernel⟩
abbrev s_Table_first_word : Stmt := inClass (topS 52) 12
abbrev ns_Table_first_word : List Str := ["self", "token", "n", "width", "many", "found", "word"]
theorem sc_Table_first_word : FnScope ns_Table_first_word ["self", "token"] (defScope s_Table_first_word) := ⟨rfl, rfl, rfl, by decide +kernel, rfl, by decide +kernel, by decide +kernel⟩
abbrev s_Table_full : Stmt := inClass (topS 52) 1
abbrev ns_Table_full : List Str := ["self"]
theorem sc_Table_full : FnScope ns_Table_full ["self"] (defScope s_Table_full) := ⟨rfl, rfl, rfl, by decide +kernel, rfl, by decide +kernel, by decide +kernel⟩
abbrev s_Table_is_begun : Stmt := inClass (topS 52) 9
abbrev ns_Table_is_begun : List Str := ["self", "bits"]
theorem sc_Table_is_begun : FnScope ns_Table_is_begun ["self", "bits"] (defScope s_Table_is_begun) := ⟨rfl, rfl, rfl, by decide +kernel, rfl, by decide +kernel, by decide +kernel⟩
abbrev s_Table___contains : Stmt := inClass (topS 52) 4
abbrev ns_Table___contains : List Str := ["self", "word"]
theorem sc_Table___contains : FnScope ns_Table___contains ["self", "word"] (defScope s_Table___contains) := ⟨rfl, rfl, rfl, by decide +kernel, rfl, by decide +kernel, by decide +kernel⟩
abbrev s_Table___eq : Stmt := inClass (topS 52) 5
abbrev ns_Table___eq : List Str := ["self", "other"]
theorem sc_Table___eq : FnScope ns_Table___eq ["self", "other"] (defScope s_Table___eq) := ⟨rfl, rfl, rfl, by decide +kernel, rfl, by decide +kernel, by decide +kernel⟩
abbrev s_Table___init : Stmt := inClass (topS 52) 0
abbrev ns_Table___init : List Str := ["self", "rows", "n", "width", "many", "tables", "sign", "_"]
theorem sc_Table___init : FnScope ns_Table___init ["self", "rows", "n", "width", "many", "tables"] (defScope s_Table___init) := ⟨rfl, rfl, rfl, by decide +kernel, rfl, by decide +kernel, by decide +kernel⟩
/-- what a table keeps -/
structure TabD where
  z : Z3
  ps : List PairR
  W : List W
  ws : List (List Bool)
  rs : List (Str × D)
  gs : List (List Bool)
abbrev TabD.fs (t : TabD) : List (Str × D) := [("_sizes", .tup [.int (t.z.n : Nat), .int (t.z.w : Nat), .int (t.z.m : Nat)]), ("_pairs", .tup (t.ps.map PairR.d)), ("_tokens", .dic (t.W.map kvW)), ("_words", .lst (t.ws.map txt)), ("_rests", .dic t.rs), ("_gaps", .lst (t.gs.map txt))]
abbrev TabD.d (t : TabD) : D := .ins t.fs
section
variable {P : Program} {w : World} {K : PySem.W.Frag} {mg : Str → Option Value} {base : Heap} {C : Addr} {XA : ExAds}
def sTWords : Spec := fun ds P _ => ∃ t : TabD, ds = [t.d] ∧ P (.lst (t.ws.map txt))
theorem c_Table_words (F : DfM K C "words" "Table.words" s_Table_words ["self"]) (B : Blt mg) (cl : Cls K C) (n_words : NoAttr K C "_words") : CalM P w K mg base 1 C "words" (spX K C XA sTWords) := by
  refine fn_M F sc_Table_words (fun ds Q E ⟨_, e, _⟩ => by rw [e]; rfl) fun f cdv A outer s H E hr => ⟨_, (pss_one (ps_ret (pe_callTy (xList K) rfl B.b_list bt_list (pa_cons (pe_fld (pv 0) rfl) pa_nil)))), ?_⟩
  rintro N H0 ds Pd PE ⟨t, rfl, hp⟩ hE De hrt hnx
  have bb := pure_base (K := K) (C := C) (N := N) (H0 := H0)
  refine go_ret bb.ok (ev_cb (ea_cons (ev_fld (w := (pureW K C N H0).wi []) cl n_words (ev_var (i := 0) rfl) rfl) ea_nil) rc_listL) fun d v H pd e I r => ?_
  subst pd
  exact hrt _ _ _ hp e r
def sTGaps : Spec := fun ds P _ => ∃ t : TabD, ds = [t.d] ∧ P (.lst (t.gs.map txt))
theorem c_Table_gaps (F : DfM K C "gaps" "Table.gaps" s_Table_gaps ["self"]) (B : Blt mg) (cl : Cls K C) (n_gaps : NoAttr K C "_gaps") : CalM P w K mg base 1 C "gaps" (spX K C XA sTGaps) := by
  refine fn_M F sc_Table_gaps (fun ds Q E ⟨_, e, _⟩ => by rw [e]; rfl) fun f cdv A outer s H E hr => ⟨_, (pss_one (ps_ret (pe_callTy (xList K) rfl B.b_list bt_list (pa_cons (pe_fld (pv 0) rfl) pa_nil)))), ?_⟩
  rintro N H0 ds Pd PE ⟨t, rfl, hp⟩ hE De hrt hnx
  have bb := pure_base (K := K) (C := C) (N := N) (H0 := H0)
  refine go_ret bb.ok (ev_cb (ea_cons (ev_fld (w := (pureW K C N H0).wi []) cl n_gaps (ev_var (i := 0) rfl) rfl) ea_nil) rc_listL) fun d v H pd e I r => ?_
  subst pd
  exact hrt _ _ _ hp e r
def sTPairs : Spec := fun ds P _ => ∃ t : TabD, ds = [t.d] ∧ P (.tup (t.ps.map PairR.d))
theorem c_Table_pairs (F : DfM K C "pairs" "Table.pairs" s_Table_pairs ["self"]) (cl : Cls K C) (n_pairs : NoAttr K C "_pairs") : CalM P w K mg base 1 C "pairs" (spX K C XA sTPairs) := by
  refine fn_M F sc_Table_pairs (fun ds Q E ⟨_, e, _⟩ => by rw [e]; rfl) fun f cdv A outer s H E hr => ⟨_, (pss_one (ps_ret (pe_fld (pv 0) rfl))), ?_⟩
  rintro N H0 ds Pd PE ⟨t, rfl, hp⟩ hE De hrt hnx
  have bb := pure_base (K := K) (C := C) (N := N) (H0 := H0)
  refine go_ret bb.ok (ev_fld (w := (pureW K C N H0).wi []) cl n_pairs (ev_var (i := 0) rfl) rfl) fun d v H pd e I r => ?_
  subst pd
  exact hrt _ _ _ hp e r
def sTFull : Spec := fun ds P _ => ∃ t : TabD, ds = [t.d] ∧ P (.bl (decide (t.gs.length = 0)))
theorem c_Table_full (F : DfP K C "full" "Table.full" s_Table_full ["self"]) (B : Blt mg) (cl : Cls K C) (n_gaps : NoAttr K C "_gaps") : CalP P w K mg base 1 C "full" (spX K C XA sTFull) := by
  refine fn_P F sc_Table_full (fun ds Q E ⟨_, e, _⟩ => by rw [e]; rfl) fun f cdv A outer s H E hr => ⟨_, (pss_one (ps_ret (pe_cmpR (xEq K hr.units) (pe_callB (xLen K) rfl B.b_len bt_len (pa_cons (pe_fld (pv 0) rfl) pa_nil)) pe_int (nomark _)))), ?_⟩
  rintro N H0 ds Pd PE ⟨t, rfl, hp⟩ hE De hrt hnx
  have bb := pure_base (K := K) (C := C) (N := N) (H0 := H0)
  refine go_ret bb.ok (ev_op (ev_cb (ea_cons (ev_fld (w := (pureW K C N H0).wi []) cl n_gaps (ev_var (i := 0) rfl) rfl) ea_nil) (rc_len (n := t.gs.length) (congrArg some (List.length_map _)))) ev_int r2_eI) fun d v H pd e I r => ?_
  subst pd
  rw [show decide (((t.gs.length : Nat) : Int) = 0) = decide (t.gs.length = 0) from by rw [decide_eq_decide]; omega] at r
  exact hrt _ _ _ hp e r
def sTToken : Spec := fun ds P _ => ∃ (t : TabD) (v : List Bool) (k : D), ds = [t.d, txt v] ∧ valD (t.W.map kvW) (bs v) = some k ∧ P k
theorem c_Table_token (F : DfM K C "token" "Table.token" s_Table_token ["self", "word"]) (B : Blt mg) (cl : Cls K C) (n_tokens : NoAttr K C "_tokens") {xb : Addr} (x_BadBits : ErrC K mg "BadBits" xb) : CalM P w K mg base 1 C "token" (spX K C XA sTToken) := by
  refine fn_M F sc_Table_token (fun ds Q E ⟨_, _, _, e, _⟩ => by rw [e]; rfl) fun f cdv A outer s H E hr => ⟨_, (pss_cons (ps_if (PW.pt (pw_or (pt_not (pt_val (pe_callB call_isi rfl B.b_isinstance bt_isinstance (pa_cons (pv 1) (pa_cons (pe_bltn (v := .ty "str") rfl B.b_str bt_str rfl) pa_nil))))) (pw_or1 (pt_cmp (pc_dnotin hr.u1 (pv 1) (pe_fld (pv 0) rfl)))))) (pss_one (ps_raise rfl (takes_of rfl rfl rfl rfl) (x_BadBits.mk0 rfl))) pss_nil)
        (pss_one (ps_ret (pe_dget hr.u1 (pe_fld (pv 0) rfl) (pv 1) (fun _ _ => rfl))))), ?_⟩
  rintro N H0 ds Pd PE ⟨t, v, k, rfl, hk, hp⟩ hE De hrt hnx
  have bb := pure_base (K := K) (C := C) (N := N) (H0 := H0)
  have ft : Ev ((pureW K C N H0).wi []) (tFld K (tVar 0) "_tokens") [some t.d, some (txt v)] (.dic (t.W.map kvW)) := ev_fld (w := (pureW K C N H0).wi []) cl n_tokens (ev_var (i := 0) rfl) rfl
  refine go_when bb.ok (Pb := fun b => b = false) (et_is (et_ord (et_notd (et_Bd (ev_isi (T := "str") (k := true) (ev_var (i := 1) rfl) rfl rfl))) fun _ => et_Bd (ev_dnotin (ev_var (i := 1) rfl) ft)) (by rw [hk]; rfl)) (fun h => by cases h) fun _ => ?_
  refine go_ret bb.ok (ev_dget ft (ev_var (i := 1) rfl) hk) fun d v H pd e I r => ?_
  subst pd
  exact hrt _ _ _ hp e r
def sTIsBegun : Spec := fun ds P _ => ∃ (t : TabD) (v : List Bool), ds = [t.d, txt v] ∧ P (.bl (valD t.rs (bs v)).isSome)
theorem c_Table_is_begun (F : DfM K C "is_begun" "Table.is_begun" s_Table_is_begun ["self", "bits"]) (B : Blt mg) (cl : Cls K C) (n_rests : NoAttr K C "_rests") : CalM P w K mg base 1 C "is_begun" (spX K C XA sTIsBegun) := by
  refine fn_M F sc_Table_is_begun (fun ds Q E ⟨_, _, e, _⟩ => by rw [e]; rfl) fun f cdv A outer s H E hr => ⟨_, (pss_one (ps_ret (pe_cmp (pc_din hr.u1 (pv 1) (pe_fld (pv 0) rfl))))), ?_⟩
  rintro N H0 ds Pd PE ⟨t, v, rfl, hp⟩ hE De hrt hnx
  have bb := pure_base (K := K) (C := C) (N := N) (H0 := H0)
  have ft : Ev ((pureW K C N H0).wi []) (tFld K (tVar 0) "_rests") [some t.d, some (txt v)] (.dic t.rs) := ev_fld (w := (pureW K C N H0).wi []) cl n_rests (ev_var (i := 0) rfl) rfl
  refine go_ret bb.ok (ev_din (ev_var (i := 1) rfl) ft) fun d v H pd e I r => ?_
  subst pd
  exact hrt _ _ _ hp e r
end
end Lr
set_option Elab.async false
set_option maxRecDepth 100000
set_option maxHeartbeats 4000000
set_option linter.all false
set_option autoImplicit false
/-! x in a table: its own __contains__. -/
namespace Lr
open PySem L2 PyProof.Rows
section
variable {X : Cx} {k : Nat} {C f : Addr} {fd : FuncData} {ps : List Str} {sp : Sp}
def rOwnIn (C : Addr) (sp : Sp) : R2 := fun x y H Q => ∃ a dx fs, y = .ref a ∧ H a = some (.ins C dx fs) ∧ sp [.ref a, x] H (fun z H' => ∃ b, z = .bl b ∧ Q (.bl b) H') E0
theorem op_ownIn (hs : PySem.W.findIn X.K (.ref C) "__contains__" = some (some (.ref f))) (hf : PySem.W.isFn X.K (.ref f) = true) (F : FnOk X.prog X.w X.K X.mg X.base (L2.CX X.prog X.w) k f fd ps sp) (hb : Binds X.K fd ps []) (hr : Room k X.A) :
    OpR X (compareOp .In) (rOwnIn C sp) := by
  intro pins s σ H x y v u Q I rx ry ⟨a, dx, fs, ey, ea, q⟩
  subst ey
  cases (show u = Value.ref a from ry)
  obtain ⟨mA, O, _, _, _, _⟩ := ins_get I.hok ea
  obtain ⟨od, J, _⟩ := O.look
  obtain ⟨m, hF⟩ := I.fr
  refine PySem.W.in_K hF I.ok.mod.kin J hs hf (wpAny_mono (run_fn (us := [.ref a, v]) (vs := [.ref a, x]) F hr hb .nil passL I (.cons rfl (.cons rx .nil)) q) (fun r s' z => ?_) fun _ _ x => x)
  obtain ⟨zv, H', I', rz, b, eb, qz⟩ := z
  subst eb
  cases rz
  exact wpAny_truthy_bool ⟨.bl b, H', I', rfl, qz⟩
end
end Lr
set_option Elab.async false
set_option maxRecDepth 100000
set_option maxHeartbeats 4000000
set_option linter.all false
set_option autoImplicit false
/-! == of tables. -/
namespace Lr
open PySem L2 PyProof.Rows
/-- two values of the same data -/
def SameD (K : PySem.W.Frag) (H : Hp) (x y : V) : Prop := ∃ d, Dp K H x d ∧ Dp K H y d ∧ SeqAt.shaped d = true ∧ PyData.eqv d d = true
def rEqKv (K : PySem.W.Frag) : R2 := fun x y H Q => EqR K H (SameD K H) x y ∧ Q (.bl true) H
theorem op_eqKv {X : Cx} (hu : X.A.units + 66 < cLine) : OpR X (compareOp .Eq) (rEqKv X.K) := by
  intro pins s σ H x y v u Q I rx ry ⟨h, q⟩
  refine eqR_run I (A := X.A) (by omega) (fun x y v u ⟨d, hd, he, sd, e⟩ rx ry => ?_) h rx ry _ _ ⟨.bl true, H, I, rfl, q⟩
  obtain ⟨as, r1⟩ := Dp.reads I d x v hd rx
  obtain ⟨bs, r2⟩ := Dp.reads I d y u he ry
  have := PySem.W.keq_at (A := X.A) r1 r2 sd sd (by show X.A.units + 1 + 64 < cLine; omega)
  rw [e] at this
  exact this.eqP
end Lr
set_option Elab.async false
set_option maxRecDepth 100000
set_option maxHeartbeats 4000000
set_option linter.all false
set_option autoImplicit false
/-! Table: x in table, ==, first_word. -/
namespace Lr
open PySem L2 PyProof.Rows
theorem _root_.L2.Room.u66 {k : Nat} {A : Around} (r : Room k A) : A.units + 66 < cLine := by have := r.un; omega
section
variable {b : Wd} {H0 : Hp} {Γ : List (V × D)} {M : ML} {δ : List (Option D)} {te : TE} {tz : TS} {De : Ends} {P : D → Prop} {g : TG}
theorem go_asgG (ok : b.Ok) (h : EvP (b.wi M) te δ P) (k : ∀ d, P d → ∃ δ', EvG (b.wi M) g d δ δ' ∧ Go b H0 Γ M δ' tz De) : Go b H0 Γ M δ (tSeq (tAsg te g) tz) De := fun σ H p =>
  h (ok.wi M) σ H p.env p.inv _ fun d v H1 pd e1 I1 r => by
    obtain ⟨δ', eg, kk⟩ := k d pd
    have p1 := p.step ok e1 I1
    exact eg σ H1 v p1.env r _ fun σ' e' => kk σ' H1 (p1.slots e')
end
/-! words and their tokens -/
theorem valD_kv : ∀ {Ws : List W} {q : W}, (Ws.map (·.1)).Nodup → q ∈ Ws → valD (Ws.map kvW) (bs q.1) = some q.2.d
  | [], _, _, h => by cases h
  | x :: l, q, hn, h => by
    obtain ⟨h1, h2⟩ := List.nodup_cons.mp hn
    rw [List.map_cons]
    rcases List.mem_cons.mp h with rfl | h
    · exact valD_pos rfl
    · rw [valD_neg fun e => h1 (List.mem_map.mpr ⟨q, h, (bs_inj e).symm⟩)]
      exact valD_kv h2 h
theorem valD_in {Ws : List W} {v : List Bool} : (valD (Ws.map kvW) (bs v)).isSome = decide (v ∈ Ws.map (·.1)) := by
  rw [valD_isSome, List.map_map, show ((fun x : Str × D => x.1) ∘ kvW) = (bs ∘ fun x : List Bool × Tok => x.1) from rfl, ← List.map_map]
  exact decide_eq_decide.mpr mem_bs
structure TabOk (t : TabD) (A : List W) : Prop where
  z : t.z.Ok
  ws : t.ws = A.map (·.1)
  perm : t.W.Perm A
  pre : WsOk (A.map (·.1))
  few : A.length ≤ 120
  gaps : ∃ B : List (List Bool), t.rs.map (·.1) = B.map bs ∧ B.Nodup ∧ (∀ p, p ∈ B ↔ Begun (A.map (·.1)) p) ∧ t.gs.Perm (gapsOf (A.map (·.1)) B)
theorem TabOk.nodup {t : TabD} {A : List W} (h : TabOk t A) : (t.W.map (·.1)).Nodup := (h.perm.map (·.1)).nodup_iff.mpr h.pre.nodup
theorem TabOk.tok {t : TabD} {A : List W} (h : TabOk t A) {q : W} (hq : q ∈ A) : valD (t.W.map kvW) (bs q.1) = some q.2.d := valD_kv h.nodup (h.perm.mem_iff.mpr hq)
theorem TabOk.len {t : TabD} {A : List W} (h : TabOk t A) {q : W} (hq : q ∈ A) : 1 ≤ q.1.length ∧ q.1.length ≤ 16 := ⟨h.pre.ne _ (List.mem_map_of_mem hq), h.pre.len _ (List.mem_map_of_mem hq)⟩
theorem TabOk.isIn {t : TabD} {A : List W} (h : TabOk t A) {v : List Bool} : (valD (t.W.map kvW) (bs v)).isSome = decide (v ∈ A.map (·.1)) := by
  rw [valD_in]
  exact decide_eq_decide.mpr ((h.perm.map (·.1)).mem_iff)
section
variable {P : Program} {w : World} {K : PySem.W.Frag} {mg : Str → Option Value} {base : Heap} {C : Addr} {XA : ExAds}
def sTContains : Spec := fun ds P _ => ∃ (t : TabD) (v : List Bool), ds = [t.d, txt v] ∧ P (.bl (valD (t.W.map kvW) (bs v)).isSome)
theorem c_Table_contains (F : DfM K C "__contains__" "Table.__contains__" s_Table___contains ["self", "word"]) (B : Blt mg) (cl : Cls K C) (n_tokens : NoAttr K C "_tokens") : CalM P w K mg base 1 C "__contains__" (spX K C XA sTContains) := by
  refine fn_M F sc_Table___contains (fun ds Q E ⟨_, _, e, _⟩ => by rw [e]; rfl) fun f cdv A outer s H E hr => ⟨_, (pss_one (ps_ret (pe_and (pe_callB call_isi rfl B.b_isinstance bt_isinstance (pa_cons (pv 1) (pa_cons (pe_bltn (v := .ty "str") rfl B.b_str bt_str rfl) pa_nil))) (pe_one (pe_cmp (pc_din hr.u1 (pv 1) (pe_fld (pv 0) rfl))))))), ?_⟩
  rintro N H0 ds Pd PE ⟨t, v, rfl, hp⟩ hE De hrt hnx
  have bb := pure_base (K := K) (C := C) (N := N) (H0 := H0)
  have ft : Ev ((pureW K C N H0).wi []) (tFld K (tVar 0) "_tokens") [some t.d, some (txt v)] (.dic (t.W.map kvW)) := ev_fld (w := (pureW K C N H0).wi []) cl n_tokens (ev_var (i := 0) rfl) rfl
  refine go_ret bb.ok (ev_andV (ev_isi (T := "str") (k := true) (ev_var (i := 1) rfl) rfl rfl) fun _ => ev_one (ev_din (ev_var (i := 1) rfl) ft)) fun d v H pd e I r => ?_
  subst pd
  exact hrt _ _ _ hp e r
def sTFirst : Spec := fun ds P PE => ∃ (t : TabD) (A : List W) (k : TokR), ds = [t.d, k.d] ∧ TabOk t A ∧ (∀ q, k = .tk q → q.okB t.z = true → P (optW (firstW A q))) ∧ (k.okB t.z = false → PE .token)
theorem c_Table_first (F : DfM K C "first_word" "Table.first_word" s_Table_first_word ["self", "token"]) (B : Blt mg) (cl : Cls K C) (n_sizes : NoAttr K C "_sizes") (n_words : NoAttr K C "_words") (n_tokens : NoAttr K C "_tokens")
    (c_check_token : Cal P w K mg base 4 "check_token" (spX K C XA sCheckToken)) : CalM P w K mg base 5 C "first_word" (spX K C XA sTFirst) := by
  refine fn_M F sc_Table_first_word (fun ds Q E ⟨_, _, _, e, _⟩ => by rw [e]; rfl) fun f cdv A outer s H E hr => ⟨_, (pss_cons (ps_asg (pe_fld (pv 0) rfl) (pg_tup rfl (pgs_cons (pg_nm 2 sc_Table_first_word.nd) (pgs_cons (pg_nm 3 sc_Table_first_word.nd) (pgs_cons (pg_nm 4 sc_Table_first_word.nd) pgs_nil)))))
        (pss_cons (ps_expr (pe_calX (takes_of rfl rfl rfl rfl) c_check_token hr (pa_cons (pv 1) (pa_cons (pv 2) (pa_cons (pv 3) (pa_cons (pv 4) pa_nil))))))
        (pss_cons (ps_st 5 sc_Table_first_word.nd pe_non)
        (pss_cons (ps_for (passes_of rfl) rfl (pi_list (pe_fld (pv 0) rfl)) (pg_nm 6 sc_Table_first_word.nd) (pss_one (ps_if (PW.pt (pw_and (pt_cmpR (xEq K hr.units) (pe_dget hr.u1 (pe_fld (pv 0) rfl) (pv 6) (fun _ _ => rfl)) (pv 1) (nomark _)) (pw_and1 (PW.pt (pw_or (pt_cmpR xIs (pv 5) pe_non (nomark _)) (pw_or1 (pt_cmpR xLt (pe_callB (xLen K) rfl B.b_len bt_len (pa_cons (pv 6) pa_nil)) (pe_callB (xLen K) rfl B.b_len bt_len (pa_cons (pv 5) pa_nil)) (nomark _)))))))) (pss_one (ps_st 5 sc_Table_first_word.nd (pv 6))) pss_nil)))
        (pss_one (ps_ret (pv 5))))))), ?_⟩
  rintro N H0 ds Pd PE ⟨t, A, k, rfl, ht, hp, hpe⟩ hE De hrt hnx
  have bb := pure_base (K := K) (C := C) (N := N) (H0 := H0)
  have fld : ∀ {M : ML} {δ : List (Option D)} {f : Str} {d : D}, δ[0]? = some (some t.d) → NoAttr K C f → t.fs.lookup f = some d → Ev ((pureW K C N H0).wi M) (tFld K (tVar 0) f) δ d := fun {M δ f d} h0 n hf => ev_fld (w := (pureW K C N H0).wi M) cl n (ev_var (i := 0) h0) hf
  refine go_asgG bb.ok (fld rfl n_sizes rfl) fun d pd => ?_
  subst pd
  refine ⟨_, eg_tup (eg_cons eg_name (eg_cons eg_name (eg_cons eg_name eg_nil))), ?_⟩
  refine go_drop bb.ok (ev_callX (P := fun _ => k.okB t.z = true) (PE := fun er => er = .token ∧ k.okB t.z = false) (ea_cons (ev_var (i := 1) rfl) (ea_cons (ev_var (i := 2) rfl) (ea_cons (ev_var (i := 3) rfl) (ea_cons (ev_var (i := 4) rfl) ea_nil)))) ⟨k, t.z, rfl, ht.z, fun h => h, fun h => ⟨rfl, h⟩⟩ fun er c dx H' ⟨e, h⟩ I ea => by
    subst e
    exact hE .token _ _ _ (hpe h) (same_in I) ea) fun ⟨d, hk⟩ => ?_
  obtain ⟨q, rfl⟩ : ∃ q, k = .tk q := by
    cases k with
    | tk q => exact ⟨q, rfl⟩
    | bad => cases hk
    | non => cases hk
  refine go_asg bb.ok ev_non fun _ e => ?_
  subst e
  refine go_for bb (ei_lst (fld rfl n_words rfl)) (fun i δ M => M = [] ∧ ∃ u : Option D, δ = [some t.d, some q.d, some (.int (t.z.n : Nat)), some (.int (t.z.w : Nat)), some (.int (t.z.m : Nat)), some (optW (firstW (A.take i) q)), u]) ⟨rfl, none, rfl⟩ ?_ ?_
  · rintro x i d δ' M' hd ea ⟨rfl, u, rfl⟩
    rw [ht.ws, List.getElem?_map, List.getElem?_map] at hd
    cases e : A[i]? with
    | none => rw [e] at hd; cases hd
    | some p =>
      rw [e] at hd
      have hd := Option.some.inj hd
      subst hd
      have hpA := List.mem_of_getElem? e
      have hlen := ht.len hpA
      have step : firstW (A.take (i + 1)) q = if (decide (p.2 = q) && better (firstW (A.take i) q) p.1) = true then some p.1 else firstW (A.take i) q := by
        unfold firstW
        rw [take_succ' e, List.foldl_append]
        rfl
      refine ⟨_, eg_name, ?_⟩
      have lenW : ∀ {δ : List (Option D)} {j : Nat} {v : List Bool}, v.length ≤ 16 → δ[j]? = some (some (txt v)) → Ev ((pureW K C N H0).wi []) (tCB (rLenU K) (tCons (tVar j) tNil)) δ (.int (v.length : Nat)) := fun {δ j v} hv h => ev_cb (P := fun d => d = .int (v.length : Nat)) (ea_cons (ev_var h) ea_nil) (rc_len (by show (if (bs v).length ≤ 100000 then some (bs v).length else none) = _; rw [bs_len, if_pos (by omega)]))
      have t1 : ∀ {δ : List (Option D)}, δ[0]? = some (some t.d) → δ[1]? = some (some q.d) → δ[6]? = some (some (txt p.1)) → Ev ((pureW K C N H0).wi []) (tOp (rEqU K) (tDGet (tFld K (tVar 0) "_tokens") (tVar 6)) (tVar 1)) δ (.bl (decide (p.2 = q))) := fun h0 h1 h6 =>
        ev_is (ev_op (a := p.2.d) (ev_dget (fld h0 n_tokens rfl) (ev_var h6) (ht.tok hpA)) (ev_var h1) (r2_eD (eqOk_sh (Tok.sh _)) (eqOk_sh (Tok.sh _)))) (by unfold deq; rw [tok_eqv])
      have hfl : ∀ v, firstW (A.take i) q = some v → v.length ≤ 16 := fun v hv => by
        have : ∀ (l : List W) (a : Option (List Bool)), (∀ v, a = some v → v.length ≤ 16) → (∀ p ∈ l, p.1.length ≤ 16) → ∀ v, l.foldl (fun a p => if (decide (p.2 = q) && better a p.1) = true then some p.1 else a) a = some v → v.length ≤ 16 := by
          intro l
          induction l with
          | nil => intro a h1 _ v hv; exact h1 v hv
          | cons p l ih =>
            intro a h1 h2 v hv
            refine ih _ (fun v' hv' => ?_) (fun p hp => h2 p (List.mem_cons_of_mem _ hp)) v hv
            have hv' : (if (decide (p.2 = q) && better a p.1) = true then some p.1 else a) = some v' := hv'
            split at hv'
            · rw [← Option.some.inj hv']; exact h2 p List.mem_cons_self
            · exact h1 v' hv'
        exact this (A.take i) none (fun v h => by cases h) (fun p hp => (ht.len (List.mem_of_mem_take hp)).2) v hv
      refine go_when' bb.ok (Pb := fun b => b = (decide (p.2 = q) && better (firstW (A.take i) q) p.1)) ?_ (fun h => ?_) (fun h => ?_)
      · cases e3 : firstW (A.take i) q with
        | none => exact et_is (et_andd (et_testd (t1 rfl rfl rfl)) fun _ => et_ord (y := true) (et_testd (ev_op (ev_var (i := 5) rfl) ev_non r2_is)) fun h => by cases h) rfl
        | some v => exact et_is (et_andd (et_testd (t1 rfl rfl rfl)) fun _ => et_ord (et_testd (ev_op (ev_var (i := 5) rfl) ev_non r2_is)) fun _ => et_testd (ev_op (lenW (j := 6) hlen.2 rfl) (lenW (j := 5) (hfl v e3) rfl) r2_lt)) (by simp [better, isN, optW, txt])
      · refine go_asg' bb.ok (ev_var (i := 6) rfl) fun _ e => ?_
        subst e
        refine go_kept rfl ⟨rfl, some (txt p.1), ?_⟩
        rw [step, if_pos h.symm]
        rfl
      · refine go_kept rfl ⟨rfl, some (txt p.1), ?_⟩
        rw [step, ← h, if_neg (by decide)]
        rfl
  · rintro δ' M' ea ⟨rfl, u, rfl⟩
    refine go_ret bb.ok (ev_var (i := 5) rfl) fun d v H pd e I r => ?_
    subst pd
    rw [ht.ws, List.length_map, List.length_map, List.take_length] at r
    exact hrt _ _ _ (hp q rfl hk) e r
end
/-! own rules: in, == -/
section
variable {w : Wd} {XA : ExAds} {S : Spec} {fs : List (Str × D)} {a : D} {bv : Bool}
theorem r2_ownIn (hS : S [.ins fs, a] (fun d => d = .bl bv) fun _ => False) : R2P w (rOwnIn w.C (spX w.K w.C XA S)) a (.ins fs) fun d => d = .bl bv := fun ok H x y I ra rb Q q => by
  cases rb with
  | @ins p dx vs _ n hs rr =>
    refine ⟨p, dx, vs, rfl, hs, w.N, _, _, _, .cons (.ins n hs rr) (.cons ra .nil), fun a ha => ok.fr _ _ I ha, hS, fun d v H' pd s r' => ?_, fun _ _ _ _ z _ _ => z.elim⟩
    subst pd
    cases r'
    exact ⟨bv, rfl, q _ _ H' rfl (Ex.same s) (ok.ext _ _ I s) (.bl _)⟩
end
theorem op_ownInC {X : Cx} {k j : Nat} {C : Addr} {sp : Sp} (c : CalM X.prog X.w X.K X.mg X.base k C "__contains__" sp) (hr : Room j X.A) (hk : k ≤ j := by decide) : OpR X (compareOp .In) (rOwnIn C sp) := by
  obtain ⟨f, fd, ps, h1, h2, h3⟩ := c.ex
  exact op_ownIn h1.at_ h1.fn h3 h2 (hr.mono hk)
section
variable {K : PySem.W.Frag} {C : Addr} {N : Addr → Prop} {H : Hp}
theorem RpKv.mem : ∀ {vs : List (Key × V)} {ds : List (Str × D)} {p : Key × V}, RpKv K C N H vs ds → p ∈ vs → ∃ k d, (k, d) ∈ ds ∧ p.1 = Sum.inr k ∧ Rp K C N H p.2 d
  | _, _, _, .nil, h => by cases h
  | _, _, p, .cons (k := k) (v := v) (d := d) r t, h => by
    rcases List.mem_cons.mp h with rfl | h
    · exact ⟨k, d, List.mem_cons_self, rfl, r⟩
    · obtain ⟨k', d', h1, h2, h3⟩ := RpKv.mem t h
      exact ⟨k', d', List.mem_cons_of_mem _ h1, h2, h3⟩
end
def rIsC (C : Addr) : List V → Hp → VK → Prop := fun xs H Q => ∃ a dx fs, xs = [.ref a, .ref C] ∧ H a = some (.ins C dx fs) ∧ Q (.bl true) H
theorem xIsC {X : Cx} {C : Addr} (K : PySem.W.Frag) (c : C8.InsC K C) (hK : X.K = K := by rfl) : CallR X (.builtin "isinstance") (rIsC C) := C8.call_isC (hK ▸ c)
theorem xEqKv {X : Cx} (K : PySem.W.Frag) (hu : X.A.units + 66 < cLine) (hK : X.K = K := by rfl) : OpR X (compareOp .Eq) (rEqKv K) := hK ▸ op_eqKv hu
section
variable {w : Wd} {fs : List (Str × D)}
theorem rc_isC : RCP w (rIsC w.C) [.ins fs, .adr w.C] fun d => d = .bl true := fun ok H vs I r Q q => by
  cases r with
  | cons r t =>
    cases t with
    | cons r2 t =>
      cases t
      cases r2
      cases r with
      | @ins a dx us _ n hs rr => exact ⟨a, dx, us, rfl, hs, q _ _ H rfl (Ex.refl H) I (.bl _)⟩
theorem r2_eqKv {Ws : List W} (hn : (Ws.map (·.1)).Nodup) : R2P w (rEqKv w.K) (.dic (Ws.map kvW)) (.dic (Ws.map kvW)) fun d => d = .bl true := fun ok H x y I ra rb Q q => by
  cases ra with
  | @dic a vs _ na ha ra =>
    cases rb with
    | @dic c us _ nc hc rc =>
      refine ⟨.inr ⟨a, c, vs, us, rfl, rfl, ha, hc, by rw [ra.len, rc.len], fun p hp => ?_⟩, q _ _ H rfl (Ex.refl H) I (.bl _)⟩
      obtain ⟨k, d, h1, h2, h3⟩ := ra.mem hp
      obtain ⟨g, hg, e⟩ := List.mem_map.mp h1
      obtain ⟨rfl, rfl⟩ : bs g.1 = k ∧ g.2.d = d := ⟨congrArg Prod.fst e, congrArg Prod.snd e⟩
      obtain ⟨v, hv, rv⟩ := rc.val.1 _ (valD_kv hn hg)
      have ok := eqOk_sh (Tok.sh g.2)
      have ok2 := ok
      unfold eqOk at ok2
      rw [Bool.and_eq_true] at ok2
      exact ⟨v, by rw [h2]; exact hv, pd g.2.d, h3.dp ok2.1, rv.dp ok2.1, ok2.2, deq_refl ok⟩
end
section
variable {P : Program} {w : World} {K : PySem.W.Frag} {mg : Str → Option Value} {base : Heap} {C : Addr} {XA : ExAds}
def sTEq : Spec := fun ds P _ => ∃ t t' : TabD, ds = [t.d, t'.d] ∧ t.W = t'.W ∧ (t.W.map (·.1)).Nodup ∧ P (.bl true)
theorem c_Table_eq (F : DfM K C "__eq__" "Table.__eq__" s_Table___eq ["self", "other"]) (B : Blt mg) (cl : Cls K C) (ic : C8.InsC K C) (g_Table : Gc mg "Table" (.ref C)) (n_tokens : NoAttr K C "_tokens") : CalM P w K mg base 1 C "__eq__" (spX K C XA sTEq) := by
  refine fn_M F sc_Table___eq (fun ds Q E ⟨_, _, e, _⟩ => by rw [e]; rfl) fun f cdv A outer s H E hr => ⟨_, (pss_one (ps_ret (pe_and (pe_callB (xIsC K ic) rfl B.b_isinstance bt_isinstance (pa_cons (pv 1) (pa_cons (pe_gk g_Table) pa_nil))) (pe_one (pe_cmpR (xEqKv K hr.u66) (pe_fld (pv 0) rfl) (pe_fld (pv 1) rfl) (nomark _)))))), ?_⟩
  rintro N H0 ds Pd PE ⟨t, t', rfl, hW, hn, hp⟩ hE De hrt hnx
  have bb := pure_base (K := K) (C := C) (N := N) (H0 := H0)
  have f1 : Ev ((pureW K C N H0).wi []) (tFld K (tVar 0) "_tokens") [some t.d, some t'.d] (.dic (t.W.map kvW)) := ev_fld (w := (pureW K C N H0).wi []) cl n_tokens (ev_var (i := 0) rfl) rfl
  have f2 : Ev ((pureW K C N H0).wi []) (tFld K (tVar 1) "_tokens") [some t.d, some t'.d] (.dic (t.W.map kvW)) := by
    rw [hW]
    exact ev_fld (w := (pureW K C N H0).wi []) cl n_tokens (ev_var (i := 1) rfl) rfl
  refine go_ret bb.ok (P := fun d => d = .bl true) (ev_andV (x := true) (y := true) (ev_cb (ea_cons (ev_var (i := 1) rfl) (ea_cons ev_adr ea_nil)) (rc_isC (w := (pureW K C N H0).wi []))) fun _ => ev_one (ev_op f1 f2 (r2_eqKv hn))) fun d v H pd e I r => ?_
  subst pd
  exact hrt _ _ _ hp e r
end
/-- two tables of the same words -/
def RT (K : PySem.W.Frag) (C : Addr) : Addr → Addr → Hp → Prop := fun a b H => ∃ (N : Addr → Prop) (t t' : TabD), (∀ a, H a = none → N a) ∧ Rp K C N H (.ref a) t.d ∧ Rp K C N H (.ref b) t'.d ∧ t.W = t'.W ∧ (t.W.map (·.1)).Nodup
theorem op_ownEq {X : Cx} {k j : Nat} {C : Addr} {XA : ExAds} (c : CalM X.prog X.w X.K X.mg X.base k C "__eq__" (spX X.K C XA sTEq)) (hr : Room j X.A) (hk : k ≤ j := by decide) : OpR X (compareOp .Eq) (rEqG (DIns C (RT X.K C))) := by
  obtain ⟨f, fd, ps, h1, h2, h3⟩ := c.ex
  refine op_eqG (rcG_ins (E := E0) (h3.imp (sp' := spEq (RT X.K C)) fun vs H Q E ⟨a, b, e, ⟨N, t, t', fr, ra, rb, hW, hn⟩, q⟩ => ?_) h1.at_ h1.fn h2 passL) (hr.mono hk)
  refine ⟨N, [t.d, t'.d], fun d => d = .bl true, fun _ => False, by rw [e]; exact .cons ra (.cons rb .nil), fr, ⟨t, t', rfl, hW, hn, rfl⟩, fun d v H' pd s r' => ?_, fun _ _ _ _ z _ _ => z.elim⟩
  subst pd
  cases r'
  exact q H' s
theorem r2_ownEq {w : Wd} {t t' : TabD} (hW : t.W = t'.W) (hn : (t.W.map (·.1)).Nodup) : R2P w (rEqG (DIns w.C (RT w.K w.C))) t.d t'.d fun d => d = .bl true := fun ok H x y I ra rb Q q => by
  have ra' := ra
  have rb' := rb
  cases ra with
  | @ins a dx vs _ na ha rra =>
    cases rb with
    | @ins c dy us _ nc hc rrc =>
      exact ⟨⟨a, c, dx, dy, vs, us, rfl, rfl, ha, hc, w.N, t, t', fun a ha => ok.fr _ _ I ha, ra', rb', hW, hn⟩, fun H' e => q _ _ H' rfl (Ex.same e) (ok.ext _ _ I e) (.bl _)⟩
end Lr
set_option Elab.async false
set_option maxRecDepth 100000
set_option maxHeartbeats 4000000
set_option linter.all false
set_option autoImplicit false
/-! list(d.values()); pairs as rows; what a table holds, from the mathematics. -/
namespace Lr
open PySem L2 PyProof.Rows
/-- list(o.values()) -/
def tListVals (td : TE) : TE := fun σ H Q => td σ H fun x H1 => ∃ a kvs, x = V.ref a ∧ H1 a = some (.dK kvs) ∧ ∀ l, H1 l = none → Q (.ref l) (upd H1 l (.lst (kvs.map (·.2))))
theorem kv_snd {κ : Type} {kvs : List (κ × V)} {vs : List (κ × Value)} (r : KV kvs vs) : Vals (kvs.map (·.2)) (vs.map (·.2)) := by
  unfold KV at r
  induction r with
  | nil => exact .nil
  | cons r t ih => exact .cons r.2 ih
section
variable {X : Cx} {o : Expr} {p pos apos mpos : Pos} {td : TE}
theorem pe_listVals (hc : X.calm = true) (hg : Gl X "list") (hm : X.mg "list" = none) (hd : PE X o td) (hbase : attributeBase o "values" X.env (eval o X.env) = eval o X.env := by rfl) (hline : (apos.endLine == mpos.line) = true := by rfl)
    (hse : starEach [Expr.Call (.Attribute o "values" apos) [] [] mpos] X.env = [(false, eval (Expr.Call (.Attribute o "values" apos) [] [] mpos) X.env)] := by rfl) :
    PE X (.Call (.Name "list" p) [.Call (.Attribute o "values" apos) [] [] mpos] [] pos) (tListVals td) := by
  refine ⟨fun pins s σ H Q I h => ?_⟩
  refine wpAny_Call_Name_kw (ld_blt I hg hm (u := .type "list") (by first | rfl | decide +kernel) ?_ (by first | decide +kernel | decide) (by first | decide +kernel | decide))
  rw [hse]
  refine PySem.callWith_type1 (wpAny_Call_method0_late hbase hline (thn (hd.run pins s σ H _ I h) fun v s1 ⟨x, H1, I1, r1, a, kvs, ex, ha, q⟩ => ?_))
  subst ex
  obtain rfl : v = Value.ref a := r1
  obtain ⟨hlen, hsys, vs, rel, dof⟩ := dk_of I1.hok ha
  obtain ⟨ep, dat⟩ := dof.dictAt
  have dat' := dat
  obtain ⟨ob, es, ho, ex, hdat, hko, hpr, hnd⟩ := dat'
  refine ⟨"dict", "dict.values", F.plainAttrs_dict, F.slot_dict_values, F.type_dict_values, ⟨ob, ho, ex.1⟩, fun b e => ?_, Calls.callWith_builtin rfl (PySem.evalArgs_none ?_)⟩
  · cases e
    exact ⟨ob, ho, ex.2.1⟩
  refine call_meetsIn F.slot_dict_values ⟨ob, ho, ex.1⟩ F.entry_dict_values (F.args_dict_values_1 _) (meets_dict_values (mixKind X.prog X.w) a hsys) ⟨⟨vs, dof⟩, ?_⟩
  have k1 : ∀ b u, s1.heap.get? b = some u → (s1.heap.push { cls := .type "dict_values", data := .fields #[.ref a] }).get? b = some u := fun b u e => Heap.get?_push_of_some _ e
  have dat1 : (s1.heap.push { cls := .type "dict_values", data := .fields #[.ref a] }).DictAt (mixKind X.prog X.w) a vs ep := dat.keep k1
  have hkv : kvs.length = vs.length := KV.length rel
  refine PySem.W.kdl_call (PySem.W.kdl_values (knd := mixKind X.prog X.w) (r := s1.heap.objs.size) (d := a) (kvs := vs) (ep := ep)) (I.ok.hd hc) ⟨⟨_, Heap.get?_push_size _ rfl, rfl, rfl⟩, dat1⟩ (by rw [← hkv]; exact hlen) fun h' tk acc' c' hk hL hacc => ?_
  have hsz : (s1.heap.push { cls := .type "dict_values", data := .fields #[.ref a] }).objs.size = s1.heap.objs.size + 1 := Heap.size_push _ _
  have ev : acc'.toList = vs.map (·.2) := PySem.W.kdl_vals_eq acc'.toList (by rw [Array.length_toList]; exact hacc.1) fun j v e => hacc.2 j v (by rw [← Array.getElem?_toList]; exact e)
  have hp : s1.heap.objs.size ≤ (s1.heap.push { cls := .type "dict_values", data := .fields #[.ref a] }).objs.size := by rw [hsz]; exact Nat.le_succ _
  refine ⟨.ref _, upd H1 _ (.lst (kvs.map (·.2))), I1.laid (t' := tk) (fun b u e => hk b u (k1 b u e)) hp (show ObjOk X.prog X.w _ h' _ (.lst (kvs.map (·.2))) from ⟨by rw [List.length_map]; exact hlen, acc'.toList, c', by rw [ev]; exact kv_snd rel, by rw [Array.toArray_toList]; exact hL⟩), rfl, q _ (I1.hok.fresh hp)⟩
end
theorem RpKv.snd {K : PySem.W.Frag} {C : Addr} {N : Addr → Prop} {H : Hp} : ∀ {kvs : List (Key × V)} {ds : List (Str × D)}, RpKv K C N H kvs ds → RpAll K C N H (kvs.map (·.2)) (ds.map (·.2))
  | _, _, .nil => .nil
  | _, _, .cons r t => .cons r t.snd
theorem ev_listVals {w : Wd} {δ : List (Option D)} {td : TE} {ds : List (Str × D)} (h : Ev w td δ (.dic ds)) : Ev w (tListVals td) δ (.lst (ds.map (·.2))) := fun ok σ H e I Q q =>
  h ok σ H e I _ fun d v H1 p e1 I1 r => by
    subst p
    cases r with
    | @dic a kvs _ n hs rr => exact ⟨a, kvs, rfl, hs, fun l hl => q _ _ _ rfl (e1.trans (Ex.same (same_new hl))) (ok.ext _ _ I1 (same_new hl)) (rp_lst ok I1 hl rr.snd)⟩
/-! pairs as rows -/
def PairR.row (p : PairR) : GRow := (match p.g with
  | .sg g => g
  | .bad => .stop, p.n.nat)
def rowsOf (ps : List PairR) : List GRow := ps.map PairR.row
theorem PairR.d_row {p : PairR} {z : Sz} (h : p.ok = true) (hg : p.g.okB z = true) : p.d = growD p.row := by
  have hn := PairR.ok_n h
  obtain ⟨t, g, n, th⟩ := p
  unfold PairR.ok at h
  simp only [Bool.and_eq_true, Bool.not_eq_true'] at h
  obtain ⟨⟨rfl, rfl⟩, _⟩ := h
  cases g with
  | bad => cases hg
  | sg g =>
    show D.tup [g.d, n.d] = D.tup [g.d, .int (n.nat : Nat)]
    rw [hn.1]
theorem PairR.row_sign {p : PairR} {z : Sz} (hg : p.g.okB z = true) : p.row.1.okB z = true ∧ p.g.toks = p.row.1.spread.map (·.2) := by
  obtain ⟨t, g, n, th⟩ := p
  cases g with
  | bad => cases hg
  | sg g => exact ⟨hg, rfl⟩
theorem wi_mono {i a b a' b' : Int} (h : (Sc.int i).wi a b = true) (ha : a' ≤ a) (hb : b ≤ b') : (Sc.int i).wi a' b' = true := by
  simp only [Sc.wi, Bool.and_eq_true, decide_eq_true_eq] at h ⊢
  omega
theorem spansB_mono {v x : Nat} {a b b' : Int} (h : spansB v x a b = true) (hb : b ≤ b') : spansB v x a b' = true := by
  unfold spansB at h ⊢
  rw [Bool.and_eq_true] at h ⊢
  exact ⟨h.1, wi_mono h.2 (Int.le_refl _) (by omega)⟩
theorem okB_max {g : Sign} {z : Sz} (hz : z.Ok) (h : g.okB z = true) : g.okB zMax = true := by
  obtain ⟨h1, h2, h3, h4⟩ := hz
  cases g with
  | letter a x => exact spansB_mono h (by show ((z.n : Int) - 1) ≤ ((16 : Nat) : Int) - 1; omega)
  | copy d x l y =>
    have h : (spansB d x 1 z.w && spansB l y 1 40) = true := h
    rw [Bool.and_eq_true] at h
    show (spansB d x 1 ((24 : Nat) : Int) && spansB l y 1 40) = true
    rw [Bool.and_eq_true]
    exact ⟨spansB_mono h.1 (by omega), h.2⟩
  | again i e l y =>
    have h : (((Sc.int i).wi 0 ((z.m : Int) - 1) && (Sc.int e).wi 0 ((z.w : Int) - 1)) && spansB l y 1 40) = true := h
    rw [Bool.and_eq_true, Bool.and_eq_true] at h
    show (((Sc.int i).wi 0 (((4 : Nat) : Int) - 1) && (Sc.int e).wi 0 (((24 : Nat) : Int) - 1)) && spansB l y 1 40) = true
    rw [Bool.and_eq_true, Bool.and_eq_true]
    exact ⟨⟨wi_mono h.1.1 (Int.le_refl _) (by omega), wi_mono h.1.2 (Int.le_refl _) (by omega)⟩, h.2⟩
  | turn j => exact wi_mono (show (Sc.int j).wi 0 ((z.t : Int) - 1) = true from h) (Int.le_refl _) (by show ((z.t : Int) - 1) ≤ ((6 : Nat) : Int) - 1; omega)
  | stop => rfl
/-- the pairs are right for the sizes -/
structure PsOk (ps : List PairR) (z : Sz) : Prop where
  zok : z.Ok
  pairs : pairsOk ps = true
  signs : ∀ p ∈ ps, p.g.okB z = true
theorem PsOk.len {ps : List PairR} {z : Sz} (h : PsOk ps z) : 2 ≤ ps.length ∧ ps.length ≤ 40 := by
  have := h.pairs
  unfold pairsOk at this
  simp only [Bool.and_eq_true, decide_eq_true_eq] at this
  exact this.1
theorem PsOk.ok {ps : List PairR} {z : Sz} (h : PsOk ps z) {p : PairR} (hp : p ∈ ps) : p.ok = true := by
  have := h.pairs
  unfold pairsOk at this
  simp only [Bool.and_eq_true, List.all_eq_true] at this
  exact this.2 p hp
theorem PsOk.ds {ps : List PairR} {z : Sz} (h : PsOk ps z) : ps.map PairR.d = (rowsOf ps).map growD := by
  unfold rowsOf
  rw [List.map_map]
  exact List.map_congr_left fun p hp => PairR.d_row (h.ok hp) (h.signs p hp)
theorem PsOk.okMax {ps : List PairR} {z : Sz} (h : PsOk ps z) {r : GRow} (hr : r ∈ rowsOf ps) : r.1.okB zMax = true := by
  obtain ⟨p, hp, rfl⟩ := List.mem_map.mp hr
  exact okB_max h.zok (PairR.row_sign (h.signs p hp)).1
theorem PsOk.rows {ps : List PairR} {z : Sz} (h : PsOk ps z) : RowsOk (rowsOf ps) where
  ext := fun r hr => Sign.okB_ext (h.okMax hr)
  len := fun r hr => by
    obtain ⟨p, hp, rfl⟩ := List.mem_map.mp hr
    exact (PairR.ok_n (h.ok hp)).2
  few := by unfold rowsOf; rw [List.length_map]; exact h.len.2
theorem rows_n (ps : List PairR) : (rowsOf ps).map (·.2) = ps.map fun p => p.n.nat := by
  unfold rowsOf
  rw [List.map_map]
  rfl
theorem flatMap_ext' {α β : Type} {f g : α → List β} : ∀ {l : List α}, (∀ a ∈ l, f a = g a) → l.flatMap f = l.flatMap g
  | [], _ => rfl
  | a :: l, h => by
    rw [List.flatMap_cons, List.flatMap_cons, h a List.mem_cons_self, flatMap_ext' fun b hb => h b (List.mem_cons_of_mem _ hb)]
theorem PsOk.toks {ps : List PairR} {z : Sz} (h : PsOk ps z) : toksOf ps = (rowsOf ps).flatMap fun r => r.1.spread.map (·.2) := by
  unfold toksOf rowsOf
  rw [List.flatMap_map]
  exact flatMap_ext' fun p hp => (PairR.row_sign (h.signs p hp)).2
theorem tokW_snd (rows : List GRow) : (tokW rows).map (·.2) = rows.flatMap fun r => r.1.spread.map (·.2) := by
  unfold tokW
  rw [List.map_flatMap]
  conv => rhs; rw [← zip_fst rows, List.flatMap_map]
  refine flatMap_ext' fun q _ => ?_
  unfold spreadOn
  rw [List.map_map]
  rfl
theorem tokN_len (rows : List GRow) : tokN rows = (tokW rows).length := by
  have := congrArg List.length (tokW_snd rows)
  rw [List.length_map, List.length_flatMap] at this
  rw [this]
  unfold tokN
  congr 1
  exact List.map_congr_left fun r _ => by rw [List.length_map]
theorem PsOk.tokN {ps : List PairR} {z : Sz} (h : PsOk ps z) : (toksOf ps).length = tokN (rowsOf ps) := by rw [h.toks, ← tokW_snd, List.length_map, tokN_len]
/-! what a table holds -/
theorem spread_ne (g : Sign) : g.spread ≠ [] := by
  have p := pow_pos2
  intro h
  have h := congrArg List.length h
  cases g with
  | letter a x => simp only [Sign.spread, List.length_map, List.length_range, List.length_nil] at h; have := p x; omega
  | copy d x l y =>
    have hx : ∃ m, 2 ^ x = m + 1 := ⟨2 ^ x - 1, by have := p x; omega⟩
    obtain ⟨m, hm⟩ := hx
    simp only [Sign.spread, List.length_nil, List.length_flatMap, List.length_map, List.length_range, hm, List.range_succ, List.map_append, List.sum_append, List.map_cons, List.map_nil, List.sum_cons, List.sum_nil] at h
    have := p y
    omega
  | again i e l y => simp only [Sign.spread, List.length_map, List.length_range, List.length_nil] at h; have := p y; omega
  | turn j => cases h
  | stop => cases h
theorem mem_heads : ∀ {L : List GRow} {s : Nat} {h : List Bool × Sign}, h ∈ heads s L → ∃ r ∈ L, h.2 = r.1 ∧ h.1.length = min r.2 10
  | r :: L, s, h, hm => by
    rcases List.mem_cons.mp (show h ∈ ((fig s 10).take r.2, r.1) :: heads (s + 2 ^ (10 - r.2)) L from hm) with rfl | hm
    · exact ⟨r, List.mem_cons_self, rfl, by rw [List.length_take, fig_len]⟩
    · obtain ⟨q, hq, h1, h2⟩ := mem_heads hm
      exact ⟨q, List.mem_cons_of_mem _ hq, h1, h2⟩
theorem word_len {rows : List GRow} (h : RowsOk rows) {q : W} (hq : q ∈ wordsOf rows) : 1 ≤ q.1.length ∧ q.1.length ≤ 16 := by
  obtain ⟨hd, h1, h2⟩ := List.mem_flatMap.mp hq
  obtain ⟨r, hr, e1, e2⟩ := mem_heads h1
  obtain ⟨x, hx, rfl⟩ := List.mem_map.mp h2
  have hr := byLen_mem hr
  have hl := h.len r hr
  have hb := spread_bits (q := x) (h.ext r hr) (by rw [← e1]; exact hx)
  show 1 ≤ (hd.1 ++ x.1).length ∧ (hd.1 ++ x.1).length ≤ 16
  rw [List.length_append, e2]
  omega
theorem words_ok {rows : List GRow} (h : RowsOk rows) (ho : overfull (rows.map (·.2)) = none) : WsOk ((wordsOf rows).map (·.1)) where
  pre := words_prec h (used_fit h.len ho)
  ne := fun w hw => by
    obtain ⟨q, hq, rfl⟩ := List.mem_map.mp hw
    exact (word_len h hq).1
  len := fun w hw => by
    obtain ⟨q, hq, rfl⟩ := List.mem_map.mp hw
    exact (word_len h hq).2
theorem nodup_len {α : Type} [BEq α] [LawfulBEq α] : ∀ {l m : List α}, l.Nodup → (∀ x ∈ l, x ∈ m) → l.length ≤ m.length
  | [], _, _, _ => Nat.zero_le _
  | x :: l, m, hn, h => by
    obtain ⟨h1, h2⟩ := List.nodup_cons.mp hn
    have hx := h x List.mem_cons_self
    have := nodup_len (m := m.erase x) h2 fun y hy => (List.mem_erase_of_ne (fun e => h1 (by rw [← e]; exact hy))).mpr (h y (List.mem_cons_of_mem _ hy))
    rw [List.length_erase_of_mem hx] at this
    have := List.length_pos_of_mem hx
    rw [List.length_cons]
    omega
theorem begun_few {ws B : List (List Bool)} (hw : WsOk ws) (hn : B.Nodup) (hB : ∀ p, p ∈ B ↔ Begun ws p) : B.length ≤ ws.length * 16 ∧ ∀ p ∈ B, p.length ≤ 16 := by
  have cut : ∀ p ∈ B, ∃ w ∈ ws, p = w.take p.length ∧ p.length < 16 := fun p hp => by
    obtain ⟨w, hm, b, r, e⟩ := (hB p).mp hp
    have := hw.len w hm
    rw [e, List.length_append, List.length_cons] at this
    exact ⟨w, hm, by rw [e, List.take_left], by omega⟩
  refine ⟨?_, fun p hp => by obtain ⟨_, _, _, h⟩ := cut p hp; omega⟩
  have := nodup_len (m := ws.flatMap fun w => (List.range 16).map fun k => w.take k) hn fun p hp => by
    obtain ⟨w, hm, e, hl⟩ := cut p hp
    exact List.mem_flatMap.mpr ⟨w, hm, List.mem_map.mpr ⟨p.length, List.mem_range.mpr hl, e.symm⟩⟩
  refine Nat.le_trans this ?_
  rw [List.length_flatMap]
  clear this cut hB hn hw
  induction ws with
  | nil => exact Nat.zero_le _
  | cons w ws ih =>
    rw [List.map_cons, List.sum_cons, List.length_map, List.length_range, List.length_cons]
    omega
theorem contains_perm {a b : List (List Bool)} (h : a.Perm b) (c : List Bool) : a.contains c = b.contains c := by
  by_cases e : c ∈ a
  · rw [List.contains_iff_mem.mpr e, List.contains_iff_mem.mpr (h.mem_iff.mp e)]
  · have e2 : c ∉ b := fun z => e (h.mem_iff.mpr z)
    rw [show a.contains c = false from by simpa using e, show b.contains c = false from by simpa using e2]
theorem gapsOf_perm {a b P : List (List Bool)} (h : a.Perm b) : gapsOf a P = gapsOf b P := by
  unfold gapsOf
  congr 1
  funext c
  rw [contains_perm h]
/-- a table that was made of the pairs -/
structure TabOf (z : Sz) (ps : List PairR) (t : TabD) : Prop where
  hz : t.z = ⟨z.n, z.w, z.m⟩
  hps : t.ps = ps
  hW : t.W = tokW (rowsOf ps)
  ok : TabOk t (wordsOf (rowsOf ps))
theorem putFD_new {f : Str} {d : D} : ∀ {fs : List (Str × D)}, fs.lookup f = none → putFD f d fs = fs ++ [(f, d)]
  | [], _ => rfl
  | (g, x) :: r, h => by
    rw [List.lookup_cons] at h
    have e : (f == g) = false := by
      cases e : f == g with
      | false => rfl
      | true => rw [e] at h; cases h
    rw [e] at h
    unfold putFD
    have e2 : ¬ g = f := fun z => by subst z; simp at e
    rw [if_neg e2, putFD_new h]
    rfl
end Lr
set_option Elab.async false
set_option maxRecDepth 100000
set_option maxHeartbeats 4000000
set_option linter.all false
set_option autoImplicit false
/-! Table.__init__. -/
namespace Lr
open PySem L2 PyProof.Rows
theorem PairR.d_ok {p : PairR} (h : p.ok = true) : p.d = .tup [p.g.d, p.n.d] := by
  obtain ⟨t, g, n, th⟩ := p
  unfold PairR.ok at h
  simp only [Bool.and_eq_true, Bool.not_eq_true'] at h
  obtain ⟨⟨rfl, rfl⟩, _⟩ := h
  rfl
theorem Szs.ok_of {z : Szs} (h1 : z.n.wi 2 16 = true) (h2 : z.w.wi 1 24 = true) (h3 : z.m.wi 0 4 = true) (h4 : z.t.wi 1 6 = true) : z.ok = true := by
  unfold Szs.ok
  rw [h1, h2, h3, h4]
  rfl
theorem Szs.sz_ok {z : Szs} (h1 : z.n.wi 2 16 = true) (h2 : z.w.wi 1 24 = true) (h3 : z.m.wi 0 4 = true) (h4 : z.t.wi 1 6 = true) : z.sz.Ok where
  n := by obtain ⟨_, a, b⟩ := Sc.wi_nat h1 (by omega); show 2 ≤ z.n.nat ∧ z.n.nat ≤ 16; omega
  w := by obtain ⟨_, a, b⟩ := Sc.wi_nat h2 (by omega); show 1 ≤ z.w.nat ∧ z.w.nat ≤ 24; omega
  m := by obtain ⟨_, a, b⟩ := Sc.wi_nat h3 (by omega); show z.m.nat ≤ 4; omega
  t := by obtain ⟨_, a, b⟩ := Sc.wi_nat h4 (by omega); show 1 ≤ z.t.nat ∧ z.t.nat ≤ 6; omega
section
variable {P : Program} {w : World} {K : PySem.W.Frag} {mg : Str → Option Value} {base : Heap} {C : Addr} {XA : ExAds}
def sTInit : Spec := fun ds P PE => ∃ (b : Bool) (ps : List PairR) (z : Szs), ds = [rowsD b ps, z.n.d, z.w.d, z.m.d, z.t.d] ∧ ps.length ≤ 1000 ∧ (∀ e, firstErr z ps = some e → PE e) ∧ (firstErr z ps = none → ∀ t, TabOf z.sz ps t → P t.d)
theorem i_Table (B : Blt mg) (cl : Cls K C) (n_sizes : NoAttr K C "_sizes") (n_pairs : NoAttr K C "_pairs") (n_tokens : NoAttr K C "_tokens") (n_words : NoAttr K C "_words") (n_rests : NoAttr K C "_rests") (n_gaps : NoAttr K C "_gaps")
    (c_check_sizes : Cal P w K mg base 3 "check_sizes" (spX K C XA sCheckSizes)) (c_check_count : Cal P w K mg base 2 "check_count" (spX K C XA sCheckCount)) (g_MOST_TABLES : Gc mg "MOST_TABLES" (.int 6)) (c_check_pairs : Cal P w K mg base 2 "check_pairs" (spX K C XA sCheckPairs))
    (c_check_sign : Cal P w K mg base 4 "check_sign" (spX K C XA sCheckSign)) (c_words_of : Cal P w K mg base 6 "words_of" (spX K C XA sWordsOf)) (c_check_letters : Cal P w K mg base 3 "check_letters" (spX K C XA sCheckLetters))
    (c_rests_of : Cal P w K mg base 1 "rests_of" (spX K C XA sRestsOf)) (c_gaps_of : Cal P w K mg base 1 "gaps_of" (spX K C XA sGapsOf)) : InOk P w K mg base 7 C "Table.__init__" s_Table___init ["self", "rows", "n", "width", "many", "tables"] (spI K C XA sTInit) := by
  refine fn_I sc_Table___init (fun ds Q E ⟨_, _, _, e, _⟩ => by rw [e]; rfl) fun f cdv A outer s H E hr => ⟨_, (pss_cons (ps_expr (pe_calX (takes_of rfl rfl rfl rfl) c_check_sizes hr (pa_cons (pv 2) (pa_cons (pv 3) (pa_cons (pv 4) pa_nil)))))
        (pss_cons (ps_expr (pe_calX (takes_of rfl rfl rfl rfl) c_check_count hr (pa_cons (pv 5) (pa_cons pe_int (pa_cons (pe_gk g_MOST_TABLES) pa_nil)))))
        (pss_cons (ps_fld (pv 0) (pe_tup (pa_cons (pv 2) (pa_cons (pv 3) (pa_cons (pv 4) pa_nil)))) rfl)
        (pss_cons (ps_fld (pv 0) (pe_calX (takes_of rfl rfl rfl rfl) c_check_pairs hr (pa_cons (pv 1) pa_nil)) rfl)
        (pss_cons (ps_for (passes_of rfl) rfl (pi_tup (pe_fld (pv 0) rfl)) (pg_tup rfl (pgs_cons (pg_nm 6 sc_Table___init.nd) (pgs_cons (pg_nm 7 sc_Table___init.nd) pgs_nil))) (pss_one (ps_expr (pe_calX (takes_of rfl rfl rfl rfl) c_check_sign hr (pa_cons (pv 6) (pa_cons (pv 2) (pa_cons (pv 3) (pa_cons (pv 4) (pa_cons (pv 5) pa_nil)))))))))
        (pss_cons (ps_fld (pv 0) (pe_calX (takes_of rfl rfl rfl rfl) c_words_of hr (pa_cons (pe_fld (pv 0) rfl) pa_nil)) rfl)
        (pss_cons (ps_expr (pe_calX (takes_of rfl rfl rfl rfl) c_check_letters hr (pa_cons (pe_listVals rfl rfl B.b_list (pe_fld (pv 0) rfl)) (pa_cons (pv 2) pa_nil))))
        (pss_cons (ps_fld (pv 0) (pe_callB (xSorted K hr.units) rfl B.b_sorted bt_sorted (pa_cons (pe_fld (pv 0) rfl) pa_nil)) rfl)
        (pss_cons (ps_fld (pv 0) (pe_cal c_rests_of hr (pa_cons (pe_fld (pv 0) rfl) pa_nil)) rfl)
        (pss_one (ps_fld (pv 0) (pe_cal c_gaps_of hr (pa_cons (pe_fld (pv 0) rfl) (pa_cons (pe_fld (pv 0) rfl) pa_nil))) rfl))))))))))), ?_⟩
  rintro N H0 x ds Pd PE ⟨b, ps, z, rfl, hl, hpe, hp⟩ hE hx De hnx
  have bb := pure_base (K := K) (C := C) (N := N) (H0 := H0)
  have np : x ∉ ads [] := fun h => by cases h
  -- the sizes
  refine go_drop bb.ok (ev_callX (P := fun _ => z.n.wi 2 16 = true ∧ z.w.wi 1 24 = true ∧ z.m.wi 0 4 = true) (PE := fun er => er = .size ∧ z.ok = false) (ea_cons (ev_var (i := 2) rfl) (ea_cons (ev_var (i := 3) rfl) (ea_cons (ev_var (i := 4) rfl) ea_nil))) ⟨z.n, z.w, z.m, rfl, fun h => h, fun h => ⟨rfl, by
    cases e : z.ok with
    | false => rfl
    | true =>
      unfold Szs.ok at e
      simp only [Bool.and_eq_true] at e
      exact absurd ⟨e.1, e.2.1, e.2.2.1⟩ h⟩⟩ fun er c dx H' ⟨e, h⟩ I ea => hE er c dx H' (by rw [e]; exact hpe .size (by unfold firstErr; rw [if_pos h])) (same_in I) ea) fun ⟨d, h1, h2, h3⟩ => ?_
  refine go_drop bb.ok (ev_count (PE := PE) (s := z.t) hE (ev_var (i := 5) rfl) ev_int ev_int (by omega) (by omega) fun h => hpe .size (by
    have : z.ok = false := by unfold Szs.ok; rw [h]; simp
    unfold firstErr; rw [if_pos this])) fun ⟨d, h4, _⟩ => ?_
  have zok := Szs.ok_of h1 h2 h3 h4
  have szok := Szs.sz_ok h1 h2 h3 h4
  have zn := (Sc.wi_nat h1 (by omega)).1
  have zw := (Sc.wi_nat h2 (by omega)).1
  have zm := (Sc.wi_nat h3 (by omega)).1
  have zt := (Sc.wi_nat h4 (by omega)).1
  rw [zn, zw, zm, zt]
  have f1 : firstErr z ps = if ps.length < 2 ∨ 40 < ps.length then some .table else if ps.all PairR.ok = false then some .table else if (ps.all fun p => p.g.okB z.sz) = false then some .sign else match overfull (ps.map fun p => p.n.nat) with
    | some i => some (.full i)
    | none => if 120 < (toksOf ps).length then some (.large 120) else match lacking z.sz.n (toksOf ps) with
      | some l => some (.less l)
      | none => none := by
    unfold firstErr
    rw [if_neg (by rw [zok]; decide)]
    all_goals rfl
  refine go_fld bb cl n_sizes (i := 0) rfl np (ev_tup (ea_cons (ev_var (i := 2) rfl) (ea_cons (ev_var (i := 3) rfl) (ea_cons (ev_var (i := 4) rfl) ea_nil)))) (by decide) fun d pd => ?_
  subst pd
  -- the pairs
  refine go_fld bb cl n_pairs (i := 0) rfl np (ev_callX (P := fun d => d = .tup (ps.map PairR.d) ∧ pairsOk ps = true) (PE := fun er => er = .table ∧ pairsOk ps = false) (ea_cons (ev_var (i := 1) rfl) ea_nil) ⟨b, ps, rfl, hl, fun h => ⟨rfl, h⟩, fun h => ⟨rfl, h⟩⟩ fun er c dx H' ⟨e, h⟩ I ea => hE er c dx H' (by
    rw [e]
    refine hpe .table ?_
    rw [f1]
    unfold pairsOk at h
    by_cases h5 : ps.length < 2 ∨ 40 < ps.length
    · rw [if_pos h5]
    · rw [if_neg h5, if_pos]
      rw [decide_eq_true (by omega), decide_eq_true (by omega)] at h
      exact h) (same_in I) ea) (Nat.lt_of_lt_of_le (by decide : 1 < 1000) (Nat.le_refl _)) fun d ⟨pd, hpo⟩ => ?_
  subst pd
  rw [putFD_new rfl]
  have hp2 : 2 ≤ ps.length ∧ ps.length ≤ 40 ∧ ∀ p ∈ ps, p.ok = true := by
    have h := hpo
    unfold pairsOk at h
    simp only [Bool.and_eq_true, decide_eq_true_eq, List.all_eq_true] at h
    exact ⟨h.1.1, h.1.2, h.2⟩
  have f2 : firstErr z ps = if (ps.all fun p => p.g.okB z.sz) = false then some .sign else match overfull (ps.map fun p => p.n.nat) with
    | some i => some (.full i)
    | none => if 120 < (toksOf ps).length then some (.large 120) else match lacking z.sz.n (toksOf ps) with
      | some l => some (.less l)
      | none => none := by
    rw [f1, if_neg (by omega), if_neg]
    rw [List.all_eq_true.mpr hp2.2.2]
    decide
  -- the signs
  refine go_for bb (ei_tup (ev_fldM (b := pureW K C N H0) cl n_pairs (i := 0) rfl List.mem_cons_self rfl)) (fun i δ M => M = [(x, MO.ins (([("_sizes", .tup [.int (z.n.nat : Nat), .int (z.w.nat : Nat), .int (z.m.nat : Nat)])] : List (Str × D)) ++ ([("_pairs", .tup (ps.map PairR.d))] : List (Str × D))))] ∧ ∃ u v : Option D, δ = [some (.adr x), some (rowsD b ps), some (.int (z.n.nat : Nat)), some (.int (z.w.nat : Nat)), some (.int (z.m.nat : Nat)), some (.int (z.t.nat : Nat)), u, v] ∧ ∀ p ∈ ps.take i, p.g.okB z.sz = true) ⟨rfl, none, none, rfl, fun p h => by cases h⟩ ?_ ?_
  · rintro y i d δ' M' hd ea ⟨rfl, u, v, rfl, hs⟩
    rw [List.getElem?_map] at hd
    cases e : ps[i]? with
    | none => rw [e] at hd; cases hd
    | some p =>
      rw [e] at hd
      have hd := Option.some.inj hd
      subst hd
      have hpm := List.mem_of_getElem? e
      rw [PairR.d_ok (hp2.2.2 p hpm)]
      refine ⟨_, eg_tup (eg_cons eg_name (eg_cons eg_name eg_nil)), ?_⟩
      refine go_drop' bb.ok (ev_callX (P := fun _ => p.g.okB z.sz = true) (PE := fun er => er = .sign ∧ p.g.okB z.sz = false) (ea_cons (ev_var (i := 6) rfl) (ea_cons (ev_var (i := 2) rfl) (ea_cons (ev_var (i := 3) rfl) (ea_cons (ev_var (i := 4) rfl) (ea_cons (ev_var (i := 5) rfl) ea_nil))))) ⟨p.g, z.sz, rfl, szok, fun h => h, fun h => ⟨rfl, h⟩⟩ fun er c dx H' ⟨e, h⟩ I ea => hE er c dx H' (by
        rw [e]
        refine hpe .sign ?_
        rw [f2, if_pos]
        exact List.all_eq_false.mpr ⟨p, hpm, by rw [h]; decide⟩) (same_in I) ea) fun ⟨d, hk⟩ => ?_
      refine go_kept rfl ⟨rfl, _, _, rfl, fun q hq => ?_⟩
      rw [take_succ' e] at hq
      rcases List.mem_append.mp hq with hq | hq
      · exact hs q hq
      · rw [List.mem_singleton.mp hq]; exact hk
  rintro δ' M' ea ⟨rfl, u, v, rfl, hs⟩
  rw [List.length_map, List.take_length] at hs
  have ok : PsOk ps z.sz := ⟨szok, hpo, hs⟩
  have f3 : firstErr z ps = match overfull ((rowsOf ps).map (·.2)) with
    | some i => some (.full i)
    | none => if 120 < tokN (rowsOf ps) then some (.large 120) else match lacking z.sz.n (toksOf ps) with
      | some l => some (.less l)
      | none => none := by
    rw [f2, if_neg, rows_n, ok.tokN]
    rw [List.all_eq_true.mpr hs]
    decide
  -- the words
  refine go_fld bb cl n_tokens (i := 0) rfl np (ev_callX (P := fun d => d = .dic ((tokW (rowsOf ps)).map kvW) ∧ overfull ((rowsOf ps).map (·.2)) = none ∧ tokN (rowsOf ps) ≤ 120) (PE := fun er => firstErr z ps = some er) (ea_cons (ev_is (ev_fldM (b := pureW K C N H0) cl n_pairs (i := 0) rfl List.mem_cons_self rfl) (by rw [ok.ds])) ea_nil) ⟨rowsOf ps, rfl, ok.rows, fun r hr => ok.okMax hr, fun i h => by rw [f3, h], fun h h120 => by rw [f3, h, if_pos h120], fun h h120 => ⟨rfl, h, h120⟩⟩ fun er c dx H' h I ea => hE er c dx H' (hpe er h) (same_in I) ea) (Nat.lt_of_lt_of_le (by decide : 2 < 1000) (Nat.le_refl _)) fun d ⟨pd, hov, h120⟩ => ?_
  subst pd
  rw [putFD_new rfl]
  have f4 : firstErr z ps = match lacking z.sz.n (toksOf ps) with
      | some l => some (.less l)
      | none => none := by rw [f3, hov, if_neg (by omega)]
  refine go_drop bb.ok (ev_callX (P := fun _ => lacking z.sz.n (toksOf ps) = none) (PE := fun er => firstErr z ps = some er) (ea_cons (ev_is (ev_listVals (ev_fldM (b := pureW K C N H0) cl n_tokens (i := 0) rfl List.mem_cons_self rfl)) (show D.lst (((tokW (rowsOf ps)).map kvW).map (·.2)) = .lst ((toksOf ps).map Tok.d) by rw [ok.toks, ← tokW_snd, List.map_map, List.map_map]; rfl)) (ea_cons (ev_var (i := 2) rfl) ea_nil)) ⟨toksOf ps, z.sz.n, rfl, szok.n.2, fun h => h, fun l h => by rw [f4, h]⟩ fun er c dx H' h I ea => hE er c dx H' (hpe er h) (same_in I) ea) fun ⟨d, hlk⟩ => ?_
  have f5 : firstErr z ps = none := by rw [f4, hlk]
  have wok := words_ok ok.rows hov
  have perm := tokW_perm ok.rows
  have few : (tokW (rowsOf ps)).length ≤ 120 := by rw [← tokN_len]; exact h120
  have few2 : (wordsOf (rowsOf ps)).length ≤ 120 := by rw [← perm.length_eq]; exact few
  refine go_fld bb cl n_words (i := 0) rfl np (ev_is (ev_cb (ea_cons (ev_fldM (b := pureW K C N H0) cl n_tokens (i := 0) rfl List.mem_cons_self rfl) ea_nil) (rc_sortD (ds := (tokW (rowsOf ps)).map kvW) (by rw [List.length_map]; omega))) (show D.lst (((((tokW (rowsOf ps)).map kvW).map (·.1)).mergeSort strLe).map .str) = .lst (((wordsOf (rowsOf ps)).map (·.1)).map txt) by
    rw [List.map_map, show ((fun x : Str × D => x.1) ∘ kvW) = (bs ∘ fun x : W => x.1) from rfl, ← List.map_map, sort_texts wok.pre (perm.map (·.1)), List.map_map]
    rfl)) (Nat.lt_of_lt_of_le (by decide : 3 < 1000) (Nat.le_refl _)) fun d pd => ?_
  subst pd
  rw [putFD_new rfl]
  refine go_fld bb cl n_rests (i := 0) rfl np (P := fun d => ∃ kvs, d = .dic kvs ∧ RestsD kvs ((wordsOf (rowsOf ps)).map (·.1))) (ev_call (ea_cons (ev_fldM (b := pureW K C N H0) cl n_words (i := 0) rfl List.mem_cons_self rfl) ea_nil) ⟨(wordsOf (rowsOf ps)).map (·.1), rfl, by rw [List.length_map]; omega, wok.len, fun kvs h => ⟨kvs, rfl, h⟩⟩) (Nat.lt_of_lt_of_le (by decide : 4 < 1000) (Nat.le_refl _)) fun d ⟨kvs, pd, hB⟩ => ?_
  subst pd
  rw [putFD_new rfl]
  obtain ⟨Bg, b1, b2, b3, b4⟩ := hB
  have bf := begun_few wok b2 b3
  have ne : ∃ q, q ∈ wordsOf (rowsOf ps) := by
    cases e : tokW (rowsOf ps) with
    | cons q l => exact ⟨q, perm.mem_iff.mp (by rw [e]; exact List.mem_cons_self)⟩
    | nil =>
      exfalso
      cases e2 : ps with
      | nil => have := ok.len; rw [e2] at this; exact absurd this.1 (by decide)
      | cons p ps' =>
        have h6 := tokW_snd (rowsOf ps)
        rw [e, e2] at h6
        have h6 : [] = p.row.1.spread.map (·.2) ++ (rowsOf ps').flatMap fun r => r.1.spread.map (·.2) := h6
        exact spread_ne p.row.1 (List.map_eq_nil_iff.mp (List.append_eq_nil_iff.mp h6.symm).1)
  refine go_fld' bb cl n_gaps (i := 0) rfl np (P := fun d => ∃ G : List (List Bool), d = .lst (G.map txt) ∧ G.Perm (gapsOf ((tokW (rowsOf ps)).map (·.1)) Bg)) (ev_call (ea_cons (ev_fldM (b := pureW K C N H0) cl n_tokens (i := 0) rfl List.mem_cons_self rfl) (ea_cons (ev_fldM (b := pureW K C N H0) cl n_rests (i := 0) rfl List.mem_cons_self rfl) ea_nil)) ⟨tokW (rowsOf ps), kvs, Bg, rfl, b1, b2, by
    have := bf.1
    rw [List.length_map] at this
    omega, bf.2, by
    obtain ⟨q, hq⟩ := ne
    exact ⟨q, perm.mem_iff.mpr hq, fun h => wok.free (List.mem_map_of_mem hq) ((b3 q.1).mp h)⟩, fun G h => ⟨G, rfl, h⟩⟩) (Nat.lt_of_lt_of_le (by decide : 5 < 1000) (Nat.le_refl _)) fun d ⟨G, pd, hG⟩ => ?_
  subst pd
  rw [putFD_new rfl]
  refine go_next fun σ H q => ?_
  obtain ⟨q1, r⟩ := pt_freezeI bb q np hx
  refine hnx _ H (hp f5 ⟨⟨z.n.nat, z.w.nat, z.m.nat⟩, ps, tokW (rowsOf ps), (wordsOf (rowsOf ps)).map (·.1), kvs, G⟩ ⟨rfl, rfl, rfl, ⟨szok.n, szok.w, szok.m⟩, rfl, perm, wok, few2, Bg, b1, b2, b3, by rw [← gapsOf_perm (perm.map (·.1))]; exact hG⟩) q.ex (rp_out r) σ
end
end Lr
set_option Elab.async false
set_option maxRecDepth 100000
set_option maxHeartbeats 4000000
set_option linter.all false
set_option autoImplicit false
/-! split_bits. -/
namespace Lr
open PySem L2 PyProof.Rows
abbrev s_check_bits : Stmt := topS 54
abbrev ns_check_bits : List Str := ["bits"]
theorem sc_check_bits : FnScope ns_check_bits ["bits"] (defScope s_check_bits) := ⟨rfl, rfl, rfl, by decide +kernel, rfl, by decide +kernel, by decide +kernel⟩
abbrev s_split_bits : Stmt := topS 55
abbrev ns_split_bits : List Str := ["table", "bits", "words", "begun", "at", "bit"]
theorem sc_split_bits : FnScope ns_split_bits ["table", "bits"] (defScope s_split_bits) := ⟨rfl, rfl, rfl, by decide +kernel, rfl, by decide +kernel, by decide +kernel⟩
/-- how far the splitting has come: the words, the bits begun -/
def SplitAt (vs : List (List Bool)) (i : Nat) (done : List (List Bool)) (p : List Bool) : Prop :=
  i = done.flatten.length + p.length ∧ ((vs = done ∧ p = []) ∨ ∃ b r todo, vs = done ++ (p ++ b :: r) :: todo)
theorem split_start {vs : List (List Bool)} {done : List (List Bool)} (hd : ∃ todo, vs = done ++ todo) (hne : ∀ v ∈ vs, 1 ≤ v.length) : SplitAt vs done.flatten.length done [] := by
  refine ⟨rfl, ?_⟩
  obtain ⟨todo, e⟩ := hd
  cases todo with
  | nil => exact .inl ⟨by rw [e, List.append_nil], rfl⟩
  | cons v todo =>
    have := hne v (by rw [e]; exact List.mem_append_right _ List.mem_cons_self)
    cases v with
    | nil => cases this
    | cons b r => exact .inr ⟨b, r, todo, e⟩
theorem split_turn {vs : List (List Bool)} {i : Nat} {done : List (List Bool)} {p : List Bool} {c : Bool} (h : SplitAt vs i done p) (hc : vs.flatten[i]? = some c) : ∃ r todo, vs = done ++ (p ++ c :: r) :: todo := by
  obtain ⟨hi, h | ⟨b, r, todo, e⟩⟩ := h
  · obtain ⟨rfl, rfl⟩ := h
    have := (List.getElem?_eq_some_iff.mp hc).1
    rw [List.length_nil] at hi
    omega
  · refine ⟨r, todo, ?_⟩
    have hf : vs.flatten = (done.flatten ++ p) ++ b :: (r ++ todo.flatten) := by
      rw [e, List.flatten_append, List.flatten_cons]
      simp
    rw [hf, List.getElem?_append_right (by rw [List.length_append]; omega), List.length_append, hi, Nat.sub_self] at hc
    have hc := Option.some.inj hc
    rw [← hc]
    exact e
theorem split_end {vs : List (List Bool)} {done : List (List Bool)} {p : List Bool} (h : SplitAt vs vs.flatten.length done p) : vs = done ∧ p = [] := by
  obtain ⟨hi, h | ⟨b, r, todo, e⟩⟩ := h
  · exact h
  · exfalso
    rw [e, List.flatten_append, List.flatten_cons] at hi
    simp only [List.length_append, List.length_cons] at hi
    omega
theorem txt_nil : D.str "" = txt [] := congrArg D.str (by decide +kernel)
section
variable {P : Program} {w : World} {K : PySem.W.Frag} {mg : Str → Option Value} {base : Heap} {C : Addr} {XA : ExAds} {xb : Addr}
def sCheckBits : Spec := fun ds P _ => ∃ v : List Bool, ds = [txt v] ∧ P (txt v)
theorem c_check_bits (F : Df K mg "check_bits" s_check_bits ["bits"]) (c_is_bits : Cal P w K mg base 1 "is_bits" (spX K C XA sIsBits)) (x_BadBits : ErrC K mg "BadBits" xb) : Cal P w K mg base 2 "check_bits" (spX K C XA sCheckBits) := by
  refine fn_X F sc_check_bits (fun ds Q E ⟨_, e, _⟩ => by rw [e]; rfl) fun f cdv A outer s H E hr => ⟨_, (pss_cons (ps_if (pt_not (pt_val (pe_cal c_is_bits hr (pa_cons (pv 0) pa_nil)))) (pss_one (ps_raise rfl (takes_of rfl rfl rfl rfl) (x_BadBits.mk0 rfl))) pss_nil)
        (pss_one (ps_ret (pv 0)))), ?_⟩
  rintro N H0 ds Pd PE ⟨v, rfl, hp⟩ hE De hrt hnx
  have bb := pure_base (K := K) (C := C) (N := N) (H0 := H0)
  refine go_when bb.ok (et_notd (et_Bd (b := true) (ev_call (ea_cons (ev_var (i := 0) rfl) ea_nil) ⟨v, rfl, rfl⟩))) (fun h => by cases h) fun _ => ?_
  refine go_ret bb.ok (ev_var (i := 0) rfl) fun d v H pd e I r => ?_
  subst pd
  exact hrt _ _ _ hp e r
def sSplit : Spec := fun ds P _ => ∃ (t : TabD) (A : List W) (vs : List (List Bool)), ds = [t.d, txt vs.flatten] ∧ TabOk t A ∧ (∀ v ∈ vs, v ∈ A.map (·.1)) ∧ vs.length ≤ 100 ∧ P (.tup [.lst (vs.map txt), .str "", .non])
theorem c_split_bits (F : Df K mg "split_bits" s_split_bits ["table", "bits"]) (B : Blt mg) (cl : Cls K C) (c_check_bits : Cal P w K mg base 2 "check_bits" (spX K C XA sCheckBits)) (c_contains : CalM P w K mg base 1 C "__contains__" (spX K C XA sTContains)) (c_is_begun : CalM P w K mg base 1 C "is_begun" (spX K C XA sTIsBegun)) :
    Cal P w K mg base 3 "split_bits" (spX K C XA sSplit) := by
  refine fn_X F sc_split_bits (fun ds Q E ⟨_, _, _, e, _⟩ => by rw [e]; rfl) fun f cdv A outer s H E hr => ⟨_, (pss_cons (ps_expr (pe_cal c_check_bits hr (pa_cons (pv 1) pa_nil)))
        (pss_cons (ps_st 2 sc_split_bits.nd (pe_lst pa_nil))
        (pss_cons (ps_st 3 sc_split_bits.nd pe_str)
        (pss_cons (ps_for (passes_of rfl) rfl (pi_enumS rfl B.b_enumerate (pa_cons (pv 1) pa_nil)) (pg_tup rfl (pgs_cons (pg_nm 4 sc_split_bits.nd) (pgs_cons (pg_nm 5 sc_split_bits.nd) pgs_nil))) (pss_cons (ps_au 3 sc_split_bits.nd (pv 5) xIadd)
        (pss_one (ps_if (pt_cmpR (op_ownInC c_contains hr) (pv 3) (pv 0) (by with_unfolding_all rfl)) (pss_cons (ps_expr (pe_bm PySem.F.plainAttrs_list PySem.F.slot_list_append PySem.F.type_list_append mt_append (pv 2) (pa_cons (pv 3) pa_nil)))
        (pss_one (ps_st 3 sc_split_bits.nd pe_str))) (pss_one (ps_if (pt_not (pt_val (pe_mth (pv 0) c_is_begun cl hr (pa_cons (pv 3) pa_nil)))) (pss_one (ps_ret (pe_tup (pa_cons (pv 2) (pa_cons (pv 3) (pa_cons (pv 4) pa_nil)))))) pss_nil))))))
        (pss_one (ps_ret (pe_tup (pa_cons (pv 2) (pa_cons (pv 3) (pa_cons pe_non pa_nil)))))))))), ?_⟩
  rintro N H0 ds Pd PE ⟨t, A, vs, rfl, ht, hvs, hl, hp⟩ hE De hrt hnx
  have bb := pure_base (K := K) (C := C) (N := N) (H0 := H0)
  have hne : ∀ v ∈ vs, 1 ≤ v.length := fun v hv => ht.pre.ne v (hvs v hv)
  have hle : ∀ v ∈ vs, v.length ≤ 16 := fun v hv => ht.pre.len v (hvs v hv)
  obtain ⟨Bg, b1, b2, b3, b4⟩ := ht.gaps
  refine go_drop bb.ok (ev_call (P := fun _ => True) (ea_cons (ev_var (i := 1) rfl) ea_nil) ⟨_, rfl, trivial⟩) fun _ => ?_
  refine go_new bb evn_nil fun ds q hds hq hm => ?_
  subst hds
  refine go_asg bb.ok (P := fun d => d = txt []) (ev_is ev_str txt_nil) fun _ e => ?_
  subst e
  refine go_for bb (ei_enumS (x := bs vs.flatten) (ea_cons (ev_var (i := 1) rfl) ea_nil)) (fun i δ M => ∃ done p, SplitAt vs i done p ∧ M = [(q, MO.lst (done.map txt))] ∧ ∃ u v : Option D, δ = [some t.d, some (txt vs.flatten), some (.adr q), some (txt p), u, v]) ⟨[], [], split_start (done := []) ⟨vs, rfl⟩ hne, rfl, none, none, rfl⟩ ?_ ?_
  · rintro x i d δ' M' hd ea ⟨done, p, hsp, rfl, u, v, rfl⟩
    have hi : i < vs.flatten.length := by
      have := (List.getElem?_eq_some_iff.mp hd).1
      rwa [numbered_len, signs_len] at this
    obtain ⟨c, hc⟩ : ∃ c, vs.flatten[i]? = some c := ⟨_, List.getElem?_eq_getElem hi⟩
    rw [numbered_get (sign_get hc)] at hd
    have hd := Option.some.inj hd
    subst hd
    obtain ⟨r, todo, e⟩ := split_turn hsp hc
    have hw : p ++ c :: r ∈ vs := by rw [e]; exact List.mem_append_right _ List.mem_cons_self
    have hwl := hle _ hw
    rw [List.length_append, List.length_cons] at hwl
    have hdl : done.length ≤ 100 := by
      rw [e, List.length_append] at hl
      omega
    have hi := hsp.1
    refine ⟨_, eg_tup (eg_cons eg_name (eg_cons eg_name eg_nil)), ?_⟩
    refine go_aug bb (i := 3) rfl (ev_var (i := 5) rfl) (P := fun d => d = txt (p ++ [c])) ((r2_iaddS (by rw [bs_len, bs_len]; simp; omega)).imp fun d e => by rw [e, bs_append]; rfl) fun _ ed => ?_
    subst ed
    refine go_if bb.ok (et_testd (ev_op (a := txt (p ++ [c])) (ev_var (i := 3) rfl) (ev_var (i := 0) rfl) (r2_ownIn (w := (pureW K C N H0).wi _) ⟨t, p ++ [c], rfl, rfl⟩))) (fun h => ?_) (fun h => ?_)
    · have h : (valD (t.W.map kvW) (bs (p ++ [c]))).isSome = true := h.symm
      rw [ht.isIn, decide_eq_true_eq] at h
      have hr : r = [] := by
        cases r with
        | nil => rfl
        | cons b r => exact absurd ⟨_, hvs _ hw, b, r, by rw [List.append_assoc]; rfl⟩ (ht.pre.free h)
      subst hr
      refine go_app bb (i := 2) rfl (fun h => by cases h) (ev_var (i := 3) rfl) (by rw [List.length_map]; omega) fun d pd => ?_
      subst pd
      refine go_asg' bb.ok (P := fun d => d = txt []) (ev_is ev_str txt_nil) fun _ e => ?_
      subst e
      refine go_kept rfl ⟨done ++ [p ++ [c]], [], ?_, by rw [List.map_append]; rfl, _, _, rfl⟩
      have := split_start (done := done ++ [p ++ [c]]) ⟨todo, by rw [e, List.append_assoc]; rfl⟩ hne
      rw [List.flatten_append, List.flatten_singleton, List.length_append, List.length_append, List.length_singleton] at this
      rw [hi]
      exact this
    · have h : (valD (t.W.map kvW) (bs (p ++ [c]))).isSome = false := h.symm
      rw [ht.isIn, decide_eq_false_iff_not] at h
      obtain ⟨b, r', hr⟩ : ∃ b r', r = b :: r' := by
        cases r with
        | nil => exact absurd (hvs _ hw) h
        | cons b r => exact ⟨b, r, rfl⟩
      subst hr
      have hb : (valD t.rs (bs (p ++ [c]))).isSome = true := by
        rw [valD_isSome, decide_eq_true_eq, b1, mem_bs, b3]
        exact ⟨_, hvs _ hw, b, r', by rw [List.append_assoc]; rfl⟩
      refine go_when' bb.ok (et_notd (et_Bd (b := true) (ev_mth (w := (pureW K C N H0).wi _) (ev_var (i := 0) rfl) rfl (ea_cons (ev_var (i := 3) rfl) ea_nil) ⟨t, p ++ [c], rfl, by rw [hb]⟩))) (fun h => by cases h) fun _ => ?_
      refine go_kept rfl ⟨done, p ++ [c], ⟨by rw [hi, List.length_append, List.length_singleton]; omega, .inr ⟨b, r', todo, by rw [e, List.append_assoc]; rfl⟩⟩, rfl, _, _, rfl⟩
  · rintro δ' M' ea ⟨done, p, hsp, rfl, u, v, rfl⟩
    rw [numbered_len, signs_len] at hsp
    obtain ⟨rfl, rfl⟩ := split_end hsp
    refine go_freeze bb (i := 2) rfl (fun h => by cases h) hq ?_
    refine go_ret bb.ok (ev_tup (ea_cons (ev_var (i := 2) rfl) (ea_cons (ev_is (ev_var (i := 3) rfl) txt_nil.symm) (ea_cons ev_non ea_nil)))) fun d v H pd e I r => ?_
    subst pd
    exact hrt _ _ _ hp e r
end
end Lr
set_option Elab.async false
set_option maxRecDepth 100000
set_option maxHeartbeats 4000000
set_option linter.all false
set_option autoImplicit false
/-! The law: what stands of a table. -/
namespace Lr
open PySem L2 PyProof.Rows
theorem Sc.sh (s : Sc) : shD 0 s.d = true := by cases s <;> rfl
theorem shD_succ : ∀ {n : Nat} {d : D}, shD n d = true → shD (n + 1) d = true
  | n, .non, _ => rfl
  | n, .bl _, _ => rfl
  | n, .int _, _ => rfl
  | n, .str x, h => by cases n <;> exact h
  | 0, .lst _, h => by cases h
  | 0, .tup _, h => by cases h
  | 0, .dic _, h => by cases h
  | 0, .ins _, h => by cases h
  | 0, .adr _, h => by cases h
  | _ + 1, .dic _, h => by cases h
  | _ + 1, .ins _, h => by cases h
  | _ + 1, .adr _, h => by cases h
  | n + 1, .lst ds, h => by
    have h : ds.all (shD n) = true := h
    show ds.all (shD (n + 1)) = true
    rw [List.all_eq_true] at h ⊢
    exact fun d hd => shD_succ (h d hd)
  | n + 1, .tup ds, h => by
    have h : ds.all (shD n) = true := h
    show ds.all (shD (n + 1)) = true
    rw [List.all_eq_true] at h ⊢
    exact fun d hd => shD_succ (h d hd)
theorem SgR.sh (g : SgR) : shD 1 g.d = true := by
  cases g with
  | sg g => exact Sign.sh g
  | bad => decide +kernel
theorem PairR.sh (p : PairR) : shD 2 p.d = true := by
  have h : p.ds.all (shD 1) = true := by
    unfold PairR.ds
    rw [List.all_append, List.all_cons, List.all_cons, SgR.sh, shD_succ (Sc.sh p.n)]
    cases p.three <;> rfl
  unfold PairR.d
  cases p.tup
  · exact h
  · exact h
theorem txt_sh (v : List Bool) : shD 0 (txt v) = true := ok_bs v
theorem used_sum : ∀ (L : List GRow) (s : Nat), used s L = s + (L.map fun r => 2 ^ (10 - r.2)).sum
  | [], s => rfl
  | r :: L, s => by
    show used (s + 2 ^ (10 - r.2)) L = _
    rw [used_sum L, List.map_cons, List.sum_cons, Nat.add_assoc]
theorem byLen_perm {rows : List GRow} (h : ∀ r ∈ rows, 1 ≤ r.2 ∧ r.2 ≤ 10) : (byLen rows 10).Perm rows := by
  have := (ord_perm h).map (·.1)
  rw [← byLen_ord, zip_fst] at this
  exact this
def givenOf (ps : List PairR) : Nat := (ps.map fun p => 2 ^ (16 - p.n.nat)).sum
theorem pow16 {l : Nat} (h : l ≤ 10) : 2 ^ (16 - l) = 64 * 2 ^ (10 - l) := by
  rw [show (64 : Nat) = 2 ^ 6 from rfl, ← Nat.pow_add]
  congr 1
  omega
theorem given_rows : ∀ {ps : List PairR}, (∀ p ∈ ps, p.n.nat ≤ 10) → givenOf ps = 64 * ((rowsOf ps).map fun r => 2 ^ (10 - r.2)).sum
  | [], _ => rfl
  | p :: ps, h => by
    have ih := given_rows (ps := ps) fun q hq => h q (List.mem_cons_of_mem _ hq)
    unfold givenOf rowsOf at ih ⊢
    rw [List.map_cons, List.map_cons, List.map_cons, List.sum_cons, List.sum_cons, ih, Nat.mul_add, pow16 (h p List.mem_cons_self)]
    rfl
theorem given_share {ps : List PairR} {z : Sz} (h : PsOk ps z) (ho : overfull ((rowsOf ps).map (·.2)) = none) : share 16 ((wordsOf (rowsOf ps)).map (·.1)) = givenOf ps := by
  have t := tile_share (tile_words h.rows (used_fit h.rows.len ho))
  rw [Nat.zero_add] at t
  rw [t, used_sum, Nat.zero_add, ((byLen_perm h.rows.len).map _).sum_nat, given_rows fun p hp => (PairR.ok_n (h.ok hp)).2.2]
theorem words_ne {ps : List PairR} {z : Sz} (h : PsOk ps z) : wordsOf (rowsOf ps) ≠ [] := fun e0 => by
  have perm := tokW_perm h.rows
  rw [e0] at perm
  have e := perm.eq_nil
  cases e2 : ps with
  | nil => have := h.len; rw [e2] at this; exact absurd this.1 (by decide)
  | cons p ps' =>
    have h6 := tokW_snd (rowsOf ps)
    rw [e, e2] at h6
    have h6 : [] = p.row.1.spread.map (·.2) ++ (rowsOf ps').flatMap fun r => r.1.spread.map (·.2) := h6
    exact spread_ne p.row.1 (List.map_eq_nil_iff.mp (List.append_eq_nil_iff.mp h6.symm).1)
theorem all_share {ps : List PairR} {z : Sz} {t : TabD} (h : PsOk ps z) (ho : overfull ((rowsOf ps).map (·.2)) = none) (ht : TabOf z ps t) : givenOf ps + share 16 t.gs = 65536 := by
  obtain ⟨B, b1, b2, b3, b4⟩ := ht.ok.gaps
  rw [share_perm b4, ← given_share h ho]
  exact gaps_share ht.ok.pre (fun e => words_ne h (List.map_eq_nil_iff.mp e)) b2 b3
section
variable {P : Program} {w : World} {K : PySem.W.Frag} {mg : Str → Option Value} {base : Heap} {C : Addr} {XA : ExAds}
abbrev s_law_stands : Stmt := topS 82
abbrev ns_law_stands : List Str := ["_law_table", "_law_pairs", "_law_words_here", "_law_listed", "_law_part", "_law_word", "_law_token", "_law_gaps", "_law_given", "_law_pair"]
theorem sc_law_stands : FnScope ns_law_stands ["_law_table", "_law_pairs", "_law_words_here"] (defScope s_law_stands) := ⟨rfl, rfl, rfl, by decide +kernel, rfl, by decide +kernel, by decide +kernel⟩
def sStands : Spec := fun ds P _ => ∃ (z : Sz) (ps : List PairR) (t : TabD), ds = [t.d, pairsD ps, .lst ((wordsOf (rowsOf ps)).map pairD)] ∧ PsOk ps z ∧ overfull ((rowsOf ps).map (·.2)) = none ∧ TabOf z ps t ∧ P (.bl true)
theorem c_law_stands (F : Df K mg "_law_stands" s_law_stands ["_law_table", "_law_pairs", "_law_words_here"]) (B : Blt mg) (cl : Cls K C) (c_words : CalM P w K mg base 1 C "words" (spX K C XA sTWords)) (c_gaps : CalM P w K mg base 1 C "gaps" (spX K C XA sTGaps)) (c_pairs : CalM P w K mg base 1 C "pairs" (spX K C XA sTPairs))
    (c_token : CalM P w K mg base 1 C "token" (spX K C XA sTToken)) (c_full : CalP P w K mg base 1 C "full" (spX K C XA sTFull)) (c_law_two : Cal P w K mg base 1 "_law_two" (spX K C XA sTwo)) (c_law_share_of : Cal P w K mg base 2 "_law_share_of" (spX K C XA sShareOf)) :
    Cal P w K mg base 3 "_law_stands" (spX K C XA sStands) := by
  refine fn_X F sc_law_stands (fun ds Q E ⟨_, _, _, e, _⟩ => by rw [e]; rfl) fun f cdv A outer s H E hr => ⟨_, (pss_cons (ps_st 3 sc_law_stands.nd (pe_mth0 (pv 0) c_words cl hr))
        (pss_cons (ps_if (PW.pt (pw_or (pt_not (pt_val (pe_callB call_isi rfl B.b_isinstance bt_isinstance (pa_cons (pv 3) (pa_cons (pe_bltn (v := .ty "list") rfl B.b_list bt_list rfl) pa_nil))))) (pw_or1 (pt_cmpR (xNe K hr.units) (pv 3) (pe_lc (own := [("_law_part", 4)]) (g := gName 4) (tt := tYes) rfl sc_law_stands.nd (pi_list (pv 2)) (blkOk_by (N := ns_law_stands) (sc := defScope s_law_stands) (by decide +kernel)) (fun _ _ _ _ _ => (pg_nm 4 sc_law_stands.nd)) (fun _ _ _ _ _ => pts_nil) (fun _ _ _ _ _ => (pe_ix (xIx K w) (pv 4) pe_int (fun _ _ => rfl)))) (nomark _))))) (pss_one (ps_ret pe_bl)) pss_nil)
        (pss_cons (ps_for (passes_of rfl) rfl (pi_list (pv 2)) (pg_tup rfl (pgs_cons (pg_nm 5 sc_law_stands.nd) (pgs_cons (pg_nm 6 sc_law_stands.nd) pgs_nil))) (pss_one (ps_if (pt_cmpR (xNe K hr.units) (pe_mth (pv 0) c_token cl hr (pa_cons (pv 5) pa_nil)) (pv 6) (nomark _)) (pss_one (ps_ret pe_bl)) pss_nil)))
        (pss_cons (ps_st 7 sc_law_stands.nd (pe_mth0 (pv 0) c_gaps cl hr))
        (pss_cons (ps_st 8 sc_law_stands.nd pe_int)
        (pss_cons (ps_for (passes_of rfl) rfl (pi_list (pv 1)) (pg_nm 9 sc_law_stands.nd) (pss_one (ps_st 8 sc_law_stands.nd (pe_op (xAdd K) (pv 8) (pe_cal c_law_two hr (pa_cons (pe_op xSub pe_int (pe_ix (xIx K w) (pv 9) pe_int (fun _ _ => rfl))) pa_nil))))))
        (pss_cons (ps_if (PW.pt (pw_or (pt_not (pt_val (pe_callB call_isi rfl B.b_isinstance bt_isinstance (pa_cons (pv 7) (pa_cons (pe_bltn (v := .ty "list") rfl B.b_list bt_list rfl) pa_nil))))) (pw_or (pt_cmpR (xNe K hr.units) (pe_cal c_law_share_of hr (pa_cons (pv 3) pa_nil)) (pv 8) (nomark _)) (pw_or1 (pt_cmpR (xNe K hr.units) (pe_cal c_law_share_of hr (pa_cons (pe_op (xAdd K) (pv 3) (pv 7)) pa_nil)) pe_int (nomark _)))))) (pss_one (ps_ret pe_bl)) pss_nil)
        (pss_one (ps_ret (pe_and (pe_cmpR (xEq K hr.units) (pe_propC (pv 0) c_full cl hr) (pe_cmpR (xEq K hr.units) (pv 8) pe_int (nomark _)) (nomark _)) (pe_one (pe_cmpR (xEq K hr.units) (pe_mth0 (pv 0) c_pairs cl hr) (pe_callTy (xTuple K) rfl B.b_tuple bt_tuple (pa_cons (pv 1) pa_nil)) (nomark _))))))))))))), ?_⟩
  rintro N H0 ds Pd PE ⟨z, ps, t, rfl, hps, hov, ht, hp⟩ hE De hrt hnx
  have bb := pure_base (K := K) (C := C) (N := N) (H0 := H0)
  have hok := ht.ok
  have hsum := all_share hps hov ht
  have hgs := given_share hps hov
  have hall : share 16 (t.ws ++ t.gs) = 65536 := by rw [share_append, hok.ws, hgs]; exact hsum
  have hgl : ∀ v ∈ t.gs, v.length ≤ 16 := fun v hv => by
    obtain ⟨Bg, b1, b2, b3, b4⟩ := hok.gaps
    have := b4.mem_iff.mp hv
    unfold gapsOf at this
    obtain ⟨p, hp, b, e⟩ := mem_kids.mp (List.mem_filter.mp this).1
    have := (begun_few hok.pre b2 b3).2
    obtain ⟨w', hw', b', r, e'⟩ := (b3 p).mp hp
    have := hok.pre.len w' hw'
    rw [e', List.length_append, List.length_cons] at this
    rw [e, List.length_append, List.length_singleton]
    omega
  have hgf : t.gs.length ≤ 10000 := by
    obtain ⟨Bg, b1, b2, b3, b4⟩ := hok.gaps
    have h1 := (begun_few hok.pre b2 b3).1
    have h2 : (kids Bg).length = 2 * Bg.length := by
      unfold kids
      rw [List.length_flatMap]
      show (Bg.map fun _ => 2).sum = _
      generalize Bg = l
      induction l with
      | nil => rfl
      | cons a l ih => rw [List.map_cons, List.sum_cons, ih, List.length_cons]; omega
    have h3 : (gapsOf ((wordsOf (rowsOf ps)).map (·.1)) Bg).length ≤ (kids Bg).length := List.length_filter_le _ _
    have h4 := hok.few
    rw [List.length_map] at h1
    rw [b4.length_eq]
    omega
  have few := hok.few
  have plen := hps.len
  refine go_asg bb.ok (ev_mth (w := (pureW K C N H0).wi []) (P := fun d => d = .lst (t.ws.map txt)) (ev_var (i := 0) rfl) rfl ea_nil ⟨t, rfl, rfl⟩) fun _ e => ?_
  subst e
  have lcv : ∀ {δ : List (Option D)}, (wipeD δ [4])[2]? = some (some (.lst ((wordsOf (rowsOf ps)).map pairD))) → δ[2]? = some (some (.lst ((wordsOf (rowsOf ps)).map pairD))) → (∀ d, ((wipeD δ [4]).set 4 (some d))[4]? = some (some d)) → Ev ((pureW K C N H0).wi []) (tLc (iList K (tVar 2)) (gName 4) tYes (tOp (rIxU K w) (tVar 4) (tC (.int 0))) [4]) δ (.lst (t.ws.map txt)) := fun {δ} h1 h2 h3 => by
    refine ev_lcmap bb (ei_lst (w := (pureW K C N H0).wi []) (ev_var (i := 2) h2)) (by rw [List.length_map]; omega) (t.ws.map txt) (by rw [List.length_map, List.length_map, hok.ws, List.length_map]) fun i d e hd he p acc np => ?_
    rw [List.getElem?_map] at hd
    rw [hok.ws, List.getElem?_map, List.getElem?_map] at he
    cases e3 : (wordsOf (rowsOf ps))[i]? with
    | none => rw [e3] at hd; cases hd
    | some q =>
      rw [e3] at hd he
      have hd := Option.some.inj hd
      have he := Option.some.inj he
      subst hd
      subst he
      exact ⟨_, gw_name, ev_op (ev_var (h3 _)) ev_int (r2_xT rfl)⟩
  have tsh : ∀ l : List (List Bool), eqOk (.lst (l.map txt)) = true := fun l => eqOk_sh (n := 1) (sh_map fun v _ => txt_sh v)
  refine go_when bb.ok (et_ord (y := false) (et_notd (et_Bd (ev_isi (T := "list") (k := true) (ev_var (i := 3) rfl) rfl rfl))) fun _ => et_testd (ev_is (ev_op (ev_var (i := 3) rfl) (lcv rfl rfl fun d => rfl) (r2_nD (tsh _) (tsh _))) (by rw [deq_refl (tsh _)]; rfl))) (fun h => by cases h) fun _ => ?_
  refine go_for bb (ei_lst (ev_var (i := 2) rfl)) (fun i δ M => M = [] ∧ ∃ u v : Option D, δ = [some t.d, some (pairsD ps), some (.lst ((wordsOf (rowsOf ps)).map pairD)), some (.lst (t.ws.map txt)), none, u, v, none, none, none]) ⟨rfl, none, none, rfl⟩ ?_ ?_
  · rintro x i d δ' M' hd ea ⟨rfl, u, v, rfl⟩
    rw [List.getElem?_map] at hd
    cases e : (wordsOf (rowsOf ps))[i]? with
    | none => rw [e] at hd; cases hd
    | some q =>
      rw [e] at hd
      have hd := Option.some.inj hd
      subst hd
      have hq := List.mem_of_getElem? e
      refine ⟨_, eg_tup (eg_cons eg_name (eg_cons eg_name eg_nil)), ?_⟩
      refine go_when' bb.ok (et_testd (b := false) (ev_is (ev_op (ev_mth (w := (pureW K C N H0).wi []) (P := fun d => d = q.2.d) (ev_var (i := 0) rfl) rfl (ea_cons (ev_var (i := 5) rfl) ea_nil) ⟨t, q.1, q.2.d, rfl, hok.tok hq, rfl⟩) (ev_var (i := 6) rfl) (r2_nD (eqOk_sh (Tok.sh _)) (eqOk_sh (Tok.sh _)))) (by rw [deq_refl (eqOk_sh (Tok.sh _))]; rfl))) (fun h => by cases h) fun _ => ?_
      exact go_kept rfl ⟨rfl, _, _, rfl⟩
  rintro δ' M' ea ⟨rfl, u, v, rfl⟩
  refine go_asg bb.ok (ev_mth (w := (pureW K C N H0).wi []) (P := fun d => d = .lst (t.gs.map txt)) (ev_var (i := 0) rfl) rfl ea_nil ⟨t, rfl, rfl⟩) fun _ e => ?_
  subst e
  refine go_asg bb.ok ev_int fun _ e => ?_
  subst e
  refine go_for bb (ei_lst (ds := ps.map PairR.d) (ev_var (i := 1) rfl)) (fun i δ M => M = [] ∧ ∃ r : Option D, δ = [some t.d, some (pairsD ps), some (.lst ((wordsOf (rowsOf ps)).map pairD)), some (.lst (t.ws.map txt)), none, u, v, some (.lst (t.gs.map txt)), some (.int (givenOf (ps.take i) : Nat)), r]) ⟨rfl, none, rfl⟩ ?_ ?_
  · rintro x i d δ' M' hd ea ⟨rfl, r, rfl⟩
    rw [List.getElem?_map] at hd
    cases e : ps[i]? with
    | none => rw [e] at hd; cases hd
    | some p =>
      rw [e] at hd
      have hd := Option.some.inj hd
      subst hd
      have hp := List.mem_of_getElem? e
      have hn := PairR.ok_n (hps.ok hp)
      rw [PairR.d_ok (hps.ok hp), hn.1]
      refine ⟨_, eg_name, ?_⟩
      refine go_asg' bb.ok (P := fun d => d = .int (givenOf (ps.take (i + 1)) : Nat)) (EvP.imp (ev_op (ev_var (i := 8) rfl) (ev_call (P := fun d => d = .int (2 ^ (16 - p.n.nat))) (ea_cons (ev_op ev_int (ev_op (ev_var (i := 9) rfl) ev_int (r2_xT rfl)) r2_sub) ea_nil) ⟨16 - p.n.nat, by congr 2; omega, by omega, rfl⟩) r2_add) fun d e2 => ?_) fun _ e => ?_
      · rw [e2]
        unfold givenOf
        rw [take_succ' e, List.map_append, List.sum_append, List.map_cons, List.map_nil, List.sum_cons, List.sum_nil, Nat.add_zero, Int.natCast_add, ← two_cast]
      · subst e
        exact go_kept rfl ⟨rfl, _, rfl⟩
  rintro δ' M' ea ⟨rfl, r, rfl⟩
  rw [List.length_map, List.take_length]
  have sh16 : ∀ (l : List (List Bool)) {δ : List (Option D)} {te : TE}, (∀ v ∈ l, v.length ≤ 16) → Ev ((pureW K C N H0).wi []) te δ (.lst (l.map txt)) → Ev ((pureW K C N H0).wi []) (tCall (spX K C XA sShareOf) [] E0 (tCons te tNil)) δ (.int (share 16 l : Nat)) := fun l {δ te} hl h => ev_call (ea_cons h ea_nil) ⟨l, rfl, hl, rfl⟩
  have wl : ∀ v ∈ t.ws, v.length ≤ 16 := fun v hv => hok.pre.len v (by rw [← hok.ws]; exact hv)
  have wf : t.ws.length ≤ 120 := by rw [hok.ws, List.length_map]; exact few
  refine go_when bb.ok (et_ord (y := false) (et_notd (et_Bd (ev_isi (T := "list") (k := true) (ev_var (i := 7) rfl) rfl rfl))) fun _ => et_ord (x := false) (y := false) (et_testd (ev_is (ev_op (sh16 t.ws wl (ev_var (i := 3) rfl)) (ev_var (i := 8) rfl) r2_nI) (by rw [hok.ws, hgs, decide_eq_true rfl]; rfl))) fun _ =>
    et_testd (ev_is (ev_op (sh16 (t.ws ++ t.gs) (fun v hv => (List.mem_append.mp hv).elim (wl v) (hgl v)) (ev_is (ev_op (ev_var (i := 3) rfl) (ev_var (i := 7) rfl) (r2_addL (by rw [List.length_map, List.length_map]; omega))) (by rw [List.map_append]))) ev_int r2_nI) (by rw [hall]; rfl))) (fun h => by cases h) fun _ => ?_
  have psh : eqOk (.tup (ps.map PairR.d)) = true := eqOk_sh (n := 3) (sh_mapT fun p _ => PairR.sh p)
  have hfull : decide (t.gs.length = 0) = decide (((givenOf ps : Nat) : Int) = 65536) := by
    rw [decide_eq_decide]
    constructor
    · intro h
      have : share 16 t.gs = 0 := share_nil_iff.mpr (List.length_eq_zero_iff.mp h)
      omega
    · intro h
      have : share 16 t.gs = 0 := by omega
      rw [share_nil_iff.mp this]
      rfl
  refine go_ret bb.ok (P := fun d => d = .bl true) (ev_andV (x := true) (y := true) (ev_is (ev_op (ev_prop (w := (pureW K C N H0).wi []) (P := fun d => d = .bl (decide (t.gs.length = 0))) (ev_var (i := 0) rfl) ⟨t, rfl, rfl⟩) (ev_op (ev_var (i := 8) rfl) ev_int r2_eI) r2_eB) (by rw [hfull, decide_eq_true rfl])) fun _ =>
    ev_one (ev_is (ev_op (ev_mth (w := (pureW K C N H0).wi []) (P := fun d => d = .tup (t.ps.map PairR.d)) (ev_var (i := 0) rfl) rfl ea_nil ⟨t, rfl, rfl⟩) (ev_cb (ea_cons (ev_var (i := 1) rfl) ea_nil) rc_tupL) (r2_eD (by rw [ht.hps]; exact psh) psh)) (by rw [ht.hps, deq_refl psh]))) fun d v H pd e I r => ?_
  subst pd
  exact hrt _ _ _ hp e r
end
end Lr
set_option Elab.async false
set_option maxRecDepth 100000
set_option maxHeartbeats 4000000
set_option linter.all false
set_option autoImplicit false
/-! try: calls whose errors are taken up at the slots; clauses with and without a name. -/
namespace Lr
open PySem L2 PyProof.Rows
section
variable {X : Cx} {x m : Str} {p pos apos : Pos} {e o : Expr} {es : List Expr} {ta : TE} {t tk : TA} {sp : Sp} {j k : Nat} {C : Addr}
/-- o.m(e, ..) -/
def tMethS (C : Addr) (m : Str) (sp : Sp) (E : L2.St → XK) (ta : TE) (t : TA) : TE := fun σ H Q => ta σ H fun x H1 => ∃ a dx fs, x = .ref a ∧ H1 a = some (.ins C dx fs) ∧ fs.lookup m = none ∧ t σ H1 fun vs H2 => sp (.ref a :: vs) H2 Q (E σ)
theorem pe_mthS {pl : Sem Bool} {E : L2.St → XK} (he : PE X o ta) (c : CalM X.prog X.w X.K X.mg X.base k C m sp) (cl : Cls X.K C) (hr : Room j X.A) (hx : ∀ σ, PassesAt (L2.CX X.prog X.w) X σ (E σ)) (ha : PA X (e :: es) t) (hk : k ≤ j := by decide)
    (hst : starEach (e :: es) X.env = (false, eval e X.env) :: starEach es X.env := by rfl) (hpl : (backTo pos (starEach es X.env)).any (·.1) = false := by rfl)
    (ht : eval (.Call (.Attribute o m apos) (e :: es) [] pos) X.env = (do
      let ov ← eval o X.env
      standAt apos.atName
      let (f, first) ← holding [ov] (getMethod ov m pl)
      callWith pos f first (backTo pos (starEach (e :: es) X.env)) (backToKw pos (keywordEach [] X.env))) := by rfl) :
    PE X (.Call (.Attribute o m apos) (e :: es) [] pos) (tMethS C m sp E ta t) := by
  obtain ⟨f, fd, ps, h1, h2, h3⟩ := c.ex
  refine ⟨fun pins s σ H Q I h => PySem.W.methodCall_KW (pl := pl) (thn (he.run pins s σ H _ I h) fun u s1 ⟨x, H1, I1, rx, a, dx, fs, ex, ea, l, q⟩ => ?_) ht⟩
  subst ex
  cases (show u = Value.ref a from rx)
  have run2 := thn (ha.run pos pins s1 σ H1 _ I1 q) fun us s2 ⟨vs, H2, I2, r, q2⟩ => (⟨I2.kIn, run_fnS (us := .ref a :: us) (vs := .ref a :: vs) h3 (hr.mono hk) h2 (hx σ) I2 (.cons rfl r) q2⟩ : _ ∧ _)
  exact getmeth_ok I1 ea cl h1 l (PySem.W.callWith_K (first := [.ref a]) (h₀ := X.base) I.ok.mod.kin h1.kp run2 hst hpl)
/-- C(e, .., k = v, ..) -/
def tMakeS (C : Addr) (n m : Nat) (sp : Sp) (gV : List V → List V → List V) (E : L2.St → XK) (t tk : TA) : TE := fun σ H Q => t σ H fun vs H1 => tk σ H1 fun zs H2 => vs.length = n ∧ zs.length = m ∧ ∀ x dx, H2 x = none → H2 dx = none → dx ≠ x →
  sp (gV (.ref x :: vs) zs) (upd (upd H2 dx (.own x)) x (.ins C dx [])) (fun v H3 => v = .non ∧ Q (.ref x) H3) (E σ)
variable {f : Addr} {fd : FuncData} {ps ks : List Str} {n : Nat} {E : L2.St → XK} {kws : List Keyword} {g : List Value → List Value → List Value} {gV : List V → List V → List V}
theorem run_makeS {pins : List (Addr × Obj)} {σ : L2.St} {H : Hp} {s : Shared} {Q : VK} {us ws : List Value} {vs zs : List V} (M : Mk X.K C f) (F : FnOk X.prog X.w X.K X.mg X.base (L2.CX X.prog X.w) k f fd ps sp) (hr : Room (k + 1) X.A) (hb : KBn X.K fd ps (n + 1) ks g gV)
    (hx : PassesAt (L2.CX X.prog X.w) X σ (E σ)) (I : Inv X pins σ H s) (r : Vals vs us) (rz : Vals zs ws) (l1 : vs.length = n) (l2 : zs.length = ks.length)
    (h : ∀ x dx, H x = none → H dx = none → dx ≠ x → sp (gV (.ref x :: vs) zs) (upd (upd H dx (.own x)) x (.ins C dx [])) (fun v H2 => v = .non ∧ Q (.ref x) H2) (E σ)) :
    wpAny (model X.prog X.w) X.A (call (.ref C) us (ks.zip ws)) (EP X pins σ Q) X.xe s := by
  have I2 := Inv.made (C := C) I
  have rel1 : Vals (V.ref (s.heap.objs.size + 1) :: vs) (Value.ref (s.heap.objs.size + 1) :: us) := .cons rfl r
  have len1 : (Value.ref (s.heap.objs.size + 1) :: us).length = n + 1 := by rw [← rel1.length, List.length_cons, l1]
  have prom := h (s.heap.objs.size + 1) s.heap.objs.size (I.hok.fresh (Nat.le_succ _)) (I.hok.fresh (Nat.le_refl _)) (Nat.ne_of_lt (Nat.lt_succ_self _))
  have bind := hb.to _ (Value.ref (s.heap.objs.size + 1) :: us) ws I2.kIn len1 (by rw [← rz.length]; exact l2)
  have body := F.run _ X.stack _ _ ⟨Value.ref (s.heap.objs.size + 1) :: us, ks.zip ws⟩ (g (Value.ref (s.heap.objs.size + 1) :: us) ws) _ _ (E σ) (hr.make C us (ks.zip ws)) (I2.env0.make C us (ks.zip ws)) bind (hb.rel rel1 rz) prom
  refine wpAny_call (make_map (f := f) I.kIn M.makes M.init (beq_iff_eq.mp M.fn) (codeAny_mono body fun r s' hq' => ?_))
  match r, hq' with
  | .error e, hq' => exact hx pins _ _ e s' I2 hq'
  | .ok (.ret u), hq' =>
    obtain ⟨v, H', I3, rv, ev, q3⟩ := I2.after hq'
    subst ev
    exact ⟨rv, V.ref (s.heap.objs.size + 1), H', I3, rfl, q3⟩
  | .ok .next, hq' => exact hq'.elim
  | .ok .brk, hq' => exact hq'.elim
  | .ok .cont, hq' => exact hq'.elim
theorem pe_makeS (M : Mk X.K C f) (F : FnOk X.prog X.w X.K X.mg X.base (L2.CX X.prog X.w) k f fd ps sp) (hr : Room j X.A) (hb : KBn X.K fd ps (n + 1) ks g gV) (hx : ∀ σ, PassesAt (L2.CX X.prog X.w) X σ (E σ)) (hm : X.mg x = some (.ref C)) (ha : PA X (e :: es) t) (hkw : PK X kws tk)
    (hk : k + 1 ≤ j := by decide) (hg : Gl X x := by rfl) (hall : (backToKw pos (keywordEach kws X.env)).all (·.1.isSome) = true := by rfl) (hks : (backToKw pos (keywordEach kws X.env)).filterMap (·.1) = ks := by rfl) (hdb : (x == ("__debug__" : Str)) = false := by decide)
    (he : starEach (e :: es) X.env = (false, eval e X.env) :: starEach es X.env := by rfl) (hpl : ((backTo pos (starEach (e :: es) X.env)).any (·.1) || (backToKw pos (keywordEach kws X.env)).any (·.1.isNone)) = false := by rfl) :
    PE X (.Call (.Name x p) (e :: es) kws pos) (tMakeS C n ks.length sp gV E t tk) := by
  refine ⟨fun pins s σ H Q I h => wpAny_Call_Name_kw (ld_glob I hg hm ?_ hdb)⟩
  refine PySem.W.callWith_KW (h₀ := X.base) I.ok.mod.kin M.kp hall (thn (ha.run pos pins s σ H _ I h) fun us s1 ⟨vs, H1, I1, r, q⟩ => ?_) hpl he
  refine thn (hkw.run pos pins s1 σ H1 _ I1 q) fun ws s2 ⟨zs, H2, I2, rz, l1, l2, q2⟩ => ⟨I2.kIn, ?_⟩
  rw [hks]
  exact run_makeS M F (hr.mono hk) hb (hx σ) I2 r rz l1 l2 q2
end
/-! clauses -/
/-- a clause: its class, the slot of its name if it has one, its suite -/
abbrev Cl := Value × Option Nat × (Addr → Value → Option Addr → TS)
def wMix (K : PySem.W.Frag) (Wout : WX) (D : Ends) : List Cl → WX
  | [] => Wout
  | (c, none, ts) :: r => fun cls d σ H => ∃ b, PySem.W.exmOne K cls c = some b ∧ (b = true → ∀ a, H a = none → ts a cls d D σ H) ∧ (b = false → wMix K Wout D r cls d σ H)
  | (c, some i, ts) :: r => fun cls d σ H => ∃ b, PySem.W.exmOne K cls c = some b ∧ (b = true → ∀ a, H a = none → ts a cls d ⟨fun σ' H' => D.nx (σ'.set i none) H', D.rt, fun σ' H' => D.bk (σ'.set i none) H', fun σ' H' => D.ct (σ'.set i none) H'⟩ (σ.set i (some (.ref a))) H) ∧ (b = false → wMix K Wout D r cls d σ H)
inductive HdsM (X : Cx) : List ExceptHandler → List Cl → Prop
  | nil : HdsM X [] []
  | bare {x : Str} {c : Value} {ts : Addr → Value → Option Addr → TS} {b₀ : Stmt} {suite : List Stmt} {np pos : Pos} {hds : List ExceptHandler} {l : List Cl} (hc : Names X x c)
      (hsu : ∀ (a : Addr) (oe : Obj) (cls : Value) (d : Option Addr) (pn : List (Addr × Obj)), Zc cls d oe → (∃ vs, oe.data = .fields vs) → PSs (X.suite a ((a, oe) :: pn)) (b₀ :: suite) (ts a cls d)) (r : HdsM X hds l) :
      HdsM X (.ExceptHandler (some (.Name x np)) none (b₀ :: suite) pos :: hds) ((c, none, ts) :: l)
  | named {x n : Str} {i : Nat} {c : Value} {ts : Addr → Value → Option Addr → TS} {b₀ : Stmt} {suite : List Stmt} {np pos : Pos} {hds : List ExceptHandler} {l : List Cl} (hc : Names X x c) (hN : X.N.Nodup) (hi : X.N[i]? = some n) (hln : X.env.kindOf n = some .local)
      (hsu : ∀ (a : Addr) (oe : Obj) (cls : Value) (d : Option Addr) (pn : List (Addr × Obj)), Zc cls d oe → (∃ vs, oe.data = .fields vs) → PSs (X.suite a ((a, oe) :: pn)) (b₀ :: suite) (ts a cls d)) (r : HdsM X hds l) :
      HdsM X (.ExceptHandler (some (.Name x np)) (some n) (b₀ :: suite) pos :: hds) ((c, some i, ts) :: l)
section
variable {X : Cx} {body : List Stmt} {h₀ : ExceptHandler} {hds : List ExceptHandler} {l : List Cl} {pos : Pos} {tb : WX → TS} {Wout : WX}
theorem ps_try_mix (hs : X.stack = X.env :: X.outer) (hf : X.env.frame = some X.env.locals) (tk : Takes X Wout)
    (hb : ∀ (W : WX) (pn : List (Addr × Obj)) (xe : Value → Shared → Prop), Takes (X.tr pn xe) W → PSs (X.tr pn xe) body (tb W)) (hh : HdsM X (h₀ :: hds) l) : PS X (.Try body (h₀ :: hds) [] [] pos) (fun D σ H => tb (wMix X.K Wout D l) D σ H) := by
  refine ⟨fun pins s σ H D I h => wpAny_Try_except ?_⟩
  have ok := I.ok
  have hfr : X.A.frames = some (X.env :: X.outer) := hs ▸ ok.frames
  -- how the body ends
  have ends : ∀ (f : Flow) (s1 : Shared), SP (X.tr (X.pn ++ pins) (fun e s₁ => wpAny (model X.prog X.w) X.A (noteFrame e X.env) (fun _ s₂ => wpAny (model X.prog X.w) X.A (setFlight e none) (fun _ s₃ => wpAny (model X.prog X.w) X.A (handleBy e X.env (h₀ :: hds)) (SP X pins D) X.xe s₃) X.xe s₂) X.xe s₁)) [] D f s1 → SP X pins D f s1 := fun f s1 q => by
    cases f <;> first
      | (obtain ⟨σ', H', J', q⟩ := q; exact ⟨σ', H', J'.ofTry ok, q⟩)
      | (obtain ⟨v, σ', H', J', r, q⟩ := q; exact ⟨v, σ', H', J'.ofTry ok, r, q⟩)
  have run := (hb (wMix X.K Wout D l) (X.pn ++ pins) (fun e s₁ => wpAny (model X.prog X.w) X.A (noteFrame e X.env) (fun _ s₂ => wpAny (model X.prog X.w) X.A (setFlight e none) (fun _ s₃ => wpAny (model X.prog X.w) X.A (handleBy e X.env (h₀ :: hds)) (SP X pins D) X.xe s₃) X.xe s₂) X.xe s₁) (fun u s' xx => ?_)).run [] s σ H D (I.toTry _) h
  · refine wpAny_mono run (fun f s1 q => ?_) fun _ _ z => z
    have q' := ends f s1 q
    cases f with
    | next => exact wpAny_execs_nil q'
    | brk => exact q'
    | cont => exact q'
    | ret u => exact q'
  -- an error of the body
  obtain ⟨a, B, sI, pins', σ', H', cls, d, rfl, J', nb, up, sky, na, os, ag, w⟩ := xx
  have J : Inv X pins σ' H' sI := J'.ofTry ok
  rw [show (X.tr (X.pn ++ pins) _).stack = X.env :: X.outer from hs] at sky
  refine (show wpAny (model X.prog X.w) X.A (noteFrame (.ref a) X.env) _ _ _ from ?_)
  refine Sky.land Zc.steady hfr hf sky fun h3 fl3 up3 => ?_
  have J3 : Inv X pins σ' H' { s' with heap := h3 } := J.landed nb fl3.1 (up.trans up3) os ag
  have kept : ∀ {h : Heap} {o : Obj} {vs : Array Value}, h.FunFrames B (X.env :: X.outer) → h.get? a = some o → o.data = .fields vs → a ∉ frs (X.env :: X.outer) := fun ff e dd hm => by
    obtain ⟨_, o', e', no⟩ := ff.mem hm
    rw [e] at e'
    cases e'
    exact no _ dd
  obtain ⟨oe3, vs3, at3, zc3, dat3⟩ := fl3.there
  have apart := kept fl3.2.2.1 at3 dat3
  have nL : a ≠ X.env.locals := fun z => apart (List.mem_filterMap.mpr ⟨X.env, List.mem_cons_self, z ▸ hf⟩)
  have nF : a ∉ X.fs := fun hm => by
    obtain ⟨e, he, q⟩ := List.mem_filterMap.mp hm
    exact apart (List.mem_filterMap.mpr ⟨e, .tail _ he, q⟩)
  have S3 := J3.suite at3 dat3 na nL nF
  -- the class that a clause names, and whether it takes the error
  have asks : ∀ {x : Str} {c : Value} {np : Pos} {b : Bool} {Q : Bool → Shared → Prop} {E : Value → Shared → Prop}, Names X x c → PySem.W.exmOne X.K cls c = some b → Q b { s' with heap := h3 } →
      wpAny (model X.prog X.w) (X.A.mark (some (.ref a))) (eval (.Name x np) X.env) (fun cv s₁ => wpAny (model X.prog X.w) (X.A.mark (some (.ref a))) (excMatches (.ref a) cv) Q E s₁) E { s' with heap := h3 } := fun {x c np b Q E} hc hb1 q => by
    have lk : PySem.W.Looks (model X.prog X.w) h3 (typeOf (.ref a)) cls := fun A Q E s k q => wpAny_typeOf_ref (k _ _ at3) (by rw [zc3.1]; exact q)
    have fin := (PySem.W.exm_one (M := model X.prog X.w) J3.kIn lk hb1).here (A := X.A.mark (some (.ref a))) (E := E) (s := { s' with heap := h3 }) q
    obtain ⟨hg, hdbg, hm | ⟨hm, hv, hnn⟩⟩ := hc
    · exact ld_glob (X := X.suite a ((a, oe3) :: (X.pn ++ pins))) S3 hg hm fin hdbg
    · exact ld_blt (X := X.suite a ((a, oe3) :: (X.pn ++ pins))) S3 hg hm hv fin hnn hdbg
  -- no clause takes it
  have passes : Wout cls d σ' H' → wpAny (model X.prog X.w) X.A (handleBy (.ref a) X.env []) (SP X pins D) X.xe { s' with heap := h3 } := fun wo => by
    refine wpAny_handleBy_nil ?_
    obtain ⟨_, _, _, oe, vs, T, _, _, he, _, hd, h1, _⟩ := id fl3
    have on : wpAny (model X.prog X.w) X.A (setFlight (.ref a) X.env.frame) (fun _ s4 => wpAny (model X.prog X.w) X.A (throw (.ref a) : Sem Flow) (SP X pins D) X.xe s4) X.xe { s' with heap := h3 } := by
      rw [hf]
      refine HandSPX.setFlight_upZ fl3 fun h4 hh4 up4 => wpAny_throw (tk _ _ ⟨a, B, sI, pins, σ', H', cls, d, rfl, J, nb, (up.trans up3).trans up4, .inr (.inr ?_), na, os, ag, wo⟩)
      rw [hs]
      exact hh4
    unfold PySem.passOn
    refine wpAny_bind (wpAny_field he hd h1 ?_)
    rw [if_neg (show ¬ ((Value.ref T == Value.none) = true) from by simp)]
    first
      | exact wpAny_bind (wpAny_pure (wpAny_bind on))
      | exact wpAny_bind on
  have go : ∀ {hs' : List ExceptHandler} {l' : List Cl}, HdsM X hs' l' → wMix X.K Wout D l' cls d σ' H' → wpAny (model X.prog X.w) X.A (handleBy (.ref a) X.env hs') (SP X pins D) X.xe { s' with heap := h3 } := by
    intro hs' l' hk
    induction hk with
    | nil => exact passes
    | bare hc hsu r ih =>
      rintro ⟨b, hb1, hyes, hno⟩
      refine wpAny_handleBy_cons (codeAny_handlers_test (asks hc hb1 ?_)) (by intro q; cases q)
      match b, hyes, hno with
      | false, _, hno => exact ih (hno rfl)
      | true, hyes, _ =>
        refine codeAny_handlers_suite (HandSPX.lands_againZ fl3 fun h4 fl4 up4 => ?_)
        obtain ⟨oe4, vs4, at4, zc4, dat4⟩ := fl4.there
        have S4 := (J.landed nb fl4.1 ((up.trans up3).trans up4) os ag : Inv X pins σ' H' { s' with heap := h4 }).suite at4 dat4 na nL nF
        refine wpAny_mono ((hsu a oe4 cls d (X.pn ++ pins) zc4 ⟨_, dat4⟩).run [] _ _ H' _ S4 (hyes rfl a na)) (fun f s6 q => ?_) fun _ _ z => z.elim
        cases f <;> first
          | (obtain ⟨σ6, H6, S6, q6⟩ := q; exact ⟨σ6, H6, S6.unsuite ok, q6⟩)
          | (obtain ⟨v6, σ6, H6, S6, r6, q6⟩ := q; exact ⟨v6, σ6, H6, S6.unsuite ok, r6, q6⟩)
    | named hc hN hi hln hsu r ih =>
      rintro ⟨b, hb1, hyes, hno⟩
      refine wpAny_handleBy_cons (codeAny_handlers_test (asks hc hb1 ?_)) (by intro q; cases q)
      match b, hyes, hno with
      | false, _, hno => exact ih (hno rfl)
      | true, hyes, _ =>
        refine codeAny_handlers_suite_as (HandSPX.lands_againZ fl3 fun h4 fl4 up4 => ?_)
        obtain ⟨oe4, vs4, at4, zc4, dat4⟩ := fl4.there
        have S4 := (J.landed nb fl4.1 ((up.trans up3).trans up4) os ag : Inv X pins σ' H' { s' with heap := h4 }).suite at4 dat4 na nL nF
        refine store_ok (X := X.suite a ((a, oe4) :: (X.pn ++ pins))) (v := .ref a) S4 hN hi (.inl hln) rfl (fun s5 S5 => ?_) (.inr hln)
        refine wpAny_mono ((hsu a oe4 cls d (X.pn ++ pins) zc4 ⟨_, dat4⟩).run [] s5 _ H' _ S5 (hyes rfl a na)) (fun f s6 q => ?_) fun _ _ z => z.elim
        cases f <;> first
          | (obtain ⟨σ6, H6, S6, q6⟩ := q; exact gone_ok (S6.unsuite ok) hN hi hln fun s7 J7 => ⟨_, _, J7, q6⟩)
          | (obtain ⟨v6, σ6, H6, S6, r6, q6⟩ := q; exact gone_ok (S6.unsuite ok) hN hi hln fun s7 J7 => ⟨_, _, _, J7, r6, q6⟩)
  exact go hh w
end
end Lr
set_option Elab.async false
set_option maxRecDepth 100000
set_option maxHeartbeats 4000000
set_option linter.all false
set_option autoImplicit false
/-! The law: first words. -/
namespace Lr
open PySem L2 PyProof.Rows
theorem spread_tok {g : Sign} {z : Sz} (hz : z.Ok) (h : g.okB z = true) {q : W} (hq : q ∈ g.spread) : q.2.okB ⟨z.n, z.w, z.m⟩ = true := by
  obtain ⟨z1, z2, z3, z4⟩ := hz
  have p := pow_pos2
  cases g with
  | letter a x =>
    obtain ⟨v, hv, rfl⟩ := List.mem_map.mp hq
    have hv := List.mem_range.mp hv
    have h : spansB a x 0 ((z.n : Int) - 1) = true := h
    simp only [spansB, Sc.wi, Bool.and_eq_true, decide_eq_true_eq, two_cast] at h
    show (Sc.int ((a + v : Nat) : Int)).wi 0 ((z.n : Int) - 1) = true
    simp only [Sc.wi, Bool.and_eq_true, decide_eq_true_eq]
    omega
  | copy d x l y =>
    obtain ⟨v, hv, hq⟩ := List.mem_flatMap.mp hq
    obtain ⟨u, hu, rfl⟩ := List.mem_map.mp hq
    have hv := List.mem_range.mp hv
    have hu := List.mem_range.mp hu
    have h : (spansB d x 1 z.w && spansB l y 1 40) = true := h
    simp only [spansB, Sc.wi, Bool.and_eq_true, decide_eq_true_eq, two_cast] at h
    show ((Sc.int ((d + v : Nat) : Int)).wi 1 z.w && (Sc.int ((l + u : Nat) : Int)).wi 1 40) = true
    simp only [Sc.wi, Bool.and_eq_true, decide_eq_true_eq]
    omega
  | again i e l y =>
    obtain ⟨u, hu, rfl⟩ := List.mem_map.mp hq
    have hu := List.mem_range.mp hu
    have h : (((Sc.int i).wi 0 ((z.m : Int) - 1) && (Sc.int e).wi 0 ((z.w : Int) - 1)) && spansB l y 1 40) = true := h
    simp only [spansB, Sc.wi, Bool.and_eq_true, decide_eq_true_eq, two_cast] at h
    show (decide ((i : Int) < (z.m : Nat)) && (decide ((e : Int) < (z.w : Nat)) && (Sc.int ((l + u : Nat) : Int)).wi 1 40)) = true
    simp only [Sc.wi, Bool.and_eq_true, decide_eq_true_eq]
    omega
  | turn j =>
    rw [List.mem_singleton.mp hq]
    have h : (Sc.int j).wi 0 ((z.t : Int) - 1) = true := h
    simp only [Sc.wi, Bool.and_eq_true, decide_eq_true_eq] at h
    show decide ((j : Int) < 6) = true
    rw [decide_eq_true_eq]
    omega
  | stop =>
    rw [List.mem_singleton.mp hq]
    rfl
theorem words_tok {ps : List PairR} {z : Sz} (h : PsOk ps z) {q : W} (hq : q ∈ wordsOf (rowsOf ps)) : q.2.okB ⟨z.n, z.w, z.m⟩ = true := by
  obtain ⟨hd, h1, h2⟩ := List.mem_flatMap.mp hq
  obtain ⟨r, hr, e1, _⟩ := mem_heads h1
  obtain ⟨x, hx, rfl⟩ := List.mem_map.mp h2
  obtain ⟨p, hp, rfl⟩ := List.mem_map.mp (byLen_mem hr)
  rw [e1] at hx
  exact spread_tok (q := x) h.zok (PairR.row_sign (h.signs p hp)).1 hx
theorem optW_sh (o : Option (List Bool)) : shD 0 (optW o) = true := by
  cases o with
  | none => rfl
  | some v => exact txt_sh v
/-- what are no tokens -/
def oddR (k : Book) : List TokR := [.tk (.copy (k.m + 1) 1), .tk (.again k.sp 0 1), .tk (.turn 6), .tk (.letter k.a), .tk (.copy 0 1), .bad, .non]
theorem odd_no {k : Book} {q : TokR} (h : q ∈ oddR k) : q.okB ⟨k.a, k.m, k.sp⟩ = false := by
  have c : ∀ {b : Bool}, ¬ b = true → b = false := fun {b} h => by cases b <;> simp_all
  simp only [oddR, List.mem_cons, List.not_mem_nil, or_false] at h
  rcases h with rfl | rfl | rfl | rfl | rfl | rfl | rfl <;> refine c fun h => ?_ <;>
    simp only [TokR.okB, Tok.okB, Sc.wi, Bool.and_eq_true, decide_eq_true_eq] at h <;> first | omega | cases h
section
variable {b : Wd} {H0 : Hp} {Γ : List (V × D)} {M : ML} {δ : List (Option D)} {te : TE} {tl : TA} {tz : TS} {De : Ends} {P : D → Prop} {XA : ExAds} {S : Spec} {fs : List (Str × D)} {ds : List D} {m : Str} {PE : Er → Prop} {l : List Cl} {Wout : WX}
/-- try: o.m(e, ..) .. -/
theorem go_tryM (bb : b.Base H0) (h : Ev (b.wi M) te δ (.ins fs)) (hm : fs.lookup m = none) (ha : EvA (b.wi M) tl δ ds) (hS : S (.ins fs :: ds) P PE) (k1 : (∃ d, P d) → Go b H0 Γ M δ tz De)
    (k2 : ∀ er c dx σ H', PE er → Pt b H0 Γ M δ σ H' → ErAt XA er c dx H' → wMix b.K Wout ⟨tz De, De.rt, De.bk, De.ct⟩ l c dx σ H') :
    Go b H0 Γ M δ (tSeq (fun D σ H => tDrop (tMethS b.C m (spX b.K b.C XA S) (WE (wMix b.K Wout D l)) te tl) D σ H) tz) De := fun σ H p => by
  have ok := bb.ok.wi M
  refine h ok σ H p.env p.inv _ fun d v H1 pd e1 I1 r => ?_
  subst pd
  cases r with
  | @ins a dx vs _ n hs rr =>
    refine ⟨a, dx, vs, rfl, hs, rr.look.2 hm, ?_⟩
    have p1 := p.step bb.ok e1 I1
    refine ha ok σ H1 p1.env I1 _ fun as xs H2 p2 e2 I2 r2 => ?_
    subst p2
    have pt2 := p1.step bb.ok e2 I2
    have c := Ex.car ok e2
    refine ⟨(b.wi M).N, .ins fs :: as, P, PE, .cons ((Lr.Rp.ins n hs rr).car c) r2, fun a ha => ok.fr _ _ I2 ha, hS, fun d v H' pd s r' => k1 ⟨d, pd⟩ σ H' (pt2.same bb s), fun er c dx H' z s ea => k2 er c dx σ H' z (pt2.same bb s) ea⟩
end
abbrev s_law_firsts : Stmt := topS 84
abbrev ns_law_firsts : List Str := ["_law_source_here", "_law_table", "_law_book_here", "_law_words_here", "_law_tokens", "_law_part", "_law_token", "_law_first", "_law_odd_here", "_law_value", "_law_refused"]
theorem sc_law_firsts : FnScope ns_law_firsts ["_law_source_here", "_law_table", "_law_book_here", "_law_words_here"] (defScope s_law_firsts) := ⟨rfl, rfl, rfl, by decide +kernel, rfl, by decide +kernel, by decide +kernel⟩
section
variable {P : Program} {w : World} {K : PySem.W.Frag} {mg : Str → Option Value} {base : Heap} {C : Addr} {XA : ExAds}
def sFirstsL : SpecS := fun s ds P => ∃ (z : Sz) (k : Book) (ps : List PairR) (t : TabD), ds = [.adr s, t.d, k.d, .lst ((wordsOf (rowsOf ps)).map pairD)] ∧ PsOk ps z ∧ TabOf z ps t ∧ k.Ok ∧ (z.n = k.a ∧ z.w = k.m ∧ z.m = k.sp) ∧ P (.bl true)
theorem c_law_firsts (F : Df K mg "_law_firsts" s_law_firsts ["_law_source_here", "_law_table", "_law_book_here", "_law_words_here"]) (B : Blt mg) (cl : Cls K C) (c_law_draw : Cal P w K mg base 2 "_law_draw" (spS K C sDraw)) (c_law_shortest : Cal P w K mg base 1 "_law_shortest" (spX K C XA sShortest))
    (c_first : CalM P w K mg base 5 C "first_word" (spX K C XA sTFirst)) (x_BadToken : ErrC K mg "BadToken" XA.token) (exm : PySem.W.exmOne K (.ref XA.token) (.ref XA.token) = some true) : Cal P w K mg base 6 "_law_firsts" (spS K C sFirstsL) := by
  refine fn_S F sc_law_firsts (fun s ds Q ⟨_, _, _, _, e, _⟩ => by rw [e]; rfl) fun f cdv A outer s H E hr => ⟨_, (pss_cons (ps_setLc (i := 4) (own := [("_law_part", 5)]) (g := gName 5) (tt := tYes) rfl sc_law_firsts.nd rfl rfl (sw_true rfl rfl rfl (by decide +kernel)) (pi_list (pv 3)) (blkOk_by (N := ns_law_firsts) (sc := defScope s_law_firsts) (by decide +kernel)) (fun _ _ _ _ _ => (pg_nm 5 sc_law_firsts.nd)) (fun _ _ _ _ _ => pts_nil) (fun _ _ _ _ _ => (pe_ix (xIx K w) (pv 5) pe_int (fun _ _ => rfl))))
        (pss_cons (ps_expr (pe_bm PySem.F.plainAttrs_list PySem.F.slot_list_append PySem.F.type_list_append mt_append (pv 4) (pa_cons (pe_tup (pa_cons pe_str (pa_cons (pe_op (xAdd K) pe_int (pe_cal c_law_draw hr (pa_cons (pv 0) (pa_cons (pe_ix (xIx K w) (pv 2) pe_int (fun _ _ => rfl)) pa_nil)))) (pa_cons (pe_op (xAdd K) pe_int (pe_cal c_law_draw hr (pa_cons (pv 0) (pa_cons pe_int pa_nil)))) pa_nil)))) pa_nil)))
        (pss_cons (ps_expr (pe_bm PySem.F.plainAttrs_list PySem.F.slot_list_append PySem.F.type_list_append mt_append (pv 4) (pa_cons (pe_tup (pa_cons pe_str (pa_cons (pe_cal c_law_draw hr (pa_cons (pv 0) (pa_cons pe_int pa_nil))) pa_nil))) pa_nil)))
        (pss_cons (ps_expr (pe_bm PySem.F.plainAttrs_list PySem.F.slot_list_append PySem.F.type_list_append mt_append (pv 4) (pa_cons (pe_tup (pa_cons pe_str pa_nil)) pa_nil)))
        (pss_cons (ps_for (passes_of rfl) rfl (pi_list (pv 4)) (pg_nm 6 sc_law_firsts.nd) (pss_cons (ps_st 7 sc_law_firsts.nd (pe_mth (pv 1) c_first cl hr (pa_cons (pv 6) pa_nil)))
        (pss_cons (ps_if (PW.pt (pw_and (pt_cmpR xIsNot (pv 7) pe_non (nomark _)) (pw_and1 (pt_not (pt_val (pe_callB call_isi rfl B.b_isinstance bt_isinstance (pa_cons (pv 7) (pa_cons (pe_bltn (v := .ty "str") rfl B.b_str bt_str rfl) pa_nil)))))))) (pss_one (ps_ret pe_bl)) pss_nil)
        (pss_one (ps_if (pt_cmpR (xNe K hr.units) (pv 7) (pe_cal c_law_shortest hr (pa_cons (pv 3) (pa_cons (pv 6) pa_nil))) (nomark _)) (pss_one (ps_ret pe_bl)) pss_nil)))))
        (pss_cons (ps_st 8 sc_law_firsts.nd (pe_lst (pa_cons (pe_tup (pa_cons pe_str (pa_cons (pe_op (xAdd K) (pe_ix (xIx K w) (pv 2) pe_int (fun _ _ => rfl)) pe_int) (pa_cons pe_int pa_nil)))) (pa_cons (pe_tup (pa_cons pe_str (pa_cons (pe_ix (xIx K w) (pv 2) pe_int (fun _ _ => rfl)) (pa_cons pe_int (pa_cons pe_int pa_nil))))) (pa_cons (pe_tup (pa_cons pe_str (pa_cons pe_int pa_nil))) pa_nil)))))
        (pss_cons (ps_for (passes_of rfl) rfl (pi_list (pe_op (xAdd K) (pv 8) (pe_lst (pa_cons (pe_tup (pa_cons pe_str (pa_cons (pe_ix (xIx K w) (pv 2) pe_int (fun _ _ => rfl)) pa_nil))) (pa_cons (pe_tup (pa_cons pe_str (pa_cons pe_int (pa_cons pe_int pa_nil)))) (pa_cons (pe_lst (pa_cons pe_str pa_nil)) (pa_cons pe_non pa_nil))))))) (pg_nm 9 sc_law_firsts.nd) (pss_cons (ps_st 10 sc_law_firsts.nd pe_bl)
        (pss_cons (ps_try_mix (tb := fun W => tDrop (tMethS C "first_word" (spX K C XA sTFirst) (WE W) (tVar 1) (tCons (tVar 9) tNil))) (l := [(.ref XA.token, none, fun _ _ _ => tAsg (tC (.bl true)) (gName 10))]) (Wout := fun _ _ _ _ => False) rfl rfl takes0 (fun W pn xe tk => pss_one (ps_expr (pe_mthS (pv 1) c_first cl hr (fun σ => passAt tk σ) (pa_cons (pv 9) pa_nil)))) (.bare ⟨rfl, by decide, .inl x_BadToken.gC⟩ (fun a oe cls d pn hz hf => pss_one (ps_st 10 sc_law_firsts.nd pe_bl)) .nil))
        (pss_one (ps_if (pt_not (pt_val (pv 10))) (pss_one (ps_ret pe_bl)) pss_nil)))))
        (pss_one (ps_ret pe_bl))))))))), ?_⟩
  rintro N H0 s l ds Pd ns nl ⟨z, k, ps, t, rfl, hps, ht, hk, hz, hp⟩ De hrt
  have bb := src_base (K := K) (C := C) (H0 := H0) ns nl
  have hok := ht.ok
  have few := hok.few
  have tz : t.z = ⟨k.a, k.m, k.sp⟩ := by rw [ht.hz, hz.1, hz.2.1, hz.2.2]
  let A := wordsOf (rowsOf ps)
  refine go_new bb (evn_lcmap bb (ei_lst (w := (srcW K C N H0 s l).wi []) (ds := A.map pairD) (ev_var (i := 3) rfl)) (by rw [List.length_map]; exact Nat.le_trans few (by decide)) ((A.map (·.2)).map Tok.d) (by rw [List.length_map, List.length_map, List.length_map]) fun i d e hd he p acc np => ?_) fun ds q hds hq hm => ?_
  · rw [List.getElem?_map] at hd
    rw [List.getElem?_map, List.getElem?_map] at he
    cases e3 : A[i]? with
    | none => rw [e3] at hd; cases hd
    | some q =>
      rw [e3] at hd he
      have hd := Option.some.inj hd
      have he := Option.some.inj he
      subst hd
      subst he
      exact ⟨_, gw_name, ev_op (ev_var rfl) ev_int (r2_xT rfl)⟩
  subst hds
  have l1 : ((A.map (·.2)).map Tok.d).length ≤ 120 := by rw [List.length_map, List.length_map]; exact few
  refine go_app bb (i := 4) rfl (by simp [ads]) (P := fun d => ∃ i j : Nat, d = (Tok.copy i j).d ∧ (1 ≤ i ∧ i ≤ k.m) ∧ (1 ≤ j ∧ j ≤ 40)) (evp_tup (ea_cons1 ev_str (ea_consN (Pa := fun x => 1 ≤ x ∧ x ≤ k.m) (evp_opNr ev_int (ev_dr ns nl rfl (ev_op (a := k.d) (ev_var (i := 2) rfl) ev_int (r2_xT rfl)) (by have := hk.m; omega) (by have := hk.m; omega)) fun i hi => r2_add.imp fun d e => ⟨1 + i, by rw [e, Int.natCast_add]; rfl, by omega⟩)
    (ea_consN (Pa := fun x => 1 ≤ x ∧ x ≤ 40) (evp_opNr ev_int (ev_dr ns nl rfl ev_int (by omega) (by omega)) fun i hi => r2_add.imp fun d e => ⟨1 + i, by rw [e, Int.natCast_add]; rfl, by omega⟩) ea_nil))) ?_ ?_) (by omega) fun d hd => ?_
  · rintro ds ⟨_, rfl, _, _, rfl, _, _, _, rfl, _, rfl⟩
    simp only [List.length_cons, List.length_nil]; omega
  · rintro ds ⟨_, rfl, i, _, rfl, hi, j, _, rfl, hj, rfl⟩
    exact ⟨i, j, rfl, hi, hj⟩
  obtain ⟨i, j, rfl, hi, hj⟩ := hd
  refine go_app bb (i := 4) rfl (by simp [ads]) (P := fun d => ∃ u : Nat, d = (Tok.turn u).d ∧ u < 6) (evp_tup (ea_cons1 ev_str (ea_consN (Pa := fun x => x < 6) ((ev_dr ns nl rfl ev_int (by omega) (by omega)).imp fun d ⟨x, e, hx⟩ => ⟨x, e, by omega⟩) ea_nil)) ?_ ?_) (by rw [List.length_append, List.length_singleton]; omega) fun d hd => ?_
  · rintro ds ⟨_, rfl, _, _, rfl, _, rfl⟩
    simp only [List.length_cons, List.length_nil]; omega
  · rintro ds ⟨_, rfl, u, _, rfl, hu, rfl⟩
    exact ⟨u, rfl, hu⟩
  obtain ⟨u, rfl, hu⟩ := hd
  refine go_app bb (i := 4) rfl (by simp [ads]) (ev_tup (ea_cons ev_str ea_nil)) (by rw [List.length_append, List.length_append, List.length_singleton, List.length_singleton]; omega) fun d hd => ?_
  subst hd
  have ets : (((A.map (·.2)).map Tok.d ++ [(Tok.copy i j).d]) ++ [(Tok.turn u).d]) ++ [.tup [.str "stop"]] = (((A.map (·.2) ++ [Tok.copy i j]) ++ [Tok.turn u]) ++ [Tok.stop]).map Tok.d := by
    simp only [List.map_append]
    rfl
  rw [ets]
  generalize hts : ((A.map (·.2) ++ [Tok.copy i j]) ++ [Tok.turn u]) ++ [Tok.stop] = ts
  have tok : ∀ q ∈ ts, q.okB t.z = true := fun q hq => by
    rw [← hts] at hq
    simp only [List.mem_append, List.mem_singleton] at hq
    rw [tz]
    rcases hq with ((hq | rfl) | rfl) | rfl
    · obtain ⟨x, hx, rfl⟩ := List.mem_map.mp hq
      have := words_tok hps hx
      rw [hz.1, hz.2.1, hz.2.2] at this
      exact this
    · show ((Sc.int (i : Int)).wi 1 (k.m : Nat) && (Sc.int (j : Int)).wi 1 40) = true
      simp only [Sc.wi, Bool.and_eq_true, decide_eq_true_eq]
      omega
    · show decide ((u : Int) < 6) = true
      rw [decide_eq_true_eq]
      omega
    · rfl
  clear hts ets
  refine go_freeze bb (i := 4) rfl (by simp [ads]) hq ?_
  refine go_for bb (ei_lst (ev_var (i := 4) rfl)) (fun _ δ M => M = [] ∧ ∃ a b : Option D, δ = [some (.adr s), some t.d, some k.d, some (.lst (A.map pairD)), some (.lst (ts.map Tok.d)), none, a, b, none, none, none]) ⟨rfl, none, none, rfl⟩ ?_ ?_
  · rintro x i' d δ' M' hd ea ⟨rfl, a, b, rfl⟩
    rw [List.getElem?_map] at hd
    cases e : ts[i']? with
    | none => rw [e] at hd; cases hd
    | some q =>
      rw [e] at hd
      have hd := Option.some.inj hd
      subst hd
      have hqo := tok q (List.mem_of_getElem? e)
      refine ⟨_, eg_name, ?_⟩
      refine go_asg bb.ok (ev_mth (w := (srcW K C N H0 s l).wi []) (P := fun d => d = optW (firstW A q)) (ev_var (i := 1) rfl) rfl (ea_cons (ev_var (i := 6) rfl) ea_nil) ⟨t, A, .tk q, rfl, hok, fun q' e _ => by cases e; rfl, fun h => by rw [show TokR.okB t.z (.tk q) = q.okB t.z from rfl, hqo] at h; cases h⟩) fun _ e => ?_
      subst e
      refine go_when bb.ok (Pb := fun b => b = false) ?_ (fun h => by cases h) fun _ => ?_
      · cases e3 : firstW A q with
        | none => exact et_is (et_andd (x := false) (y := true) (et_testd (ev_op (ev_var (i := 7) rfl) ev_non r2_isNot)) fun h => by cases h) rfl
        | some v => exact et_is (et_andd (et_testd (ev_op (ev_var (i := 7) rfl) ev_non r2_isNot)) fun _ => et_notd (et_Bd (ev_isi (T := "str") (k := true) (ev_var (i := 7) rfl) rfl rfl))) rfl
      have osh := eqOk_sh (optW_sh (firstW A q))
      refine go_when' bb.ok (et_testd (b := false) (ev_is (ev_op (ev_var (i := 7) rfl) (ev_call (P := fun d => d = optW (firstW A q)) (ea_cons (ev_var (i := 3) rfl) (ea_cons (ev_var (i := 6) rfl) ea_nil)) ⟨A, q, rfl, hok.pre.pre, fun v hv => (hok.len hv).2, Nat.le_trans few (by decide), rfl⟩) (r2_nD osh osh)) (by rw [deq_refl osh]; rfl))) (fun h => by cases h) fun _ => ?_
      exact go_kept rfl ⟨rfl, _, _, rfl⟩
  rintro δ' M' ea ⟨rfl, a, b, rfl⟩
  have ek : ∀ {M : ML} {δ : List (Option D)} {i : Int} {n : Nat}, δ[2]? = some (some k.d) → atI [D.int (k.a : Nat), .int (k.m : Nat), .int (k.sp : Nat), .int (k.lv : Nat), .tup (k.rows.map rowD)] i = some (.int (n : Nat)) → Ev ((srcW K C N H0 s l).wi M) (tOp (rIxU K w) (tVar 2) (tC (.int i))) δ (.int (n : Nat)) := fun h2 h => ev_op (a := k.d) (ev_var h2) ev_int (r2_xT h)
  refine go_asg bb.ok (P := fun d => d = .lst [(Tok.copy (k.m + 1) 1).d, (Tok.again k.sp 0 1).d, (Tok.turn 6).d]) (ev_lst (ea_cons (ev_tup (ea_cons ev_str (ea_cons (ev_is (ev_op (ek (n := k.m) rfl rfl) ev_int r2_add) (by rw [Int.natCast_add]; rfl)) (ea_cons ev_int ea_nil)))) (ea_cons (ev_tup (ea_cons ev_str (ea_cons (ek (n := k.sp) rfl rfl) (ea_cons ev_int (ea_cons ev_int ea_nil))))) (ea_cons (ev_tup (ea_cons ev_str (ea_cons ev_int ea_nil))) ea_nil)))) fun _ e => ?_
  subst e
  refine go_for bb (ei_lst (ds := (oddR k).map TokR.d) (ev_op (ev_var (i := 8) rfl) (ev_lst (ea_cons (ev_tup (ea_cons ev_str (ea_cons (ek (n := k.a) rfl rfl) ea_nil))) (ea_cons (ev_tup (ea_cons ev_str (ea_cons ev_int (ea_cons ev_int ea_nil)))) (ea_cons (ev_lst (ea_cons ev_str ea_nil)) (ea_cons ev_non ea_nil))))) (r2_addL (by simp only [List.length_cons, List.length_nil]; omega)))) (fun _ δ M => M = [] ∧ ∃ a b : Option D, δ = [some (.adr s), some t.d, some k.d, some (.lst (A.map pairD)), some (.lst (ts.map Tok.d)), none, a, b, some (.lst [(Tok.copy (k.m + 1) 1).d, (Tok.again k.sp 0 1).d, (Tok.turn 6).d]), none, none] ∨ ∃ c d : Option D, δ = [some (.adr s), some t.d, some k.d, some (.lst (A.map pairD)), some (.lst (ts.map Tok.d)), none, a, b, some (.lst [(Tok.copy (k.m + 1) 1).d, (Tok.again k.sp 0 1).d, (Tok.turn 6).d]), c, d]) ⟨rfl, a, b, .inl rfl⟩ ?_ ?_
  · rintro x i' d δ' M' hd ea ⟨rfl, a, b, h⟩
    rw [List.getElem?_map] at hd
    cases e : (oddR k)[i']? with
    | none => rw [e] at hd; cases hd
    | some q =>
      rw [e] at hd
      have hd := Option.some.inj hd
      subst hd
      have hqo := odd_no (List.mem_of_getElem? e)
      obtain ⟨c', d', rfl⟩ : ∃ c d : Option D, δ' = [some (.adr s), some t.d, some k.d, some (.lst (A.map pairD)), some (.lst (ts.map Tok.d)), none, a, b, some (.lst [(Tok.copy (k.m + 1) 1).d, (Tok.again k.sp 0 1).d, (Tok.turn 6).d]), c, d] := by
        rcases h with h | h
        · exact ⟨none, none, h⟩
        · exact h
      refine ⟨_, eg_name, ?_⟩
      refine go_asg bb.ok ev_bl fun _ e => ?_
      subst e
      refine go_tryM (XA := XA) (S := sTFirst) (P := fun _ => False) (PE := fun er => er = .token) bb (ev_var (i := 1) rfl) rfl (ea_cons (ev_var (i := 9) rfl) ea_nil) ⟨t, A, q, rfl, hok, fun q' e h => ?_, fun _ => rfl⟩ (fun ⟨_, h⟩ => h.elim) fun er c dx σ H' he pt ea => ?_
      · rw [e] at hqo
        rw [tz] at h
        exact absurd (show q'.okB _ = false from hqo) (by rw [h]; decide)
      · subst he
        cases (show c = .ref XA.token from ea)
        refine ⟨true, exm, fun _ a ha => ?_, fun z => nomatch z⟩
        refine (show Go (srcW K C N H0 s l) H0 _ [] _ (tSeq (tAsg (tC (.bl true)) (gName 10)) _) _ from ?_) σ H' pt
        refine go_asg bb.ok ev_bl fun _ e => ?_
        subst e
        refine go_when' bb.ok (et_notd (et_Bd (b := true) (ev_var (i := 10) rfl))) (fun h => by cases h) fun _ => ?_
        exact go_kept rfl ⟨rfl, _, _, .inr ⟨_, _, rfl⟩⟩
  rintro δ' M' ea ⟨rfl, a, b, h⟩
  refine go_ret bb.ok ev_bl fun d v H pd e I r => ?_
  subst pd
  exact hrt _ _ _ hp e I.1 r
end
end Lr
set_option Elab.async false
set_option maxRecDepth 100000
set_option maxHeartbeats 4000000
set_option linter.all false
set_option autoImplicit false
/-! The law: sequences of first words. -/
namespace Lr
open PySem L2 PyProof.Rows
theorem join_bs : ∀ vs : List (List Bool), Txt.join "" (vs.map bs) = bs vs.flatten := by
  intro vs
  show Builtin.Str.glued "" (vs.map bs) = _
  rw [StrLaws.glued_eq_join]
  induction vs with
  | nil => exact bs_nil.symm
  | cons v vs ih =>
    cases vs with
    | nil =>
      rw [List.flatten_singleton]
      rfl
    | cons u r =>
      show bs v ++ "" ++ Str.join "" ((u :: r).map bs) = _
      rw [ih, ← bs_nil, bs_append, bs_append, List.append_nil]
      rfl
def rJoinU (K : PySem.W.Frag) : V → List V → Hp → VK → Prop := fun x xs H Q => ∃ a p, ∃ ys : List Str, x = .str a ∧ xs = [.ref p] ∧ (SqL K H p (ys.map V.str) ∨ SqT K H p (ys.map V.str)) ∧ (ys.map (·.length)).sum + ys.length * a.length ≤ 16777216 ∧ Q (.str (Txt.join a ys)) H
theorem xJoin {X : Cx} (K : PySem.W.Frag) (hK : X.K = K := by rfl) : MtR X "str.join" (rJoinU K) := hK ▸ mt_join
theorem sum16 : ∀ {vs : List (List Bool)}, (∀ v ∈ vs, v.length ≤ 16) → ((vs.map bs).map (·.length)).sum ≤ 16 * vs.length
  | [], _ => Nat.zero_le _
  | v :: vs, h => by
    have h1 := h v List.mem_cons_self
    have h2 := sum16 fun u hu => h u (List.mem_cons_of_mem _ hu)
    rw [List.map_cons, List.map_cons, List.sum_cons, List.length_cons, bs_len]
    omega
theorem ev_join {w : Wd} {δ : List (Option D)} {te : TE} {vs : List (List Bool)} (h : Ev w te δ (.lst (vs.map txt))) (hl : ∀ v ∈ vs, v.length ≤ 16) (hn : vs.length ≤ 1000) : Ev w (tM1 (rJoinU w.K) (tC (.str "")) te) δ (txt vs.flatten) := fun ok σ H e I Q q =>
  ⟨⟨_, rfl⟩, h ok σ H e I _ fun d v H1 p e1 I1 r => by
    subst p
    cases r with
    | @lst a us _ n hs rr =>
      have hu : us = (vs.map bs).map V.str := RpAll.strs_inv (ns := vs.map bs) (by rw [List.map_map]; exact rr)
      subst hu
      have := sum16 hl
      exact ⟨"", a, vs.map bs, rfl, rfl, .inl (SqL.of hs), by rw [List.length_map, show Str.length "" = 0 from rfl]; omega, q _ _ H1 rfl e1 I1 (by rw [join_bs]; exact .str _)⟩⟩
section
variable {b : Wd} {M : ML} {δ : List (Option D)} {te te' : TE} {tt : TT} {g : TG} {vs : List Nat}
/-- [.. for .. in range(e)], e a number that is not known -/
theorem evn_lcR {Pn : Nat → Prop} {PB : List D → Prop} (h : EvP (b.wi M) te' δ (IsN Pn)) (hn : ∀ n, Pn n → EvN (b.wi M) (tLc (iRng1 (tCons (tC (.int (n : Int))) tNil)) g tt te vs) δ PB) : EvN (b.wi M) (tLc (iRng1 (tCons te' tNil)) g tt te vs) δ PB := fun ok σ H e I Q q =>
  h ok σ H e I _ fun d v H1 ⟨n, hd, pn⟩ e1 I1 r => by
    subst hd
    cases r
    exact hn n pn ok σ H1 (e.car (Ex.car ok e1)) I1 Q fun ds p vs H2 H3 pa e2 => q ds p vs H2 H3 pa (e1.trans e2)
end
/-! first words -/
theorem least_in : ∀ (l : List (List Bool)) (a : List Bool), least a l ∈ a :: l ∧ ∀ v ∈ a :: l, (least a l).length ≤ v.length
  | [], a => ⟨List.mem_cons_self, fun v hv => by rw [List.mem_singleton.mp hv]; exact Nat.le_refl _⟩
  | y :: l, a => by
    have e : least a (y :: l) = least (if y.length < a.length then y else a) l := rfl
    rw [e]
    by_cases hya : y.length < a.length
    · rw [if_pos hya]
      obtain ⟨h1, h2⟩ := least_in l y
      have h0 := h2 y List.mem_cons_self
      refine ⟨.tail _ h1, fun v hv => ?_⟩
      rcases List.mem_cons.mp hv with rfl | hv
      · omega
      · exact h2 v hv
    · rw [if_neg hya]
      obtain ⟨h1, h2⟩ := least_in l a
      have h0 := h2 a List.mem_cons_self
      refine ⟨?_, fun v hv => ?_⟩
      · rcases List.mem_cons.mp h1 with h | h
        · rw [h]; exact List.mem_cons_self
        · exact .tail _ (.tail _ h)
      · rcases List.mem_cons.mp hv with rfl | hv
        · exact h0
        · rcases List.mem_cons.mp hv with rfl | hv
          · omega
          · exact h2 v (.tail _ hv)
def fw (A : List W) (q : W) : List Bool := (firstW A q.2).getD []
theorem fw_ok {A : List W} {q : W} (hq : q ∈ A) : firstW A q.2 = some (fw A q) ∧ (∃ x ∈ A, x.1 = fw A q ∧ x.2 = q.2) ∧ (fw A q).length ≤ q.1.length := by
  have h := firstW_eq q.2 A
  have hm : q.1 ∈ wordsFor A q.2 := List.mem_map.mpr ⟨q, List.mem_filter.mpr ⟨hq, decide_eq_true rfl⟩, rfl⟩
  cases e : wordsFor A q.2 with
  | nil => rw [e] at hm; cases hm
  | cons a l =>
    rw [e] at h hm
    have h : firstW A q.2 = some (least a l) := h
    have hf : fw A q = least a l := by unfold fw; rw [h]; rfl
    obtain ⟨h1, h2⟩ := least_in l a
    refine ⟨by rw [hf, h], ?_, by rw [hf]; exact h2 _ hm⟩
    rw [← e] at h1
    obtain ⟨x, hx, ex⟩ := List.mem_map.mp h1
    exact ⟨x, (List.mem_filter.mp hx).1, by rw [hf, ← ex], of_decide_eq_true (List.mem_filter.mp hx).2⟩
abbrev s_law_by_firsts : Stmt := topS 85
abbrev ns_law_by_firsts : List Str := ["_law_source_here", "_law_table", "_law_words_here", "_law_picked", "_law_k", "_law_firsts_here", "_law_part", "_law_first", "_law_others"]
theorem sc_law_by_firsts : FnScope ns_law_by_firsts ["_law_source_here", "_law_table", "_law_words_here"] (defScope s_law_by_firsts) := ⟨rfl, rfl, rfl, by decide +kernel, rfl, by decide +kernel, by decide +kernel⟩
section
variable {P : Program} {w : World} {K : PySem.W.Frag} {mg : Str → Option Value} {base : Heap} {C : Addr} {XA : ExAds}
def sByFirsts : SpecS := fun s ds P => ∃ (z : Sz) (ps : List PairR) (t : TabD), ds = [.adr s, t.d, .lst ((wordsOf (rowsOf ps)).map pairD)] ∧ PsOk ps z ∧ TabOf z ps t ∧ P (.bl true)
theorem c_law_by_firsts (F : Df K mg "_law_by_firsts" s_law_by_firsts ["_law_source_here", "_law_table", "_law_words_here"]) (B : Blt mg) (cl : Cls K C) (c_law_draw : Cal P w K mg base 2 "_law_draw" (spS K C sDraw)) (c_law_size : Cal P w K mg base 3 "_law_size" (spS K C sSize))
    (c_first : CalM P w K mg base 5 C "first_word" (spX K C XA sTFirst)) (c_token : CalM P w K mg base 1 C "token" (spX K C XA sTToken)) (c_split_bits : Cal P w K mg base 3 "split_bits" (spX K C XA sSplit)) : Cal P w K mg base 6 "_law_by_firsts" (spS K C sByFirsts) := by
  refine fn_S F sc_law_by_firsts (fun s ds Q ⟨_, _, _, e, _⟩ => by rw [e]; rfl) fun f cdv A outer s H E hr => ⟨_, (pss_cons (ps_setLc (i := 3) (own := [("_law_k", 4)]) (g := gName 4) (tt := tYes) rfl sc_law_by_firsts.nd rfl rfl (sw_true rfl rfl rfl (by decide +kernel)) (pi_range1 rfl B.b_range (pa_cons (pe_cal c_law_size hr (pa_cons (pv 0) (pa_cons pe_int (pa_cons pe_int (pa_cons pe_int pa_nil))))) pa_nil)) (blkOk_by (N := ns_law_by_firsts) (sc := defScope s_law_by_firsts) (by decide +kernel)) (fun _ _ _ _ _ => (pg_nm 4 sc_law_by_firsts.nd)) (fun _ _ _ _ _ => pts_nil) (fun _ _ _ _ _ => (pe_ix (xIx K w) (pv 2) (pe_cal c_law_draw hr (pa_cons (pv 0) (pa_cons (pe_callB (xLen K) rfl B.b_len bt_len (pa_cons (pv 2) pa_nil)) pa_nil))) (fun _ _ => rfl))))
        (pss_cons (ps_st 5 sc_law_by_firsts.nd (pe_lst pa_nil))
        (pss_cons (ps_for (passes_of rfl) rfl (pi_list (pv 3)) (pg_nm 6 sc_law_by_firsts.nd) (pss_cons (ps_st 7 sc_law_by_firsts.nd (pe_mth (pv 1) c_first cl hr (pa_cons (pe_ix (xIx K w) (pv 6) pe_int (fun _ _ => rfl)) pa_nil)))
        (pss_cons (ps_if (PW.pt (pw_or (pt_cmpR xIs (pv 7) pe_non (nomark _)) (pw_or1 (pt_cmpR xGt (pe_callB (xLen K) rfl B.b_len bt_len (pa_cons (pv 7) pa_nil)) (pe_callB (xLen K) rfl B.b_len bt_len (pa_cons (pe_ix (xIx K w) (pv 6) pe_int (fun _ _ => rfl)) pa_nil)) (nomark _))))) (pss_one (ps_ret pe_bl)) pss_nil)
        (pss_one (ps_expr (pe_bm PySem.F.plainAttrs_list PySem.F.slot_list_append PySem.F.type_list_append mt_append (pv 5) (pa_cons (pv 7) pa_nil)))))))
        (pss_cons (ps_if (pt_cmpR (xNe K hr.units) (pe_cal c_split_bits hr (pa_cons (pv 1) (pa_cons (pe_m1 PySem.F.slot_str_join PySem.F.type_str_join (xJoin K) pe_str (pv 5)) pa_nil))) (pe_tup (pa_cons (pv 5) (pa_cons pe_str (pa_cons pe_non pa_nil)))) (nomark _)) (pss_one (ps_ret pe_bl)) pss_nil)
        (pss_cons (ps_setLc (i := 8) (own := [("_law_part", 6)]) (g := gName 6) (tt := tYes) rfl sc_law_by_firsts.nd rfl rfl (sw_true rfl rfl rfl (by decide +kernel)) (pi_list (pv 3)) (blkOk_by (N := ns_law_by_firsts) (sc := defScope s_law_by_firsts) (by decide +kernel)) (fun _ _ _ _ _ => (pg_nm 6 sc_law_by_firsts.nd)) (fun _ _ _ _ _ => pts_nil) (fun _ _ _ _ _ => (pe_ix (xIx K w) (pv 6) pe_int (fun _ _ => rfl))))
        (pss_cons (ps_if (pt_cmpR (xNe K hr.units) (pe_cal c_split_bits hr (pa_cons (pv 1) (pa_cons (pe_m1 PySem.F.slot_str_join PySem.F.type_str_join (xJoin K) pe_str (pv 8)) pa_nil))) (pe_tup (pa_cons (pv 8) (pa_cons pe_str (pa_cons pe_non pa_nil)))) (nomark _)) (pss_one (ps_ret pe_bl)) pss_nil)
        (pss_one (ps_ret (pe_cmpR (xEq K hr.units) (pe_lc (own := [("_law_first", 7)]) (g := gName 7) (tt := tYes) rfl sc_law_by_firsts.nd (pi_list (pv 5)) (blkOk_by (N := ns_law_by_firsts) (sc := defScope s_law_by_firsts) (by decide +kernel)) (fun _ _ _ _ _ => (pg_nm 7 sc_law_by_firsts.nd)) (fun _ _ _ _ _ => pts_nil) (fun _ _ _ _ _ => (pe_mth (pv 1) c_token cl hr (pa_cons (pv 7) pa_nil)))) (pe_lc (own := [("_law_part", 6)]) (g := gName 6) (tt := tYes) rfl sc_law_by_firsts.nd (pi_list (pv 3)) (blkOk_by (N := ns_law_by_firsts) (sc := defScope s_law_by_firsts) (by decide +kernel)) (fun _ _ _ _ _ => (pg_nm 6 sc_law_by_firsts.nd)) (fun _ _ _ _ _ => pts_nil) (fun _ _ _ _ _ => (pe_ix (xIx K w) (pv 6) pe_int (fun _ _ => rfl)))) (nomark _)))))))))), ?_⟩
  rintro N H0 s l ds Pd ns nl ⟨z, ps, t, rfl, hps, ht, hp⟩ De hrt
  have bb := src_base (K := K) (C := C) (H0 := H0) ns nl
  have hok := ht.ok
  have few := hok.few
  have wne := words_ne hps
  have htk : ∀ q ∈ wordsOf (rowsOf ps), q.2.okB t.z = true := fun q hq => by rw [ht.hz]; exact words_tok hps hq
  generalize wordsOf (rowsOf ps) = A at hok few wne htk
  have hA : 0 < A.length := List.length_pos_iff.mpr wne
  have tsh : ∀ l : List (List Bool), shD 1 (.lst (l.map txt)) = true := fun l => sh_map fun v _ => txt_sh v
  have rsh : ∀ l : List (List Bool), eqOk (.tup [.lst (l.map txt), .str "", .non]) = true := fun l => eqOk_sh (n := 2) (by
    show ([D.lst (l.map txt), .str "", .non].all (shD 1)) = true
    rw [List.all_cons, List.all_cons, tsh, txt_nil, shD_succ (txt_sh [])]
    rfl)
  refine go_asg bb.ok (P := fun d => ∃ pk : List W, d = .lst (pk.map pairD) ∧ pk.length ≤ 60 ∧ ∀ q ∈ pk, q ∈ A) ((evn_lcR (Pn := fun n => n ≤ 60) (ev_draw ns nl (ea_cons (ev_var (i := 0) rfl) (ea_cons ev_int (ea_cons ev_int (ea_cons ev_int ea_nil)))) ⟨0, 6, 60, rfl, by omega, by omega, by omega, by omega, fun d h0 h1 => ⟨d.toNat, by rw [Int.toNat_of_nonneg h0], by omega⟩⟩) fun n hn =>
    (evn_lc (b := srcW K C N H0 s l) bb (ei_rng1 (ea_cons ev_int ea_nil) (by omega) (by omega)) (by rw [upto_len]; omega) (fun i acc => ∃ pk : List W, acc = pk.map pairD ∧ pk.length = i ∧ ∀ q ∈ pk, q ∈ A) ⟨[], rfl, rfl, fun q h => by cases h⟩ fun i d hd p acc np ha pv => ?_).imp (PB := fun es => ∃ pk : List W, es = pk.map pairD ∧ pk.length ≤ 60 ∧ ∀ q ∈ pk, q ∈ A) fun es ⟨pk, e1, e2, e3⟩ => ⟨pk, e1, by rw [upto_len] at e2; omega, e3⟩).ev fun ds ⟨pk, e1, e2, e3⟩ => ⟨pk, by rw [e1], e2, e3⟩) fun d hd => ?_
  · obtain ⟨pk, rfl, hl, hq⟩ := pv
    refine ⟨_, true, fun e => ∃ q ∈ A, e = pairD q, gw_name, et_yes, fun _ => ⟨?_, fun e ⟨q, hqA, he⟩ => ⟨pk ++ [q], by rw [List.map_append, he]; rfl, by rw [List.length_append, hl]; rfl, fun x hx => (List.mem_append.mp hx).elim (hq x) fun h => by rw [List.mem_singleton.mp h]; exact hqA⟩⟩, fun z => by cases z⟩
    refine evp_opNr' (a := .lst (A.map pairD)) (Pb := fun i => (i : Int) < (A.length : Nat)) (ev_var (i := 2) rfl) (ev_dr ns nl rfl (ev_cb (ea_cons (ev_var (i := 2) rfl) ea_nil) (rc_len (n := A.length) (congrArg some (List.length_map _)))) (by omega) (by omega)) fun i hi => ?_
    have hi : i < A.length := by omega
    exact (r2_xL (d := pairD A[i]) (atI_nat (by rw [List.getElem?_map, List.getElem?_eq_getElem hi]; rfl))).imp fun d e => ⟨A[i], List.getElem_mem hi, e⟩
  obtain ⟨pk, rfl, hpl, hpk⟩ := hd
  have fl : ∀ q ∈ pk, (fw A q).length ≤ 16 := fun q hq => Nat.le_trans (fw_ok (hpk q hq)).2.2 (hok.len (hpk q hq)).2
  refine go_new bb evn_nil fun ds q hds hq hm => ?_
  subst hds
  refine go_for bb (ei_lst (ds := pk.map pairD) (ev_var (i := 3) rfl)) (fun i δ M => M = [(q, MO.lst (((pk.take i).map (fw A)).map txt))] ∧ ∃ a b : Option D, δ = [some (.adr s), some t.d, some (.lst (A.map pairD)), some (.lst (pk.map pairD)), none, some (.adr q), a, b, none]) ⟨rfl, none, none, rfl⟩ ?_ ?_
  · rintro x i d δ' M' hd ea ⟨rfl, a, b, rfl⟩
    rw [List.getElem?_map] at hd
    cases e : pk[i]? with
    | none => rw [e] at hd; cases hd
    | some p =>
      rw [e] at hd
      have hd := Option.some.inj hd
      subst hd
      have hpm := List.mem_of_getElem? e
      have hpA := hpk p hpm
      obtain ⟨f1, f2, f3⟩ := fw_ok hpA
      refine ⟨_, eg_name, ?_⟩
      refine go_asg bb.ok (ev_mth (w := (srcW K C N H0 s l).wi _) (P := fun d => d = txt (fw A p)) (ev_var (i := 1) rfl) rfl (ea_cons (ev_op (ev_var (i := 6) rfl) ev_int (r2_xT rfl)) ea_nil) ⟨t, A, .tk p.2, rfl, hok, fun q' e _ => by cases e; rw [f1]; rfl, fun h => by rw [show TokR.okB t.z (.tk p.2) = p.2.okB t.z from rfl, htk p hpA] at h; cases h⟩) fun _ e => ?_
      subst e
      have lenW : ∀ {M : ML} {δ : List (Option D)} {te : TE} {v : List Bool}, v.length ≤ 16 → Ev ((srcW K C N H0 s l).wi M) te δ (txt v) → Ev ((srcW K C N H0 s l).wi M) (tCB (rLenU K) (tCons te tNil)) δ (.int (v.length : Nat)) := fun {M δ te v} hv h => ev_cb (P := fun d => d = .int (v.length : Nat)) (ea_cons h ea_nil) (rc_len (by show (if (bs v).length ≤ 100000 then some (bs v).length else none) = _; rw [bs_len, if_pos (by omega)]))
      refine go_when bb.ok (et_ord (x := false) (y := false) (et_testd (ev_op (ev_var (i := 7) rfl) ev_non r2_is)) fun _ => et_testd (ev_is (ev_op (lenW (fl p hpm) (ev_var (i := 7) rfl)) (lenW (v := p.1) (hok.len hpA).2 (ev_op (ev_var (i := 6) rfl) ev_int (r2_xT rfl))) r2_gt) (by rw [decide_eq_false (by omega)]))) (fun h => by cases h) fun _ => ?_
      refine go_app' bb (i := 5) rfl (fun h => by cases h) (ev_var (i := 7) rfl) (by rw [List.length_map, List.length_map, List.length_take]; omega) fun d hd => ?_
      subst hd
      refine go_kept rfl ⟨?_, _, _, rfl⟩
      rw [take_succ' e, List.map_append, List.map_append]
      rfl
  rintro δ' M' ea ⟨rfl, a, b, rfl⟩
  rw [List.length_map, List.take_length]
  refine go_freeze bb (i := 5) rfl (fun h => by cases h) hq ?_
  have split : ∀ {vs : List (List Bool)} {δ : List (Option D)} {te : TE}, (∀ v ∈ vs, v ∈ A.map (·.1)) → vs.length ≤ 60 → δ[1]? = some (some t.d) → Ev ((srcW K C N H0 s l).wi []) te δ (.lst (vs.map txt)) → Ev ((srcW K C N H0 s l).wi []) (tCall (spX K C XA sSplit) [] E0 (tCons (tVar 1) (tCons (tM1 (rJoinU K) (tC (.str "")) te) tNil))) δ (.tup [.lst (vs.map txt), .str "", .non]) := fun {vs δ te} hv hl h1 h => ev_call (ea_cons (ev_var h1) (ea_cons (ev_join (w := (srcW K C N H0 s l).wi []) h (fun v hvv => hok.pre.len v (hv v hvv)) (by omega)) ea_nil)) ⟨t, A, vs, rfl, hok, hv, by omega, rfl⟩
  have v1 : ∀ v ∈ pk.map (fw A), v ∈ A.map (·.1) := fun v hv => by
    obtain ⟨p, hp, rfl⟩ := List.mem_map.mp hv
    obtain ⟨x, hx, e, _⟩ := (fw_ok (hpk p hp)).2.1
    exact List.mem_map.mpr ⟨x, hx, e⟩
  have v2 : ∀ v ∈ pk.map (·.1), v ∈ A.map (·.1) := fun v hv => by
    obtain ⟨p, hp, rfl⟩ := List.mem_map.mp hv
    exact List.mem_map_of_mem (hpk p hp)
  refine go_when bb.ok (et_testd (b := false) (ev_is (ev_op (split v1 (by rw [List.length_map]; exact hpl) rfl (ev_var (i := 5) rfl)) (ev_tup (ea_cons (ev_var (i := 5) rfl) (ea_cons ev_str (ea_cons ev_non ea_nil)))) (r2_nD (rsh _) (rsh _))) (by rw [deq_refl (rsh _)]; rfl))) (fun h => by cases h) fun _ => ?_
  have oth : ∀ {δ : List (Option D)}, δ[3]? = some (some (.lst (pk.map pairD))) → (∀ d, ((wipeD δ [6]).set 6 (some d))[6]? = some (some d)) → Ev ((srcW K C N H0 s l).wi []) (tLc (iList K (tVar 3)) (gName 6) tYes (tOp (rIxU K w) (tVar 6) (tC (.int 0))) [6]) δ (.lst ((pk.map (·.1)).map txt)) := fun {δ} h1 h2 => by
    refine ev_lcmap bb (ei_lst (w := (srcW K C N H0 s l).wi []) (ds := pk.map pairD) (ev_var (i := 3) h1)) (by rw [List.length_map]; omega) ((pk.map (·.1)).map txt) (by rw [List.length_map, List.length_map, List.length_map]) fun i d e hd he p acc np => ?_
    rw [List.getElem?_map] at hd
    rw [List.getElem?_map, List.getElem?_map] at he
    cases e3 : pk[i]? with
    | none => rw [e3] at hd; cases hd
    | some q =>
      rw [e3] at hd he
      have hd := Option.some.inj hd
      have he := Option.some.inj he
      subst hd
      subst he
      exact ⟨_, gw_name, ev_op (ev_var (h2 _)) ev_int (r2_xT rfl)⟩
  refine go_asg bb.ok (oth rfl fun _ => rfl) fun _ e => ?_
  subst e
  refine go_when bb.ok (et_testd (b := false) (ev_is (ev_op (split v2 (by rw [List.length_map]; exact hpl) rfl (ev_var (i := 8) rfl)) (ev_tup (ea_cons (ev_var (i := 8) rfl) (ea_cons ev_str (ea_cons ev_non ea_nil)))) (r2_nD (rsh _) (rsh _))) (by rw [deq_refl (rsh _)]; rfl))) (fun h => by cases h) fun _ => ?_
  have ksh : eqOk (.lst ((pk.map (·.2)).map Tok.d)) = true := eqOk_sh (n := 2) (sh_map fun t _ => Tok.sh t)
  have back : ∀ {δ : List (Option D)}, δ[3]? = some (some (.lst (pk.map pairD))) → (∀ d, ((wipeD δ [6]).set 6 (some d))[6]? = some (some d)) → Ev ((srcW K C N H0 s l).wi []) (tLc (iList K (tVar 3)) (gName 6) tYes (tOp (rIxU K w) (tVar 6) (tC (.int 1))) [6]) δ (.lst ((pk.map (·.2)).map Tok.d)) := fun {δ} h1 h2 => by
    refine ev_lcmap bb (ei_lst (w := (srcW K C N H0 s l).wi []) (ds := pk.map pairD) (ev_var (i := 3) h1)) (by rw [List.length_map]; omega) ((pk.map (·.2)).map Tok.d) (by rw [List.length_map, List.length_map, List.length_map]) fun i d e hd he p acc np => ?_
    rw [List.getElem?_map] at hd
    rw [List.getElem?_map, List.getElem?_map] at he
    cases e3 : pk[i]? with
    | none => rw [e3] at hd; cases hd
    | some q =>
      rw [e3] at hd he
      have hd := Option.some.inj hd
      have he := Option.some.inj he
      subst hd
      subst he
      exact ⟨_, gw_name, ev_op (ev_var (h2 _)) ev_int (r2_xT rfl)⟩
  have told : ∀ {δ : List (Option D)}, δ[5]? = some (some (.lst ((pk.map (fw A)).map txt))) → (∀ d, ((wipeD δ [7]).set 7 (some d))[7]? = some (some d)) → (∀ d, ((wipeD δ [7]).set 7 (some d))[1]? = some (some t.d)) → Ev ((srcW K C N H0 s l).wi []) (tLc (iList K (tVar 5)) (gName 7) tYes (tMeth C "token" (spX K C XA sTToken) [] E0 (tVar 1) (tCons (tVar 7) tNil)) [7]) δ (.lst ((pk.map (·.2)).map Tok.d)) := fun {δ} h1 h2 h3 => by
    refine ev_lcmap bb (ei_lst (w := (srcW K C N H0 s l).wi []) (ds := (pk.map (fw A)).map txt) (ev_var (i := 5) h1)) (by rw [List.length_map, List.length_map]; omega) ((pk.map (·.2)).map Tok.d) (by rw [List.length_map, List.length_map, List.length_map, List.length_map]) fun i d e hd he p acc np => ?_
    rw [List.getElem?_map, List.getElem?_map] at hd
    rw [List.getElem?_map, List.getElem?_map] at he
    cases e3 : pk[i]? with
    | none => rw [e3] at hd; cases hd
    | some q =>
      rw [e3] at hd he
      have hd := Option.some.inj hd
      have he := Option.some.inj he
      subst hd
      subst he
      obtain ⟨x, hx, x1, x2⟩ := (fw_ok (hpk q (List.mem_of_getElem? e3))).2.1
      exact ⟨_, gw_name, ev_mth (w := (srcW K C N H0 s l).wi _) (ev_var (i := 1) (h3 _)) rfl (ea_cons (ev_var (i := 7) (h2 _)) ea_nil) ⟨t, fw A q, q.2.d, rfl, by rw [← x1, hok.tok hx, x2], rfl⟩⟩
  refine go_ret bb.ok (P := fun d => d = .bl true) (ev_is (ev_op (told rfl (fun _ => rfl) fun _ => rfl) (back rfl fun _ => rfl) (r2_eD ksh ksh)) (by rw [deq_refl ksh])) fun d v H pd e I r => ?_
  subst pd
  exact hrt _ _ _ hp e I.1 r
end
end Lr
set_option Elab.async false
set_option maxRecDepth 100000
set_option maxHeartbeats 4000000
set_option linter.all false
set_option autoImplicit false
/-! The law: an attempt to make a table. -/
namespace Lr
open PySem L2 PyProof.Rows
/-- a class whose __init__ is walked, called with n values and keywords -/
structure CalI (P : Program) (w : World) (K : PySem.W.Frag) (mg : Str → Option Value) (base : Heap) (k : Nat) (C : Addr) (ps : List Str) (n : Nat) (ks : List Str) (sp : Sp) : Prop where
  ex : ∃ (f : Addr) (fd : FuncData), Mk K C f ∧ KBn K fd ps (n + 1) ks (fun us ws => us ++ ws) (fun vs zs => vs ++ zs) ∧ FnOk P w K mg base (L2.CX P w) k f fd ps sp
theorem pe_makeC {X : Cx} {x : Str} {p pos : Pos} {e : Expr} {es : List Expr} {t tk : TA} {sp : Sp} {j k n : Nat} {C : Addr} {ps ks : List Str} {E : L2.St → XK} {kws : List Keyword} (c : CalI X.prog X.w X.K X.mg X.base k C ps n ks sp) (hr : Room j X.A) (hx : ∀ σ, PassesAt (L2.CX X.prog X.w) X σ (E σ)) (hm : X.mg x = some (.ref C)) (ha : PA X (e :: es) t) (hkw : PK X kws tk)
    (hk : k + 1 ≤ j := by decide) (hg : Gl X x := by rfl) (hall : (backToKw pos (keywordEach kws X.env)).all (·.1.isSome) = true := by rfl) (hks : (backToKw pos (keywordEach kws X.env)).filterMap (·.1) = ks := by rfl) (hdb : (x == ("__debug__" : Str)) = false := by decide)
    (he : starEach (e :: es) X.env = (false, eval e X.env) :: starEach es X.env := by rfl) (hpl : ((backTo pos (starEach (e :: es) X.env)).any (·.1) || (backToKw pos (keywordEach kws X.env)).any (·.1.isNone)) = false := by rfl) :
    PE X (.Call (.Name x p) (e :: es) kws pos) (tMakeS C n ks.length sp (fun vs zs => vs ++ zs) E t tk) := by
  obtain ⟨f, fd, h1, h2, h3⟩ := c.ex
  exact pe_makeS h1 h3 hr h2 hx hm ha hkw hk hg hall hks hdb he hpl
/-- which clause takes which error: the clauses in their order size, table, sign, full, large, less -/
structure ExmC (K : PySem.W.Frag) (X : ExAds) : Prop where
  SS : PySem.W.exmOne K (.ref X.size) (.ref X.size) = some true
  TS : PySem.W.exmOne K (.ref X.table) (.ref X.size) = some false
  TT : PySem.W.exmOne K (.ref X.table) (.ref X.table) = some true
  GS : PySem.W.exmOne K (.ref X.sign) (.ref X.size) = some false
  GT : PySem.W.exmOne K (.ref X.sign) (.ref X.table) = some false
  GG : PySem.W.exmOne K (.ref X.sign) (.ref X.sign) = some true
  FS : PySem.W.exmOne K (.ref X.full) (.ref X.size) = some false
  FT : PySem.W.exmOne K (.ref X.full) (.ref X.table) = some false
  FG : PySem.W.exmOne K (.ref X.full) (.ref X.sign) = some false
  FF : PySem.W.exmOne K (.ref X.full) (.ref X.full) = some true
  LS : PySem.W.exmOne K (.ref X.large) (.ref X.size) = some false
  LT : PySem.W.exmOne K (.ref X.large) (.ref X.table) = some false
  LG : PySem.W.exmOne K (.ref X.large) (.ref X.sign) = some false
  LF : PySem.W.exmOne K (.ref X.large) (.ref X.full) = some false
  LL : PySem.W.exmOne K (.ref X.large) (.ref X.large) = some true
  ES : PySem.W.exmOne K (.ref X.less) (.ref X.size) = some false
  ET : PySem.W.exmOne K (.ref X.less) (.ref X.table) = some false
  EG : PySem.W.exmOne K (.ref X.less) (.ref X.sign) = some false
  EF : PySem.W.exmOne K (.ref X.less) (.ref X.full) = some false
  EL : PySem.W.exmOne K (.ref X.less) (.ref X.large) = some false
  EE : PySem.W.exmOne K (.ref X.less) (.ref X.less) = some true
theorem no_token {z : Szs} {ps : List PairR} : firstErr z ps ≠ some .token := by
  unfold firstErr
  intro h
  repeat' split at h
  all_goals cases h
section
variable {b : Wd} {H0 : Hp} {Γ : List (V × D)} {M : ML} {δ : List (Option D)} {tl tk : TA} {tz : TS} {De : Ends} {P : D → Prop} {XA : ExAds} {S : Spec} {d0 : D} {zs : List D} {PE : Er → Prop} {l : List Cl} {Wout : WX} {i : Nat}
/-- try: x = C(e, k = v, ..) .. -/
theorem go_tryK {m : Nat} (bb : b.Base H0) (h : EvA (b.wi M) tl δ [d0]) (hk : EvA (b.wi M) tk δ zs) (hm : zs.length = m) (hS : S (d0 :: zs) P PE) (k1 : ∀ d, P d → Go b H0 Γ M (δ.set i (some d)) tz De)
    (k2 : ∀ er c dx σ H', PE er → Pt b H0 Γ M δ σ H' → ErAt XA er c dx H' → wMix b.K Wout ⟨tz De, De.rt, De.bk, De.ct⟩ l c dx σ H') :
    Go b H0 Γ M δ (tSeq (fun D σ H => tAsg (tMakeS b.C 1 m (spI b.K b.C XA S) (fun vs zs => vs ++ zs) (WE (wMix b.K Wout D l)) tl tk) (gName i) D σ H) tz) De := fun σ H p => by
  have ok := bb.ok.wi M
  refine h ok σ H p.env p.inv _ fun ds vs H1 pd e1 I1 r => ?_
  subst pd
  have p1 := p.step bb.ok e1 I1
  refine hk ok σ H1 p1.env I1 _ fun as xs H2 p2 e2 I2 r2 => ?_
  subst p2
  have pt2 := p1.step bb.ok e2 I2
  have r := r.car (Ex.car ok e2)
  refine ⟨r.len, r2.len.trans hm, fun x dx nx ndx ne => ?_⟩
  refine ⟨(b.wi M).N, x, dx, H2, vs ++ xs, d0 :: as, P, PE, rfl, nx, ndx, ne, rfl, r.append r2, fun a ha => ok.fr _ _ I2 ha, hS, fun d H' pd s r' => ⟨rfl, ?_⟩, fun er c dx H' z s ea => k2 er c dx σ H' z (pt2.same bb s) ea⟩
  have pt3 := pt2.same bb s
  exact k1 d pd _ _ (pt3.slots (pt3.env.set r' i))
/-- n = ("..", err.f) in a clause with a name -/
theorem suite_xf {a dd Cx' : Addr} {nm fld : Str} {n : Int} {σ : L2.St} {H' : Hp} {j : Nat} (bb : b.Base H0) (pt : Pt b H0 Γ M δ σ H') (hd : H' dd = some (.xd [(fld, .int n)])) (hi : i < δ.length) (k : Go b H0 Γ M (((δ.set i (some (.adr a))).set j (some (.tup [.str nm, .int n]))).set i none) tz De) :
    tAsg (tTup (tCons (tC (.str nm)) (tCons (tXf a (.ref Cx') (some dd) Cx' fld (tVar i)) tNil))) (gName j) ⟨fun σ' H' => tz De (σ'.set i none) H', De.rt, fun σ' H' => De.bk (σ'.set i none) H', fun σ' H' => De.ct (σ'.set i none) H'⟩ (σ.set i (some (.ref a))) H' := by
  have hl : i < σ.length := by rw [pt.env.len]; exact hi
  refine ⟨.ref a, by rw [List.getElem?_set_self hl], rfl, rfl, dd, [(fld, .int n)], .int n, rfl, hd, by simp [List.lookup_cons], by show 2 ≤ sizeLine; rw [sizeLine_eq]; decide, fun q hq => ?_⟩
  have s := same_new (o := .tup [.str nm, .int n]) hq
  have p2 := pt.same bb s
  have r : (b.wi M).Rp (upd H' q (.tup [.str nm, .int n])) (.ref q) (.tup [.str nm, .int n]) := .tup (SqT.of upd_same) (.cons (.str _) (.cons (.int _) .nil))
  exact k _ _ (p2.slots (((p2.env.set (.adr a) i).set r j).unset none i))
end
abbrev s_law_attempt : Stmt := topS 80
abbrev ns_law_attempt : List Str := ["_law_sizes", "_law_pairs", "_law_table", "_law_got", "full", "large", "lacking"]
theorem sc_law_attempt : FnScope ns_law_attempt ["_law_sizes", "_law_pairs"] (defScope s_law_attempt) := ⟨rfl, rfl, rfl, by decide +kernel, rfl, by decide +kernel, by decide +kernel⟩
def tS1 (nm : Str) : Addr → Value → Option Addr → TS := fun _ _ _ => tAsg (tTup (tCons (tC (.str nm)) tNil)) (gName 3)
def tS2 (nm fld : Str) (C : Addr) (i : Nat) : Addr → Value → Option Addr → TS := fun a cls d => tAsg (tTup (tCons (tC (.str nm)) (tCons (tXf a cls d C fld (tVar i)) tNil))) (gName 3)
abbrev clsA (XA : ExAds) : List Cl := [(.ref XA.size, none, tS1 "size"), (.ref XA.table, none, tS1 "table"), (.ref XA.sign, none, tS1 "sign"), (.ref XA.full, some 4, tS2 "full" "at" XA.full 4), (.ref XA.large, some 5, tS2 "large" "limit" XA.large 5), (.ref XA.less, some 6, tS2 "letterless" "letter" XA.less 6)]
section
variable {P : Program} {w : World} {K : PySem.W.Frag} {mg : Str → Option Value} {base : Heap} {C : Addr} {XA : ExAds}
def sAttempt : Spec := fun ds P _ => ∃ (b : Bool) (z : Szs) (ps : List PairR), ds = [z.d, rowsD b ps] ∧ ps.length ≤ 1000 ∧ (∀ e, firstErr z ps = some e → P (.tup [.non, e.d])) ∧ (firstErr z ps = none → ∀ t, TabOf z.sz ps t → P (.tup [t.d, .non]))
theorem c_law_attempt (F : Df K mg "_law_attempt" s_law_attempt ["_law_sizes", "_law_pairs"]) (B : Blt mg) (g_Table : mg "Table" = some (.ref C)) (c_Table : CalI P w K mg base 7 C ["self", "rows", "n", "width", "many", "tables"] 1 ["n", "width", "many", "tables"] (spI K C XA sTInit)) (exm : ExmC K XA)
    (gS : mg "BadSize" = some (.ref XA.size)) (gT : mg "BadTable" = some (.ref XA.table)) (gG : mg "BadSign" = some (.ref XA.sign)) (gF : mg "TooFull" = some (.ref XA.full)) (gL : mg "TooLarge" = some (.ref XA.large)) (gE : mg "Letterless" = some (.ref XA.less))
    (xF : XfC K XA.full) (nF : PySem.W.findIn K (.ref XA.full) "at" = some none) (xL : XfC K XA.large) (nL : PySem.W.findIn K (.ref XA.large) "limit" = some none) (xE : XfC K XA.less) (nE : PySem.W.findIn K (.ref XA.less) "letter" = some none) : Cal P w K mg base 9 "_law_attempt" (spX K C XA sAttempt) := by
  refine fn_X F sc_law_attempt (fun ds Q E ⟨_, _, _, e, _⟩ => by rw [e]; rfl) fun f cdv A outer s H E hr => ⟨_, (pss_cons (ps_st 2 sc_law_attempt.nd pe_non)
        (pss_cons (ps_st 3 sc_law_attempt.nd pe_non)
        (pss_cons (ps_try_mix (tb := fun W => tAsg (tMakeS C 1 4 (spI K C XA sTInit) (fun vs zs => vs ++ zs) (WE W) (tCons (tVar 1) tNil) (tCons (tOp (rIxU K w) (tVar 0) (tC (.int 0))) (tCons (tOp (rIxU K w) (tVar 0) (tC (.int 1))) (tCons (tOp (rIxU K w) (tVar 0) (tC (.int 2))) (tCons (tOp (rIxU K w) (tVar 0) (tC (.int 3))) tNil))))) (gName 2)) (l := clsA XA) (Wout := fun _ _ _ _ => False) rfl rfl takes0 (fun W pn xe tk => pss_one (ps_st 2 sc_law_attempt.nd (by refine pe_makeC (hall := ?h1) (hks := ?h2) (hpl := ?h3) (he := ?h4) c_Table hr (fun σ => passAt tk σ) g_Table ?p1 ?p2; (case p1 => exact (pa_cons (pv 1) pa_nil)); (case p2 => exact (pk_cons (pe_ix (xIx K w) (pv 0) pe_int (fun _ _ => rfl)) (pk_cons (pe_ix (xIx K w) (pv 0) pe_int (fun _ _ => rfl)) (pk_cons (pe_ix (xIx K w) (pv 0) pe_int (fun _ _ => rfl)) (pk_cons (pe_ix (xIx K w) (pv 0) pe_int (fun _ _ => rfl)) pk_nil))))); all_goals rfl))) (.bare ⟨rfl, by decide, .inl gS⟩ (fun a oe cls d pn hz hf => pss_one (ps_st 3 sc_law_attempt.nd (pe_tup (pa_cons pe_str pa_nil)))) (.bare ⟨rfl, by decide, .inl gT⟩ (fun a oe cls d pn hz hf => pss_one (ps_st 3 sc_law_attempt.nd (pe_tup (pa_cons pe_str pa_nil)))) (.bare ⟨rfl, by decide, .inl gG⟩ (fun a oe cls d pn hz hf => pss_one (ps_st 3 sc_law_attempt.nd (pe_tup (pa_cons pe_str pa_nil)))) (.named (i := 4) ⟨rfl, by decide, .inl gF⟩ sc_law_attempt.nd rfl rfl (fun a oe cls d pn hz hf => pss_one (ps_st 3 sc_law_attempt.nd (pe_tup (pa_cons pe_str (pa_cons (pe_xf xF nF hz hf (pv 4)) pa_nil))))) (.named (i := 5) ⟨rfl, by decide, .inl gL⟩ sc_law_attempt.nd rfl rfl (fun a oe cls d pn hz hf => pss_one (ps_st 3 sc_law_attempt.nd (pe_tup (pa_cons pe_str (pa_cons (pe_xf xL nL hz hf (pv 5)) pa_nil))))) (.named (i := 6) ⟨rfl, by decide, .inl gE⟩ sc_law_attempt.nd rfl rfl (fun a oe cls d pn hz hf => pss_one (ps_st 3 sc_law_attempt.nd (pe_tup (pa_cons pe_str (pa_cons (pe_xf xE nE hz hf (pv 6)) pa_nil))))) .nil)))))))
        (pss_one (ps_ret (pe_tup (pa_cons (pv 2) (pa_cons (pv 3) pa_nil)))))))), ?_⟩
  rintro N H0 ds Pd PE ⟨b, z, ps, rfl, hl, hpe, hp⟩ hE De hrt hnx
  have bb := pure_base (K := K) (C := C) (N := N) (H0 := H0)
  refine go_asg bb.ok ev_non fun _ e => ?_
  subst e
  refine go_asg bb.ok ev_non fun _ e => ?_
  subst e
  have ix : ∀ {i : Int} {d : D}, atI [z.n.d, z.w.d, z.m.d, z.t.d] i = some d → Ev ((pureW K C N H0).wi []) (tOp (rIxU K w) (tVar 0) (tC (.int i))) [some z.d, some (rowsD b ps), some .non, some .non, none, none, none] d := fun h => ev_op (a := z.d) (ev_var (i := 0) rfl) ev_int (r2_xL h)
  have fin : ∀ {δ : List (Option D)} {e : D}, δ[2]? = some (some .non) → δ[3]? = some (some e) → Pd (.tup [.non, e]) → Go (pureW K C N H0) H0 [] [] δ (tRet (tTup (tCons (tVar 2) (tCons (tVar 3) tNil)))) De := fun h2 h3 hq => go_ret bb.ok (ev_tup (ea_cons (ev_var h2) (ea_cons (ev_var h3) ea_nil))) fun d v H pd ex I r => by
    subst pd
    exact hrt _ _ _ hq ex r
  refine go_tryK (XA := XA) (S := sTInit) (i := 2) (m := 4) (P := fun d => firstErr z ps = none ∧ ∃ t, d = t.d ∧ TabOf z.sz ps t) (PE := fun er => firstErr z ps = some er) bb (ea_cons (ev_var (i := 1) rfl) ea_nil) (ea_cons (ix rfl) (ea_cons (ix rfl) (ea_cons (ix rfl) (ea_cons (ix rfl) ea_nil)))) rfl ⟨b, ps, z, rfl, hl, fun e h => h, fun h t ht => ⟨h, t, rfl, ht⟩⟩ (fun d ⟨h, t, e, ht⟩ => ?_) fun er c dx σ H' he pt ea => ?_
  · subst e
    refine go_ret bb.ok (ev_tup (ea_cons (ev_var (i := 2) rfl) (ea_cons (ev_var (i := 3) rfl) ea_nil))) fun d v H pd ex I r => ?_
    subst pd
    exact hrt _ _ _ (hp h t ht) ex r
  have hq := hpe er he
  have bare : ∀ (nm : Str) (a : Addr), Pd (.tup [.non, .tup [.str nm]]) → tS1 nm a c dx ⟨(tRet (tTup (tCons (tVar 2) (tCons (tVar 3) tNil)))) De, De.rt, De.bk, De.ct⟩ σ H' := fun nm a hq =>
    (show Go (pureW K C N H0) H0 [] [] [some z.d, some (rowsD b ps), some .non, some .non, none, none, none] (tSeq (tS1 nm a c dx) (tRet (tTup (tCons (tVar 2) (tCons (tVar 3) tNil))))) De from go_asg bb.ok (ev_tup (ea_cons ev_str ea_nil)) fun _ e => by
      subst e
      exact fin rfl rfl hq) σ H' pt
  cases er with
  | size =>
    cases (show c = .ref XA.size from ea)
    exact ⟨true, exm.SS, fun _ a ha => bare _ a hq, fun z => nomatch z⟩
  | token => exact absurd he no_token
  | sign =>
    cases (show c = .ref XA.sign from ea)
    exact ⟨false, exm.GS, fun z => (nomatch z), fun _ => ⟨false, exm.GT, fun z => (nomatch z), fun _ => ⟨true, exm.GG, fun _ a ha => bare _ a hq, fun z => nomatch z⟩⟩⟩
  | table =>
    cases (show c = .ref XA.table from ea)
    exact ⟨false, exm.TS, fun z => (nomatch z), fun _ => ⟨true, exm.TT, fun _ a ha => bare _ a hq, fun z => nomatch z⟩⟩
  | full n =>
    obtain ⟨rfl, dd, rfl, hd⟩ := ea
    exact ⟨false, exm.FS, fun z => (nomatch z), fun _ => ⟨false, exm.FT, fun z => (nomatch z), fun _ => ⟨false, exm.FG, fun z => (nomatch z), fun _ => ⟨true, exm.FF, fun _ a ha => suite_xf (Γ := []) (i := 4) bb pt hd (show 4 < 7 by decide) (fin rfl rfl hq), fun z => nomatch z⟩⟩⟩⟩
  | less n =>
    obtain ⟨rfl, dd, rfl, hd⟩ := ea
    exact ⟨false, exm.ES, fun z => (nomatch z), fun _ => ⟨false, exm.ET, fun z => (nomatch z), fun _ => ⟨false, exm.EG, fun z => (nomatch z), fun _ => ⟨false, exm.EF, fun z => (nomatch z), fun _ => ⟨false, exm.EL, fun z => (nomatch z), fun _ => ⟨true, exm.EE, fun _ a ha => suite_xf (Γ := []) (i := 6) bb pt hd (show 6 < 7 by decide) (fin rfl rfl hq), fun z => nomatch z⟩⟩⟩⟩⟩⟩
  | large n =>
    obtain ⟨rfl, dd, rfl, hd⟩ := ea
    exact ⟨false, exm.LS, fun z => (nomatch z), fun _ => ⟨false, exm.LT, fun z => (nomatch z), fun _ => ⟨false, exm.LG, fun z => (nomatch z), fun _ => ⟨false, exm.LF, fun z => (nomatch z), fun _ => ⟨true, exm.LL, fun _ a ha => suite_xf (Γ := []) (i := 5) bb pt hd (show 5 < 7 by decide) (fin rfl rfl hq), fun z => nomatch z⟩⟩⟩⟩⟩
end
end Lr
set_option Elab.async false
set_option maxRecDepth 100000
set_option maxHeartbeats 4000000
set_option linter.all false
set_option autoImplicit false
/-! The law. -/
namespace Lr
open PySem L2 PyProof.Rows
theorem Er.sh (e : Er) : shD 1 e.d = true := by cases e <;> (show (_ : Bool) = true) <;> simp only [Er.d, shD, List.all_cons, List.all_nil, Bool.and_true] <;> decide +kernel
theorem firstErr_none {z : Szs} {ps : List PairR} (h : firstErr z ps = none) : z.ok = true ∧ PsOk ps z.sz ∧ overfull ((rowsOf ps).map (·.2)) = none := by
  unfold firstErr at h
  by_cases h1 : z.ok = false
  · rw [if_pos h1] at h; cases h
  rw [if_neg h1] at h
  by_cases h2 : ps.length < 2 ∨ 40 < ps.length
  · rw [if_pos h2] at h; cases h
  rw [if_neg h2] at h
  by_cases h3 : ps.all PairR.ok = false
  · rw [if_pos h3] at h; cases h
  rw [if_neg h3] at h
  by_cases h4 : (ps.all fun p => p.g.okB z.sz) = false
  · rw [if_pos h4] at h; cases h
  rw [if_neg h4] at h
  have h1 : z.ok = true := by cases e : z.ok with | false => exact absurd e h1 | true => rfl
  have h3 : ps.all PairR.ok = true := by cases e : ps.all PairR.ok with | false => exact absurd e h3 | true => rfl
  have h4 : (ps.all fun p => p.g.okB z.sz) = true := by cases e : (ps.all fun p => p.g.okB z.sz) with | false => exact absurd e h4 | true => rfl
  have hz := h1
  unfold Szs.ok at hz
  simp only [Bool.and_eq_true] at hz
  refine ⟨h1, ⟨Szs.sz_ok hz.1 hz.2.1 hz.2.2.1 hz.2.2.2, ?_, List.all_eq_true.mp h4⟩, ?_⟩
  · unfold pairsOk
    rw [h3, decide_eq_true (by omega), decide_eq_true (by omega)]
    rfl
  · rw [rows_n]
    cases e : overfull (ps.map fun p => p.n.nat) with
    | none => rfl
    | some i => rw [e] at h; cases h
theorem sz_book {z : Szs} {k : Book} (h : z.ok = true) (hz : z.Of k) : z.sz.n = k.a ∧ z.sz.w = k.m ∧ z.sz.m = k.sp := by
  unfold Szs.ok at h
  simp only [Bool.and_eq_true] at h
  obtain ⟨h1, h2, h3, h4⟩ := h
  have f : ∀ {s : Sc} {n : Nat} {a b : Int}, s.wi a b = true → (s = .int (n : Nat) ∨ s.wi a b = false) → s.nat = n := fun {s n a b} h h' => by
    rcases h' with rfl | h'
    · exact Int.toNat_natCast n
    · rw [h] at h'; cases h'
  exact ⟨f h1 hz.n, f h2 hz.w, f h3 hz.m⟩
section
variable {b : Wd} {H0 : Hp} {Γ : List (V × D)} {M : ML} {δ : List (Option D)} {te : TE} {tz tu : TS} {De : Ends} {g : TG}
theorem go_forR {Pn : Nat → Prop} (bb : b.Base H0) (h : EvP (b.wi M) te δ (IsN Pn)) (k : ∀ n, Pn n → Go b H0 Γ M δ (tSeq (tFor (iRng1 (tCons (tC (.int (n : Int))) tNil)) g tu) tz) De) : Go b H0 Γ M δ (tSeq (tFor (iRng1 (tCons te tNil)) g tu) tz) De := fun σ H p =>
  h (bb.ok.wi M) σ H p.env p.inv _ fun d v H1 ⟨n, hd, pn⟩ e1 I1 r => by
    subst hd
    cases r
    exact k n pn σ H1 (p.step bb.ok e1 I1)
end
theorem go_asgG' {b : Wd} {H0 : Hp} {Γ : List (V × D)} {M : ML} {δ : List (Option D)} {te : TE} {De : Ends} {P : D → Prop} {g : TG} (ok : b.Ok) (h : EvP (b.wi M) te δ P) (k : ∀ d, P d → ∃ δ', EvG (b.wi M) g d δ δ' ∧ Go b H0 Γ M δ' tNext De) : Go b H0 Γ M δ (tAsg te g) De := fun σ H p =>
  h (ok.wi M) σ H p.env p.inv _ fun d v H1 pd e1 I1 r => by
    obtain ⟨δ', eg, kk⟩ := k d pd
    have p1 := p.step ok e1 I1
    exact eg σ H1 v p1.env r _ fun σ' e' => kk σ' H1 (p1.slots e')
/-- a row of the book as a pair -/
def rowP (r : Sign × Int) : PairR := ⟨true, .sg r.1, .int r.2, false⟩
abbrev s_law : Stmt := topS 86
abbrev ns_law : List Str := ["_law_script", "_law_source_here", "_law_book_here", "_law_sizes", "_law_pairs", "_law_k", "_law_due", "_law_given", "_law_table", "_law_got", "_law_words_here", "_law_again", "_law_second"]
theorem sc_law : FnScope ns_law ["_law_script"] (defScope s_law) := ⟨rfl, rfl, rfl, by decide +kernel, rfl, by decide +kernel, by decide +kernel⟩
theorem start_src {K : PySem.W.Frag} {rest : TS} {De : Ends} {σ : L2.St} {H : Hp} {a : Addr} {ns : List Int} (h0 : σ[0]? = some (some (.ref a))) (hsq : SqL K H a (ns.map V.int)) (hlen : ns.length ≤ 63) (k : ∀ s l H', H s = none → H l = none → Same H H' → Src H' s l → rest De (σ.set 1 (some (.ref s))) H') :
    tSeq (tAsg (tCall (spSource K) [] E0 (tCons (tVar 0) (tCons (tC (.int 0)) (tCons (tC (.int 63)) tNil)))) (gName 1)) rest De σ H := ⟨_, h0, a, ns, rfl, hsq, hlen, fun s l H' hs hl same src => k s l H' hs hl same src⟩
theorem Go.run {b : Wd} {H0 : Hp} {Γ : List (V × D)} {M : ML} {δ : List (Option D)} {ts : TS} {De : Ends} {σ : L2.St} {H : Hp} (g : Go b H0 Γ M δ ts De) (p : Pt b H0 Γ M δ σ H) : ts De σ H := g σ H p
def spLaw (K : PySem.W.Frag) : Sp := fun vs H Q _ => ∃ (a : Addr) (ns : List Int), vs = [.ref a] ∧ SqL K H a (ns.map V.int) ∧ ns.length ≤ 63 ∧ ∀ H', Q (.bl true) H'
section
variable {P : Program} {w : World} {K : PySem.W.Frag} {mg : Str → Option Value} {base : Heap} {C : Addr} {XA : ExAds}
theorem law_ok {f : Addr} {fd : FuncData} (hf : Fun K "law" "law" s_law f fd) (B : Blt mg) (cl : Cls K C) (c_law_source : Cal P w K mg base 1 "_law_source" (spSource K)) (c_law_book : Cal P w K mg base 8 "_law_book" (spS K C sBook)) (c_law_draw : Cal P w K mg base 2 "_law_draw" (spS K C sDraw))
    (c_law_faulty : Cal P w K mg base 5 "_law_faulty" (spS K C sFaulty)) (c_law_first_error : Cal P w K mg base 4 "_law_first_error" (spX K C XA sFirstError)) (c_law_attempt : Cal P w K mg base 9 "_law_attempt" (spX K C XA sAttempt)) (c_law_words : Cal P w K mg base 3 "_law_words" (spX K C XA sWords))
    (c_law_stands : Cal P w K mg base 3 "_law_stands" (spX K C XA sStands)) (c_law_firsts : Cal P w K mg base 6 "_law_firsts" (spS K C sFirstsL)) (c_law_by_firsts : Cal P w K mg base 6 "_law_by_firsts" (spS K C sByFirsts)) (c_pairs : CalM P w K mg base 1 C "pairs" (spX K C XA sTPairs)) (c_eq : CalM P w K mg base 1 C "__eq__" (spX K C XA sTEq)) :
    FnOk P w K mg base (L2.CX P w) 10 f fd ["_law_script"] (spLaw K) := by
  refine hf.okX sc_law (fun vs H Q E ⟨_, _, e, _⟩ => by rw [e]; rfl) fun cdv A outer s H vs Q E hr h => ⟨_, (pss_cons (ps_st 1 sc_law.nd (pe_cal c_law_source hr (pa_cons (pv 0) (pa_cons pe_int (pa_cons pe_int pa_nil)))))
        (pss_cons (ps_st 2 sc_law.nd (pe_cal c_law_book hr (pa_cons (pv 1) pa_nil)))
        (pss_cons (ps_st 3 sc_law.nd (pe_callTy (xList K) rfl B.b_list bt_list (pa_cons (pe_slice (xSl K) (pv 2) po_none (po_some pe_int)) pa_nil)))
        (pss_cons (ps_st 4 sc_law.nd (pe_callTy (xList K) rfl B.b_list bt_list (pa_cons (pe_ix (xIx K w) (pv 2) pe_int (fun _ _ => rfl)) pa_nil)))
        (pss_cons (ps_for (passes_of rfl) rfl (pi_range1 rfl B.b_range (pa_cons (pe_cal c_law_draw hr (pa_cons (pv 1) (pa_cons pe_int pa_nil))) pa_nil)) (pg_nm 5 sc_law.nd) (pss_one (ps_asg (pe_cal c_law_faulty hr (pa_cons (pv 1) (pa_cons (pv 2) (pa_cons (pv 3) (pa_cons (pv 4) pa_nil))))) (pg_tup rfl (pgs_cons (pg_nm 3 sc_law.nd) (pgs_cons (pg_nm 4 sc_law.nd) pgs_nil))))))
        (pss_cons (ps_st 6 sc_law.nd (pe_cal c_law_first_error hr (pa_cons (pv 3) (pa_cons (pv 4) pa_nil))))
        (pss_cons (ps_st 7 sc_law.nd (pe_callTy (xList K) rfl B.b_list bt_list (pa_cons (pv 4) pa_nil)))
        (pss_cons (ps_asg (pe_cal c_law_attempt hr (pa_cons (pv 3) (pa_cons (pv 7) pa_nil))) (pg_tup rfl (pgs_cons (pg_nm 8 sc_law.nd) (pgs_cons (pg_nm 9 sc_law.nd) pgs_nil))))
        (pss_cons (ps_if (PW.pt (pw_or (pt_cmpR (xNe K hr.units) (pv 9) (pv 6) (nomark _)) (pw_or1 (pt_cmpR (xNe K hr.units) (pv 7) (pv 4) (nomark _))))) (pss_one (ps_ret pe_bl)) pss_nil)
        (pss_cons (ps_if (PW.pt (pw_and (pt_cmpR xIsNot (pv 9) pe_non (nomark _)) (pw_and (pt_cmpR xGt (pe_callB (xLen K) rfl B.b_len bt_len (pa_cons (pv 9) pa_nil)) pe_int (nomark _)) (pw_and1 (PW.pt (pw_or (pt_not (pt_val (pe_callB call_isi rfl B.b_isinstance bt_isinstance (pa_cons (pe_ix (xIx K w) (pv 9) pe_int (fun _ _ => rfl)) (pa_cons (pe_bltn (v := .ty "int") rfl B.b_int bt_int rfl) pa_nil))))) (pw_or1 (pt_val (pe_callB call_isi rfl B.b_isinstance bt_isinstance (pa_cons (pe_ix (xIx K w) (pv 9) pe_int (fun _ _ => rfl)) (pa_cons (pe_bltn (v := .ty "bool") rfl B.b_bool bt_bool rfl) pa_nil))))))))))) (pss_one (ps_ret pe_bl)) pss_nil)
        (pss_cons (ps_if (pt_cmpR xIsNot (pv 6) pe_non (nomark _)) (pss_one (ps_ret (pe_cmpR xIs (pv 8) pe_non (nomark _)))) pss_nil)
        (pss_cons (ps_st 10 sc_law.nd (pe_cal c_law_words hr (pa_cons (pv 4) pa_nil)))
        (pss_cons (ps_if (PW.pt (pw_or (pt_not (pt_val (pe_cal c_law_stands hr (pa_cons (pv 8) (pa_cons (pv 4) (pa_cons (pv 10) pa_nil)))))) (pw_or1 (pt_not (pt_val (pe_cal c_law_firsts hr (pa_cons (pv 1) (pa_cons (pv 8) (pa_cons (pv 2) (pa_cons (pv 10) pa_nil)))))))))) (pss_one (ps_ret pe_bl)) pss_nil)
        (pss_cons (ps_if (pt_not (pt_val (pe_cal c_law_by_firsts hr (pa_cons (pv 1) (pa_cons (pv 8) (pa_cons (pv 10) pa_nil)))))) (pss_one (ps_ret pe_bl)) pss_nil)
        (pss_cons (ps_asg (pe_cal c_law_attempt hr (pa_cons (pv 3) (pa_cons (pe_mth0 (pv 8) c_pairs cl hr) pa_nil))) (pg_tup rfl (pgs_cons (pg_nm 11 sc_law.nd) (pgs_cons (pg_nm 12 sc_law.nd) pgs_nil))))
        (pss_one (ps_ret (pe_and (pe_cmpR xIs (pv 12) pe_non (nomark _)) (pe_one (pe_cmpR (op_ownEq c_eq hr) (pv 11) (pv 8) (nomark _))))))))))))))))))))), ?_⟩
  obtain ⟨a, ns0, rfl, hsq, hlen, hq⟩ := h
  refine start_src (σ := L2.start ns_law [.ref a]) rfl hsq hlen fun s l H' hs hl same src => ?_
  let N : Addr → Prop := fun x => x ≠ s ∧ x ≠ l
  have ns : ¬ N s := fun h => h.1 rfl
  have nl : ¬ N l := fun h => h.2 rfl
  have bb := src_base (K := K) (C := C) (H0 := H') ns nl
  have fr : ∀ x, H' x = none → N x := fun x hx => by
    obtain ⟨c, k, n, h1, h2, _⟩ := src
    exact ⟨(fun e => by rw [e, h1] at hx; cases hx), (fun e => by rw [e, h2] at hx; cases hx)⟩
  refine Go.run (b := srcW K C N H' s l) (H0 := H') (Γ := []) (M := []) (δ := [none, some (.adr s), none, none, none, none, none, none, none, none, none, none, none]) ?_ ⟨.skip (.cons (.adr s) (Slots.nones 11)), ⟨⟨fr, src, Ex.refl _⟩, (fun m hm => by cases hm)⟩, Ex.refl _, (fun a ha => by cases ha), (fun x hx => by cases hx)⟩
  have fin : ∀ {M : ML} {δ : List (Option D)} {te : TE}, Ev ((srcW K C N H' s l).wi M) te δ (.bl true) → Go (srcW K C N H' s l) H' [] M δ (tRet te) { nx := fun _ H' => Q .non H', rt := Q } := fun h => go_ret bb.ok h fun d v H pd ex I r => by
    subst pd
    cases r
    exact hq _
  refine go_asg bb.ok (P := fun d => ∃ k : Book, k.Ok ∧ d = k.d) (ev_draw ns nl (ea_cons (ev_var (i := 1) rfl) ea_nil) ⟨rfl, fun k h => ⟨k, h, rfl⟩⟩) fun d ⟨k, hk, pd⟩ => ?_
  subst pd
  refine go_asg bb.ok (P := fun d => d = (Szs.mk (.int k.a) (.int k.m) (.int k.sp) (.int k.lv)).d) (ev_cb (ea_cons (ev_sl (a := k.d) (ev_var (i := 2) rfl) eo_none (eo_some ev_int) (rs_T (hi := some ((4 : Nat) : Int)))) ea_nil) (by rw [cut_take]; exact rc_listT)) fun _ e => ?_
  subst e
  have erow : k.rows.map rowD = (k.rows.map rowP).map PairR.d := by rw [List.map_map]; rfl
  refine go_asg bb.ok (P := fun d => d = pairsD (k.rows.map rowP)) (ev_is (ev_cb (ea_cons (ev_op (a := k.d) (P := fun d => d = .tup (k.rows.map rowD)) (ev_var (i := 2) rfl) ev_int (r2_xT rfl)) ea_nil) rc_listT) (by rw [erow]; rfl)) fun _ e => ?_
  subst e
  refine go_forR bb (Pn := fun n => n ≤ 2) ((ev_dr ns nl rfl ev_int (by omega) (by omega)).imp fun d ⟨n, e, hn⟩ => ⟨n, e, by omega⟩) fun n hn => ?_
  refine go_for bb (ei_rng1 (ea_cons ev_int ea_nil) (by omega) (by omega)) (fun i δ M => M = [] ∧ ∃ (z : Szs) (ps : List PairR) (u : Option D), z.Of k ∧ (i = 0 → 2 ≤ ps.length) ∧ (i = 1 → 1 ≤ ps.length) ∧ ps.length ≤ 150 ∧ δ = [none, some (.adr s), some k.d, some z.d, some (pairsD ps), u, none, none, none, none, none, none, none]) ⟨rfl, _, k.rows.map rowP, none, ⟨.inl rfl, .inl rfl, .inl rfl, .inl rfl⟩, fun _ => by rw [List.length_map]; exact hk.rows.1, fun h => by omega, by rw [List.length_map]; have := hk.rows.2.1; omega, rfl⟩ ?_ ?_
  · rintro x i d δ' M' hd ea ⟨rfl, z, ps, u, hz, h0, h1, hl, rfl⟩
    obtain ⟨hi, rfl⟩ := upto_get hd
    have hi : i < n := by omega
    refine ⟨_, eg_name, ?_⟩
    refine go_asgG' bb.ok (P := fun d => ∃ (z' : Szs) (ps' : List PairR), d = .tup [z'.d, pairsD ps'] ∧ z'.Of k ∧ (2 ≤ ps.length → 1 ≤ ps'.length) ∧ ps'.length ≤ 150) (ev_draw ns nl (ea_cons (ev_var (i := 1) rfl) (ea_cons (ev_var (i := 2) rfl) (ea_cons (ev_var (i := 3) rfl) (ea_cons (ev_var (i := 4) rfl) ea_nil)))) ⟨k, z, ps, rfl, hk, hz, (if e : i = 0 then Nat.le_of_succ_le (h0 e) else h1 (by omega)), hl, fun z' ps' a b c => ⟨z', ps', rfl, a, b, c⟩⟩) fun d ⟨z', ps', pd, hz', hp1, hp2⟩ => ?_
    subst pd
    refine ⟨_, eg_tup (eg_cons eg_name (eg_cons eg_name eg_nil)), ?_⟩
    exact go_kept rfl ⟨rfl, z', ps', _, hz', fun h => by omega, fun h => hp1 (h0 (by omega)), hp2, rfl⟩
  rintro δ' M' ea ⟨rfl, z, ps, u, hz, -, -, hl, rfl⟩
  refine go_asg bb.ok (P := fun d => d = optE (firstErr z ps)) (ev_call (ea_cons (ev_var (i := 3) rfl) (ea_cons (ev_var (i := 4) rfl) ea_nil)) ⟨z, ps, rfl, by omega, rfl⟩) fun _ e => ?_
  subst e
  refine go_asg bb.ok (P := fun d => d = pairsD ps) (ev_cb (ea_cons (ev_var (i := 4) rfl) ea_nil) rc_listL) fun _ e => ?_
  subst e
  refine go_asgG bb.ok (P := fun d => (∃ e, firstErr z ps = some e ∧ d = .tup [.non, e.d]) ∨ (firstErr z ps = none ∧ ∃ t, TabOf z.sz ps t ∧ d = .tup [t.d, .non])) (ev_call (ea_cons (ev_var (i := 3) rfl) (ea_cons (ev_var (i := 7) rfl) ea_nil)) ⟨false, z, ps, rfl, by omega, fun e h => .inl ⟨e, h, rfl⟩, fun h t ht => .inr ⟨h, t, ht, rfl⟩⟩) fun d hd => ?_
  have psh : eqOk (pairsD ps) = true := eqOk_sh (n := 3) (sh_map fun p _ => PairR.sh p)
  have given : ∀ {δ : List (Option D)}, δ[7]? = some (some (pairsD ps)) → δ[4]? = some (some (pairsD ps)) → EvT ((srcW K C N H' s l).wi []) (tTest (tOp (rNeU K) (tVar 7) (tVar 4))) δ false := fun h7 h4 => et_testd (b := false) (ev_is (ev_op (ev_var h7) (ev_var h4) (r2_nD psh psh)) (by rw [deq_refl psh]; rfl))
  rcases hd with ⟨e, he, rfl⟩ | ⟨he, t, ht, rfl⟩
  · have esh := eqOk_sh (Er.sh e)
    rw [he]
    refine ⟨_, eg_tup (eg_cons eg_name (eg_cons eg_name eg_nil)), ?_⟩
    refine go_when bb.ok (et_ord (x := false) (y := false) (et_testd (ev_is (ev_op (a := e.d) (b := e.d) (ev_var (i := 9) rfl) (ev_var (i := 6) rfl) (r2_nD esh esh)) (by rw [deq_refl esh]; rfl))) fun _ => given rfl rfl) (fun h => by cases h) fun _ => ?_
    have e1 : isN e.d = false := by cases e <;> rfl
    refine go_when bb.ok (Pb := fun b => b = false) ?_ (fun h => by cases h) fun _ => ?_
    · have one : ∀ {x : Str}, e.d = .tup [.str x] → EvT ((srcW K C N H' s l).wi []) (tTest (tOp rGtU (tCB (rLenU K) (tCons (tVar 9) tNil)) (tC (.int 1)))) [none, some (.adr s), some k.d, some z.d, some (pairsD ps), u, some e.d, some (pairsD ps), some .non, some e.d, none, none, none] false := fun h => et_testd (b := false) (ev_is (ev_op (ev_cb (ea_cons (ev_var (i := 9) rfl) ea_nil) (rc_len (n := 1) (by rw [h]; rfl))) ev_int r2_gt) rfl)
      have two : ∀ {x : Str} {i : Int}, e.d = .tup [.str x, .int i] → EvT ((srcW K C N H' s l).wi []) (tTest (tOp rGtU (tCB (rLenU K) (tCons (tVar 9) tNil)) (tC (.int 1)))) [none, some (.adr s), some k.d, some z.d, some (pairsD ps), u, some e.d, some (pairsD ps), some .non, some e.d, none, none, none] true := fun h => et_testd (b := true) (ev_is (ev_op (ev_cb (ea_cons (ev_var (i := 9) rfl) ea_nil) (rc_len (n := 2) (by rw [h]; rfl))) ev_int r2_gt) rfl)
      have num : ∀ {x : Str} {i : Int}, e.d = .tup [.str x, .int i] → Ev ((srcW K C N H' s l).wi []) (tOp (rIxU K w) (tVar 9) (tC (.int 1))) [none, some (.adr s), some k.d, some z.d, some (pairsD ps), u, some e.d, some (pairsD ps), some .non, some e.d, none, none, none] (.int i) := fun {x i} h => ev_op (a := .tup [.str x, .int i]) (ev_var (i := 9) (by rw [h]; rfl)) ev_int (r2_xT rfl)
      have nums : ∀ {x : Str} {i : Int}, e.d = .tup [.str x, .int i] → EvT ((srcW K C N H' s l).wi []) _ _ false := fun {x i} h => et_is (et_andd (x := true) (y := false) (et_testd (ev_is (ev_op (a := e.d) (ev_var (i := 9) rfl) ev_non r2_isNot) (by rw [e1]; rfl))) fun _ => et_andd (x := true) (y := false) (two h) fun _ => et_ord (x := false) (y := false) (et_notd (et_Bd (ev_isi (T := "int") (Tn := "int") (k := true) (num h) rfl rfl))) fun _ => et_Bd (ev_isi (T := "int") (Tn := "bool") (k := false) (num h) rfl rfl)) rfl
      have ones : ∀ {x : Str} {tt : TT}, e.d = .tup [.str x] → EvT ((srcW K C N H' s l).wi []) (tAnd (tTest (tOp rIsNotU (tVar 9) (tC .non))) (tAnd (tTest (tOp rGtU (tCB (rLenU K) (tCons (tVar 9) tNil)) (tC (.int 1)))) tt)) _ false := fun {x tt} h => et_is (et_andd (x := true) (y := false) (et_testd (ev_is (ev_op (a := e.d) (ev_var (i := 9) rfl) ev_non r2_isNot) (by rw [e1]; rfl))) fun _ => et_andd (x := false) (y := true) (one h) fun z => by cases z) rfl
      cases e with
      | size => exact ones rfl
      | token => exact ones rfl
      | sign => exact ones rfl
      | table => exact ones rfl
      | full n => exact nums rfl
      | less n => exact nums rfl
      | large n => exact nums rfl
    refine go_when bb.ok (et_testd (b := true) (ev_is (ev_op (a := e.d) (ev_var (i := 6) rfl) ev_non r2_isNot) (by rw [e1]; rfl))) (fun _ => ?_) (fun h => by cases h)
    exact fin (ev_op (ev_var (i := 8) rfl) ev_non r2_is)
  rw [he]
  obtain ⟨zok, ok, hov⟩ := firstErr_none he
  refine ⟨_, eg_tup (eg_cons eg_name (eg_cons eg_name eg_nil)), ?_⟩
  refine go_when bb.ok (et_ord (x := false) (y := false) (et_testd (ev_is (ev_op (a := .non) (b := .non) (ev_var (i := 9) rfl) (ev_var (i := 6) rfl) (r2_nD rfl rfl)) rfl)) fun _ => given rfl rfl) (fun h => by cases h) fun _ => ?_
  refine go_when bb.ok (Pb := fun b => b = false) (et_is (et_andd (x := false) (y := true) (et_testd (ev_is (ev_op (a := .non) (ev_var (i := 9) rfl) ev_non r2_isNot) rfl)) fun z => by cases z) rfl) (fun h => by cases h) fun _ => ?_
  refine go_when bb.ok (et_testd (b := false) (ev_is (ev_op (a := .non) (ev_var (i := 6) rfl) ev_non r2_isNot) rfl)) (fun h => by cases h) fun _ => ?_
  refine go_asg bb.ok (P := fun d => d = .lst ((wordsOf (rowsOf ps)).map pairD)) (ev_call (ea_cons (ev_is (ev_var (i := 4) rfl) (show pairsD ps = .lst ((rowsOf ps).map growD) by rw [← ok.ds]; rfl)) ea_nil) ⟨rowsOf ps, rfl, ok.rows, by rw [words_sorted ok.rows (used_fit ok.rows.len hov)]⟩) fun _ e => ?_
  subst e
  refine go_when bb.ok (et_ord (x := false) (y := false) (et_notd (et_Bd (b := true) (ev_call (ea_cons (ev_var (i := 8) rfl) (ea_cons (ev_var (i := 4) rfl) (ea_cons (ev_var (i := 10) rfl) ea_nil))) ⟨z.sz, ps, t, rfl, ok, hov, ht, rfl⟩))) fun _ => et_notd (et_Bd (b := true) (ev_draw ns nl (ea_cons (ev_var (i := 1) rfl) (ea_cons (ev_var (i := 8) rfl) (ea_cons (ev_var (i := 2) rfl) (ea_cons (ev_var (i := 10) rfl) ea_nil)))) ⟨z.sz, k, ps, t, rfl, ok, ht, hk, sz_book zok hz, rfl⟩))) (fun h => by cases h) fun _ => ?_
  refine go_when bb.ok (et_notd (et_Bd (b := true) (ev_draw ns nl (ea_cons (ev_var (i := 1) rfl) (ea_cons (ev_var (i := 8) rfl) (ea_cons (ev_var (i := 10) rfl) ea_nil))) ⟨z.sz, ps, t, rfl, ok, ht, rfl⟩))) (fun h => by cases h) fun _ => ?_
  refine go_asgG bb.ok (P := fun d => ∃ t', TabOf z.sz ps t' ∧ d = .tup [t'.d, .non]) (ev_call (ea_cons (ev_var (i := 3) rfl) (ea_cons (ev_is (ev_mth (w := (srcW K C N H' s l).wi []) (P := fun d => d = .tup (t.ps.map PairR.d)) (ev_var (i := 8) rfl) rfl ea_nil ⟨t, rfl, rfl⟩) (show D.tup (t.ps.map PairR.d) = rowsD true ps by rw [ht.hps]; rfl)) ea_nil)) ⟨true, z, ps, rfl, by omega, (fun e h => by rw [he] at h; cases h), fun h t' ht' => ⟨t', ht', rfl⟩⟩) fun d ⟨t', ht', pd⟩ => ?_
  subst pd
  refine ⟨_, eg_tup (eg_cons eg_name (eg_cons eg_name eg_nil)), ?_⟩
  exact fin (ev_andV (x := true) (y := true) (ev_op (ev_var (i := 12) rfl) ev_non r2_is) fun _ => ev_one (ev_op (ev_var (i := 11) rfl) (ev_var (i := 8) rfl) (r2_ownEq (w := (srcW K C N H' s l).wi []) (by rw [ht'.hW, ht.hW]) ht'.ok.nodup)))
end
end Lr
set_option Elab.async false
set_option maxRecDepth 100000
set_option maxHeartbeats 4000000
set_option linter.all false
set_option autoImplicit false
/-! Facts of the written part. -/
namespace Lr
open PySem L2 PyProof.Rows
section
variable {K : PySem.W.Frag} {h : Heap} {mg : Str → Option Value} {x m qual : Str} {st : Stmt} {ps : List Str} {f C p : Addr} {oc kV doc pm cdv ct : Value} {od an : Option Addr} {osl : Array (Option Value)}
theorem fun_of (l : K.lookup f = some ⟨oc, od, .func (PySem.W.fnOf x qual (defArgs st) (defBody st) (defScope st) .none kV doc pm an cdv ct), osl⟩) (c : PySem.W.codeIn K cdv qual = true) (k : PySem.W.keepIn K (.ref f) = true) :
    Fun K x qual st f (PySem.W.fnOf x qual (defArgs st) (defBody st) (defScope st) .none kV doc pm an cdv ct) := ⟨⟨oc, od, kV, doc, pm, an, cdv, ct, osl, rfl, l, c⟩, k⟩
theorem df_mk (X : K.In h) (G : h.Ns mainGlobals mg) (a : PySem.W.nsIn K mainGlobals x = some (some (.ref f))) (l : K.lookup f = some ⟨oc, od, .func (PySem.W.fnOf x x (defArgs st) (defBody st) (defScope st) .none kV doc pm an cdv ct), osl⟩) (c : PySem.W.codeIn K cdv x = true) (k : PySem.W.keepIn K (.ref f) = true)
    (b : ∀ us : List Value, us.length = ps.length → bindArgs (PySem.W.fnOf x x (defArgs st) (defBody st) (defScope st) .none kV doc pm an cdv ct) ⟨us, []⟩ = pure (ps.zip us)) : Df K mg x st ps := ⟨f, _, PySem.W.mg_of X G a, fun_of l c k, .all b⟩
theorem dfm_mk (a : PySem.W.findIn K (.ref C) m = some (some (.ref f))) (n : PySem.W.isFn K (.ref f) = true) (l : K.lookup f = some ⟨oc, od, .func (PySem.W.fnOf m qual (defArgs st) (defBody st) (defScope st) .none kV doc pm an cdv ct), osl⟩) (c : PySem.W.codeIn K cdv qual = true) (k : PySem.W.keepIn K (.ref f) = true)
    (b : ∀ us : List Value, us.length = ps.length → bindArgs (PySem.W.fnOf m qual (defArgs st) (defBody st) (defScope st) .none kV doc pm an cdv ct) ⟨us, []⟩ = pure (ps.zip us)) : DfM K C m qual st ps := ⟨f, _, ⟨a, n, k⟩, fun_of l c k, .all b⟩
theorem gc_mk {v : V} {u : Value} (X : K.In h) (G : h.Ns mainGlobals mg) (a : PySem.W.nsIn K mainGlobals x = some (some u)) (r : RelV v u) : Gc mg x v := ⟨u, PySem.W.mg_of X G a, r⟩
end
end Lr
set_option Elab.async false
set_option maxRecDepth 100000
set_option maxHeartbeats 4000000
set_option linter.all false
set_option autoImplicit false
/-! The law's promise, from the facts of the written part (printed by joinall.py). -/
namespace Lr
open PySem L2 PyProof.Rows
section
variable {P : Program} {w : World} {K : PySem.W.Frag} {mg : Str → Option Value} {base : Heap} {C : Addr} {XA : ExAds} {dN dS eb xb : Addr} {f : Addr} {fd : FuncData}
  {qF : Str} {aF : Arguments} {bF : List Stmt} {scF : Scope} {vF : List Expr} {mpF : Pos} {fF : Addr}
  {qL : Str} {aL : Arguments} {bL : List Stmt} {scL : Scope} {vL : List Expr} {mpL : Pos} {fL : Addr}
  {qE : Str} {aE : Arguments} {bE : List Stmt} {scE : Scope} {vE : List Expr} {mpE : Pos} {fE : Addr}
theorem law_all (D_law_two : Df K mg "_law_two" s_law_two ["_law_size_here"])
    (B : Blt mg)
    (D_law_mixed : Df K mg "_law_mixed" s_law_mixed ["_law_cell", "_law_place"])
    (D_law_source : Df K mg "_law_source" s_law_source ["_law_script", "_law_low", "_law_high"])
    (D_law_draw : Df K mg "_law_draw" s_law_draw ["_law_source_here", "_law_base"])
    (D_law_size : Df K mg "_law_size" s_law_size ["_law_source_here", "_law_least", "_law_usual", "_law_top"])
    (D_law_extra : Df K mg "_law_extra" s_law_extra ["_law_source_here", "_law_room"])
    (D_law_broad_sign : Df K mg "_law_broad_sign" s_law_broad_sign ["_law_source_here", "_law_alphabet", "_law_wide", "_law_spots", "_law_leaves"])
    (D_law_figures : Df K mg "_law_figures" s_law_figures ["_law_number_here", "_law_size_here"])
    (D_law_spread : Df K mg "_law_spread" s_law_spread ["_law_sign"])
    (D_law_broad_signs : Df K mg "_law_broad_signs" s_law_broad_signs ["_law_source_here", "_law_alphabet", "_law_wide", "_law_spots", "_law_leaves"])
    (D_law_tree : Df K mg "_law_tree" s_law_tree ["_law_source_here", "_law_ends"])
    (D_law_arranged : Df K mg "_law_arranged" s_law_arranged ["_law_source_here", "_law_signs"])
    (D_law_broad : Df K mg "_law_broad" s_law_broad ["_law_source_here"])
    (D_law_book : Df K mg "_law_book" s_law_book ["_law_source_here"])
    (D_law_number : Df K mg "_law_number" s_law_number ["_law_value", "_law_least", "_law_most"])
    (D_integer_within : Df K mg "integer_within" s_integer_within ["value", "least", "most"])
    (D_law_odd : Df K mg "_law_odd" s_law_odd ["_law_source_here", "_law_least", "_law_most"])
    (D_law_misformed : Df K mg "_law_misformed" s_law_misformed ["_law_source_here", "_law_pairs", "_law_at"])
    (D_law_faulty : Df K mg "_law_faulty" s_law_faulty ["_law_source_here", "_law_book_here", "_law_sizes", "_law_pairs"])
    (D_law_spans : Df K mg "_law_spans" s_law_spans ["_law_value", "_law_extra_here", "_law_least", "_law_most"])
    (D_law_valid : Df K mg "_law_valid" s_law_valid ["_law_sign", "_law_sizes"])
    (D_law_overfull : Df K mg "_law_overfull" s_law_overfull ["_law_pairs"])
    (D_law_first_error : Df K mg "_law_first_error" s_law_first_error ["_law_sizes", "_law_pairs"])
    (D_law_words : Df K mg "_law_words" s_law_words ["_law_sheet"])
    (D_law_share_of : Df K mg "_law_share_of" s_law_share_of ["_law_texts"])
    (D_law_shortest : Df K mg "_law_shortest" s_law_shortest ["_law_words_here", "_law_token"])
    (D_check_count : Df K mg "check_count" s_check_count ["value", "least", "most"])
    (x_BadSize : ErrC K mg "BadSize" XA.size)
    (D_check_sizes : Df K mg "check_sizes" s_check_sizes ["n", "width", "many"])
    (g_LEAST_LETTERS : Gc mg "LEAST_LETTERS" (.int 2))
    (g_MOST_LETTERS : Gc mg "MOST_LETTERS" (.int 16))
    (g_MOST_WIDTH : Gc mg "MOST_WIDTH" (.int 24))
    (g_MOST_RECENTS : Gc mg "MOST_RECENTS" (.int 4))
    (D_has_form : Df K mg "has_form" s_has_form ["token"])
    (g_NUMBERS : Gc mg "NUMBERS" (.ref dN))
    (d_NUMBERS : NumD K w dN numsL)
    (D_in_bounds : Df K mg "in_bounds" s_in_bounds ["token", "n", "width", "many"])
    (g_MOST_LENGTH : Gc mg "MOST_LENGTH" (.int 40))
    (g_MOST_TABLES : Gc mg "MOST_TABLES" (.int 6))
    (D_check_token : Df K mg "check_token" s_check_token ["token", "n", "width", "many"])
    (x_BadToken : ErrC K mg "BadToken" XA.token)
    (D_has_sign_form : Df K mg "has_sign_form" s_has_sign_form ["sign"])
    (g_SIGN_NUMBERS : Gc mg "SIGN_NUMBERS" (.ref dS))
    (d_SIGN_NUMBERS : NumD K w dS sgnL)
    (D_spans : Df K mg "spans" s_spans ["first", "extra", "least", "most"])
    (g_MOST_EXTRA : Gc mg "MOST_EXTRA" (.int 3))
    (g_EXTRA_BITS : Gc mg "EXTRA_BITS" (.ref eb))
    (w_EXTRA : Wrt K C (.ref eb) extraD)
    (D_sign_in_bounds : Df K mg "sign_in_bounds" s_sign_in_bounds ["sign", "n", "width", "many", "tables"])
    (D_check_sign : Df K mg "check_sign" s_check_sign ["sign", "n", "width", "many", "tables"])
    (x_BadSign : ErrC K mg "BadSign" XA.sign)
    (D_spread : Df K mg "spread" s_spread ["sign"])
    (D_is_bits : Df K mg "is_bits" s_is_bits ["value"])
    (D_check_lengths : Df K mg "check_lengths" s_check_lengths ["lengths", "most"])
    (x_BadTable : ErrC K mg "BadTable" XA.table)
    (D_in_order : Df K mg "in_order" s_in_order ["lengths"])
    (g_MOST_BITS : Gc mg "MOST_BITS" (.int 10))
    (D_word_from : Df K mg "word_from" s_word_from ["used", "length"])
    (D_free_words : Df K mg "free_words" s_free_words ["lengths"])
    (g_UNITS : Gc mg "UNITS" (.int 1024))
    (t_TooFull : SupTxt P K mg "TooFull" "at" qF aF bF scF XA.full fF)
    (b_TooFull : SupBody "at" aF bF scF vF mpF)
    (m_TooFull : MsgOk "at" vF mpF)
    (D_check_pairs : Df K mg "check_pairs" s_check_pairs ["rows"])
    (g_LEAST_PAIRS : Gc mg "LEAST_PAIRS" (.int 2))
    (g_MOST_PAIRS : Gc mg "MOST_PAIRS" (.int 40))
    (D_words_of : Df K mg "words_of" s_words_of ["pairs"])
    (g_MOST_WORDS : Gc mg "MOST_WORDS" (.int 120))
    (t_TooLarge : SupTxt P K mg "TooLarge" "limit" qL aL bL scL XA.large fL)
    (b_TooLarge : SupBody "limit" aL bL scL vL mpL)
    (m_TooLarge : MsgOk "limit" vL mpL)
    (D_check_letters : Df K mg "check_letters" s_check_letters ["tokens", "n"])
    (t_Letterless : SupTxt P K mg "Letterless" "letter" qE aE bE scE XA.less fE)
    (b_Letterless : SupBody "letter" aE bE scE vE mpE)
    (m_Letterless : MsgOk "letter" vE mpE)
    (D_rests_of : Df K mg "rests_of" s_rests_of ["words"])
    (D_gaps_of : Df K mg "gaps_of" s_gaps_of ["tokens", "rests"])
    (D_words : DfM K C "words" "Table.words" s_Table_words ["self"])
    (cl : Cls K C)
    (n_words : NoAttr K C "_words")
    (D_gaps : DfM K C "gaps" "Table.gaps" s_Table_gaps ["self"])
    (n_gaps : NoAttr K C "_gaps")
    (D_pairs : DfM K C "pairs" "Table.pairs" s_Table_pairs ["self"])
    (n_pairs : NoAttr K C "_pairs")
    (D_full : DfP K C "full" "Table.full" s_Table_full ["self"])
    (D_token : DfM K C "token" "Table.token" s_Table_token ["self", "word"])
    (n_tokens : NoAttr K C "_tokens")
    (x_BadBits : ErrC K mg "BadBits" xb)
    (D_is_begun : DfM K C "is_begun" "Table.is_begun" s_Table_is_begun ["self", "bits"])
    (n_rests : NoAttr K C "_rests")
    (D_contains : DfM K C "__contains__" "Table.__contains__" s_Table___contains ["self", "word"])
    (D_first : DfM K C "first_word" "Table.first_word" s_Table_first_word ["self", "token"])
    (n_sizes : NoAttr K C "_sizes")
    (D_eq : DfM K C "__eq__" "Table.__eq__" s_Table___eq ["self", "other"])
    (ic : C8.InsC K C)
    (g_Table : Gc mg "Table" (.ref C))
    (mk_Table : ∃ (f : Addr) (fd : FuncData), Mk K C f ∧ Fun K "__init__" "Table.__init__" s_Table___init f fd ∧ KBn K fd ["self", "rows", "n", "width", "many", "tables"] 2 ["n", "width", "many", "tables"] (fun us ws => us ++ ws) (fun vs zs => vs ++ zs))
    (D_check_bits : Df K mg "check_bits" s_check_bits ["bits"])
    (D_split_bits : Df K mg "split_bits" s_split_bits ["table", "bits"])
    (D_law_stands : Df K mg "_law_stands" s_law_stands ["_law_table", "_law_pairs", "_law_words_here"])
    (D_law_firsts : Df K mg "_law_firsts" s_law_firsts ["_law_source_here", "_law_table", "_law_book_here", "_law_words_here"])
    (exm_token : PySem.W.exmOne K (.ref XA.token) (.ref XA.token) = some true)
    (D_law_by_firsts : Df K mg "_law_by_firsts" s_law_by_firsts ["_law_source_here", "_law_table", "_law_words_here"])
    (D_law_attempt : Df K mg "_law_attempt" s_law_attempt ["_law_sizes", "_law_pairs"])
    (gC_Table : mg "Table" = some (.ref C))
    (exm : ExmC K XA)
    (gS : mg "BadSize" = some (.ref XA.size))
    (gT : mg "BadTable" = some (.ref XA.table))
    (gG : mg "BadSign" = some (.ref XA.sign))
    (gF : mg "TooFull" = some (.ref XA.full))
    (gL : mg "TooLarge" = some (.ref XA.large))
    (gE : mg "Letterless" = some (.ref XA.less))
    (xF : XfC K XA.full)
    (nF : PySem.W.findIn K (.ref XA.full) "at" = some none)
    (xL : XfC K XA.large)
    (nL : PySem.W.findIn K (.ref XA.large) "limit" = some none)
    (xE : XfC K XA.less)
    (nE : PySem.W.findIn K (.ref XA.less) "letter" = some none)
    (hf : Fun K "law" "law" s_law f fd) :
    FnOk P w K mg base (L2.CX P w) 10 f fd ["_law_script"] (spLaw K) := by
  have c_law_two : Cal P w K mg base 1 "_law_two" (spX K C XA sTwo) := Lr.c_law_two D_law_two B
  have c_law_mixed : Cal P w K mg base 1 "_law_mixed" (spX K C XA sMixed) := Lr.c_law_mixed D_law_mixed B
  have c_law_source : Cal P w K mg base 1 "_law_source" (spSource K) := Lr.c_law_source D_law_source B
  have c_law_draw : Cal P w K mg base 2 "_law_draw" (spS K C sDraw) := Lr.c_law_draw D_law_draw B c_law_mixed
  have c_law_size : Cal P w K mg base 3 "_law_size" (spS K C sSize) := Lr.c_law_size D_law_size c_law_draw
  have c_law_extra : Cal P w K mg base 4 "_law_extra" (spS K C sExtra) := Lr.c_law_extra D_law_extra B c_law_size c_law_two
  have c_law_broad_sign : Cal P w K mg base 5 "_law_broad_sign" (spS K C sBroadSign) := Lr.c_law_broad_sign D_law_broad_sign c_law_draw c_law_size c_law_extra
  have c_law_figures : Cal P w K mg base 1 "_law_figures" (spX K C XA sFigures) := Lr.c_law_figures D_law_figures B
  have c_law_spread : Cal P w K mg base 2 "_law_spread" (spX K C XA sLawSpread) := Lr.c_law_spread D_law_spread B c_law_two c_law_figures
  have c_law_broad_signs : Cal P w K mg base 6 "_law_broad_signs" (spS K C sBroadSigns) := Lr.c_law_broad_signs D_law_broad_signs B c_law_two c_law_spread c_law_size c_law_extra c_law_broad_sign
  have c_law_tree : Cal P w K mg base 3 "_law_tree" (spTree K C) := Lr.c_law_tree D_law_tree B c_law_draw
  have c_law_arranged : Cal P w K mg base 4 "_law_arranged" (spS K C sArranged) := Lr.c_law_arranged D_law_arranged B c_law_draw c_law_tree
  have c_law_broad : Cal P w K mg base 7 "_law_broad" (spS K C sBook) := Lr.c_law_broad D_law_broad c_law_draw c_law_size c_law_broad_signs c_law_arranged
  have c_law_book : Cal P w K mg base 8 "_law_book" (spS K C sBook) := Lr.c_law_book D_law_book B c_law_draw c_law_broad c_law_arranged
  have c_law_number : Cal P w K mg base 1 "_law_number" (spX K C XA sNumber) := Lr.c_law_number D_law_number B
  have c_integer_within : Cal P w K mg base 1 "integer_within" (spX K C XA sNumber) := Lr.c_integer_within D_integer_within B
  have c_law_odd : Cal P w K mg base 3 "_law_odd" (spS K C sOdd) := Lr.c_law_odd D_law_odd c_law_draw
  have c_law_misformed : Cal P w K mg base 4 "_law_misformed" (spS K C sMisformed) := Lr.c_law_misformed D_law_misformed B c_law_draw c_law_odd
  have c_law_faulty : Cal P w K mg base 5 "_law_faulty" (spS K C sFaulty) := Lr.c_law_faulty D_law_faulty B c_law_draw c_law_odd c_law_misformed c_law_number
  have c_law_spans : Cal P w K mg base 2 "_law_spans" (spX K C XA sSpans) := Lr.c_law_spans D_law_spans c_law_number c_law_two
  have c_law_valid : Cal P w K mg base 3 "_law_valid" (spX K C XA sValid) := Lr.c_law_valid D_law_valid B c_law_number c_law_spans
  have c_law_overfull : Cal P w K mg base 2 "_law_overfull" (spX K C XA sOverfull) := Lr.c_law_overfull D_law_overfull B c_law_two
  have c_law_first_error : Cal P w K mg base 4 "_law_first_error" (spX K C XA sFirstError) := Lr.c_law_first_error D_law_first_error B c_law_number c_law_valid c_law_overfull c_law_spread
  have c_law_words : Cal P w K mg base 3 "_law_words" (spX K C XA sWords) := Lr.c_law_words D_law_words B c_law_two c_law_figures c_law_spread
  have c_law_share_of : Cal P w K mg base 2 "_law_share_of" (spX K C XA sShareOf) := Lr.c_law_share_of D_law_share_of B c_law_two
  have c_law_shortest : Cal P w K mg base 1 "_law_shortest" (spX K C XA sShortest) := Lr.c_law_shortest D_law_shortest B
  have c_check_count : Cal P w K mg base 2 "check_count" (spX K C XA sCheckCount) := Lr.c_check_count D_check_count c_integer_within x_BadSize
  have c_check_sizes : Cal P w K mg base 3 "check_sizes" (spX K C XA sCheckSizes) := Lr.c_check_sizes D_check_sizes c_check_count g_LEAST_LETTERS g_MOST_LETTERS g_MOST_WIDTH g_MOST_RECENTS
  have c_has_form : Cal P w K mg base 1 "has_form" (spX K C XA sHasForm) := Lr.c_has_form D_has_form B g_NUMBERS d_NUMBERS
  have c_in_bounds : Cal P w K mg base 2 "in_bounds" (spX K C XA sInBounds) := Lr.c_in_bounds D_in_bounds c_integer_within g_MOST_LENGTH g_MOST_TABLES
  have c_check_token : Cal P w K mg base 4 "check_token" (spX K C XA sCheckToken) := Lr.c_check_token D_check_token c_check_sizes c_has_form c_in_bounds x_BadToken
  have c_has_sign_form : Cal P w K mg base 1 "has_sign_form" (spX K C XA sHasSignForm) := Lr.c_has_sign_form D_has_sign_form B g_SIGN_NUMBERS d_SIGN_NUMBERS
  have c_spans : Cal P w K mg base 2 "spans" (spX K C XA sSpansP) := Lr.c_spans D_spans B c_integer_within g_MOST_EXTRA g_EXTRA_BITS w_EXTRA
  have c_sign_in_bounds : Cal P w K mg base 3 "sign_in_bounds" (spX K C XA sSignInBounds) := Lr.c_sign_in_bounds D_sign_in_bounds c_integer_within c_spans g_MOST_LENGTH
  have c_check_sign : Cal P w K mg base 4 "check_sign" (spX K C XA sCheckSign) := Lr.c_check_sign D_check_sign c_check_sizes c_check_count c_has_sign_form c_sign_in_bounds g_MOST_TABLES x_BadSign
  have c_spread : Cal P w K mg base 5 "spread" (spX K C XA sSpread) := Lr.c_spread D_spread B c_check_sign g_MOST_LETTERS g_MOST_WIDTH g_MOST_RECENTS g_MOST_TABLES g_EXTRA_BITS w_EXTRA
  have c_is_bits : Cal P w K mg base 1 "is_bits" (spX K C XA sIsBits) := Lr.c_is_bits D_is_bits B
  have c_check_lengths : Cal P w K mg base 2 "check_lengths" (spX K C XA sCheckLengths) := Lr.c_check_lengths D_check_lengths B c_integer_within x_BadTable
  have c_in_order : Cal P w K mg base 1 "in_order" (spX K C XA sInOrder) := Lr.c_in_order D_in_order B g_MOST_BITS
  have c_word_from : Cal P w K mg base 1 "word_from" (spX K C XA sWordFrom) := Lr.c_word_from D_word_from
  have c_free_words : Cal P w K mg base 3 "free_words" (spX K C XA sFreeWords) := Lr.c_free_words D_free_words B c_check_lengths c_in_order c_word_from g_MOST_BITS g_UNITS t_TooFull b_TooFull m_TooFull
  have c_check_pairs : Cal P w K mg base 2 "check_pairs" (spX K C XA sCheckPairs) := Lr.c_check_pairs D_check_pairs B c_integer_within g_LEAST_PAIRS g_MOST_PAIRS g_MOST_BITS x_BadTable
  have c_words_of : Cal P w K mg base 6 "words_of" (spX K C XA sWordsOf) := Lr.c_words_of D_words_of B c_free_words c_spread g_MOST_WORDS t_TooLarge b_TooLarge m_TooLarge
  have c_check_letters : Cal P w K mg base 3 "check_letters" (spX K C XA sCheckLetters) := Lr.c_check_letters D_check_letters B t_Letterless b_Letterless m_Letterless
  have c_rests_of : Cal P w K mg base 1 "rests_of" (spX K C XA sRestsOf) := Lr.c_rests_of D_rests_of B
  have c_gaps_of : Cal P w K mg base 1 "gaps_of" (spX K C XA sGapsOf) := Lr.c_gaps_of D_gaps_of B
  have c_words : CalM P w K mg base 1 C "words" (spX K C XA sTWords) := Lr.c_Table_words D_words B cl n_words
  have c_gaps : CalM P w K mg base 1 C "gaps" (spX K C XA sTGaps) := Lr.c_Table_gaps D_gaps B cl n_gaps
  have c_pairs : CalM P w K mg base 1 C "pairs" (spX K C XA sTPairs) := Lr.c_Table_pairs D_pairs cl n_pairs
  have c_full : CalP P w K mg base 1 C "full" (spX K C XA sTFull) := Lr.c_Table_full D_full B cl n_gaps
  have c_token : CalM P w K mg base 1 C "token" (spX K C XA sTToken) := Lr.c_Table_token D_token B cl n_tokens x_BadBits
  have c_is_begun : CalM P w K mg base 1 C "is_begun" (spX K C XA sTIsBegun) := Lr.c_Table_is_begun D_is_begun B cl n_rests
  have c_contains : CalM P w K mg base 1 C "__contains__" (spX K C XA sTContains) := Lr.c_Table_contains D_contains B cl n_tokens
  have c_first : CalM P w K mg base 5 C "first_word" (spX K C XA sTFirst) := Lr.c_Table_first D_first B cl n_sizes n_words n_tokens c_check_token
  have c_eq : CalM P w K mg base 1 C "__eq__" (spX K C XA sTEq) := Lr.c_Table_eq D_eq B cl ic g_Table n_tokens
  have i_Table : InOk P w K mg base 7 C "Table.__init__" s_Table___init ["self", "rows", "n", "width", "many", "tables"] (spI K C XA sTInit) := Lr.i_Table B cl n_sizes n_pairs n_tokens n_words n_rests n_gaps c_check_sizes c_check_count g_MOST_TABLES c_check_pairs c_check_sign c_words_of c_check_letters c_rests_of c_gaps_of
  have c_Table : CalI P w K mg base 7 C ["self", "rows", "n", "width", "many", "tables"] 1 ["n", "width", "many", "tables"] (spI K C XA sTInit) := by
    obtain ⟨fI, fdI, m1, m2, m3⟩ := mk_Table
    exact ⟨fI, fdI, m1, m3, i_Table.ex fI fdI m2⟩
  have c_check_bits : Cal P w K mg base 2 "check_bits" (spX K C XA sCheckBits) := Lr.c_check_bits D_check_bits c_is_bits x_BadBits
  have c_split_bits : Cal P w K mg base 3 "split_bits" (spX K C XA sSplit) := Lr.c_split_bits D_split_bits B cl c_check_bits c_contains c_is_begun
  have c_law_stands : Cal P w K mg base 3 "_law_stands" (spX K C XA sStands) := Lr.c_law_stands D_law_stands B cl c_words c_gaps c_pairs c_token c_full c_law_two c_law_share_of
  have c_law_firsts : Cal P w K mg base 6 "_law_firsts" (spS K C sFirstsL) := Lr.c_law_firsts D_law_firsts B cl c_law_draw c_law_shortest c_first x_BadToken exm_token
  have c_law_by_firsts : Cal P w K mg base 6 "_law_by_firsts" (spS K C sByFirsts) := Lr.c_law_by_firsts D_law_by_firsts B cl c_law_draw c_law_size c_first c_token c_split_bits
  have c_law_attempt : Cal P w K mg base 9 "_law_attempt" (spX K C XA sAttempt) := Lr.c_law_attempt D_law_attempt B gC_Table c_Table exm gS gT gG gF gL gE xF nF xL nL xE nE
  exact Lr.law_ok hf B cl c_law_source c_law_book c_law_draw c_law_faulty c_law_first_error c_law_attempt c_law_words c_law_stands c_law_firsts c_law_by_firsts c_pairs c_eq
end
end Lr
set_option Elab.async false
set_option maxRecDepth 100000
set_option maxHeartbeats 4000000
set_option linter.all false
set_option autoImplicit false
/-! More facts of the written part: messages, classes of errors, the class Table. -/
namespace Lr
open PySem L2 PyProof.Rows
section
variable {fld x y : Str} {j j' : Nat} {p1 p2 p3 p4 mp : Pos}
theorem msg_two (nd : (fld == ("__debug__" : Str)) = false) (hx : x.length ≤ 1000) : MsgOk fld [.Constant (.str x) j p1, .FormattedValue (.Name fld p2) (-1) none p3] mp := fun prog w A E env m i t s Q hns hm hk hkf hi hlen hq => by
  have e0 : evalEach [.Constant (.str x) j p1, .FormattedValue (.Name fld p2) (-1) none p3] env = [eval (.Constant (.str x) j p1) env, eval (.FormattedValue (.Name fld p2) (-1) none p3) env] := by first | rfl | simp [evalEach]
  have z0 : (Str.empty : Str).length = 0 := rfl
  have hs : (100000 : Nat) ≤ sizeLine := by rw [sizeLine_eq]; decide
  have hl2 : (Str.ofString (toString i)).length ≤ 1000 := by rw [PySem.ofString_length]; exact hlen
  refine wpAny_JoinedStr ?_
  rw [e0]
  refine wpAny_Constant_str ⟨x, _, rfl, by rw [str_len_append]; omega, ?_⟩
  refine wpAny_FormattedValue_plain (wpAny_Name (wpAny_loadName_local hk hkf hns hm ?_) nd)
  exact wpAny_formatField_int hi ⟨_, _, rfl, by rw [str_len_append, str_len_append]; omega, by rw [str_len_append, str_len_append]; omega, hq _ _ _⟩
theorem msg_three (nd : (fld == ("__debug__" : Str)) = false) (hx : x.length ≤ 1000) (hy : y.length ≤ 1000) : MsgOk fld [.Constant (.str x) j p1, .FormattedValue (.Name fld p2) (-1) none p3, .Constant (.str y) j' p4] mp := fun prog w A E env m i t s Q hns hm hk hkf hi hlen hq => by
  have e0 : evalEach [.Constant (.str x) j p1, .FormattedValue (.Name fld p2) (-1) none p3, .Constant (.str y) j' p4] env = [eval (.Constant (.str x) j p1) env, eval (.FormattedValue (.Name fld p2) (-1) none p3) env, eval (.Constant (.str y) j' p4) env] := by first | rfl | simp [evalEach]
  have z0 : (Str.empty : Str).length = 0 := rfl
  have hs : (100000 : Nat) ≤ sizeLine := by rw [sizeLine_eq]; decide
  have hl2 : (Str.ofString (toString i)).length ≤ 1000 := by rw [PySem.ofString_length]; exact hlen
  refine wpAny_JoinedStr ?_
  rw [e0]
  refine wpAny_Constant_str ⟨x, _, rfl, by rw [str_len_append]; omega, ?_⟩
  refine wpAny_FormattedValue_plain (wpAny_Name (wpAny_loadName_local hk hkf hns hm ?_) nd)
  refine wpAny_formatField_int hi ⟨_, _, rfl, by rw [str_len_append, str_len_append]; omega, ?_⟩
  exact wpAny_Constant_str ⟨y, _, rfl, by rw [str_len_append, str_len_append, str_len_append]; omega, by rw [str_len_append, str_len_append, str_len_append]; omega, hq _ _ _⟩
end
/-- which class a clause names -/
theorem exm_mk {K : PySem.W.Frag} {c d : Addr} {b : Bool} (h1 : PySem.W.subIn K (.ref d) (.type "BaseException") = some true) (h2 : PySem.W.isClsIn K d = true) (h3 : PySem.W.typeIn K (.ref d) = some (.type "type")) (h4 : PySem.W.subIn K (.ref c) (.ref d) = some b) : PySem.W.exmOne K (.ref c) (.ref d) = some b := by
  unfold PySem.W.exmOne
  rw [h1]
  show PySem.W.kitCls K (.ref c) (.ref d) = some b
  unfold PySem.W.kitCls
  have h2' : (PySem.W.clsIn K d).isSome = true := h2
  simp only [h2', h3, h4]
  rfl
theorem errC_mk {K : PySem.W.Frag} {h : Heap} {mg : Str → Option Value} {x : Str} {C : Addr} (X : K.In h) (G : h.Ns mainGlobals mg) (a : PySem.W.nsIn K mainGlobals x = some (some (.ref C))) (q : PySem.W.excIn K C veTail "ValueError.__new__" = true) (k : PySem.W.keepIn K (.ref C) = true)
    (e : PySem.W.subIn K (.ref C) (.type "BaseException") = some true) (t : PySem.W.typeIn K (.ref C) = some (.type "type")) : ErrC K mg x C := ⟨q, PySem.W.mg_of X G a, k, e, t⟩
theorem dfp_mk {K : PySem.W.Frag} {m qual : Str} {st : Stmt} {ps : List Str} {f C p : Addr} {oc kV doc pm cdv ct : Value} {od an : Option Addr} {osl : Array (Option Value)} {rest : List Value}
    (a : PySem.W.findIn K (.ref C) m = some (some (.ref p))) (g : PySem.W.specialIn K (.ref p) "__get__" = some (some (.builtin "property.__get__"))) (t : PySem.W.takesIn K (.ref p) = some true) (r : PySem.W.recIn K p "property" = some (.ref f :: rest))
    (l : K.lookup f = some ⟨oc, od, .func (PySem.W.fnOf m qual (defArgs st) (defBody st) (defScope st) .none kV doc pm an cdv ct), osl⟩) (c : PySem.W.codeIn K cdv qual = true) (k : PySem.W.keepIn K (.ref f) = true)
    (b : ∀ us : List Value, us.length = ps.length → bindArgs (PySem.W.fnOf m qual (defArgs st) (defBody st) (defScope st) .none kV doc pm an cdv ct) ⟨us, []⟩ = pure (ps.zip us)) : DfP K C m qual st ps := ⟨p, f, _, ⟨a, g, t, rest, r⟩, fun_of l c k, .all b⟩
theorem numD_mk {K : PySem.W.Frag} {w : World} {d : Addr} {l : List (Str × Int)} {es : Array DictEntry} {n : Nat} (a : K.lookup d = some ⟨.type "dict", none, .dict es n, #[]⟩) (k : PySem.W.KeysLit w.params es.toList) (z : (d == sysModules) = false)
    (h : ∀ p ∈ l, ∃ u, PySem.W.nsIn K d p.1 = some (some u) ∧ RelV (.int p.2) u) : NumD K w d l := ⟨es, n, ⟨a, k, z⟩, h⟩
section
variable {K : PySem.W.Frag} {C : Addr} {N : Addr → Prop} {H : Hp} {a : Addr} {its : Array Value} {n : Nat} {dd : Option Addr} {sl : Array (Option Value)}
/-- texts of the written part -/
inductive StrsA : List Value → List Str → Prop
  | nil : StrsA [] []
  | cons {x : Str} {t : PySem.Tok} {vs : List Value} {l : List Str} (h : StrsA vs l) : StrsA (.str x t :: vs) (x :: l)
theorem StrsA.vals : ∀ {vs : List Value} {l : List Str}, StrsA vs l → Vals (l.map V.str) vs
  | _, _, .nil => .nil
  | _, _, .cons h => .cons ⟨_, rfl⟩ h.vals
theorem wrt_st {l : List Str} (h : K.lookup a = some ⟨.type "tuple", dd, .seq its n, sl⟩) (z : its.size ≤ 100) (r : StrsA its.toList l) : Rp K C N H (.ref a) (strsT l) := .tup (.inr ⟨_, its, n, h, rfl, rfl, Nat.le_trans z (by rw [sizeLine_eq]; decide), r.vals⟩) (RpAll.strs l)
theorem wrt_tt {ds : List D} {as : List Addr} (h : K.lookup a = some ⟨.type "tuple", dd, .seq (as.map Value.ref).toArray n, sl⟩) (z : as.length ≤ 100) (r : RpAll K C N H (as.map V.ref) ds) : Rp K C N H (.ref a) (.tup ds) := by
  refine .tup (.inr ⟨_, _, n, h, rfl, rfl, by rw [List.size_toArray, List.length_map]; exact Nat.le_trans z (by rw [sizeLine_eq]; decide), ?_⟩) r
  rw [List.toList_toArray]
  clear h z r
  induction as with
  | nil => exact .nil
  | cons a as ih => exact .cons rfl ih
end
abbrev s_TooFull_init : Stmt := inClass (topS 6) 0
abbrev s_Letterless_init : Stmt := inClass (topS 7) 0
abbrev s_TooLarge_init : Stmt := inClass (topS 10) 0
def supMsg (st : Stmt) : List Expr := match defBody st with
  | .Expr (.Call _ [.JoinedStr msg _] _ _) _ :: _ => msg
  | _ => []
def supPos (st : Stmt) : Pos := match defBody st with
  | .Expr (.Call _ [.JoinedStr _ mp] _ _) _ :: _ => mp
  | _ => ⟨0, 0, 0, 0⟩
theorem sb_TooFull : SupBody "at" (defArgs s_TooFull_init) (defBody s_TooFull_init) (defScope s_TooFull_init) (supMsg s_TooFull_init) (supPos s_TooFull_init) :=
  ⟨⟨_, _, _, _, _, _, _, _, _, rfl, fun env => ⟨_, rfl⟩, fun env => rfl⟩, rfl, rfl, rfl, rfl, rfl, by decide +kernel, rfl, rfl, ⟨_, rfl, rfl⟩, fun _ _ _ _ _ _ _ _ _ _ _ => rfl, by decide, by decide, fun _ _ _ _ _ => rfl⟩
theorem sb_Letterless : SupBody "letter" (defArgs s_Letterless_init) (defBody s_Letterless_init) (defScope s_Letterless_init) (supMsg s_Letterless_init) (supPos s_Letterless_init) :=
  ⟨⟨_, _, _, _, _, _, _, _, _, rfl, fun env => ⟨_, rfl⟩, fun env => rfl⟩, rfl, rfl, rfl, rfl, rfl, by decide +kernel, rfl, rfl, ⟨_, rfl, rfl⟩, fun _ _ _ _ _ _ _ _ _ _ _ => rfl, by decide, by decide, fun _ _ _ _ _ => rfl⟩
theorem sb_TooLarge : SupBody "limit" (defArgs s_TooLarge_init) (defBody s_TooLarge_init) (defScope s_TooLarge_init) (supMsg s_TooLarge_init) (supPos s_TooLarge_init) :=
  ⟨⟨_, _, _, _, _, _, _, _, _, rfl, fun env => ⟨_, rfl⟩, fun env => rfl⟩, rfl, rfl, rfl, rfl, rfl, by decide +kernel, rfl, rfl, ⟨_, rfl, rfl⟩, fun _ _ _ _ _ _ _ _ _ _ _ => rfl, by decide, by decide, fun _ _ _ _ _ => rfl⟩
theorem ms_TooFull : MsgOk "at" (supMsg s_TooFull_init) (supPos s_TooFull_init) := msg_two (by decide) (by decide)
theorem ms_TooLarge : MsgOk "limit" (supMsg s_TooLarge_init) (supPos s_TooLarge_init) := msg_two (by decide) (by decide)
theorem ms_Letterless : MsgOk "letter" (supMsg s_Letterless_init) (supPos s_Letterless_init) := msg_three (by decide) (by decide) (by decide)
/-- Table(rows, n = .., width = .., many = .., tables = ..) -/
theorem kbn_T {K : PySem.W.Frag} {kV doc pm cdv ct : Value} {an : Option Addr} : KBn K (PySem.W.fnOf "__init__" "Table.__init__" (defArgs s_Table___init) (defBody s_Table___init) (defScope s_Table___init) .none kV doc pm an cdv ct) ["self", "rows", "n", "width", "many", "tables"] 2 ["n", "width", "many", "tables"] (fun us ws => us ++ ws) (fun vs zs => vs ++ zs) where
  to := fun s us ws X l1 l2 => .of_eq (match us, ws, l1, l2 with | [_, _], [_, _, _, _], _, _ => rfl)
  rel := fun r z => by
    induction r with
    | nil => exact z
    | cons h t ih => exact .cons h ih
theorem sup_mk {P : Program} {K : PySem.W.Frag} {h : Heap} {mg : Str → Option Value} {name fld qual : Str} {st : Stmt} {C fI : Addr} {nm q : Str} {N : Addr} {bs bm : List Value} {sn : List Str} {sub : List Value} {ab : Bool} {col : Option Bool} {dd : Option Addr} {k0 k1 k2 k3 k5 : Option Value}
    {oc doc pm ct ccl cl : Value} {od an cdd cld : Option Addr} {cda cc : Addr} {osl ccs csl : Array (Option Value)} {vs : Array Value} {file : Str} {tf : PySem.Tok} (X : K.In h) (G : h.Ns mainGlobals mg)
    (a : PySem.W.nsIn K mainGlobals name = some (some (.ref C))) (cls : K.lookup C = some (excClassObj nm q C N bs bm true sn sub ab col dd k0 k1 k2 k3 k5 "ValueError.__new__")) (ve : PySem.HandSPX.refsVE bm = true)
    (sa : PySem.W.findIn K (.ref C) "__setattr__" = some (some (.builtin "object.__setattr__"))) (ga : PySem.W.findIn K (.ref C) "__getattribute__" = some (some (.builtin "BaseException.__getattribute__"))) (gg : PySem.W.findIn K (.ref C) "__getattr__" = some none) (noN : PySem.W.findIn K (.ref C) fld = some none)
    (iC : PySem.W.findIn K (.ref C) "__init__" = some (some (.ref fI))) (tC : PySem.W.typeIn K (.ref fI) = some (.type "function")) (kC : PySem.W.keepIn K (.ref C) = true) (exC : PySem.W.subIn K (.ref C) (.type "BaseException") = some true) (tyC : PySem.W.typeIn K (.ref C) = some (.type "type"))
    (hdC : PySem.W.hasDictIn K C = true) (sb : PySem.W.subIn K (.ref C) (.type "ValueError") = some true) (self_ : PySem.W.mroIn K C (.ref C) = some true) (sup : PySem.W.ks_superIn K C C "__init__" = some (some (.builtin "ValueError.__init__"))) (opq : PySem.W.nsIn K cStatics "thirdparty.any" = some none)
    (gS : PySem.W.nsIn K mainGlobals "super" = some none) (top : (P.main.scope.names.lookup ("super" : Str)).isSome = false) (fl : K.lookup fI = some ⟨oc, od, .func (PySem.W.ksFn "__init__" qual (defArgs st) (defBody st) (defScope st) .none .none doc pm an (.ref cda) ct cc), osl⟩) (fc : PySem.W.codeIn K (.ref cda) qual = true)
    (fd : K.lookup cda = some ⟨ccl, cdd, .fields vs, ccs⟩) (ff : vs[2]? = some (.str file tf)) (fp : ((P.main.file : Str) == file) = true) (fe : K.lookup cc = some ⟨cl, cld, .cell (some (.ref C)), csl⟩) : SupTxt P K mg name fld qual (defArgs st) (defBody st) (defScope st) C fI :=
  { gC := PySem.W.mg_of X G a, cls := ⟨nm, q, N, bs, bm, sn, sub, ab, col, dd, k0, k1, k2, k3, k5, cls, ve⟩, sa := sa, ga := ga, gg := gg, noN := noN, iC := iC, tC := tC, kC := kC, exC := exC, tyC := tyC, hdC := hdC, sub := sb, self_ := self_, sup := sup, opq := opq, gS := PySem.W.mg_none_of X G gS, top := top,
    fn := ⟨oc, od, doc, pm, an, cda, cc, ct, osl, ccl, cl, cdd, cld, ccs, csl, vs, file, tf, fl, fc, fd, ff, fp, fe⟩ }
end Lr
set_option Elab.async false
set_option maxRecDepth 100000
open PySem PySem.W PyProof.Rows
set_option maxHeartbeats 0 in
open_top head for PySem.Challenge.rw_leastreader_k27_whole_tables
set_option Elab.async false
set_option maxRecDepth 100000
open PySem PySem.W PyProof.Rows
open Lr L2
set_option maxRecDepth 100000 in
set_option maxHeartbeats 0 in
theorem PySem.Challenge.cw_leastreader_k27_whole_tables_holds : PySem.Challenge.rw_leastreader_k27_whole_tables.Holds := by
  refine head (by
  k_fill
  refine L2.walk_of (l := PySem.Challenge.rw_leastreader_k27_whole_tables) (n := 63) (k := 40) (x := "_law_script") (CX := fun w => L2.CX PySem.Challenge.rw_leastreader_k27_whole_tables.prog w) (sp := fun w => spLaw (head.heap_39 w.params)) rfl (by decide) rfl ⟨rfl, by decide, by decide⟩ (fun w h Y => PySem.W.kIn_of Y) ?F ?S (fun _ _ _ _ _ z => let ⟨_, _, _, _, _, _, _, _, _, _, _, _, z⟩ := z; z)
  case F =>
    intro w mg fa h KX G hmg0
    have hmg : mg "law" = some (.ref fa) := hmg0
    clear hmg0
    have D_law_two : Df (head.heap_39 w.params) mg "_law_two" s_law_two ["_law_size_here"] := by
      refine' df_mk (st := s_law_two) KX G ?a ?l ?c ?k (fun us hl => match us, hl with | [_], _ => rfl)
      (case a => k_is); (case l => k_is); (case c => k_is); (case k => k_is)
    have B : Blt mg := by
      refine' ⟨?a1, ?a2, ?a3, ?a4, ?a5, ?a6, ?a7, ?a8, ?a9, ?b1, ?b2, ?b3, ?b4⟩
      all_goals exact PySem.W.mg_none_of KX G (by k_is)
    have D_law_mixed : Df (head.heap_39 w.params) mg "_law_mixed" s_law_mixed ["_law_cell", "_law_place"] := by
      refine' df_mk (st := s_law_mixed) KX G ?a ?l ?c ?k (fun us hl => match us, hl with | [_, _], _ => rfl)
      (case a => k_is); (case l => k_is); (case c => k_is); (case k => k_is)
    have D_law_source : Df (head.heap_39 w.params) mg "_law_source" s_law_source ["_law_script", "_law_low", "_law_high"] := by
      refine' df_mk (st := s_law_source) KX G ?a ?l ?c ?k (fun us hl => match us, hl with | [_, _, _], _ => rfl)
      (case a => k_is); (case l => k_is); (case c => k_is); (case k => k_is)
    have D_law_draw : Df (head.heap_39 w.params) mg "_law_draw" s_law_draw ["_law_source_here", "_law_base"] := by
      refine' df_mk (st := s_law_draw) KX G ?a ?l ?c ?k (fun us hl => match us, hl with | [_, _], _ => rfl)
      (case a => k_is); (case l => k_is); (case c => k_is); (case k => k_is)
    have D_law_size : Df (head.heap_39 w.params) mg "_law_size" s_law_size ["_law_source_here", "_law_least", "_law_usual", "_law_top"] := by
      refine' df_mk (st := s_law_size) KX G ?a ?l ?c ?k (fun us hl => match us, hl with | [_, _, _, _], _ => rfl)
      (case a => k_is); (case l => k_is); (case c => k_is); (case k => k_is)
    have D_law_extra : Df (head.heap_39 w.params) mg "_law_extra" s_law_extra ["_law_source_here", "_law_room"] := by
      refine' df_mk (st := s_law_extra) KX G ?a ?l ?c ?k (fun us hl => match us, hl with | [_, _], _ => rfl)
      (case a => k_is); (case l => k_is); (case c => k_is); (case k => k_is)
    have D_law_broad_sign : Df (head.heap_39 w.params) mg "_law_broad_sign" s_law_broad_sign ["_law_source_here", "_law_alphabet", "_law_wide", "_law_spots", "_law_leaves"] := by
      refine' df_mk (st := s_law_broad_sign) KX G ?a ?l ?c ?k (fun us hl => match us, hl with | [_, _, _, _, _], _ => rfl)
      (case a => k_is); (case l => k_is); (case c => k_is); (case k => k_is)
    have D_law_figures : Df (head.heap_39 w.params) mg "_law_figures" s_law_figures ["_law_number_here", "_law_size_here"] := by
      refine' df_mk (st := s_law_figures) KX G ?a ?l ?c ?k (fun us hl => match us, hl with | [_, _], _ => rfl)
      (case a => k_is); (case l => k_is); (case c => k_is); (case k => k_is)
    have D_law_spread : Df (head.heap_39 w.params) mg "_law_spread" s_law_spread ["_law_sign"] := by
      refine' df_mk (st := s_law_spread) KX G ?a ?l ?c ?k (fun us hl => match us, hl with | [_], _ => rfl)
      (case a => k_is); (case l => k_is); (case c => k_is); (case k => k_is)
    have D_law_broad_signs : Df (head.heap_39 w.params) mg "_law_broad_signs" s_law_broad_signs ["_law_source_here", "_law_alphabet", "_law_wide", "_law_spots", "_law_leaves"] := by
      refine' df_mk (st := s_law_broad_signs) KX G ?a ?l ?c ?k (fun us hl => match us, hl with | [_, _, _, _, _], _ => rfl)
      (case a => k_is); (case l => k_is); (case c => k_is); (case k => k_is)
    have D_law_tree : Df (head.heap_39 w.params) mg "_law_tree" s_law_tree ["_law_source_here", "_law_ends"] := by
      refine' df_mk (st := s_law_tree) KX G ?a ?l ?c ?k (fun us hl => match us, hl with | [_, _], _ => rfl)
      (case a => k_is); (case l => k_is); (case c => k_is); (case k => k_is)
    have D_law_arranged : Df (head.heap_39 w.params) mg "_law_arranged" s_law_arranged ["_law_source_here", "_law_signs"] := by
      refine' df_mk (st := s_law_arranged) KX G ?a ?l ?c ?k (fun us hl => match us, hl with | [_, _], _ => rfl)
      (case a => k_is); (case l => k_is); (case c => k_is); (case k => k_is)
    have D_law_broad : Df (head.heap_39 w.params) mg "_law_broad" s_law_broad ["_law_source_here"] := by
      refine' df_mk (st := s_law_broad) KX G ?a ?l ?c ?k (fun us hl => match us, hl with | [_], _ => rfl)
      (case a => k_is); (case l => k_is); (case c => k_is); (case k => k_is)
    have D_law_book : Df (head.heap_39 w.params) mg "_law_book" s_law_book ["_law_source_here"] := by
      refine' df_mk (st := s_law_book) KX G ?a ?l ?c ?k (fun us hl => match us, hl with | [_], _ => rfl)
      (case a => k_is); (case l => k_is); (case c => k_is); (case k => k_is)
    have D_law_number : Df (head.heap_39 w.params) mg "_law_number" s_law_number ["_law_value", "_law_least", "_law_most"] := by
      refine' df_mk (st := s_law_number) KX G ?a ?l ?c ?k (fun us hl => match us, hl with | [_, _, _], _ => rfl)
      (case a => k_is); (case l => k_is); (case c => k_is); (case k => k_is)
    have D_integer_within : Df (head.heap_39 w.params) mg "integer_within" s_integer_within ["value", "least", "most"] := by
      refine' df_mk (st := s_integer_within) KX G ?a ?l ?c ?k (fun us hl => match us, hl with | [_, _, _], _ => rfl)
      (case a => k_is); (case l => k_is); (case c => k_is); (case k => k_is)
    have D_law_odd : Df (head.heap_39 w.params) mg "_law_odd" s_law_odd ["_law_source_here", "_law_least", "_law_most"] := by
      refine' df_mk (st := s_law_odd) KX G ?a ?l ?c ?k (fun us hl => match us, hl with | [_, _, _], _ => rfl)
      (case a => k_is); (case l => k_is); (case c => k_is); (case k => k_is)
    have D_law_misformed : Df (head.heap_39 w.params) mg "_law_misformed" s_law_misformed ["_law_source_here", "_law_pairs", "_law_at"] := by
      refine' df_mk (st := s_law_misformed) KX G ?a ?l ?c ?k (fun us hl => match us, hl with | [_, _, _], _ => rfl)
      (case a => k_is); (case l => k_is); (case c => k_is); (case k => k_is)
    have D_law_faulty : Df (head.heap_39 w.params) mg "_law_faulty" s_law_faulty ["_law_source_here", "_law_book_here", "_law_sizes", "_law_pairs"] := by
      refine' df_mk (st := s_law_faulty) KX G ?a ?l ?c ?k (fun us hl => match us, hl with | [_, _, _, _], _ => rfl)
      (case a => k_is); (case l => k_is); (case c => k_is); (case k => k_is)
    have D_law_spans : Df (head.heap_39 w.params) mg "_law_spans" s_law_spans ["_law_value", "_law_extra_here", "_law_least", "_law_most"] := by
      refine' df_mk (st := s_law_spans) KX G ?a ?l ?c ?k (fun us hl => match us, hl with | [_, _, _, _], _ => rfl)
      (case a => k_is); (case l => k_is); (case c => k_is); (case k => k_is)
    have D_law_valid : Df (head.heap_39 w.params) mg "_law_valid" s_law_valid ["_law_sign", "_law_sizes"] := by
      refine' df_mk (st := s_law_valid) KX G ?a ?l ?c ?k (fun us hl => match us, hl with | [_, _], _ => rfl)
      (case a => k_is); (case l => k_is); (case c => k_is); (case k => k_is)
    have D_law_overfull : Df (head.heap_39 w.params) mg "_law_overfull" s_law_overfull ["_law_pairs"] := by
      refine' df_mk (st := s_law_overfull) KX G ?a ?l ?c ?k (fun us hl => match us, hl with | [_], _ => rfl)
      (case a => k_is); (case l => k_is); (case c => k_is); (case k => k_is)
    have D_law_first_error : Df (head.heap_39 w.params) mg "_law_first_error" s_law_first_error ["_law_sizes", "_law_pairs"] := by
      refine' df_mk (st := s_law_first_error) KX G ?a ?l ?c ?k (fun us hl => match us, hl with | [_, _], _ => rfl)
      (case a => k_is); (case l => k_is); (case c => k_is); (case k => k_is)
    have D_law_words : Df (head.heap_39 w.params) mg "_law_words" s_law_words ["_law_sheet"] := by
      refine' df_mk (st := s_law_words) KX G ?a ?l ?c ?k (fun us hl => match us, hl with | [_], _ => rfl)
      (case a => k_is); (case l => k_is); (case c => k_is); (case k => k_is)
    have D_law_share_of : Df (head.heap_39 w.params) mg "_law_share_of" s_law_share_of ["_law_texts"] := by
      refine' df_mk (st := s_law_share_of) KX G ?a ?l ?c ?k (fun us hl => match us, hl with | [_], _ => rfl)
      (case a => k_is); (case l => k_is); (case c => k_is); (case k => k_is)
    have D_law_shortest : Df (head.heap_39 w.params) mg "_law_shortest" s_law_shortest ["_law_words_here", "_law_token"] := by
      refine' df_mk (st := s_law_shortest) KX G ?a ?l ?c ?k (fun us hl => match us, hl with | [_, _], _ => rfl)
      (case a => k_is); (case l => k_is); (case c => k_is); (case k => k_is)
    have D_check_count : Df (head.heap_39 w.params) mg "check_count" s_check_count ["value", "least", "most"] := by
      refine' df_mk (st := s_check_count) KX G ?a ?l ?c ?k (fun us hl => match us, hl with | [_, _, _], _ => rfl)
      (case a => k_is); (case l => k_is); (case c => k_is); (case k => k_is)
    have x_BadSize : ErrC (head.heap_39 w.params) mg "BadSize" 44 := by
      refine' errC_mk KX G ?a ?q ?k ?e ?t
      (case q => first | k_exc | k_is | decide +kernel); (case a => k_is); (case k => k_is); (case e => k_is); (case t => k_is)
    have D_check_sizes : Df (head.heap_39 w.params) mg "check_sizes" s_check_sizes ["n", "width", "many"] := by
      refine' df_mk (st := s_check_sizes) KX G ?a ?l ?c ?k (fun us hl => match us, hl with | [_, _, _], _ => rfl)
      (case a => k_is); (case l => k_is); (case c => k_is); (case k => k_is)
    have g_LEAST_LETTERS : Gc mg "LEAST_LETTERS" (.int 2) := by
      refine' gc_mk KX G ?a ?r
      (case a => k_is); (case r => first | rfl | exact ⟨_, rfl⟩)
    have g_MOST_LETTERS : Gc mg "MOST_LETTERS" (.int 16) := by
      refine' gc_mk KX G ?a ?r
      (case a => k_is); (case r => first | rfl | exact ⟨_, rfl⟩)
    have g_MOST_WIDTH : Gc mg "MOST_WIDTH" (.int 24) := by
      refine' gc_mk KX G ?a ?r
      (case a => k_is); (case r => first | rfl | exact ⟨_, rfl⟩)
    have g_MOST_RECENTS : Gc mg "MOST_RECENTS" (.int 4) := by
      refine' gc_mk KX G ?a ?r
      (case a => k_is); (case r => first | rfl | exact ⟨_, rfl⟩)
    have D_has_form : Df (head.heap_39 w.params) mg "has_form" s_has_form ["token"] := by
      refine' df_mk (st := s_has_form) KX G ?a ?l ?c ?k (fun us hl => match us, hl with | [_], _ => rfl)
      (case a => k_is); (case l => k_is); (case c => k_is); (case k => k_is)
    have g_NUMBERS : Gc mg "NUMBERS" (.ref 172) := by
      refine' gc_mk KX G ?a ?r
      (case a => k_is); (case r => first | rfl | exact ⟨_, rfl⟩)
    have d_NUMBERS : NumD (head.heap_39 w.params) w 172 numsL := by
      refine' numD_mk ?a ?l ?w ?n
      (case a => k_is); (case l => exact ⟨⟨_, _, rfl, rfl⟩, ⟨_, _, rfl, rfl⟩, ⟨_, _, rfl, rfl⟩, ⟨_, _, rfl, rfl⟩, ⟨_, _, rfl, rfl⟩, trivial⟩); (case w => decide)
      (case n =>
        intro p hp
        simp only [List.mem_cons, List.not_mem_nil, or_false] at hp
        rcases hp with rfl | rfl | rfl | rfl | rfl <;> exact ⟨_, by k_is, ⟨_, rfl⟩⟩)
    have D_in_bounds : Df (head.heap_39 w.params) mg "in_bounds" s_in_bounds ["token", "n", "width", "many"] := by
      refine' df_mk (st := s_in_bounds) KX G ?a ?l ?c ?k (fun us hl => match us, hl with | [_, _, _, _], _ => rfl)
      (case a => k_is); (case l => k_is); (case c => k_is); (case k => k_is)
    have g_MOST_LENGTH : Gc mg "MOST_LENGTH" (.int 40) := by
      refine' gc_mk KX G ?a ?r
      (case a => k_is); (case r => first | rfl | exact ⟨_, rfl⟩)
    have g_MOST_TABLES : Gc mg "MOST_TABLES" (.int 6) := by
      refine' gc_mk KX G ?a ?r
      (case a => k_is); (case r => first | rfl | exact ⟨_, rfl⟩)
    have D_check_token : Df (head.heap_39 w.params) mg "check_token" s_check_token ["token", "n", "width", "many"] := by
      refine' df_mk (st := s_check_token) KX G ?a ?l ?c ?k (fun us hl => match us, hl with | [_, _, _, _], _ => rfl)
      (case a => k_is); (case l => k_is); (case c => k_is); (case k => k_is)
    have x_BadToken : ErrC (head.heap_39 w.params) mg "BadToken" 56 := by
      refine' errC_mk KX G ?a ?q ?k ?e ?t
      (case q => first | k_exc | k_is | decide +kernel); (case a => k_is); (case k => k_is); (case e => k_is); (case t => k_is)
    have D_has_sign_form : Df (head.heap_39 w.params) mg "has_sign_form" s_has_sign_form ["sign"] := by
      refine' df_mk (st := s_has_sign_form) KX G ?a ?l ?c ?k (fun us hl => match us, hl with | [_], _ => rfl)
      (case a => k_is); (case l => k_is); (case c => k_is); (case k => k_is)
    have g_SIGN_NUMBERS : Gc mg "SIGN_NUMBERS" (.ref 199) := by
      refine' gc_mk KX G ?a ?r
      (case a => k_is); (case r => first | rfl | exact ⟨_, rfl⟩)
    have d_SIGN_NUMBERS : NumD (head.heap_39 w.params) w 199 sgnL := by
      refine' numD_mk ?a ?l ?w ?n
      (case a => k_is); (case l => exact ⟨⟨_, _, rfl, rfl⟩, ⟨_, _, rfl, rfl⟩, ⟨_, _, rfl, rfl⟩, ⟨_, _, rfl, rfl⟩, ⟨_, _, rfl, rfl⟩, trivial⟩); (case w => decide)
      (case n =>
        intro p hp
        simp only [List.mem_cons, List.not_mem_nil, or_false] at hp
        rcases hp with rfl | rfl | rfl | rfl | rfl <;> exact ⟨_, by k_is, ⟨_, rfl⟩⟩)
    have D_spans : Df (head.heap_39 w.params) mg "spans" s_spans ["first", "extra", "least", "most"] := by
      refine' df_mk (st := s_spans) KX G ?a ?l ?c ?k (fun us hl => match us, hl with | [_, _, _, _], _ => rfl)
      (case a => k_is); (case l => k_is); (case c => k_is); (case k => k_is)
    have g_MOST_EXTRA : Gc mg "MOST_EXTRA" (.int 3) := by
      refine' gc_mk KX G ?a ?r
      (case a => k_is); (case r => first | rfl | exact ⟨_, rfl⟩)
    have g_EXTRA_BITS : Gc mg "EXTRA_BITS" (.ref 204) := by
      refine' gc_mk KX G ?a ?r
      (case a => k_is); (case r => first | rfl | exact ⟨_, rfl⟩)
    have w_EXTRA : Wrt (head.heap_39 w.params) 410 (.ref 204) extraD := by
      intro N H
      have e0 : Rp (head.heap_39 w.params) 410 N H (.ref 200) (strsT [""]) := by
        refine' wrt_st ?a ?z ?r
        (case a => k_is); (case z => decide); (case r => exact (.cons .nil))
      have e1 : Rp (head.heap_39 w.params) 410 N H (.ref 201) (strsT ["0", "1"]) := by
        refine' wrt_st ?a ?z ?r
        (case a => k_is); (case z => decide); (case r => exact (.cons (.cons .nil)))
      have e2 : Rp (head.heap_39 w.params) 410 N H (.ref 202) (strsT ["00", "01", "10", "11"]) := by
        refine' wrt_st ?a ?z ?r
        (case a => k_is); (case z => decide); (case r => exact (.cons (.cons (.cons (.cons .nil)))))
      have e3 : Rp (head.heap_39 w.params) 410 N H (.ref 203) (strsT ["000", "001", "010", "011", "100", "101", "110", "111"]) := by
        refine' wrt_st ?a ?z ?r
        (case a => k_is); (case z => decide); (case r => exact (.cons (.cons (.cons (.cons (.cons (.cons (.cons (.cons .nil)))))))))
      refine' wrt_tt (as := [200, 201, 202, 203]) ?a ?z (.cons e0 (.cons e1 (.cons e2 (.cons e3 .nil))))
      (case a => k_is); (case z => decide)
    have D_sign_in_bounds : Df (head.heap_39 w.params) mg "sign_in_bounds" s_sign_in_bounds ["sign", "n", "width", "many", "tables"] := by
      refine' df_mk (st := s_sign_in_bounds) KX G ?a ?l ?c ?k (fun us hl => match us, hl with | [_, _, _, _, _], _ => rfl)
      (case a => k_is); (case l => k_is); (case c => k_is); (case k => k_is)
    have D_check_sign : Df (head.heap_39 w.params) mg "check_sign" s_check_sign ["sign", "n", "width", "many", "tables"] := by
      refine' df_mk (st := s_check_sign) KX G ?a ?l ?c ?k (fun us hl => match us, hl with | [_, _, _, _, _], _ => rfl)
      (case a => k_is); (case l => k_is); (case c => k_is); (case k => k_is)
    have x_BadSign : ErrC (head.heap_39 w.params) mg "BadSign" 68 := by
      refine' errC_mk KX G ?a ?q ?k ?e ?t
      (case q => first | k_exc | k_is | decide +kernel); (case a => k_is); (case k => k_is); (case e => k_is); (case t => k_is)
    have D_spread : Df (head.heap_39 w.params) mg "spread" s_spread ["sign"] := by
      refine' df_mk (st := s_spread) KX G ?a ?l ?c ?k (fun us hl => match us, hl with | [_], _ => rfl)
      (case a => k_is); (case l => k_is); (case c => k_is); (case k => k_is)
    have D_is_bits : Df (head.heap_39 w.params) mg "is_bits" s_is_bits ["value"] := by
      refine' df_mk (st := s_is_bits) KX G ?a ?l ?c ?k (fun us hl => match us, hl with | [_], _ => rfl)
      (case a => k_is); (case l => k_is); (case c => k_is); (case k => k_is)
    have D_check_lengths : Df (head.heap_39 w.params) mg "check_lengths" s_check_lengths ["lengths", "most"] := by
      refine' df_mk (st := s_check_lengths) KX G ?a ?l ?c ?k (fun us hl => match us, hl with | [_, _], _ => rfl)
      (case a => k_is); (case l => k_is); (case c => k_is); (case k => k_is)
    have x_BadTable : ErrC (head.heap_39 w.params) mg "BadTable" 122 := by
      refine' errC_mk KX G ?a ?q ?k ?e ?t
      (case q => first | k_exc | k_is | decide +kernel); (case a => k_is); (case k => k_is); (case e => k_is); (case t => k_is)
    have D_in_order : Df (head.heap_39 w.params) mg "in_order" s_in_order ["lengths"] := by
      refine' df_mk (st := s_in_order) KX G ?a ?l ?c ?k (fun us hl => match us, hl with | [_], _ => rfl)
      (case a => k_is); (case l => k_is); (case c => k_is); (case k => k_is)
    have g_MOST_BITS : Gc mg "MOST_BITS" (.int 10) := by
      refine' gc_mk KX G ?a ?r
      (case a => k_is); (case r => first | rfl | exact ⟨_, rfl⟩)
    have D_word_from : Df (head.heap_39 w.params) mg "word_from" s_word_from ["used", "length"] := by
      refine' df_mk (st := s_word_from) KX G ?a ?l ?c ?k (fun us hl => match us, hl with | [_, _], _ => rfl)
      (case a => k_is); (case l => k_is); (case c => k_is); (case k => k_is)
    have D_free_words : Df (head.heap_39 w.params) mg "free_words" s_free_words ["lengths"] := by
      refine' df_mk (st := s_free_words) KX G ?a ?l ?c ?k (fun us hl => match us, hl with | [_], _ => rfl)
      (case a => k_is); (case l => k_is); (case c => k_is); (case k => k_is)
    have g_UNITS : Gc mg "UNITS" (.int 1024) := by
      refine' gc_mk KX G ?a ?r
      (case a => k_is); (case r => first | rfl | exact ⟨_, rfl⟩)
    have t_TooFull : SupTxt PySem.Challenge.rw_leastreader_k27_whole_tables.prog (head.heap_39 w.params) mg "TooFull" "at" "TooFull.__init__" (defArgs s_TooFull_init) (defBody s_TooFull_init) (defScope s_TooFull_init) 89 86 := by
      refine' sup_mk (st := s_TooFull_init) KX G ?a ?cls ?ve ?sa ?ga ?gg ?noN ?iC ?tC ?kC ?exC ?tyC ?hdC ?sb ?self_ ?sup ?opq ?gS ?top ?fl ?fc ?fd ?ff ?fp ?fe
      (case a => k_is); (case cls => k_is); (case sa => k_is); (case ga => k_is); (case gg => k_is); (case noN => k_is); (case iC => k_is); (case tC => k_is); (case kC => k_is); (case exC => k_is); (case tyC => k_is); (case hdC => k_is); (case sb => k_is)
      (case ve => first | rfl | decide +kernel); (case self_ => first | rfl | k_is); (case sup => first | k_is | rfl | decide +kernel); (case opq => first | k_is | rfl); (case gS => k_is); (case top => first | rfl | decide +kernel)
      (case fl => k_is); (case fc => k_is); (case fd => k_is); (case ff => first | rfl | k_is); (case fp => first | rfl | decide +kernel); (case fe => k_is)
    have b_TooFull : SupBody "at" (defArgs s_TooFull_init) (defBody s_TooFull_init) (defScope s_TooFull_init) (supMsg s_TooFull_init) (supPos s_TooFull_init) := sb_TooFull
    have m_TooFull : MsgOk "at" (supMsg s_TooFull_init) (supPos s_TooFull_init) := ms_TooFull
    have D_check_pairs : Df (head.heap_39 w.params) mg "check_pairs" s_check_pairs ["rows"] := by
      refine' df_mk (st := s_check_pairs) KX G ?a ?l ?c ?k (fun us hl => match us, hl with | [_], _ => rfl)
      (case a => k_is); (case l => k_is); (case c => k_is); (case k => k_is)
    have g_LEAST_PAIRS : Gc mg "LEAST_PAIRS" (.int 2) := by
      refine' gc_mk KX G ?a ?r
      (case a => k_is); (case r => first | rfl | exact ⟨_, rfl⟩)
    have g_MOST_PAIRS : Gc mg "MOST_PAIRS" (.int 40) := by
      refine' gc_mk KX G ?a ?r
      (case a => k_is); (case r => first | rfl | exact ⟨_, rfl⟩)
    have D_words_of : Df (head.heap_39 w.params) mg "words_of" s_words_of ["pairs"] := by
      refine' df_mk (st := s_words_of) KX G ?a ?l ?c ?k (fun us hl => match us, hl with | [_], _ => rfl)
      (case a => k_is); (case l => k_is); (case c => k_is); (case k => k_is)
    have g_MOST_WORDS : Gc mg "MOST_WORDS" (.int 120) := by
      refine' gc_mk KX G ?a ?r
      (case a => k_is); (case r => first | rfl | exact ⟨_, rfl⟩)
    have t_TooLarge : SupTxt PySem.Challenge.rw_leastreader_k27_whole_tables.prog (head.heap_39 w.params) mg "TooLarge" "limit" "TooLarge.__init__" (defArgs s_TooLarge_init) (defBody s_TooLarge_init) (defScope s_TooLarge_init) 155 152 := by
      refine' sup_mk (st := s_TooLarge_init) KX G ?a ?cls ?ve ?sa ?ga ?gg ?noN ?iC ?tC ?kC ?exC ?tyC ?hdC ?sb ?self_ ?sup ?opq ?gS ?top ?fl ?fc ?fd ?ff ?fp ?fe
      (case a => k_is); (case cls => k_is); (case sa => k_is); (case ga => k_is); (case gg => k_is); (case noN => k_is); (case iC => k_is); (case tC => k_is); (case kC => k_is); (case exC => k_is); (case tyC => k_is); (case hdC => k_is); (case sb => k_is)
      (case ve => first | rfl | decide +kernel); (case self_ => first | rfl | k_is); (case sup => first | k_is | rfl | decide +kernel); (case opq => first | k_is | rfl); (case gS => k_is); (case top => first | rfl | decide +kernel)
      (case fl => k_is); (case fc => k_is); (case fd => k_is); (case ff => first | rfl | k_is); (case fp => first | rfl | decide +kernel); (case fe => k_is)
    have b_TooLarge : SupBody "limit" (defArgs s_TooLarge_init) (defBody s_TooLarge_init) (defScope s_TooLarge_init) (supMsg s_TooLarge_init) (supPos s_TooLarge_init) := sb_TooLarge
    have m_TooLarge : MsgOk "limit" (supMsg s_TooLarge_init) (supPos s_TooLarge_init) := ms_TooLarge
    have D_check_letters : Df (head.heap_39 w.params) mg "check_letters" s_check_letters ["tokens", "n"] := by
      refine' df_mk (st := s_check_letters) KX G ?a ?l ?c ?k (fun us hl => match us, hl with | [_, _], _ => rfl)
      (case a => k_is); (case l => k_is); (case c => k_is); (case k => k_is)
    have t_Letterless : SupTxt PySem.Challenge.rw_leastreader_k27_whole_tables.prog (head.heap_39 w.params) mg "Letterless" "letter" "Letterless.__init__" (defArgs s_Letterless_init) (defBody s_Letterless_init) (defScope s_Letterless_init) 110 107 := by
      refine' sup_mk (st := s_Letterless_init) KX G ?a ?cls ?ve ?sa ?ga ?gg ?noN ?iC ?tC ?kC ?exC ?tyC ?hdC ?sb ?self_ ?sup ?opq ?gS ?top ?fl ?fc ?fd ?ff ?fp ?fe
      (case a => k_is); (case cls => k_is); (case sa => k_is); (case ga => k_is); (case gg => k_is); (case noN => k_is); (case iC => k_is); (case tC => k_is); (case kC => k_is); (case exC => k_is); (case tyC => k_is); (case hdC => k_is); (case sb => k_is)
      (case ve => first | rfl | decide +kernel); (case self_ => first | rfl | k_is); (case sup => first | k_is | rfl | decide +kernel); (case opq => first | k_is | rfl); (case gS => k_is); (case top => first | rfl | decide +kernel)
      (case fl => k_is); (case fc => k_is); (case fd => k_is); (case ff => first | rfl | k_is); (case fp => first | rfl | decide +kernel); (case fe => k_is)
    have b_Letterless : SupBody "letter" (defArgs s_Letterless_init) (defBody s_Letterless_init) (defScope s_Letterless_init) (supMsg s_Letterless_init) (supPos s_Letterless_init) := sb_Letterless
    have m_Letterless : MsgOk "letter" (supMsg s_Letterless_init) (supPos s_Letterless_init) := ms_Letterless
    have D_rests_of : Df (head.heap_39 w.params) mg "rests_of" s_rests_of ["words"] := by
      refine' df_mk (st := s_rests_of) KX G ?a ?l ?c ?k (fun us hl => match us, hl with | [_], _ => rfl)
      (case a => k_is); (case l => k_is); (case c => k_is); (case k => k_is)
    have D_gaps_of : Df (head.heap_39 w.params) mg "gaps_of" s_gaps_of ["tokens", "rests"] := by
      refine' df_mk (st := s_gaps_of) KX G ?a ?l ?c ?k (fun us hl => match us, hl with | [_, _], _ => rfl)
      (case a => k_is); (case l => k_is); (case c => k_is); (case k => k_is)
    have D_words : DfM (head.heap_39 w.params) 410 "words" "Table.words" s_Table_words ["self"] := by
      refine' dfm_mk (st := s_Table_words) ?a ?n ?l ?c ?k (fun us hl => match us, hl with | [_], _ => rfl)
      (case a => k_is); (case n => k_is); (case l => k_is); (case c => k_is); (case k => k_is)
    have cl : Cls (head.heap_39 w.params) 410 := by
      refine' ⟨?a, ?b, ?c, ?d⟩
      (case a => k_is); (case b => k_is); (case c => k_is); (case d => k_is)
    have n_words : NoAttr (head.heap_39 w.params) 410 "_words" := by
      unfold NoAttr
      k_is
    have D_gaps : DfM (head.heap_39 w.params) 410 "gaps" "Table.gaps" s_Table_gaps ["self"] := by
      refine' dfm_mk (st := s_Table_gaps) ?a ?n ?l ?c ?k (fun us hl => match us, hl with | [_], _ => rfl)
      (case a => k_is); (case n => k_is); (case l => k_is); (case c => k_is); (case k => k_is)
    have n_gaps : NoAttr (head.heap_39 w.params) 410 "_gaps" := by
      unfold NoAttr
      k_is
    have D_pairs : DfM (head.heap_39 w.params) 410 "pairs" "Table.pairs" s_Table_pairs ["self"] := by
      refine' dfm_mk (st := s_Table_pairs) ?a ?n ?l ?c ?k (fun us hl => match us, hl with | [_], _ => rfl)
      (case a => k_is); (case n => k_is); (case l => k_is); (case c => k_is); (case k => k_is)
    have n_pairs : NoAttr (head.heap_39 w.params) 410 "_pairs" := by
      unfold NoAttr
      k_is
    have D_full : DfP (head.heap_39 w.params) 410 "full" "Table.full" s_Table_full ["self"] := by
      refine' dfp_mk (st := s_Table_full) ?a ?g ?t ?r ?l ?c ?k (fun us hl => match us, hl with | [_], _ => rfl)
      (case a => k_is); (case g => k_is); (case t => k_is); (case r => k_is); (case l => k_is); (case c => k_is); (case k => k_is)
    have D_token : DfM (head.heap_39 w.params) 410 "token" "Table.token" s_Table_token ["self", "word"] := by
      refine' dfm_mk (st := s_Table_token) ?a ?n ?l ?c ?k (fun us hl => match us, hl with | [_, _], _ => rfl)
      (case a => k_is); (case n => k_is); (case l => k_is); (case c => k_is); (case k => k_is)
    have n_tokens : NoAttr (head.heap_39 w.params) 410 "_tokens" := by
      unfold NoAttr
      k_is
    have x_BadBits : ErrC (head.heap_39 w.params) mg "BadBits" 134 := by
      refine' errC_mk KX G ?a ?q ?k ?e ?t
      (case q => first | k_exc | k_is | decide +kernel); (case a => k_is); (case k => k_is); (case e => k_is); (case t => k_is)
    have D_is_begun : DfM (head.heap_39 w.params) 410 "is_begun" "Table.is_begun" s_Table_is_begun ["self", "bits"] := by
      refine' dfm_mk (st := s_Table_is_begun) ?a ?n ?l ?c ?k (fun us hl => match us, hl with | [_, _], _ => rfl)
      (case a => k_is); (case n => k_is); (case l => k_is); (case c => k_is); (case k => k_is)
    have n_rests : NoAttr (head.heap_39 w.params) 410 "_rests" := by
      unfold NoAttr
      k_is
    have D_contains : DfM (head.heap_39 w.params) 410 "__contains__" "Table.__contains__" s_Table___contains ["self", "word"] := by
      refine' dfm_mk (st := s_Table___contains) ?a ?n ?l ?c ?k (fun us hl => match us, hl with | [_, _], _ => rfl)
      (case a => k_is); (case n => k_is); (case l => k_is); (case c => k_is); (case k => k_is)
    have D_first : DfM (head.heap_39 w.params) 410 "first_word" "Table.first_word" s_Table_first_word ["self", "token"] := by
      refine' dfm_mk (st := s_Table_first_word) ?a ?n ?l ?c ?k (fun us hl => match us, hl with | [_, _], _ => rfl)
      (case a => k_is); (case n => k_is); (case l => k_is); (case c => k_is); (case k => k_is)
    have n_sizes : NoAttr (head.heap_39 w.params) 410 "_sizes" := by
      unfold NoAttr
      k_is
    have D_eq : DfM (head.heap_39 w.params) 410 "__eq__" "Table.__eq__" s_Table___eq ["self", "other"] := by
      refine' dfm_mk (st := s_Table___eq) ?a ?n ?l ?c ?k (fun us hl => match us, hl with | [_, _], _ => rfl)
      (case a => k_is); (case n => k_is); (case l => k_is); (case c => k_is); (case k => k_is)
    have ic : C8.InsC (head.heap_39 w.params) 410 := by
      refine' ⟨cl, ?a, ?b, ?c, ?d, ?e⟩
      (case a => k_is); (case b => k_is); (case c => k_is); (case d => k_is); (case e => first | rfl | k_is)
    have g_Table : Gc mg "Table" (.ref 410) := by
      refine' gc_mk KX G ?a ?r
      (case a => k_is); (case r => first | rfl | exact ⟨_, rfl⟩)
    have mk_Table : ∃ (f : Addr) (fd : FuncData), Mk (head.heap_39 w.params) 410 f ∧ Fun (head.heap_39 w.params) "__init__" "Table.__init__" s_Table___init f fd ∧ KBn (head.heap_39 w.params) fd ["self", "rows", "n", "width", "many", "tables"] 2 ["n", "width", "many", "tables"] (fun us ws => us ++ ws) (fun vs zs => vs ++ zs) := by
      refine' ⟨_, _, ⟨?a, ?b, ?c, ?d⟩, fun_of (st := s_Table___init) ?l ?m ?k, kbn_T⟩
      (case a => k_is); (case b => k_is); (case c => k_is); (case d => k_is); (case l => k_is); (case m => k_is); (case k => k_is)
    have D_check_bits : Df (head.heap_39 w.params) mg "check_bits" s_check_bits ["bits"] := by
      refine' df_mk (st := s_check_bits) KX G ?a ?l ?c ?k (fun us hl => match us, hl with | [_], _ => rfl)
      (case a => k_is); (case l => k_is); (case c => k_is); (case k => k_is)
    have D_split_bits : Df (head.heap_39 w.params) mg "split_bits" s_split_bits ["table", "bits"] := by
      refine' df_mk (st := s_split_bits) KX G ?a ?l ?c ?k (fun us hl => match us, hl with | [_, _], _ => rfl)
      (case a => k_is); (case l => k_is); (case c => k_is); (case k => k_is)
    have D_law_stands : Df (head.heap_39 w.params) mg "_law_stands" s_law_stands ["_law_table", "_law_pairs", "_law_words_here"] := by
      refine' df_mk (st := s_law_stands) KX G ?a ?l ?c ?k (fun us hl => match us, hl with | [_, _, _], _ => rfl)
      (case a => k_is); (case l => k_is); (case c => k_is); (case k => k_is)
    have D_law_firsts : Df (head.heap_39 w.params) mg "_law_firsts" s_law_firsts ["_law_source_here", "_law_table", "_law_book_here", "_law_words_here"] := by
      refine' df_mk (st := s_law_firsts) KX G ?a ?l ?c ?k (fun us hl => match us, hl with | [_, _, _, _], _ => rfl)
      (case a => k_is); (case l => k_is); (case c => k_is); (case k => k_is)
    have exm_token : PySem.W.exmOne (head.heap_39 w.params) (.ref 56) (.ref 56) = some true := exm_mk x_BadToken.exC (by k_is) x_BadToken.tyC (by first | rfl | k_is)
    have D_law_by_firsts : Df (head.heap_39 w.params) mg "_law_by_firsts" s_law_by_firsts ["_law_source_here", "_law_table", "_law_words_here"] := by
      refine' df_mk (st := s_law_by_firsts) KX G ?a ?l ?c ?k (fun us hl => match us, hl with | [_, _, _], _ => rfl)
      (case a => k_is); (case l => k_is); (case c => k_is); (case k => k_is)
    have D_law_attempt : Df (head.heap_39 w.params) mg "_law_attempt" s_law_attempt ["_law_sizes", "_law_pairs"] := by
      refine' df_mk (st := s_law_attempt) KX G ?a ?l ?c ?k (fun us hl => match us, hl with | [_, _], _ => rfl)
      (case a => k_is); (case l => k_is); (case c => k_is); (case k => k_is)
    have gC_Table : mg "Table" = some (.ref 410) := PySem.W.mg_of KX G (by k_is)
    have iC_size : PySem.W.isClsIn (head.heap_39 w.params) 44 = true := by k_is
    have iC_table : PySem.W.isClsIn (head.heap_39 w.params) 122 = true := by k_is
    have iC_sign : PySem.W.isClsIn (head.heap_39 w.params) 68 = true := by k_is
    have iC_full : PySem.W.isClsIn (head.heap_39 w.params) 89 = true := by k_is
    have iC_large : PySem.W.isClsIn (head.heap_39 w.params) 155 = true := by k_is
    have iC_less : PySem.W.isClsIn (head.heap_39 w.params) 110 = true := by k_is
    have exm : ExmC (head.heap_39 w.params) ⟨44, 56, 68, 122, 89, 110, 155⟩ := ⟨exm_mk x_BadSize.exC iC_size x_BadSize.tyC (by first | rfl | k_is),
      exm_mk x_BadSize.exC iC_size x_BadSize.tyC (by first | rfl | k_is),
      exm_mk x_BadTable.exC iC_table x_BadTable.tyC (by first | rfl | k_is),
      exm_mk x_BadSize.exC iC_size x_BadSize.tyC (by first | rfl | k_is),
      exm_mk x_BadTable.exC iC_table x_BadTable.tyC (by first | rfl | k_is),
      exm_mk x_BadSign.exC iC_sign x_BadSign.tyC (by first | rfl | k_is),
      exm_mk x_BadSize.exC iC_size x_BadSize.tyC (by first | rfl | k_is),
      exm_mk x_BadTable.exC iC_table x_BadTable.tyC (by first | rfl | k_is),
      exm_mk x_BadSign.exC iC_sign x_BadSign.tyC (by first | rfl | k_is),
      exm_mk t_TooFull.exC iC_full t_TooFull.tyC (by first | rfl | k_is),
      exm_mk x_BadSize.exC iC_size x_BadSize.tyC (by first | rfl | k_is),
      exm_mk x_BadTable.exC iC_table x_BadTable.tyC (by first | rfl | k_is),
      exm_mk x_BadSign.exC iC_sign x_BadSign.tyC (by first | rfl | k_is),
      exm_mk t_TooFull.exC iC_full t_TooFull.tyC (by first | rfl | k_is),
      exm_mk t_TooLarge.exC iC_large t_TooLarge.tyC (by first | rfl | k_is),
      exm_mk x_BadSize.exC iC_size x_BadSize.tyC (by first | rfl | k_is),
      exm_mk x_BadTable.exC iC_table x_BadTable.tyC (by first | rfl | k_is),
      exm_mk x_BadSign.exC iC_sign x_BadSign.tyC (by first | rfl | k_is),
      exm_mk t_TooFull.exC iC_full t_TooFull.tyC (by first | rfl | k_is),
      exm_mk t_TooLarge.exC iC_large t_TooLarge.tyC (by first | rfl | k_is),
      exm_mk t_Letterless.exC iC_less t_Letterless.tyC (by first | rfl | k_is)⟩
    have gS : mg "BadSize" = some (.ref 44) := x_BadSize.gC
    have gT : mg "BadTable" = some (.ref 122) := x_BadTable.gC
    have gG : mg "BadSign" = some (.ref 68) := x_BadSign.gC
    have gF : mg "TooFull" = some (.ref 89) := t_TooFull.gC
    have gL : mg "TooLarge" = some (.ref 155) := t_TooLarge.gC
    have gE : mg "Letterless" = some (.ref 110) := t_Letterless.gC
    have xF : XfC (head.heap_39 w.params) 89 := ⟨t_TooFull.ga, t_TooFull.gg, t_TooFull.exC, t_TooFull.hdC⟩
    have nF : PySem.W.findIn (head.heap_39 w.params) (.ref 89) "at" = some none := t_TooFull.noN
    have xL : XfC (head.heap_39 w.params) 155 := ⟨t_TooLarge.ga, t_TooLarge.gg, t_TooLarge.exC, t_TooLarge.hdC⟩
    have nL : PySem.W.findIn (head.heap_39 w.params) (.ref 155) "limit" = some none := t_TooLarge.noN
    have xE : XfC (head.heap_39 w.params) 110 := ⟨t_Letterless.ga, t_Letterless.gg, t_Letterless.exC, t_Letterless.hdC⟩
    have nE : PySem.W.findIn (head.heap_39 w.params) (.ref 110) "letter" = some none := t_Letterless.noN
    obtain ⟨fL, fdL, aL, lL⟩ : ∃ (fL : Addr) (fdL : FuncData), nsIn (head.heap_39 w.params) mainGlobals "law" = some (some (.ref fL)) ∧ L2.Fun (head.heap_39 w.params) "law" "law" s_law fL fdL ∧ ∀ (s : Shared) (u : Value), BindsTo s fdL ⟨[u], []⟩ [("_law_script", u)] := by
      refine' ⟨_, _, ?a, fun_of (st := s_law) ?l ?c ?k, fun s u => .of_eq rfl⟩
      (case a => k_is); (case l => k_is); (case c => k_is); (case k => k_is)
    have e := hmg.symm.trans (PySem.W.mg_of KX G aL)
    cases e
    exact ⟨fdL, lL.2, fun base _ _ => (law_all D_law_two B D_law_mixed D_law_source D_law_draw D_law_size D_law_extra D_law_broad_sign D_law_figures D_law_spread D_law_broad_signs D_law_tree D_law_arranged D_law_broad D_law_book D_law_number D_integer_within D_law_odd D_law_misformed D_law_faulty D_law_spans D_law_valid D_law_overfull D_law_first_error D_law_words D_law_share_of D_law_shortest D_check_count x_BadSize D_check_sizes g_LEAST_LETTERS g_MOST_LETTERS g_MOST_WIDTH g_MOST_RECENTS D_has_form g_NUMBERS d_NUMBERS D_in_bounds g_MOST_LENGTH g_MOST_TABLES D_check_token x_BadToken D_has_sign_form g_SIGN_NUMBERS d_SIGN_NUMBERS D_spans g_MOST_EXTRA g_EXTRA_BITS w_EXTRA D_sign_in_bounds D_check_sign x_BadSign D_spread D_is_bits D_check_lengths x_BadTable D_in_order g_MOST_BITS D_word_from D_free_words g_UNITS t_TooFull b_TooFull m_TooFull D_check_pairs g_LEAST_PAIRS g_MOST_PAIRS D_words_of g_MOST_WORDS t_TooLarge b_TooLarge m_TooLarge D_check_letters t_Letterless b_Letterless m_Letterless D_rests_of D_gaps_of D_words cl n_words D_gaps n_gaps D_pairs n_pairs D_full D_token n_tokens x_BadBits D_is_begun n_rests D_contains D_first n_sizes D_eq ic g_Table mk_Table D_check_bits D_split_bits D_law_stands D_law_firsts exm_token D_law_by_firsts D_law_attempt gC_Table exm gS gT gG gF gL gE xF nF xL nL xE nE lL.1).mono (by decide)⟩
  case S =>
    intro w H a ns h1 h2 h3
    exact ⟨a, ns, rfl, h3, h1, fun _ => rfl⟩)
