import PyProof.Rows.All
import Wide.All
import OpenK.AllK
import Wide.FinOn
import KE.KStateDown
import HandS.ForMost
import HandS.ForExc
import HandS.CallSlots
import HandS.HeadHook2
import HandS.Deep
import HandS.ExcOwn
import HandS.IsInst
import HandS.Style
import HandS.TupAny
import HandS.TupMul
import HandS.SortInts
import HandS.SortRule
import HandS.Zip
import HandS.Comp
import HandS.ExcSuper
import HandS.RaiseMore
import KE.KExcSuper
import KE.KExcInit
import HandS.ExcField
import HandS.Small
import KE.KDictDisplayH
import HandS.Lambda
import HandS.HeadEnd
import HandS.Head0
import HandS.Head1
import HandS.Head2
import PySem.Challenge.RW_cellsofsix_k00_whole_cells_and_their_hue
set_option Elab.async false
set_option linter.all false
set_option maxRecDepth 100000
set_option maxHeartbeats 0
/-! VM, part 1: data as plain values, what stands for them in the abstract heap, frames, the monad of a def's run. -/
namespace VM
open PySem PySem.Spec PyProof.Rows L2

/-- a Python value as a tree -/
inductive D where
  | non | bl (b : Bool) | int (i : Int) | str (x : Str)
  | tup (xs : List D) | lst (xs : List D) | dct (kvs : List (D × D)) | dcT (kvs : List (D × D)) | set (xs : List D) | scr (xs : List D) | ktp (xs : List D)
  | ins (c : Str) (fs : List (Str × D))
  deriving Inhabited

mutual
def D.beq : D → D → Bool
  | .non, .non => true
  | .bl a, .bl b => a == b
  | .int a, .int b => decide (a = b)
  | .str a, .str b => decide (a = b)
  | .tup xs, .tup ys => D.beqs xs ys
  | .lst xs, .lst ys => D.beqs xs ys
  | .set xs, .set ys => D.beqs xs ys
  | .scr xs, .scr ys => D.beqs xs ys
  | .ktp xs, .ktp ys => D.beqs xs ys
  | .dct xs, .dct ys => D.beqk xs ys
  | .dcT xs, .dcT ys => D.beqk xs ys
  | .ins c xs, .ins d ys => decide (c = d) && D.beqf xs ys
  | _, _ => false
def D.beqs : List D → List D → Bool
  | [], [] => true
  | x :: xs, y :: ys => D.beq x y && D.beqs xs ys
  | _, _ => false
def D.beqk : List (D × D) → List (D × D) → Bool
  | [], [] => true
  | (a, x) :: xs, (b, y) :: ys => D.beq a b && (D.beq x y && D.beqk xs ys)
  | _, _ => false
def D.beqf : List (Str × D) → List (Str × D) → Bool
  | [], [] => true
  | (a, x) :: xs, (b, y) :: ys => decide (a = b) && (D.beq x y && D.beqf xs ys)
  | _, _ => false
end
mutual
theorem D.beq_ok : ∀ a b : D, D.beq a b = true → a = b
  | .non, b, h => by cases b <;> simp_all [D.beq]
  | .bl a, b, h => by cases b <;> simp_all [D.beq]
  | .int a, b, h => by cases b <;> simp_all [D.beq]
  | .str a, b, h => by cases b <;> simp_all [D.beq]
  | .tup xs, b, h => by cases b <;> simp [D.beq] at h; rw [D.beqs_ok _ _ h]
  | .lst xs, b, h => by cases b <;> simp [D.beq] at h; rw [D.beqs_ok _ _ h]
  | .set xs, b, h => by cases b <;> simp [D.beq] at h; rw [D.beqs_ok _ _ h]
  | .scr xs, b, h => by cases b <;> simp [D.beq] at h; rw [D.beqs_ok _ _ h]
  | .ktp xs, b, h => by cases b <;> simp [D.beq] at h; rw [D.beqs_ok _ _ h]
  | .dct xs, b, h => by cases b <;> simp [D.beq] at h; rw [D.beqk_ok _ _ h]
  | .dcT xs, b, h => by cases b <;> simp [D.beq] at h; rw [D.beqk_ok _ _ h]
  | .ins c xs, b, h => by cases b <;> simp [D.beq] at h; rw [h.1, D.beqf_ok _ _ h.2]
theorem D.beqs_ok : ∀ a b : List D, D.beqs a b = true → a = b
  | [], b, h => by cases b <;> simp_all [D.beqs]
  | x :: xs, b, h => by
    cases b with
    | nil => simp [D.beqs] at h
    | cons y ys => simp [D.beqs] at h; rw [D.beq_ok _ _ h.1, D.beqs_ok _ _ h.2]
theorem D.beqk_ok : ∀ a b : List (D × D), D.beqk a b = true → a = b
  | [], b, h => by cases b <;> simp_all [D.beqk]
  | (a, x) :: xs, b, h => by
    cases b with
    | nil => simp [D.beqk] at h
    | cons y ys => obtain ⟨b, y⟩ := y; simp [D.beqk] at h; rw [D.beq_ok _ _ h.1, D.beq_ok _ _ h.2.1, D.beqk_ok _ _ h.2.2]
theorem D.beqf_ok : ∀ a b : List (Str × D), D.beqf a b = true → a = b
  | [], b, h => by cases b <;> simp_all [D.beqf]
  | (a, x) :: xs, b, h => by
    cases b with
    | nil => simp [D.beqf] at h
    | cons y ys => obtain ⟨b, y⟩ := y; simp [D.beqf] at h; rw [h.1, D.beq_ok _ _ h.2.1, D.beqf_ok _ _ h.2.2]
end
mutual
theorem D.beq_refl : ∀ a : D, D.beq a a = true
  | .non => by simp [D.beq]
  | .bl a => by simp [D.beq]
  | .int a => by simp [D.beq]
  | .str a => by simp [D.beq]
  | .tup xs => by simp [D.beq, D.beqs_refl xs]
  | .lst xs => by simp [D.beq, D.beqs_refl xs]
  | .set xs => by simp [D.beq, D.beqs_refl xs]
  | .scr xs => by simp [D.beq, D.beqs_refl xs]
  | .ktp xs => by simp [D.beq, D.beqs_refl xs]
  | .dct xs => by simp [D.beq, D.beqk_refl xs]
  | .dcT xs => by simp [D.beq, D.beqk_refl xs]
  | .ins c xs => by simp [D.beq, D.beqf_refl xs]
theorem D.beqs_refl : ∀ a : List D, D.beqs a a = true
  | [] => by simp [D.beqs]
  | x :: xs => by simp [D.beqs, D.beq_refl x, D.beqs_refl xs]
theorem D.beqk_refl : ∀ a : List (D × D), D.beqk a a = true
  | [] => by simp [D.beqk]
  | (a, x) :: xs => by simp [D.beqk, D.beq_refl a, D.beq_refl x, D.beqk_refl xs]
theorem D.beqf_refl : ∀ a : List (Str × D), D.beqf a a = true
  | [] => by simp [D.beqf]
  | (a, x) :: xs => by simp [D.beqf, D.beq_refl x, D.beqf_refl xs]
end
instance : DecidableEq D := fun a b => if h : D.beq a b = true then .isTrue (D.beq_ok a b h) else .isFalse (fun e => h (e ▸ D.beq_refl a))

/-! ### keys of dicts -/
def keyK : D → Option Key
  | .int i => some (.inl i)
  | .str x => some (.inr x)
  | _ => none
def keysK : List D → Option (List Key)
  | [] => some []
  | d :: ds => match keyK d, keysK ds with
    | some k, some ks => some (k :: ks)
    | _, _ => none
def keyT : D → Option (List Key)
  | .tup ds => keysK ds
  | _ => none
def ofKey : Key → D
  | .inl i => .int i
  | .inr x => .str x
theorem keyK_of {a : D} {k : Key} (h : keyK a = some k) : a = ofKey k := by
  cases a <;> simp [keyK] at h <;> subst h <;> rfl
theorem keyK_inj {a b : D} {k : Key} (ha : keyK a = some k) (hb : keyK b = some k) : a = b := (keyK_of ha).trans (keyK_of hb).symm
theorem keysK_inj : ∀ {a b : List D} {k : List Key}, keysK a = some k → keysK b = some k → a = b
  | [], [], _, _, _ => rfl
  | [], b :: bs, k, ha, hb => by
    have e := ha.trans hb.symm
    simp only [keysK] at e
    revert e; cases keyK b <;> cases keysK bs <;> simp
  | a :: as, [], k, ha, hb => by
    have e := ha.trans hb.symm
    simp only [keysK] at e
    revert e; cases keyK a <;> cases keysK as <;> simp
  | a :: as, b :: bs, k, ha, hb => by
    simp only [keysK] at ha hb
    cases h1 : keyK a <;> cases h2 : keysK as <;> simp [h1, h2] at ha
    cases h3 : keyK b <;> cases h4 : keysK bs <;> simp [h3, h4] at hb
    rw [← ha] at hb
    simp only [List.cons.injEq] at hb
    rw [keyK_inj h1 (h3.trans (congrArg some hb.1)), keysK_inj h2 (h4.trans (congrArg some hb.2))]
theorem keyT_inj {a b : D} {k : List Key} (ha : keyT a = some k) (hb : keyT b = some k) : a = b := by
  cases a <;> cases b <;> simp [keyT] at ha hb
  rw [keysK_inj ha hb]

/-! ### what is shared and never changed again: F, a part of the heap -/
theorem Rd.same {F F' : Hp} {a : Addr} {u : HO} (s : Same F F') (h : L2.Rd F a u) : L2.Rd F' a u := by
  rcases h with h | ⟨o, h⟩
  · exact .inl (s _ _ h)
  · exact .inr ⟨o, s _ _ h⟩
theorem seqL {K : PySem.W.Frag} {F F' : Hp} {a : Addr} {xs : List V} (s : Same F F') (h : SqL K F a xs) : SqL K F' a xs := by
  rcases h with h | h
  · exact .inl (Rd.same s h)
  · exact .inr h
theorem seqT {K : PySem.W.Frag} {F F' : Hp} {a : Addr} {xs : List V} (s : Same F F') (h : SqT K F a xs) : SqT K F' a xs := by
  rcases h with h | h
  · exact .inl (Rd.same s h)
  · exact .inr h

inductive RepZ (K : PySem.W.Frag) (F : Hp) : D → V → Prop
  | non : RepZ K F .non .non
  | bl (b : Bool) : RepZ K F (.bl b) (.bl b)
  | int (i : Int) : RepZ K F (.int i) (.int i)
  | str (x : Str) : RepZ K F (.str x) (.str x)
  | tup {a : Addr} {vs : List V} {ds : List D} : F a = some (.tup vs) → ds.length = vs.length → (∀ (j : Nat) (d : D) (v : V), ds[j]? = some d → vs[j]? = some v → RepZ K F d v) → RepZ K F (.tup ds) (.ref a)
  | lst {a : Addr} {vs : List V} {ds : List D} : F a = some (.lst vs) → ds.length = vs.length → (∀ (j : Nat) (d : D) (v : V), ds[j]? = some d → vs[j]? = some v → RepZ K F d v) → RepZ K F (.lst ds) (.ref a)
  | scr {a : Addr} {vs : List V} {ds : List D} : SqL K F a vs → ds.length = vs.length → (∀ (j : Nat) (d : D) (v : V), ds[j]? = some d → vs[j]? = some v → RepZ K F d v) → RepZ K F (.scr ds) (.ref a)
  | ktp {a : Addr} {vs : List V} {ds : List D} : SqT K F a vs → ds.length = vs.length → (∀ (j : Nat) (d : D) (v : V), ds[j]? = some d → vs[j]? = some v → RepZ K F d v) → RepZ K F (.ktp ds) (.ref a)
  | dK {a : Addr} {us : List (Key × V)} {kvs : List (D × D)} : F a = some (.dK us) → kvs.length = us.length → (∀ (j : Nat) (k d : D) (k' : Key) (v : V), kvs[j]? = some (k, d) → us[j]? = some (k', v) → keyK k = some k') →
      (∀ (j : Nat) (k d : D) (k' : Key) (v : V), kvs[j]? = some (k, d) → us[j]? = some (k', v) → RepZ K F d v) → RepZ K F (.dct kvs) (.ref a)
  | dT {a : Addr} {us : List (List Key × V)} {kvs : List (D × D)} : F a = some (.dT us) → kvs.length = us.length → (∀ (j : Nat) (k d : D) (k' : List Key) (v : V), kvs[j]? = some (k, d) → us[j]? = some (k', v) → keyT k = some k') →
      (∀ (j : Nat) (k d : D) (k' : List Key) (v : V), kvs[j]? = some (k, d) → us[j]? = some (k', v) → RepZ K F d v) → RepZ K F (.dcT kvs) (.ref a)
  | ins {a dx : Addr} {c : Str} {us : List (Str × V)} {fs : List (Str × D)} : F a = some (.ins (He.ga K c) dx us) → fs.length = us.length → (∀ (j : Nat) (n : Str) (d : D) (n' : Str) (v : V), fs[j]? = some (n, d) → us[j]? = some (n', v) → n = n') →
      (∀ (j : Nat) (n : Str) (d : D) (n' : Str) (v : V), fs[j]? = some (n, d) → us[j]? = some (n', v) → RepZ K F d v) → RepZ K F (.ins c fs) (.ref a)

theorem RepZ.mono {K : PySem.W.Frag} {F F' : Hp} {d : D} {v : V} (h : RepZ K F d v) (s : Same F F') : RepZ K F' d v := by
  induction h with
  | non => exact .non
  | bl b => exact .bl b
  | int i => exact .int i
  | str x => exact .str x
  | tup hs hl _ ih => exact .tup (s _ _ hs) hl ih
  | ktp hs hl _ ih => exact .ktp (seqT s hs) hl ih
  | lst hs hl _ ih => exact .lst (s _ _ hs) hl ih
  | scr hs hl _ ih => exact .scr (seqL s hs) hl ih
  | dK hs hl hk _ ih => exact .dK (s _ _ hs) hl hk ih
  | dT hs hl hk _ ih => exact .dT (s _ _ hs) hl hk ih
  | ins hs hl hk _ ih => exact .ins (s _ _ hs) hl hk ih

/-! ### what a frame owns -/
abbrev Pth := List Nat → Option Addr
inductive Mode where
  | any | fz | lst (m : Mode) | dK (m : Mode) | dT (m : Mode) | ins (ms : Str → Mode) | exc (a : Addr) (dd : Option Addr)
def Rep (K : PySem.W.Frag) : Mode → Hp → Hp → D → V → Pth → Prop
  | .any, _, _, _, _, _ => True
  | .fz, F, _, d, v, _ => RepZ K F d v
  | .lst m, F, H, d, v, p => ∃ (a : Addr) (ds : List D) (vs : List V), d = .lst ds ∧ v = .ref a ∧ p [] = some a ∧ H a = some (.lst vs) ∧ ds.length = vs.length ∧
      ∀ (j : Nat) (d : D) (v : V), ds[j]? = some d → vs[j]? = some v → Rep K m F H d v (fun q => p (j :: q))
  | .dK m, F, H, d, v, p => ∃ (a : Addr) (kvs : List (D × D)) (us : List (Key × V)), d = .dct kvs ∧ v = .ref a ∧ p [] = some a ∧ H a = some (.dK us) ∧ kvs.length = us.length ∧
      (∀ (j : Nat) (k d : D) (k' : Key) (v : V), kvs[j]? = some (k, d) → us[j]? = some (k', v) → keyK k = some k') ∧
      ∀ (j : Nat) (k d : D) (k' : Key) (v : V), kvs[j]? = some (k, d) → us[j]? = some (k', v) → Rep K m F H d v (fun q => p (j :: q))
  | .dT m, F, H, d, v, p => ∃ (a : Addr) (kvs : List (D × D)) (us : List (List Key × V)), d = .dcT kvs ∧ v = .ref a ∧ p [] = some a ∧ H a = some (.dT us) ∧ kvs.length = us.length ∧
      (∀ (j : Nat) (k d : D) (k' : List Key) (v : V), kvs[j]? = some (k, d) → us[j]? = some (k', v) → keyT k = some k') ∧
      ∀ (j : Nat) (k d : D) (k' : List Key) (v : V), kvs[j]? = some (k, d) → us[j]? = some (k', v) → Rep K m F H d v (fun q => p (j :: q))
  | .ins ms, F, H, d, v, p => ∃ (a dx : Addr) (c : Str) (fs : List (Str × D)) (us : List (Str × V)), d = .ins c fs ∧ v = .ref a ∧ p [] = some a ∧ H a = some (.ins (He.ga K c) dx us) ∧ fs.length = us.length ∧
      (∀ (j : Nat) (n : Str) (d : D) (n' : Str) (v : V), fs[j]? = some (n, d) → us[j]? = some (n', v) → n = n') ∧
      ∀ (j : Nat) (n : Str) (d : D) (n' : Str) (v : V), fs[j]? = some (n, d) → us[j]? = some (n', v) → Rep K (ms n) F H d v (fun q => p (j :: q))

  | .exc a dd, F, _, d, v, _ => v = .ref a ∧ ∃ (c : Str) (fs : List (Str × D)) (b : Addr) (us : List (Str × V)), d = .ins c fs ∧ dd = some b ∧ F b = some (.xd us) ∧ fs.length = us.length ∧
      ∀ (j : Nat) (n : Str) (d : D) (n' : Str) (v : V), fs[j]? = some (n, d) → us[j]? = some (n', v) → n = n' ∧ RepZ K F d v

section
variable {K : PySem.W.Frag}
theorem Rep.frame : ∀ (m : Mode) {F F' H H' : Hp} {d : D} {v : V} {p : Pth}, Rep K m F H d v p → Same F F' → (∀ q a o, p q = some a → H a = some o → H' a = some o) → Rep K m F' H' d v p
  | .any, _, _, _, _, _, _, _, _, _, _ => trivial
  | .fz, _, _, _, _, _, _, _, h, s, _ => RepZ.mono h s
  | .lst m, _, _, _, _, _, _, p, ⟨a, ds, vs, e1, e2, e3, e4, e5, e6⟩, s, k =>
    ⟨a, ds, vs, e1, e2, e3, k _ _ _ e3 e4, e5, fun j d v h1 h2 => Rep.frame m (e6 j d v h1 h2) s fun q a o hq ho => k (j :: q) a o hq ho⟩
  | .dK m, _, _, _, _, _, _, p, ⟨a, ds, vs, e1, e2, e3, e4, e5, e6, e7⟩, s, k =>
    ⟨a, ds, vs, e1, e2, e3, k _ _ _ e3 e4, e5, e6, fun j c d c' v h1 h2 => Rep.frame m (e7 j c d c' v h1 h2) s fun q a o hq ho => k (j :: q) a o hq ho⟩
  | .dT m, _, _, _, _, _, _, p, ⟨a, ds, vs, e1, e2, e3, e4, e5, e6, e7⟩, s, k =>
    ⟨a, ds, vs, e1, e2, e3, k _ _ _ e3 e4, e5, e6, fun j c d c' v h1 h2 => Rep.frame m (e7 j c d c' v h1 h2) s fun q a o hq ho => k (j :: q) a o hq ho⟩
  | .ins ms, _, _, _, _, _, _, p, ⟨a, dx, c, fs, us, e1, e2, e3, e4, e5, e6, e7⟩, s, k =>
    ⟨a, dx, c, fs, us, e1, e2, e3, k _ _ _ e3 e4, e5, e6, fun j n d n' v h1 h2 => Rep.frame (ms n) (e7 j n d n' v h1 h2) s fun q a o hq ho => k (j :: q) a o hq ho⟩
  | .exc a dd, _, _, _, _, _, _, p, ⟨e1, c, fs, b, us, e2, e3, e4, e5, e6⟩, s, k => ⟨e1, c, fs, b, us, e2, e3, s _ _ e4, e5, fun j n d n' v h1 h2 => ⟨(e6 j n d n' v h1 h2).1, (e6 j n d n' v h1 h2).2.mono s⟩⟩
def Mode.good : Mode → Prop
  | .any => False
  | .exc _ _ => False
  | .fz => True
  | .lst m => m.good
  | .dK m => m.good
  | .dT m => m.good
  | .ins ms => ∀ n, (ms n).good
/-- what is owned may be shared from now on -/
theorem Rep.frz : ∀ (m : Mode) {F F' H : Hp} {d : D} {v : V} {p : Pth}, m.good → Rep K m F H d v p → Same F F' → (∀ q a o, p q = some a → H a = some o → F' a = some o) → RepZ K F' d v
  | .any, _, _, _, _, _, _, g, _, _, _ => g.elim
  | .exc _ _, _, _, _, _, _, _, g, _, _, _ => g.elim
  | .fz, _, _, _, _, _, _, _, h, s, _ => RepZ.mono h s
  | .lst m, _, _, _, _, _, p, g, ⟨a, ds, vs, e1, e2, e3, e4, e5, e6⟩, s, k => by
    subst e1; subst e2
    exact .lst (k _ _ _ e3 e4) e5 fun j d v h1 h2 => Rep.frz m g (e6 j d v h1 h2) s fun q a o hq ho => k (j :: q) a o hq ho
  | .dK m, _, _, _, _, _, p, g, ⟨a, ds, vs, e1, e2, e3, e4, e5, e6, e7⟩, s, k => by
    subst e1; subst e2
    exact .dK (k _ _ _ e3 e4) e5 e6 fun j c d c' v h1 h2 => Rep.frz m g (e7 j c d c' v h1 h2) s fun q a o hq ho => k (j :: q) a o hq ho
  | .dT m, _, _, _, _, _, p, g, ⟨a, ds, vs, e1, e2, e3, e4, e5, e6, e7⟩, s, k => by
    subst e1; subst e2
    exact .dT (k _ _ _ e3 e4) e5 e6 fun j c d c' v h1 h2 => Rep.frz m g (e7 j c d c' v h1 h2) s fun q a o hq ho => k (j :: q) a o hq ho
  | .ins ms, _, _, _, _, _, p, g, ⟨a, dx, c, fs, us, e1, e2, e3, e4, e5, e6, e7⟩, s, k => by
    subst e1; subst e2
    exact .ins (k _ _ _ e3 e4) e5 e6 fun j n d n' v h1 h2 => Rep.frz (ms n) (g n) (e7 j n d n' v h1 h2) s fun q a o hq ho => k (j :: q) a o hq ho
end

/-! ### frames -/
abbrev Env := List (Option D)
abbrev Sl := List (Option V)
/-- a frame's slots (modes Γ, data env) at the values σ: F is what is shared, p what is owned -/
structure SOk (K : PySem.W.Frag) (Γ : List Mode) (F H : Hp) (env : Env) (σ : Sl) (p : Pth) : Prop where
  same : Same F H
  inj : ∀ q q' a, p q = some a → p q' = some a → q = q'
  off : ∀ q a, p q = some a → F a = none ∧ H a ≠ none
  len : env.length = σ.length
  slot : ∀ (i : Nat) (m : Mode) (d : D), Γ[i]? = some m → env[i]? = some (some d) → m = .any ∨ ∃ v, σ[i]? = some (some v) ∧ Rep K m F H d v (fun q => p (i :: q))
/-- what a run may have done -/
structure Step (F H : Hp) (p : Pth) (F' H' : Hp) (p' : Pth) : Prop where
  same : Same F F'
  keep : ∀ a o, H a = some o → (∀ q, p q ≠ some a) → H' a = some o
  own : ∀ q a, p' q = some a → (∃ q0, p q0 = some a) ∨ H a = none
  frz : ∀ a, F' a ≠ none → F a ≠ none ∨ (∃ q0, p q0 = some a) ∨ H a = none
theorem Step.refl {F H : Hp} {p : Pth} : Step F H p F H p :=
  ⟨fun _ _ h => h, fun _ _ h _ => h, fun q a h => .inl ⟨q, h⟩, fun _ h => .inl h⟩
theorem Step.trans {F H F1 H1 F2 H2 : Hp} {p p1 p2 : Pth} (s : Step F H p F1 H1 p1) (t : Step F1 H1 p1 F2 H2 p2) : Step F H p F2 H2 p2 := by
  have back : ∀ a, H1 a = none → (∃ q0, p q0 = some a) ∨ H a = none := fun a h => by
    by_cases e : ∃ q0, p q0 = some a
    · exact .inl e
    · refine .inr ?_
      cases ho : H a with
      | none => rfl
      | some o =>
        have := s.keep a o ho (fun q hq => e ⟨q, hq⟩)
        rw [h] at this; cases this
  have own' : ∀ q a, p1 q = some a → (∃ q0, p q0 = some a) ∨ H a = none := s.own
  refine ⟨fun a o h => t.same a o (s.same a o h), fun a o h n => ?_, fun q a h => ?_, fun a h => ?_⟩
  · refine t.keep a o (s.keep a o h n) fun q hq => ?_
    rcases s.own q a hq with ⟨q0, e⟩ | e
    · exact n q0 e
    · rw [e] at h; cases h
  · rcases t.own q a h with ⟨q0, e⟩ | e
    · exact s.own q0 a e
    · exact back a e
  · rcases t.frz a h with e | ⟨q0, e⟩ | e
    · rcases s.frz a e with e | e
      · exact .inl e
      · exact .inr e
    · exact .inr (s.own q0 a e)
    · exact .inr (back a e)
/-- a new value that nobody else has -/
structure Fresh (F H : Hp) (p : Pth) (F' H' : Hp) (p' pv : Pth) : Prop where
  inj : ∀ q q' a, pv q = some a → pv q' = some a → q = q'
  apart : ∀ q q' a, pv q = some a → p' q' = some a → False
  off : ∀ q a, pv q = some a → F' a = none ∧ H' a ≠ none
  new : ∀ q a, pv q = some a → (∃ q0, p q0 = some a) ∨ H a = none
def noP : Pth := fun _ => none
theorem Fresh.no {F H F' H' : Hp} {p p' : Pth} : Fresh F H p F' H' p' noP :=
  ⟨fun _ _ _ h => by simp [noP] at h, fun _ _ _ h => by simp [noP] at h, fun _ _ h => by simp [noP] at h, fun _ _ h => by simp [noP] at h⟩
theorem Fresh.step {F H F1 H1 F2 H2 : Hp} {p p1 p2 pv : Pth} (s : Step F H p F1 H1 p1) (f : Fresh F1 H1 p1 F2 H2 p2 pv) : Fresh F H p F2 H2 p2 pv := by
  refine ⟨f.inj, f.apart, f.off, fun q a h => ?_⟩
  rcases f.new q a h with ⟨q0, e⟩ | e
  · exact s.own q0 a e
  · by_cases e2 : ∃ q0, p q0 = some a
    · exact .inl e2
    · refine .inr ?_
      cases ho : H a with
      | none => rfl
      | some o =>
        have := s.keep a o ho (fun q hq => e2 ⟨q, hq⟩)
        rw [e] at this; cases this
section
variable {K : PySem.W.Frag}
theorem Same.not {F H : Hp} {a : Addr} (s : Same F H) (h : H a = none) : F a = none := by
  cases e : F a with
  | none => rfl
  | some o => rw [s a o e] at h; cases h
/-- a shared value is put at slot i -/
theorem SOk.setZ {Γ : List Mode} {F H : Hp} {env : Env} {σ : Sl} {p : Pth} (s : SOk K Γ F H env σ p) {i : Nat} {d : D} {v : V} (r : RepZ K F d v) : SOk K (Γ.set i .fz) F H (env.set i (some d)) (σ.set i (some v)) p := by
  refine ⟨s.same, s.inj, s.off, by simp [s.len], fun j m d' hm hd => ?_⟩
  by_cases e : i = j
  · subst e
    have h1 := (List.getElem?_eq_some_iff.mp hd).1
    simp only [List.length_set] at h1
    rw [List.getElem?_set_self h1] at hd
    have h2 := (List.getElem?_eq_some_iff.mp hm).1
    simp only [List.length_set] at h2
    rw [List.getElem?_set_self h2] at hm
    cases hd; cases hm
    have h3 : i < σ.length := s.len ▸ h1
    exact .inr ⟨v, List.getElem?_set_self h3, r⟩
  · rw [List.getElem?_set_ne e] at hd hm
    rcases s.slot j m d' hm hd with h | ⟨u, h1, h2⟩
    · exact .inl h
    · exact .inr ⟨u, by rw [List.getElem?_set_ne e]; exact h1, h2⟩
/-- an owned value is put at slot i -/
def putP (i : Nat) (pv p : Pth) : Pth
  | [] => none
  | j :: q => if j = i then pv q else p (j :: q)
theorem putP_same {i : Nat} {pv p : Pth} {q : List Nat} : putP i pv p (i :: q) = pv q := by simp [putP]
theorem putP_ne {i j : Nat} {pv p : Pth} {q : List Nat} (h : j ≠ i) : putP i pv p (j :: q) = p (j :: q) := by simp [putP, h]
theorem putP_or {i : Nat} {pv p : Pth} {q : List Nat} {a : Addr} (h : putP i pv p q = some a) : (∃ q', q = i :: q' ∧ pv q' = some a) ∨ (p q = some a ∧ ∀ q', q ≠ i :: q') := by
  cases q with
  | nil => simp [putP] at h
  | cons j q =>
    by_cases e : j = i
    · subst e; rw [putP_same] at h; exact .inl ⟨q, rfl, h⟩
    · rw [putP_ne e] at h; exact .inr ⟨h, fun q' z => e (by injection z)⟩
theorem SOk.setO {Γ : List Mode} {F0 H0 F H : Hp} {env : Env} {σ : Sl} {p0 p pv : Pth} (s : SOk K Γ F H env σ p) {i : Nat} {m : Mode} {d : D} {v : V} (r : Rep K m F H d v pv) (f : Fresh F0 H0 p0 F H p pv) :
    SOk K (Γ.set i m) F H (env.set i (some d)) (σ.set i (some v)) (putP i pv p) := by
  refine ⟨s.same, fun q q' a h h' => ?_, fun q a h => ?_, by simp [s.len], fun j m' d' hm hd => ?_⟩
  · rcases putP_or h with ⟨q1, e1, h1⟩ | ⟨h1, n1⟩ <;> rcases putP_or h' with ⟨q2, e2, h2⟩ | ⟨h2, n2⟩
    · rw [e1, e2, f.inj _ _ _ h1 h2]
    · exact (f.apart _ _ _ h1 h2).elim
    · exact (f.apart _ _ _ h2 h1).elim
    · exact s.inj _ _ _ h1 h2
  · rcases putP_or h with ⟨q1, _, h1⟩ | ⟨h1, _⟩
    · exact f.off _ _ h1
    · exact s.off _ _ h1
  · by_cases e : i = j
    · subst e
      have h1 := (List.getElem?_eq_some_iff.mp hd).1
      simp only [List.length_set] at h1
      rw [List.getElem?_set_self h1] at hd
      have h2 := (List.getElem?_eq_some_iff.mp hm).1
      simp only [List.length_set] at h2
      rw [List.getElem?_set_self h2] at hm
      cases hd; cases hm
      have h3 : i < σ.length := s.len ▸ h1
      refine .inr ⟨v, List.getElem?_set_self h3, ?_⟩
      have : (fun q => putP i pv p (i :: q)) = pv := funext fun q => putP_same
      rw [this]; exact r
    · rw [List.getElem?_set_ne e] at hd hm
      rcases s.slot j m' d' hm hd with h | ⟨u, h1, h2⟩
      · exact .inl h
      · refine .inr ⟨u, by rw [List.getElem?_set_ne e]; exact h1, ?_⟩
        have : (fun q => putP i pv p (j :: q)) = fun q => p (j :: q) := funext fun q => putP_ne (Ne.symm e)
        rw [this]; exact h2
theorem Step.put {F0 H0 F H : Hp} {p0 p pv : Pth} {i : Nat} (s : Step F0 H0 p0 F H p) (f : Fresh F0 H0 p0 F H p pv) : Step F0 H0 p0 F H (putP i pv p) := by
  refine ⟨s.same, s.keep, fun q a h => ?_, s.frz⟩
  rcases putP_or h with ⟨q1, _, h1⟩ | ⟨h1, _⟩
  · exact f.new _ _ h1
  · exact s.own _ _ h1
/-- weaker modes: what is forgotten -/
inductive MLe : List Mode → List Mode → Prop
  | nil : MLe [] []
  | same {m : Mode} {a b : List Mode} : MLe a b → MLe (m :: a) (m :: b)
  | drop {m : Mode} {a b : List Mode} : MLe a b → MLe (m :: a) (.any :: b)
theorem MLe.refl : ∀ a : List Mode, MLe a a
  | [] => .nil
  | _ :: a => .same (MLe.refl a)
theorem MLe.trans : ∀ {a b c : List Mode}, MLe a b → MLe b c → MLe a c
  | _, _, _, .nil, .nil => .nil
  | _, _, _, .same h, .same h' => .same (h.trans h')
  | _, _, _, .same h, .drop h' => .drop (h.trans h')
  | _, _, _, .drop h, .same h' => .drop (h.trans h')
  | _, _, _, .drop h, .drop h' => .drop (h.trans h')
theorem MLe.get : ∀ {a b : List Mode}, MLe a b → ∀ {i : Nat} {m : Mode}, b[i]? = some m → m = .any ∨ a[i]? = some m
  | _, _, .nil, i, m, h => by simp at h
  | _, _, .same h, 0, m, e => .inr (by simpa using e)
  | _, _, .drop h, 0, m, e => .inl (by simpa using e.symm)
  | _, _, .same h, i + 1, m, e => by simpa using MLe.get h (i := i) (m := m) (by simpa using e)
  | _, _, .drop h, i + 1, m, e => by simpa using MLe.get h (i := i) (m := m) (by simpa using e)
theorem SOk.le {Γ Γ' : List Mode} {F H : Hp} {env : Env} {σ : Sl} {p : Pth} (s : SOk K Γ F H env σ p) (l : MLe Γ Γ') : SOk K Γ' F H env σ p :=
  ⟨s.same, s.inj, s.off, s.len, fun i m d hm hd => (l.get hm).elim .inl fun h => s.slot i m d h hd⟩
/-- slot i is shared from now on -/
noncomputable def frzF (i : Nat) (p : Pth) (F H : Hp) : Hp := fun a => if F a = none then (open Classical in if ∃ q, p (i :: q) = some a then H a else none) else F a
def frzP (i : Nat) (p : Pth) : Pth := putP i noP p
theorem frzF_same {i : Nat} {p : Pth} {F H : Hp} : Same F (frzF i p F H) := fun a o h => by simp [frzF, h]
theorem frzF_own {i : Nat} {p : Pth} {F H : Hp} {q : List Nat} {a : Addr} (h : p (i :: q) = some a) (n : F a = none) : frzF i p F H a = H a := by
  unfold frzF; rw [if_pos n, if_pos ⟨q, h⟩]
theorem frzF_le {i : Nat} {p : Pth} {F H : Hp} (s : Same F H) : Same (frzF i p F H) H := fun a o h => by
  unfold frzF at h
  split at h
  · split at h
    · exact h
    · cases h
  · exact s a o h
theorem SOk.frz {Γ : List Mode} {F H : Hp} {env : Env} {σ : Sl} {p : Pth} (s : SOk K Γ F H env σ p) {i : Nat} {m : Mode} (hm : Γ[i]? = some m) (g : m.good) :
    SOk K (Γ.set i .fz) (frzF i p F H) H env σ (frzP i p) := by
  refine ⟨frzF_le s.same, fun q q' a h h' => ?_, fun q a h => ?_, s.len, fun j m' d hm' hd => ?_⟩
  · rcases putP_or h with ⟨_, _, h1⟩ | ⟨h1, _⟩
    · simp [noP] at h1
    · rcases putP_or h' with ⟨_, _, h2⟩ | ⟨h2, _⟩
      · simp [noP] at h2
      · exact s.inj _ _ _ h1 h2
  · rcases putP_or h with ⟨_, _, h1⟩ | ⟨h1, n1⟩
    · simp [noP] at h1
    · obtain ⟨h2, h3⟩ := s.off _ _ h1
      refine ⟨?_, h3⟩
      unfold frzF
      rw [if_pos h2, if_neg]
      rintro ⟨q', h'⟩
      exact n1 q' (s.inj _ _ _ h1 h')
  · by_cases e : i = j
    · subst e
      have h2 := (List.getElem?_eq_some_iff.mp hm').1
      simp only [List.length_set] at h2
      rw [List.getElem?_set_self h2] at hm'
      cases hm'
      rcases s.slot i m d hm hd with h | ⟨v, hv, r⟩
      · subst h; exact g.elim
      · refine .inr ⟨v, hv, ?_⟩
        exact Rep.frz m g r frzF_same fun q a o hq ho => by rw [frzF_own hq (s.off _ _ hq).1]; exact ho
    · rw [List.getElem?_set_ne e] at hm'
      rcases s.slot j m' d hm' hd with h | ⟨v, hv, r⟩
      · exact .inl h
      · refine .inr ⟨v, hv, ?_⟩
        have : (fun q => frzP i p (j :: q)) = fun q => p (j :: q) := funext fun q => putP_ne (Ne.symm e)
        rw [this]
        exact Rep.frame m' r frzF_same fun _ _ _ _ h => h
theorem Step.frzS {F H : Hp} {p : Pth} {i : Nat} (off : ∀ q a, p q = some a → F a = none ∧ H a ≠ none) : Step F H p (frzF i p F H) H (frzP i p) := by
  refine ⟨frzF_same, fun _ _ h _ => h, fun q a h => ?_, fun a h => ?_⟩
  · rcases putP_or h with ⟨_, _, h1⟩ | ⟨h1, _⟩
    · simp [noP] at h1
    · exact .inl ⟨q, h1⟩
  · unfold frzF at h
    split at h
    · split at h
      · rename_i e; obtain ⟨q, e⟩ := e; exact .inr (.inl ⟨_, e⟩)
      · exact absurd rfl h
    · rename_i e; exact .inl e
end
end VM
/-! VM, part 2: the monad, the judgements, expressions. -/
namespace VM
open PySem PySem.Spec PyProof.Rows L2

structure Exn where
  c : Str
  fs : List (Str × D)
inductive Res (α : Type) where
  | ok (a : α) (e : Env)
  | ex (x : Exn) (e : Env)
  | bad
abbrev M (α : Type) := Env → Res α
def Res.bind {α β : Type} : Res α → (α → M β) → Res β
  | .ok a e, f => f a e
  | .ex x e, _ => .ex x e
  | .bad, _ => .bad
@[simp] theorem Res.bind_ok {α β : Type} (a : α) (e : Env) (f : α → M β) : Res.bind (.ok a e) f = f a e := rfl
@[simp] theorem Res.bind_ex {α β : Type} (x : Exn) (e : Env) (f : α → M β) : Res.bind (.ex x e) f = .ex x e := rfl
@[simp] theorem Res.bind_bad {α β : Type} (f : α → M β) : Res.bind .bad f = .bad := rfl
def mBind {α β : Type} (f : M α) (g : α → M β) : M β := fun e => (f e).bind g
def mOpt {α : Type} : Option α → M α
  | some a => fun e => .ok a e
  | none => fun _ => .bad
def mC {α : Type} (d : α) : M α := fun e => .ok d e
def mVar (i : Nat) : M D := fun e => match e[i]? with
  | some (some d) => .ok d e
  | _ => .bad

/-- how an exception lies: its class, its own dict -/
def ExnR (K : PySem.W.Frag) (F : Hp) (x : Exn) (cls : Value) (dd : Option Addr) : Prop :=
  cls = .ref (He.ga K x.c) ∧ ∃ (a : Addr) (us : List (Str × V)), dd = some a ∧ F a = some (.xd us) ∧ x.fs.length = us.length ∧
    ∀ (j : Nat) (n : Str) (d : D) (n' : Str) (v : V), x.fs[j]? = some (n, d) → us[j]? = some (n', v) → n = n' ∧ RepZ K F d v
/-- a run's end with an exception -/
def PostX (K : PySem.W.Frag) (W : WX) (Γx : List Mode) (F H : Hp) (p : Pth) (σ : Sl) (x : Exn) (e' : Env) : Prop :=
  ∀ (cls : Value) (dd : Option Addr) (F' H' : Hp) (p' : Pth), Step F H p F' H' p' → SOk K Γx F' H' e' σ p' → ExnR K F' x cls dd → W cls dd σ H'
/-- .. of an expression, whose value is shared -/
def PostZ (K : PySem.W.Frag) (W : WX) (Γx Γ' : List Mode) (F H : Hp) (p : Pth) (σ : Sl) (Q : V → Hp → Prop) : Res D → Prop
  | .ok d e' => ∀ (v : V) (F' H' : Hp) (p' : Pth), Step F H p F' H' p' → SOk K Γ' F' H' e' σ p' → RepZ K F' d v → Q v H'
  | .ex x e' => PostX K W Γx F H p σ x e'
  | .bad => False
/-- .. whose value is owned -/
def PostO (K : PySem.W.Frag) (W : WX) (Γx Γ' : List Mode) (m : Mode) (F H : Hp) (p : Pth) (σ : Sl) (Q : V → Hp → Prop) : Res D → Prop
  | .ok d e' => ∀ (v : V) (F' H' : Hp) (p' pv : Pth), Step F H p F' H' p' → SOk K Γ' F' H' e' σ p' → Rep K m F' H' d v pv → Fresh F H p F' H' p' pv → Q v H'
  | .ex x e' => PostX K W Γx F H p σ x e'
  | .bad => False
/-- .. of a test -/
def PostT (K : PySem.W.Frag) (W : WX) (Γx Γ' : List Mode) (F H : Hp) (p : Pth) (σ : Sl) (Q : Bool → Hp → Prop) : Res Bool → Prop
  | .ok b e' => ∀ (F' H' : Hp) (p' : Pth), Step F H p F' H' p' → SOk K Γ' F' H' e' σ p' → Q b H'
  | .ex x e' => PostX K W Γx F H p σ x e'
  | .bad => False
theorem PostX.step {K : PySem.W.Frag} {W : WX} {Γx : List Mode} {F H F1 H1 : Hp} {p p1 : Pth} {σ : Sl} {x : Exn} {e' : Env} (s : Step F H p F1 H1 p1) (h : PostX K W Γx F H p σ x e') : PostX K W Γx F1 H1 p1 σ x e' :=
  fun cls dd F' H' p' s' k r => h cls dd F' H' p' (s.trans s') k r
theorem PostZ.step {K : PySem.W.Frag} {W : WX} {Γx Γ' : List Mode} {F H F1 H1 : Hp} {p p1 : Pth} {σ : Sl} {Q : V → Hp → Prop} {r : Res D} (s : Step F H p F1 H1 p1) (h : PostZ K W Γx Γ' F H p σ Q r) : PostZ K W Γx Γ' F1 H1 p1 σ Q r := by
  cases r with
  | ok d e => exact fun v F' H' p' s' k r => h v F' H' p' (s.trans s') k r
  | ex x e => exact PostX.step s h
  | bad => exact h
theorem PostT.step {K : PySem.W.Frag} {W : WX} {Γx Γ' : List Mode} {F H F1 H1 : Hp} {p p1 : Pth} {σ : Sl} {Q : Bool → Hp → Prop} {r : Res Bool} (s : Step F H p F1 H1 p1) (h : PostT K W Γx Γ' F H p σ Q r) : PostT K W Γx Γ' F1 H1 p1 σ Q r := by
  cases r with
  | ok d e => exact fun F' H' p' s' k => h F' H' p' (s.trans s') k
  | ex x e => exact PostX.step s h
  | bad => exact h
theorem PostO.step {K : PySem.W.Frag} {W : WX} {Γx Γ' : List Mode} {m : Mode} {F H F1 H1 : Hp} {p p1 : Pth} {σ : Sl} {Q : V → Hp → Prop} {r : Res D} (s : Step F H p F1 H1 p1) (h : PostO K W Γx Γ' m F H p σ Q r) : PostO K W Γx Γ' m F1 H1 p1 σ Q r := by
  cases r with
  | ok d e => exact fun v F' H' p' pv s' k r f => h v F' H' p' pv (s.trans s') k r (f.step s)
  | ex x e => exact PostX.step s h
  | bad => exact h

/-- an expression with a shared value: f is what it reckons -/
def MZ (X : Cx) (W : WX) (Γx Γ : List Mode) (e : Expr) (f : M D) (Γ' : List Mode) : Prop :=
  ∃ t, PE X e t ∧ ∀ (σ : Sl) (F H : Hp) (p : Pth) (env : Env) (Q : V → Hp → Prop), SOk X.K Γ F H env σ p → PostZ X.K W Γx Γ' F H p σ Q (f env) → t σ H Q
def MO (X : Cx) (W : WX) (Γx Γ : List Mode) (e : Expr) (f : M D) (m : Mode) (Γ' : List Mode) : Prop :=
  ∃ t, PE X e t ∧ ∀ (σ : Sl) (F H : Hp) (p : Pth) (env : Env) (Q : V → Hp → Prop), SOk X.K Γ F H env σ p → PostO X.K W Γx Γ' m F H p σ Q (f env) → t σ H Q
/-- a test -/
def MT (X : Cx) (W : WX) (Γx Γ : List Mode) (e : Expr) (f : M Bool) (Γ' : List Mode) : Prop :=
  ∃ t, PT X e t ∧ ∀ (σ : Sl) (F H : Hp) (p : Pth) (env : Env) (Q : Bool → Hp → Prop), SOk X.K Γ F H env σ p → PostT X.K W Γx Γ' F H p σ Q (f env) → t σ H Q
def MTW (X : Cx) (W : WX) (Γx Γ : List Mode) (e : Expr) (f : M Bool) (Γ' : List Mode) : Prop :=
  ∃ t, PW X e t ∧ ∀ (σ : Sl) (F H : Hp) (p : Pth) (env : Env) (Q : Bool → Hp → Prop), SOk X.K Γ F H env σ p → PostT X.K W Γx Γ' F H p σ Q (f env) → t σ H Q

section
variable {X : Cx} {W : WX} {Γx Γ Γ1 Γ2 Γ3 Γ' : List Mode} {a b c e : Expr} {f g h : M D} {pos : Pos}

theorem mz_c {d : D} {v : V} (he : PE X e (tC v)) (hr : ∀ F, RepZ X.K F d v) : MZ X W Γx Γ e (mC d) Γ :=
  ⟨_, he, fun σ F H p env Q s q => q v F H p .refl s (hr F)⟩
theorem mz_int {i j} : MZ X W Γx Γ (.Constant (.int i) j pos) (mC (.int i)) Γ := mz_c pe_int fun _ => .int i
theorem mz_bl {b j} : MZ X W Γx Γ (.Constant (.bool b) j pos) (mC (.bl b)) Γ := mz_c pe_bl fun _ => .bl b
theorem mz_non {j} : MZ X W Γx Γ (.Constant .none j pos) (mC .non) Γ := mz_c pe_non fun _ => .non
theorem mz_str {x j} : MZ X W Γx Γ (.Constant (.str x) j pos) (mC (.str x)) Γ := mz_c pe_str fun _ => .str x
/-- a name whose value is shared -/
theorem mz_var (i : Nat) {x : Str} (hΓ : Γ[i]? = some .fz := by rfl) (hN : X.N[i]? = some x := by rfl) (hv : Vis X.env.scope x := by first | exact Or.inl rfl | exact Or.inr (Or.inl rfl) | exact Or.inr (Or.inr rfl))
    (hd : (x == ("__debug__" : Str)) = false := by decide) (hcd : (x == ("__classdict__" : Str)) = false := by decide) : MZ X W Γx Γ (.Name x pos) (mVar i) Γ := by
  refine ⟨_, pe_var hN hv hd hcd, fun σ F H p env Q s q => ?_⟩
  unfold mVar at q
  cases he : env[i]? with
  | none => rw [he] at q; exact q.elim
  | some od =>
    cases od with
    | none => rw [he] at q; exact q.elim
    | some d =>
      rw [he] at q
      rcases s.slot i _ d hΓ he with h | ⟨v, hv, r⟩
      · cases h
      · exact ⟨v, hv, q v F H p .refl s r⟩
/-- a name whose value was owned and is shared from now on -/
theorem mz_frz (i : Nat) {x : Str} {m : Mode} (hΓ : Γ[i]? = some m := by rfl) (hg : m.good := by first | trivial | (intro _; trivial)) (hN : X.N[i]? = some x := by rfl) (hv : Vis X.env.scope x := by first | exact Or.inl rfl | exact Or.inr (Or.inl rfl) | exact Or.inr (Or.inr rfl))
    (hd : (x == ("__debug__" : Str)) = false := by decide) (hcd : (x == ("__classdict__" : Str)) = false := by decide) : MZ X W Γx Γ (.Name x pos) (mVar i) (Γ.set i .fz) := by
  refine ⟨_, pe_var hN hv hd hcd, fun σ F H p env Q s q => ?_⟩
  unfold mVar at q
  cases he : env[i]? with
  | none => rw [he] at q; exact q.elim
  | some od =>
    cases od with
    | none => rw [he] at q; exact q.elim
    | some d =>
      rw [he] at q
      have s' := s.frz hΓ hg
      have hl : i < Γ.length := (List.getElem?_eq_some_iff.mp hΓ).1
      rcases s'.slot i .fz d (List.getElem?_set_self hl) he with h | ⟨v, hv, r⟩
      · cases h
      · exact ⟨v, hv, q v _ H _ (Step.frzS s.off) s' r⟩
/-- an owned value may be shared -/
theorem frzF_val {K : PySem.W.Frag} {F0 H0 F H : Hp} {p0 p pv : Pth} {m : Mode} {d : D} {v : V} (hs : Same F H) (g : m.good) (r : Rep K m F H d v pv) (f : Fresh F0 H0 p0 F H p pv) :
    RepZ K (frzF 0 (putP 0 pv noP) F H) d v :=
  Rep.frz m g r frzF_same fun q a o hq ho => by rw [frzF_own (q := q) (by rw [putP_same]; exact hq) (f.off _ _ hq).1]; exact ho
theorem MO.z {m : Mode} (h : MO X W Γx Γ e f m Γ') (g : m.good := by first | trivial | (intro _; trivial)) : MZ X W Γx Γ e f Γ' := by
  obtain ⟨t, ht, h⟩ := h
  refine ⟨t, ht, fun σ F H p env Q s q => h σ F H p env Q s ?_⟩
  cases hf : f env with
  | bad => rw [hf] at q; exact q
  | ex x e' => rw [hf] at q; exact q
  | ok d e' =>
    rw [hf] at q
    intro v F' H' p' pv st s' r fr
    refine q v (frzF 0 (putP 0 pv noP) F' H') H' p' ⟨fun a o h => frzF_same a o (st.same a o h), st.keep, st.own, fun a ha => ?_⟩ ⟨frzF_le s'.same, s'.inj, fun q a hq => ?_, s'.len, fun i m d hm hd => ?_⟩ (frzF_val s'.same g r fr)
    · unfold frzF at ha
      split at ha
      · split at ha
        · rename_i z; obtain ⟨q0, z⟩ := z
          rw [putP_same] at z
          rcases fr.new q0 a z with w | w
          · exact .inr (.inl w)
          · exact .inr (.inr w)
        · exact absurd rfl ha
      · rename_i z; exact st.frz a z
    · obtain ⟨h1, h2⟩ := s'.off q a hq
      refine ⟨?_, h2⟩
      unfold frzF
      rw [if_pos h1, if_neg]
      rintro ⟨q0, z⟩
      rw [putP_same] at z
      exact fr.apart _ _ _ z hq
    · rcases s'.slot i m d hm hd with z | ⟨u, h1, h2⟩
      · exact .inl z
      · exact .inr ⟨u, h1, Rep.frame m h2 frzF_same fun _ _ _ _ z => z⟩

end

/-! ### sequencing -/
/-- a want of a run's end that bears steps -/
structure Wp {α : Type} (K : PySem.W.Frag) (W : WX) (Γx : List Mode) (σ : Sl) (P : Hp → Hp → Pth → Res α → Prop) : Prop where
  step : ∀ {F H F1 H1 : Hp} {p p1 : Pth} {r : Res α}, Step F H p F1 H1 p1 → P F H p r → P F1 H1 p1 r
  bad : ∀ {F H : Hp} {p : Pth}, ¬ P F H p .bad
  ex : ∀ {F H : Hp} {p : Pth} {x : Exn} {e' : Env}, P F H p (.ex x e') → PostX K W Γx F H p σ x e'
section
variable {K : PySem.W.Frag} {W : WX} {Γx Γ' : List Mode} {σ : Sl}
theorem wpZ {Q : V → Hp → Prop} : Wp K W Γx σ (fun F H p r => PostZ K W Γx Γ' F H p σ Q r) := ⟨PostZ.step, fun h => h, fun h => h⟩
theorem wpO {m : Mode} {Q : V → Hp → Prop} : Wp K W Γx σ (fun F H p r => PostO K W Γx Γ' m F H p σ Q r) := ⟨PostO.step, fun h => h, fun h => h⟩
theorem wpT {Q : Bool → Hp → Prop} : Wp K W Γx σ (fun F H p r => PostT K W Γx Γ' F H p σ Q r) := ⟨PostT.step, fun h => h, fun h => h⟩
end
section
variable {X : Cx} {W : WX} {Γx Γ Γ1 Γ2 Γ3 Γ' : List Mode} {a b c e : Expr} {f g h : M D} {pos : Pos}
theorem zseq {α : Type} {te : TE} {σ : Sl} {F H : Hp} {p : Pth} {env : Env} {k : D → M α} {P : Hp → Hp → Pth → Res α → Prop} {R : V → Hp → Prop} (w : Wp X.K W Γx σ P)
    (he : ∀ (σ : Sl) (F H : Hp) (p : Pth) (env : Env) (Q : V → Hp → Prop), SOk X.K Γ F H env σ p → PostZ X.K W Γx Γ1 F H p σ Q (f env) → te σ H Q)
    (s : SOk X.K Γ F H env σ p) (q : P F H p (Res.bind (f env) k))
    (hk : ∀ d e1 v F1 H1 p1, Step F H p F1 H1 p1 → SOk X.K Γ1 F1 H1 e1 σ p1 → RepZ X.K F1 d v → P F1 H1 p1 (k d e1) → R v H1) : te σ H R := by
  refine he σ F H p env R s ?_
  cases hf : f env with
  | bad => rw [hf] at q; exact (w.bad q).elim
  | ex x e' => rw [hf] at q; exact w.ex q
  | ok d e' => rw [hf] at q; exact fun v F' H' p' st s' r => hk d e' v F' H' p' st s' r (w.step st q)
theorem oseq {α : Type} {te : TE} {σ : Sl} {F H : Hp} {p : Pth} {env : Env} {m : Mode} {k : D → M α} {P : Hp → Hp → Pth → Res α → Prop} {R : V → Hp → Prop} (w : Wp X.K W Γx σ P)
    (he : ∀ (σ : Sl) (F H : Hp) (p : Pth) (env : Env) (Q : V → Hp → Prop), SOk X.K Γ F H env σ p → PostO X.K W Γx Γ1 m F H p σ Q (f env) → te σ H Q)
    (s : SOk X.K Γ F H env σ p) (q : P F H p (Res.bind (f env) k))
    (hk : ∀ d e1 v F1 H1 p1 pv, Step F H p F1 H1 p1 → SOk X.K Γ1 F1 H1 e1 σ p1 → Rep X.K m F1 H1 d v pv → Fresh F H p F1 H1 p1 pv → P F1 H1 p1 (k d e1) → R v H1) : te σ H R := by
  refine he σ F H p env R s ?_
  cases hf : f env with
  | bad => rw [hf] at q; exact (w.bad q).elim
  | ex x e' => rw [hf] at q; exact w.ex q
  | ok d e' => rw [hf] at q; exact fun v F' H' p' pv st s' r fr => hk d e' v F' H' p' pv st s' r fr (w.step st q)
theorem tseq {α : Type} {te : TT} {σ : Sl} {F H : Hp} {p : Pth} {env : Env} {f : M Bool} {k : Bool → M α} {P : Hp → Hp → Pth → Res α → Prop} {R : Bool → Hp → Prop} (w : Wp X.K W Γx σ P)
    (he : ∀ (σ : Sl) (F H : Hp) (p : Pth) (env : Env) (Q : Bool → Hp → Prop), SOk X.K Γ F H env σ p → PostT X.K W Γx Γ1 F H p σ Q (f env) → te σ H Q)
    (s : SOk X.K Γ F H env σ p) (q : P F H p (Res.bind (f env) k))
    (hk : ∀ d e1 F1 H1 p1, Step F H p F1 H1 p1 → SOk X.K Γ1 F1 H1 e1 σ p1 → P F1 H1 p1 (k d e1) → R d H1) : te σ H R := by
  refine he σ F H p env R s ?_
  cases hf : f env with
  | bad => rw [hf] at q; exact (w.bad q).elim
  | ex x e' => rw [hf] at q; exact w.ex q
  | ok d e' => rw [hf] at q; exact fun F' H' p' st s' => hk d e' F' H' p' st s' (w.step st q)

/-! ### operators -/
def mBin (op : D → D → Option D) (f g : M D) : M D := fun e => (f e).bind fun x e1 => (g e1).bind fun y e2 => mOpt (op x y) e2
/-- an operation of two shared values that makes a value without an object: how r is met -/
def BinR (K : PySem.W.Frag) (r : R2) (o : D → D → Option D) : Prop :=
  ∀ (F H : Hp) (x y d : D) (v u : V) (Q : V → Hp → Prop), Same F H → RepZ K F x v → RepZ K F y u → o x y = some d → (∀ w, (∀ F, RepZ K F d w) → Q w H) → r v u H Q
def BinG (K : PySem.W.Frag) (r : R2) (o : D → D → Option D) : Prop :=
  ∀ (W : WX) (Γx Γ : List Mode) (F H : Hp) (p : Pth) (e : Env) (σ : Sl) (x y : D) (v u : V) (Q : V → Hp → Prop), SOk K Γ F H e σ p → RepZ K F x v → RepZ K F y u → PostZ K W Γx Γ F H p σ Q (mOpt (o x y) e) → r v u H Q
theorem BinR.gen {K : PySem.W.Frag} {r : R2} {o : D → D → Option D} (h : BinR K r o) : BinG K r o := by
  intro W Γx Γ F H p e σ x y v u Q k r1 r2 q
  cases hd : o x y with
  | none => rw [hd] at q; exact q.elim
  | some d =>
    rw [hd] at q
    exact h F H x y d v u Q k.same r1 r2 hd fun w hw => q w F H p .refl k (hw F)
/-- .. that makes a new object of its own -/
def BinO (K : PySem.W.Frag) (r : R2) (o : D → D → Option D) (m : Mode) : Prop :=
  ∀ (W : WX) (Γx Γ : List Mode) (F H : Hp) (p : Pth) (e : Env) (σ : Sl) (x y : D) (v u : V) (Q : V → Hp → Prop), SOk K Γ F H e σ p → RepZ K F x v → RepZ K F y u → PostO K W Γx Γ m F H p σ Q (mOpt (o x y) e) → r v u H Q
theorem mo_op {op : Operator} {r : R2} {o : D → D → Option D} {m : Mode} (ho : OpR X (binaryOp op) r) (hr : BinO X.K r o m)
    (ha : MZ X W Γx Γ a f Γ1) (hb : MZ X W Γx Γ1 b g Γ2) : MO X W Γx Γ (.BinOp a op b pos) (mBin o f g) m Γ2 := by
  obtain ⟨ta, pa, ha⟩ := ha
  obtain ⟨tb, pb, hb⟩ := hb
  refine ⟨_, pe_op ho pa pb, fun σ F H p env Q s q => ?_⟩
  show ta σ H fun x H1 => tb σ H1 fun y H2 => r x y H2 Q
  refine zseq wpO ha s q fun x e1 v F1 H1 p1 s1 k1 r1 q1 => zseq wpO hb k1 q1 fun y e2 u F2 H2 p2 s2 k2 r2 q2 => ?_
  exact hr W Γx Γ2 F2 H2 p2 e2 σ x y v u Q k2 (r1.mono s2.same) r2 q2
theorem mz_op {op : Operator} {r : R2} {o : D → D → Option D} (ho : OpR X (binaryOp op) r) (hr : BinG X.K r o)
    (ha : MZ X W Γx Γ a f Γ1) (hb : MZ X W Γx Γ1 b g Γ2) : MZ X W Γx Γ (.BinOp a op b pos) (mBin o f g) Γ2 := by
  obtain ⟨ta, pa, ha⟩ := ha
  obtain ⟨tb, pb, hb⟩ := hb
  refine ⟨_, pe_op ho pa pb, fun σ F H p env Q s q => ?_⟩
  show ta σ H fun x H1 => tb σ H1 fun y H2 => r x y H2 Q
  refine zseq wpZ ha s q fun x e1 v F1 H1 p1 s1 k1 r1 q1 => zseq wpZ hb k1 q1 fun y e2 u F2 H2 p2 s2 k2 r2 q2 => ?_
  exact hr W Γx Γ2 F2 H2 p2 e2 σ x y v u Q k2 (r1.mono s2.same) r2 q2
/-- a comparison -/
theorem mz_cmp {op : CmpOp} {r : R2} {o : D → D → Option D} (ho : OpR X (compareOp op) r) (hr : BinG X.K r o)
    (ha : MZ X W Γx Γ a f Γ1) (hb : MZ X W Γx Γ1 b g Γ2) (hm : behindInMarks op b = false := by first | exact nomark _ | rfl | with_unfolding_all rfl) : MZ X W Γx Γ (.Compare a [op] [b] pos) (mBin o f g) Γ2 := by
  obtain ⟨ta, pa, ha⟩ := ha
  obtain ⟨tb, pb, hb⟩ := hb
  refine ⟨_, pe_cmpR ho pa pb hm, fun σ F H p env Q s q => ?_⟩
  show ta σ H fun x H1 => tb σ H1 fun y H2 => r x y H2 Q
  refine zseq wpZ ha s q fun x e1 v F1 H1 p1 s1 k1 r1 q1 => zseq wpZ hb k1 q1 fun y e2 u F2 H2 p2 s2 k2 r2 q2 => ?_
  exact hr W Γx Γ2 F2 H2 p2 e2 σ x y v u Q k2 (r1.mono s2.same) r2 q2
def mTst (f : M D) : M Bool := fun e => (f e).bind fun d e' => match d with
  | .bl b => .ok b e'
  | _ => .bad
def mBTst (o : D → D → Option D) (f g : M D) : M Bool := mTst (mBin o f g)
theorem RepZ.bl_inv {K : PySem.W.Frag} {F : Hp} {b : Bool} {v : V} (r : RepZ K F (.bl b) v) : v = .bl b := by cases r; rfl
theorem RepZ.int_inv {K : PySem.W.Frag} {F : Hp} {b : Int} {v : V} (r : RepZ K F (.int b) v) : v = .int b := by cases r; rfl
theorem RepZ.str_inv {K : PySem.W.Frag} {F : Hp} {b : Str} {v : V} (r : RepZ K F (.str b) v) : v = .str b := by cases r; rfl
theorem RepZ.non_inv {K : PySem.W.Frag} {F : Hp} {v : V} (r : RepZ K F .non v) : v = .non := by cases r; rfl
/-- a value that is True or False, as a test -/
theorem mt_val (ha : MZ X W Γx Γ e f Γ') (he : ∀ whole, isTrue e X.env whole = (do let v ← whole; standAt e.pos; holding [v] (truthy v)) := by intro _; rfl) : MT X W Γx Γ e (mTst f) Γ' := by
  obtain ⟨ta, pa, ha⟩ := ha
  refine ⟨_, pt_val pa he, fun σ F H p env Q s q => ?_⟩
  show ta σ H fun x H1 => ∃ c, x = .bl c ∧ Q c H1
  refine zseq wpT ha s q fun x e1 v F1 H1 p1 s1 k1 r1 q1 => ?_
  cases x <;> try exact q1.elim
  rename_i b
  exact ⟨b, r1.bl_inv, q1 F1 H1 p1 .refl k1⟩
theorem mt_cmp {op : CmpOp} {r : R2} {o : D → D → Option D} (ho : OpR X (compareOp op) r) (hr : BinG X.K r o)
    (ha : MZ X W Γx Γ a f Γ1) (hb : MZ X W Γx Γ1 b g Γ2) (hm : behindInMarks op b = false := by first | exact nomark _ | rfl | with_unfolding_all rfl) : MT X W Γx Γ (.Compare a [op] [b] pos) (mBTst o f g) Γ2 := by
  obtain ⟨ta, pa, ha⟩ := ha
  obtain ⟨tb, pb, hb⟩ := hb
  refine ⟨_, pt_cmpR ho pa pb hm, fun σ F H p env Q s q => ?_⟩
  show ta σ H fun x H1 => tb σ H1 fun y H2 => r x y H2 fun z H3 => ∃ k, z = .bl k ∧ Q k H3
  have e0 : mBTst o f g env = (f env).bind fun x e1 => (g e1).bind fun y e2 => mTst (fun e => mOpt (o x y) e) e2 := by
    unfold mBTst mTst mBin
    cases f env with
    | bad => rfl
    | ex x e => rfl
    | ok d e => dsimp only [Res.bind]; cases g e <;> rfl
  rw [e0] at q
  refine zseq wpT ha s q fun x e1 v F1 H1 p1 s1 k1 r1 q1 => zseq wpT hb k1 q1 fun y e2 u F2 H2 p2 s2 k2 r2 q2 => ?_
  refine hr W Γx Γ2 F2 H2 p2 e2 σ x y v u _ k2 (r1.mono s2.same) r2 ?_
  unfold mTst at q2
  cases hd : o x y with
  | none => rw [hd] at q2; exact q2.elim
  | some d =>
    rw [hd] at q2
    intro w F3 H3 p3 s3 k3 r3
    cases d <;> try exact q2.elim
    rename_i b
    exact ⟨b, r3.bl_inv, q2 F3 H3 p3 s3 k3⟩

/-! ### whole numbers -/
def oI (g : Int → Int → D) : D → D → Option D
  | .int i, .int j => some (g i j)
  | _, _ => none
theorem oI_inv {g : Int → Int → D} {x y d : D} (h : oI g x y = some d) : ∃ i j, x = .int i ∧ y = .int j ∧ d = g i j := by
  cases x <;> cases y <;> simp [oI] at h
  exact ⟨_, _, rfl, rfl, h.symm⟩
theorem br_int {K : PySem.W.Frag} {g : Int → Int → Int} : BinG K (rI0 fun i j => .int (g i j)) (oI fun i j => .int (g i j)) := by
  apply BinR.gen; intro F H x y d v u Q _ r1 r2 h q
  obtain ⟨i, j, rfl, rfl, rfl⟩ := oI_inv h
  rw [r1.int_inv, r2.int_inv]
  exact ⟨i, j, rfl, rfl, q _ fun _ => .int _⟩
theorem br_cmp {K : PySem.W.Frag} {g : Int → Int → Bool} : BinG K (rI0 fun i j => .bl (g i j)) (oI fun i j => .bl (g i j)) := by
  apply BinR.gen; intro F H x y d v u Q _ r1 r2 h q
  obtain ⟨i, j, rfl, rfl, rfl⟩ := oI_inv h
  rw [r1.int_inv, r2.int_inv]
  exact ⟨i, j, rfl, rfl, q _ fun _ => .bl _⟩
def oIC (C : Int → Int → Bool) (g : Int → Int → D) : D → D → Option D
  | .int i, .int j => if C i j then some (g i j) else none
  | _, _ => none
theorem br_intC {K : PySem.W.Frag} {C : Int → Int → Prop} {c : Int → Int → Bool} {g : Int → Int → Int} (hc : ∀ i j, c i j = true → C i j) : BinG K (rI C fun i j => .int (g i j)) (oIC c fun i j => .int (g i j)) := by
  apply BinR.gen; intro F H x y d v u Q _ r1 r2 h q
  cases x <;> cases y <;> simp [oIC] at h
  obtain ⟨hcc, rfl⟩ := h
  rw [r1.int_inv, r2.int_inv]
  exact ⟨_, _, rfl, rfl, hc _ _ hcc, q _ fun _ => .int _⟩
abbrev oAdd := oI fun i j => .int (i + j)
abbrev oSub := oI fun i j => .int (i - j)
def cMul (i j : Int) : Bool := decide (-(2 ^ 64) < i ∧ i < 2 ^ 64) || decide (-(2 ^ 64) < j ∧ j < 2 ^ 64)
abbrev oMul := oIC cMul fun i j => .int (i * j)
def cMod (i j : Int) : Bool := decide (0 < j)
abbrev oMod := oIC cMod fun i j => .int (i % j)
def cDiv (i j : Int) : Bool := decide (0 < j ∧ j < 1073741824)
abbrev oDiv := oIC cDiv fun i j => .int (i / j)
def cPow (i j : Int) : Bool := decide (0 ≤ j ∧ j ≤ 1000000 ∧ i.natAbs < 2 ^ 64)
abbrev oPow := oIC cPow fun i j => .int (i ^ j.toNat)
theorem mz_add (ha : MZ X W Γx Γ a f Γ1) (hb : MZ X W Γx Γ1 b g Γ2) : MZ X W Γx Γ (.BinOp a .Add b pos) (mBin oAdd f g) Γ2 := mz_op op_add br_int ha hb
theorem mz_sub (ha : MZ X W Γx Γ a f Γ1) (hb : MZ X W Γx Γ1 b g Γ2) : MZ X W Γx Γ (.BinOp a .Sub b pos) (mBin oSub f g) Γ2 := mz_op op_sub br_int ha hb
theorem mz_mul (ha : MZ X W Γx Γ a f Γ1) (hb : MZ X W Γx Γ1 b g Γ2) : MZ X W Γx Γ (.BinOp a .Mult b pos) (mBin oMul f g) Γ2 :=
  mz_op op_mul (br_intC fun i j h => by simpa [cMul, CMul] using h) ha hb
theorem mz_mod (ha : MZ X W Γx Γ a f Γ1) (hb : MZ X W Γx Γ1 b g Γ2) : MZ X W Γx Γ (.BinOp a .Mod b pos) (mBin oMod f g) Γ2 :=
  mz_op op_mod (br_intC fun i j h => by simpa [cMod] using h) ha hb
theorem mz_fdiv (ha : MZ X W Γx Γ a f Γ1) (hb : MZ X W Γx Γ1 b g Γ2) : MZ X W Γx Γ (.BinOp a .FloorDiv b pos) (mBin oDiv f g) Γ2 :=
  mz_op op_fdiv (br_intC fun i j h => by simpa [cDiv, CDiv] using h) ha hb
theorem mz_pow (ha : MZ X W Γx Γ a f Γ1) (hb : MZ X W Γx Γ1 b g Γ2) : MZ X W Γx Γ (.BinOp a .Pow b pos) (mBin oPow f g) Γ2 :=
  mz_op op_pow (br_intC fun i j h => by simpa [cPow, CPow] using h) ha hb
abbrev oLt := oI fun i j => .bl (decide (i < j))
abbrev oLe := oI fun i j => .bl (decide (i ≤ j))
abbrev oGt := oI fun i j => .bl (decide (j < i))
abbrev oGe := oI fun i j => .bl (decide (j ≤ i))
theorem mt_lt (ha : MZ X W Γx Γ a f Γ1) (hb : MZ X W Γx Γ1 b g Γ2) : MT X W Γx Γ (.Compare a [.Lt] [b] pos) (mBTst oLt f g) Γ2 := mt_cmp op_lt br_cmp ha hb
theorem mt_le (ha : MZ X W Γx Γ a f Γ1) (hb : MZ X W Γx Γ1 b g Γ2) : MT X W Γx Γ (.Compare a [.LtE] [b] pos) (mBTst oLe f g) Γ2 := mt_cmp op_le br_cmp ha hb
theorem mt_gt (ha : MZ X W Γx Γ a f Γ1) (hb : MZ X W Γx Γ1 b g Γ2) : MT X W Γx Γ (.Compare a [.Gt] [b] pos) (mBTst oGt f g) Γ2 := mt_cmp op_gt br_cmp ha hb
theorem mt_ge (ha : MZ X W Γx Γ a f Γ1) (hb : MZ X W Γx Γ1 b g Γ2) : MT X W Γx Γ (.Compare a [.GtE] [b] pos) (mBTst oGe f g) Γ2 := mt_cmp op_ge br_cmp ha hb
theorem mz_lt (ha : MZ X W Γx Γ a f Γ1) (hb : MZ X W Γx Γ1 b g Γ2) : MZ X W Γx Γ (.Compare a [.Lt] [b] pos) (mBin oLt f g) Γ2 := mz_cmp op_lt br_cmp ha hb
theorem mz_le (ha : MZ X W Γx Γ a f Γ1) (hb : MZ X W Γx Γ1 b g Γ2) : MZ X W Γx Γ (.Compare a [.LtE] [b] pos) (mBin oLe f g) Γ2 := mz_cmp op_le br_cmp ha hb
theorem mz_gt (ha : MZ X W Γx Γ a f Γ1) (hb : MZ X W Γx Γ1 b g Γ2) : MZ X W Γx Γ (.Compare a [.Gt] [b] pos) (mBin oGt f g) Γ2 := mz_cmp op_gt br_cmp ha hb
theorem mz_ge (ha : MZ X W Γx Γ a f Γ1) (hb : MZ X W Γx Γ1 b g Γ2) : MZ X W Γx Γ (.Compare a [.GtE] [b] pos) (mBin oGe f g) Γ2 := mz_cmp op_ge br_cmp ha hb
end
end VM
/-! VM, part 3: displays, subscripts, built-ins. -/
namespace VM
open PySem PySem.Spec PyProof.Rows L2

/-! ### a new object -/
section
variable {K : PySem.W.Frag} {Γ : List Mode} {F H : Hp} {env : Env} {σ : Sl} {p : Pth} {a : Addr} {o : HO}
theorem SOk.newZ (s : SOk K Γ F H env σ p) (ha : H a = none) : SOk K Γ (upd F a o) (upd H a o) env σ p := by
  have hF : F a = none := Same.not s.same ha
  have hs : Same F (upd F a o) := fun b u h => by rw [upd_ne (ne_of_none h hF)]; exact h
  have hp : ∀ q b, p q = some b → b ≠ a := fun q b hq e => (s.off q b hq).2 (e ▸ ha)
  refine ⟨fun b u h => ?_, s.inj, fun q b hq => ?_, s.len, fun i m d hm hd => ?_⟩
  · by_cases e : b = a
    · subst e; rw [upd_same] at h ⊢; exact h
    · rw [upd_ne e] at h ⊢; exact s.same b u h
  · rw [upd_ne (hp q b hq), upd_ne (hp q b hq)]; exact s.off q b hq
  · rcases s.slot i m d hm hd with z | ⟨v, h1, h2⟩
    · exact .inl z
    · exact .inr ⟨v, h1, Rep.frame m h2 hs fun q b u hq hu => by rw [upd_ne (hp _ b hq)]; exact hu⟩
theorem SOk.newO (s : SOk K Γ F H env σ p) (ha : H a = none) : SOk K Γ F (upd H a o) env σ p := by
  have hp : ∀ q b, p q = some b → b ≠ a := fun q b hq e => (s.off q b hq).2 (e ▸ ha)
  refine ⟨fun b u h => ?_, s.inj, fun q b hq => ?_, s.len, fun i m d hm hd => ?_⟩
  · rw [upd_ne (ne_of_none (s.same b u h) ha)]; exact s.same b u h
  · rw [upd_ne (hp q b hq)]; exact s.off q b hq
  · rcases s.slot i m d hm hd with z | ⟨v, h1, h2⟩
    · exact .inl z
    · exact .inr ⟨v, h1, Rep.frame m h2 (fun _ _ z => z) fun q b u hq hu => by rw [upd_ne (hp _ b hq)]; exact hu⟩
theorem Step.newZ (ha : H a = none) (hs : Same F H) : Step F H p (upd F a o) (upd H a o) p := by
  have hF : F a = none := Same.not hs ha
  refine ⟨fun b u h => by rw [upd_ne (ne_of_none h hF)]; exact h, fun b u h _ => by rw [upd_ne (ne_of_none h ha)]; exact h, fun q b h => .inl ⟨q, h⟩, fun b h => ?_⟩
  by_cases e : b = a
  · subst e; exact .inr (.inr ha)
  · rw [upd_ne e] at h; exact .inl h
theorem Step.newO (ha : H a = none) : Step F H p F (upd H a o) p :=
  ⟨fun b u h => h, fun b u h _ => by rw [upd_ne (ne_of_none h ha)]; exact h, fun q b h => .inl ⟨q, h⟩, fun b h => .inl h⟩
def rootP (a : Addr) : Pth := fun q => if q = [] then some a else none
theorem rootP_inv {a b : Addr} {q : List Nat} (h : rootP a q = some b) : q = [] ∧ b = a := by
  unfold rootP at h
  split at h
  · rename_i e; exact ⟨e, (Option.some.inj h).symm⟩
  · cases h
theorem Fresh.root (s : SOk K Γ F H env σ p) (ha : H a = none) : Fresh F H p F (upd H a o) p (rootP a) := by
  refine ⟨fun q q' b h h' => ?_, fun q q' b h h' => ?_, fun q b h => ?_, fun q b h => ?_⟩
  · rw [(rootP_inv h).1, (rootP_inv h').1]
  · exact (s.off _ _ h').2 ((rootP_inv h).2 ▸ ha)
  · rw [(rootP_inv h).2]; exact ⟨Same.not s.same ha, by rw [upd_same]; simp⟩
  · rw [(rootP_inv h).2]; exact .inr ha
end

/-! ### lists of shared values -/
def RepZs (K : PySem.W.Frag) (F : Hp) (ds : List D) (vs : List V) : Prop := ds.length = vs.length ∧ ∀ (j : Nat) (d : D) (v : V), ds[j]? = some d → vs[j]? = some v → RepZ K F d v
section
variable {K : PySem.W.Frag} {F F' : Hp}
theorem RepZs.nil : RepZs K F [] [] := ⟨rfl, fun j d v h _ => by simp at h⟩
theorem RepZs.cons {d : D} {v : V} {ds : List D} {vs : List V} (h : RepZ K F d v) (t : RepZs K F ds vs) : RepZs K F (d :: ds) (v :: vs) := by
  refine ⟨by simp [t.1], fun j d' v' h1 h2 => ?_⟩
  cases j with
  | zero => simp at h1 h2; subst h1; subst h2; exact h
  | succ j => exact t.2 j d' v' (by simpa using h1) (by simpa using h2)
theorem RepZs.mono {ds : List D} {vs : List V} (t : RepZs K F ds vs) (s : Same F F') : RepZs K F' ds vs := ⟨t.1, fun j d v h1 h2 => (t.2 j d v h1 h2).mono s⟩
theorem RepZs.inv {d : D} {ds : List D} {vs : List V} (t : RepZs K F (d :: ds) vs) : ∃ v r, vs = v :: r ∧ RepZ K F d v ∧ RepZs K F ds r := by
  cases vs with
  | nil => have := t.1; simp at this
  | cons v r => exact ⟨v, r, rfl, t.2 0 d v rfl rfl, by simpa using t.1, fun j d' v' h1 h2 => t.2 (j + 1) d' v' (by simpa using h1) (by simpa using h2)⟩
theorem RepZs.inv0 {vs : List V} (t : RepZs K F [] vs) : vs = [] := by cases vs with | nil => rfl | cons _ _ => have := t.1; simp at this
theorem RepZs.get {ds : List D} {vs : List V} (t : RepZs K F ds vs) {j : Nat} {d : D} (h : ds[j]? = some d) : ∃ v, vs[j]? = some v ∧ RepZ K F d v := by
  have hl := (List.getElem?_eq_some_iff.mp h).1
  have hv : j < vs.length := t.1 ▸ hl
  exact ⟨vs[j], List.getElem?_eq_getElem hv, t.2 j d _ h (List.getElem?_eq_getElem hv)⟩
theorem RepZs.of : ∀ {ds : List D} {vs : List V}, ds.length = vs.length → (∀ (j : Nat) (d : D) (v : V), ds[j]? = some d → vs[j]? = some v → RepZ K F d v) → RepZs K F ds vs := fun h k => ⟨h, k⟩
theorem RepZs.append {ds es : List D} {vs us : List V} (t : RepZs K F ds vs) (t' : RepZs K F es us) : RepZs K F (ds ++ es) (vs ++ us) := by
  refine ⟨by simp [t.1, t'.1], fun j d v h1 h2 => ?_⟩
  by_cases e : j < ds.length
  · rw [List.getElem?_append_left e] at h1
    rw [List.getElem?_append_left (t.1 ▸ e)] at h2
    exact t.2 j d v h1 h2
  · rw [List.getElem?_append_right (Nat.le_of_not_lt e)] at h1
    rw [List.getElem?_append_right (by rw [← t.1]; exact Nat.le_of_not_lt e), ← t.1] at h2
    exact t'.2 _ d v h1 h2
theorem RepZs.drop {ds : List D} {vs : List V} (t : RepZs K F ds vs) (n : Nat) : RepZs K F (ds.drop n) (vs.drop n) :=
  ⟨by simp [t.1], fun j d v h1 h2 => t.2 (n + j) d v (by rw [List.getElem?_drop] at h1; exact h1) (by rw [List.getElem?_drop] at h2; exact h2)⟩
theorem RepZs.take {ds : List D} {vs : List V} (t : RepZs K F ds vs) (n : Nat) : RepZs K F (ds.take n) (vs.take n) := by
  refine ⟨by simp [t.1], fun j d v h1 h2 => ?_⟩
  have hj := (List.getElem?_eq_some_iff.mp h1).1
  rw [List.length_take] at hj
  have : j < n := by omega
  rw [List.getElem?_take_of_lt this] at h1 h2
  exact t.2 j d v h1 h2
theorem RepZ.tup' {a : Addr} {ds : List D} {vs : List V} (h : F a = some (.tup vs)) (t : RepZs K F ds vs) : RepZ K F (.tup ds) (.ref a) := .tup h t.1 t.2
theorem RepZ.lst' {a : Addr} {ds : List D} {vs : List V} (h : F a = some (.lst vs)) (t : RepZs K F ds vs) : RepZ K F (.lst ds) (.ref a) := .lst h t.1 t.2
theorem RepZ.tup_inv {ds : List D} {v : V} (h : RepZ K F (.tup ds) v) : ∃ a vs, v = .ref a ∧ F a = some (.tup vs) ∧ RepZs K F ds vs := by cases h with | tup h1 h2 h3 => exact ⟨_, _, rfl, h1, h2, h3⟩
theorem RepZ.lst_inv {ds : List D} {v : V} (h : RepZ K F (.lst ds) v) : ∃ a vs, v = .ref a ∧ F a = some (.lst vs) ∧ RepZs K F ds vs := by cases h with | lst h1 h2 h3 => exact ⟨_, _, rfl, h1, h2, h3⟩
theorem RepZ.ktp_inv {ds : List D} {v : V} (h : RepZ K F (.ktp ds) v) : ∃ a vs, v = .ref a ∧ SqT K F a vs ∧ RepZs K F ds vs := by cases h with | ktp h1 h2 h3 => exact ⟨_, _, rfl, h1, h2, h3⟩
theorem RepZ.scr_inv {ds : List D} {v : V} (h : RepZ K F (.scr ds) v) : ∃ a vs, v = .ref a ∧ SqL K F a vs ∧ RepZs K F ds vs := by cases h with | scr h1 h2 h3 => exact ⟨_, _, rfl, h1, h2, h3⟩
end
/-- arguments, items -/
def PostL (K : PySem.W.Frag) (W : WX) (Γx Γ' : List Mode) (F H : Hp) (p : Pth) (σ : Sl) (Q : List V → Hp → Prop) : Res (List D) → Prop
  | .ok ds e' => ∀ (vs : List V) (F' H' : Hp) (p' : Pth), Step F H p F' H' p' → SOk K Γ' F' H' e' σ p' → RepZs K F' ds vs → Q vs H'
  | .ex x e' => PostX K W Γx F H p σ x e'
  | .bad => False
theorem PostL.step {K : PySem.W.Frag} {W : WX} {Γx Γ' : List Mode} {F H F1 H1 : Hp} {p p1 : Pth} {σ : Sl} {Q : List V → Hp → Prop} {r : Res (List D)} (s : Step F H p F1 H1 p1) (h : PostL K W Γx Γ' F H p σ Q r) : PostL K W Γx Γ' F1 H1 p1 σ Q r := by
  cases r with
  | ok d e => exact fun v F' H' p' s' k r => h v F' H' p' (s.trans s') k r
  | ex x e => exact PostX.step s h
  | bad => exact h
theorem wpL {K : PySem.W.Frag} {W : WX} {Γx Γ' : List Mode} {σ : Sl} {Q : List V → Hp → Prop} : Wp K W Γx σ (fun F H p r => PostL K W Γx Γ' F H p σ Q r) := ⟨PostL.step, fun h => h, fun h => h⟩
def ML (X : Cx) (W : WX) (Γx Γ : List Mode) (es : List Expr) (f : M (List D)) (Γ' : List Mode) : Prop :=
  ∃ t, PA X es t ∧ ∀ (σ : Sl) (F H : Hp) (p : Pth) (env : Env) (Q : List V → Hp → Prop), SOk X.K Γ F H env σ p → PostL X.K W Γx Γ' F H p σ Q (f env) → t σ H Q
def mNil : M (List D) := fun e => .ok [] e
def mCons (f : M D) (g : M (List D)) : M (List D) := fun e => (f e).bind fun d e1 => (g e1).bind fun ds e2 => .ok (d :: ds) e2
section
variable {X : Cx} {W : WX} {Γx Γ Γ1 Γ2 Γ3 Γ' : List Mode} {a b c e : Expr} {es : List Expr} {f g h : M D} {fs : M (List D)} {pos : Pos}
theorem ml_nil : ML X W Γx Γ [] mNil Γ := ⟨_, pa_nil, fun σ F H p env Q s q => q [] F H p .refl s .nil⟩
theorem lseq {α : Type} {te : TA} {σ : Sl} {F H : Hp} {p : Pth} {env : Env} {k : List D → M α} {P : Hp → Hp → Pth → Res α → Prop} {R : List V → Hp → Prop} (w : Wp X.K W Γx σ P)
    (he : ∀ (σ : Sl) (F H : Hp) (p : Pth) (env : Env) (Q : List V → Hp → Prop), SOk X.K Γ F H env σ p → PostL X.K W Γx Γ1 F H p σ Q (fs env) → te σ H Q)
    (s : SOk X.K Γ F H env σ p) (q : P F H p (Res.bind (fs env) k))
    (hk : ∀ ds e1 vs F1 H1 p1, Step F H p F1 H1 p1 → SOk X.K Γ1 F1 H1 e1 σ p1 → RepZs X.K F1 ds vs → P F1 H1 p1 (k ds e1) → R vs H1) : te σ H R := by
  refine he σ F H p env R s ?_
  cases hf : fs env with
  | bad => rw [hf] at q; exact (w.bad q).elim
  | ex x e' => rw [hf] at q; exact w.ex q
  | ok d e' => rw [hf] at q; exact fun v F' H' p' st s' r => hk d e' v F' H' p' st s' r (w.step st q)
theorem ml_cons (ha : MZ X W Γx Γ e f Γ1) (hr : ML X W Γx Γ1 es fs Γ2) (hs : starEach (e :: es) X.env = (false, eval e X.env) :: starEach es X.env := by rfl) : ML X W Γx Γ (e :: es) (mCons f fs) Γ2 := by
  obtain ⟨ta, pa, ha⟩ := ha
  obtain ⟨tr, pr, hr⟩ := hr
  refine ⟨_, pa_cons pa pr hs, fun σ F H p env Q s q => ?_⟩
  show ta σ H fun x H1 => tr σ H1 fun xs H2 => Q (x :: xs) H2
  refine zseq wpL ha s q fun x e1 v F1 H1 p1 s1 k1 r1 q1 => lseq wpL hr k1 q1 fun ds e2 vs F2 H2 p2 s2 k2 r2 q2 => ?_
  exact q2 _ F2 H2 p2 .refl k2 (.cons (r1.mono s2.same) r2)
/-- (a, b, ..) -/
def mTup (fs : M (List D)) : M D := fun e => (fs e).bind fun ds e1 => if ds.length ≤ sizeLine then .ok (.tup ds) e1 else .bad
def mLst (fs : M (List D)) : M D := fun e => (fs e).bind fun ds e1 => if ds.length ≤ sizeLine then .ok (.lst ds) e1 else .bad
theorem mz_tup {x1} (h : ML X W Γx Γ es fs Γ') : MZ X W Γx Γ (.Tuple es x1 pos) (mTup fs) Γ' := by
  obtain ⟨t, pt, h⟩ := h
  refine ⟨_, pe_tup pt, fun σ F H p env Q s q => ?_⟩
  show t σ H fun xs H1 => xs.length ≤ sizeLine ∧ ∀ p, H1 p = none → Q (.ref p) (upd H1 p (.tup xs))
  refine lseq wpZ h s q fun ds e1 vs F1 H1 p1 s1 k1 r1 q1 => ?_
  split at q1
  · rename_i hl
    refine ⟨r1.1 ▸ hl, fun a ha => q1 _ _ _ p1 (Step.newZ ha k1.same) (k1.newZ ha) (.tup' upd_same (r1.mono fun b u h => ?_))⟩
    rw [upd_ne (ne_of_none (k1.same _ _ h) ha)]; exact h
  · exact q1.elim
theorem rep_root {K : PySem.W.Frag} {F H : Hp} {ds : List D} {vs : List V} {a : Addr} (r : RepZs K F ds vs) : Rep K (.lst .fz) F (upd H a (.lst vs)) (.lst ds) (.ref a) (rootP a) :=
  ⟨a, ds, vs, rfl, rfl, rfl, upd_same, r.1, r.2⟩
theorem mo_lst (h : ML X W Γx Γ es fs Γ') : MO X W Γx Γ (.List es pos) (mLst fs) (.lst .fz) Γ' := by
  obtain ⟨t, pt, h⟩ := h
  refine ⟨_, pe_lst pt, fun σ F H p env Q s q => ?_⟩
  show t σ H fun xs H1 => xs.length ≤ sizeLine ∧ ∀ p, H1 p = none → Q (.ref p) (upd H1 p (.lst xs))
  refine lseq wpO h s q fun ds e1 vs F1 H1 p1 s1 k1 r1 q1 => ?_
  split at q1
  · rename_i hl
    exact ⟨r1.1 ▸ hl, fun a ha => q1 _ _ _ p1 _ (Step.newO ha) (k1.newO ha) (rep_root r1) (.root k1 ha)⟩
  · exact q1.elim
end
end VM
/-! VM, part 4: equality, in, is, isinstance, len, subscripts, the tests. -/
namespace VM
open PySem PySem.Spec PyProof.Rows L2

/-! ### plain data -/
mutual
def D.py : D → PyData
  | .non => .none
  | .bl b => .bool b
  | .int i => .int i
  | .str x => .str x
  | .tup xs => .tuple (D.pys xs)
  | .lst xs => .list (D.pys xs)
  | .ktp xs => .tuple (D.pys xs)
  | _ => .none
def D.pys : List D → List PyData
  | [] => []
  | x :: xs => D.py x :: D.pys xs
end
/-- data of at most n levels -/
def D.lv : Nat → D → Bool
  | _, .non => true
  | _, .bl _ => true
  | _, .int _ => true
  | _, .str x => PyData.strOk x
  | n + 1, .tup xs => xs.all (D.lv n)
  | n + 1, .lst xs => xs.all (D.lv n)
  | n + 1, .ktp xs => xs.all (D.lv n)
  | _, _ => false
theorem pys_map : ∀ xs : List D, D.pys xs = xs.map D.py
  | [] => by simp [D.pys]
  | x :: xs => by simp [D.pys, pys_map xs]
section
variable {K : PySem.W.Frag} {F : Hp}
theorem dpAll_of {n : Nat} (ih : ∀ (d : D) (v : V), d.lv n = true → RepZ K F d v → Dp K F v d.py) : ∀ (ds : List D) (vs : List V), ds.all (D.lv n) = true → RepZs K F ds vs → DpAll K F vs (D.pys ds)
  | [], vs, _, r => by rw [r.inv0]; simp only [D.pys]; exact .nil
  | d :: ds, vs, h, r => by
    obtain ⟨v, us, rfl, r1, r2⟩ := r.inv
    rw [List.all_cons, Bool.and_eq_true] at h
    simp only [D.pys]
    exact .cons (ih d v h.1 r1) (dpAll_of ih ds us h.2 r2)
theorem dp_of : ∀ (n : Nat) (d : D) (v : V), d.lv n = true → RepZ K F d v → Dp K F v d.py := by
  intro n
  induction n with
  | zero =>
    intro d v h r
    cases d <;> simp [D.lv] at h <;> simp only [D.py]
    · rw [r.non_inv]; exact .non
    · rw [r.bl_inv]; exact .bl _
    · rw [r.int_inv]; exact .int _
    · rw [r.str_inv]; exact .str _
  | succ n ih =>
    intro d v h r
    cases d <;> simp only [D.lv, Bool.false_eq_true] at h <;> simp only [D.py]
    · rw [r.non_inv]; exact .non
    · rw [r.bl_inv]; exact .bl _
    · rw [r.int_inv]; exact .int _
    · rw [r.str_inv]; exact .str _
    · obtain ⟨a, vs, rfl, h1, r1⟩ := r.tup_inv
      exact .tup (SqT.of h1) (dpAll_of ih _ _ h r1)
    · obtain ⟨a, vs, rfl, h1, r1⟩ := r.lst_inv
      exact .lst (SqL.of h1) (dpAll_of ih _ _ h r1)
    · obtain ⟨a, vs, rfl, h1, r1⟩ := r.ktp_inv
      exact .tup h1 (dpAll_of ih _ _ h r1)
end
theorem lay_all {n : Nat} (ih : ∀ d : D, d.lv n = true → d.py.canLay0 = true ∧ d.py.depth ≤ n) : ∀ ds : List D, ds.all (D.lv n) = true → PyData.canLayAll0 (D.pys ds) = true ∧ PyData.depthAll (D.pys ds) ≤ n
  | [], _ => by simp [D.pys, PyData.canLayAll0, PyData.depthAll]
  | d :: ds, h => by
    rw [List.all_cons, Bool.and_eq_true] at h
    have h1 := ih d h.1
    have h2 := lay_all ih ds h.2
    simp only [D.pys, PyData.canLayAll0, PyData.depthAll, h1.1, h2.1, Bool.and_self, true_and]
    omega
theorem lay_of : ∀ (n : Nat) (d : D), d.lv n = true → d.py.canLay0 = true ∧ d.py.depth ≤ n := by
  intro n
  induction n with
  | zero =>
    intro d h
    cases d <;> simp [D.lv] at h <;> simp [D.py, PyData.canLay0, PyData.depth]
    exact h
  | succ n ih =>
    intro d h
    cases d <;> simp only [D.lv, Bool.false_eq_true] at h <;> simp only [D.py, PyData.canLay0, PyData.depth]
    · simp
    · simp
    · simp
    · exact ⟨h, by omega⟩
    · have := lay_all ih _ h; exact ⟨this.1, by omega⟩
    · have := lay_all ih _ h; exact ⟨this.1, by omega⟩
    · have := lay_all ih _ h; exact ⟨this.1, by omega⟩
theorem shaped_lv {d : D} (h : d.lv 16 = true) : SeqAt.shaped d.py = true := by
  have := lay_of 16 d h
  show (d.py.canLay0 && decide (d.py.depth ≤ 64)) = true
  rw [this.1, Bool.true_and]
  exact decide_eq_true (by omega)
def D.eqv (a b : D) : Bool := PyData.eqv a.py b.py
/-- == -/
def oEq (x y : D) : Option D := if x.lv 16 && y.lv 16 then some (.bl (D.eqv x y)) else none
def oNe (x y : D) : Option D := if x.lv 16 && y.lv 16 then some (.bl (!D.eqv x y)) else none
section
variable {K : PySem.W.Frag}
theorem bg_eq : BinG K (rEqD K) oEq := by
  intro W Γx Γ F H p e σ x y v u Q k r1 r2 q
  unfold oEq at q
  split at q
  · rename_i h
    rw [Bool.and_eq_true] at h
    exact ⟨x.py, y.py, dp_of 16 x v h.1 (r1.mono k.same), dp_of 16 y u h.2 (r2.mono k.same), shaped_lv h.1, shaped_lv h.2, q _ F H p .refl k (.bl _)⟩
  · exact q.elim
theorem bg_ne : BinG K (rNeD K) oNe := by
  intro W Γx Γ F H p e σ x y v u Q k r1 r2 q
  unfold oNe at q
  split at q
  · rename_i h
    rw [Bool.and_eq_true] at h
    exact ⟨x.py, y.py, dp_of 16 x v h.1 (r1.mono k.same), dp_of 16 y u h.2 (r2.mono k.same), shaped_lv h.1, shaped_lv h.2, q _ F H p .refl k (.bl _)⟩
  · exact q.elim
/-- x in a list of data -/
def oIn (neg : Bool) (x : D) : D → Option D
  | .lst ys => if x.lv 15 && ys.all (D.lv 15) then some (.bl (if neg then !(ys.any fun z => D.eqv z x) else ys.any fun z => D.eqv z x)) else none
  | _ => none
theorem lv_mono : ∀ (n m : Nat) (d : D), n ≤ m → d.lv n = true → d.lv m = true := by
  intro n
  induction n with
  | zero => intro m d _ h; cases m <;> cases d <;> simp_all [D.lv]
  | succ n ih =>
    intro m d hm h
    cases m with
    | zero => omega
    | succ m =>
      cases d <;> simp only [D.lv, Bool.false_eq_true] at h ⊢ <;> try exact h
      all_goals
        rw [List.all_eq_true] at h ⊢
        exact fun x hx => ih m x (by omega) (h x hx)
theorem any_pys (x : D) : ∀ ys : List D, ((D.pys ys).any fun z => PyData.eqv z x.py) = ys.any fun z => D.eqv z x
  | [] => by simp [D.pys]
  | y :: ys => by simp only [D.pys, List.any_cons, any_pys x ys]; rfl
theorem bg_in : BinG K (rInD K) (oIn false) := by
  intro W Γx Γ F H p e σ x y v u Q k r1 r2 q
  cases y <;> try exact q.elim
  rename_i ys
  simp only [oIn, if_true, Bool.false_eq_true, if_false] at q
  split at q
  · rename_i h
    rw [Bool.and_eq_true] at h
    have hy : (D.lst ys).lv 16 = true := h.2
    have hx := lv_mono 15 16 x (by decide) h.1
    refine ⟨x.py, D.pys ys, dp_of 16 x v hx (r1.mono k.same), ?_, shaped_lv hx, ?_, ?_⟩
    · have := dp_of 16 _ u hy (r2.mono k.same); simpa only [D.py] using this
    · have := shaped_lv hy; simpa only [D.py] using this
    · rw [any_pys]; exact q _ F H p .refl k (.bl _)
  · exact q.elim
theorem bg_notIn : BinG K (rNotInD K) (oIn true) := by
  intro W Γx Γ F H p e σ x y v u Q k r1 r2 q
  cases y <;> try exact q.elim
  rename_i ys
  simp only [oIn, if_true, Bool.false_eq_true, if_false] at q
  split at q
  · rename_i h
    rw [Bool.and_eq_true] at h
    have hy : (D.lst ys).lv 16 = true := h.2
    have hx := lv_mono 15 16 x (by decide) h.1
    refine ⟨x.py, D.pys ys, dp_of 16 x v hx (r1.mono k.same), ?_, shaped_lv hx, ?_, ?_⟩
    · have := dp_of 16 _ u hy (r2.mono k.same); simpa only [D.py] using this
    · have := shaped_lv hy; simpa only [D.py] using this
    · rw [any_pys]; exact q _ F H p .refl k (.bl _)
  · exact q.elim
/-- is None, is True -/
def D.isNon : D → Bool
  | .non => true
  | _ => false
def oIs : D → D → Option D
  | x, .non => some (.bl x.isNon)
  | .bl a, .bl b => some (.bl (decide (a = b)))
  | _, _ => none
def oIsNot : D → D → Option D
  | x, .non => some (.bl (!x.isNon))
  | .bl a, .bl b => some (.bl (!decide (a = b)))
  | _, _ => none
def rIs2 : R2 := fun x y H Q => (y = .non ∧ Q (.bl (decide (x = .non))) H) ∨ rIsB x y H Q
def rIsNot2 : R2 := fun x y H Q => (y = .non ∧ Q (.bl (!decide (x = .non))) H) ∨ rNotB x y H Q
theorem op_is2 {X : Cx} : OpR X (compareOp .Is) rIs2 := OpR.or op_isN op_isBl
theorem op_isNot2 {X : Cx} : OpR X (compareOp .IsNot) rIsNot2 := OpR.or op_notN op_notBl
theorem non_iff {F : Hp} {d : D} {v : V} (r : RepZ K F d v) : decide (v = .non) = d.isNon := by
  cases r <;> simp [D.isNon]
theorem bg_is : BinG K rIs2 oIs := by
  intro W Γx Γ F H p e σ x y v u Q k r1 r2 q
  cases y with
  | non =>
    rw [r2.non_inv]
    refine .inl ⟨rfl, ?_⟩
    rw [non_iff r1]
    exact q _ F H p .refl k (.bl _)
  | bl b =>
    cases x <;> try exact q.elim
    rw [r1.bl_inv, r2.bl_inv]
    exact .inr ⟨_, _, rfl, rfl, q _ F H p .refl k (.bl _)⟩
  | _ => cases x <;> simp only [oIs, oIsNot, mOpt] at q <;> exact q.elim
theorem bg_isNot : BinG K rIsNot2 oIsNot := by
  intro W Γx Γ F H p e σ x y v u Q k r1 r2 q
  cases y with
  | non =>
    rw [r2.non_inv]
    refine .inl ⟨rfl, ?_⟩
    rw [non_iff r1]
    exact q _ F H p .refl k (.bl _)
  | bl b =>
    cases x <;> try exact q.elim
    rw [r1.bl_inv, r2.bl_inv]
    exact .inr ⟨_, _, rfl, rfl, q _ F H p .refl k (.bl _)⟩
  | _ => cases x <;> simp only [oIs, oIsNot, mOpt] at q <;> exact q.elim
end
section
variable {X : Cx} {W : WX} {Γx Γ Γ1 Γ2 Γ3 Γ' : List Mode} {a b c e : Expr} {f g h : M D} {pos : Pos} {k : Nat}
theorem mt_eq (hr : Room k X.A) (ha : MZ X W Γx Γ a f Γ1) (hb : MZ X W Γx Γ1 b g Γ2) : MT X W Γx Γ (.Compare a [.Eq] [b] pos) (mBTst oEq f g) Γ2 := mt_cmp (op_eqD hr.units) bg_eq ha hb
theorem mt_ne (hr : Room k X.A) (ha : MZ X W Γx Γ a f Γ1) (hb : MZ X W Γx Γ1 b g Γ2) : MT X W Γx Γ (.Compare a [.NotEq] [b] pos) (mBTst oNe f g) Γ2 := mt_cmp (op_neD hr.units) bg_ne ha hb
theorem mz_eq (hr : Room k X.A) (ha : MZ X W Γx Γ a f Γ1) (hb : MZ X W Γx Γ1 b g Γ2) : MZ X W Γx Γ (.Compare a [.Eq] [b] pos) (mBin oEq f g) Γ2 := mz_cmp (op_eqD hr.units) bg_eq ha hb
theorem mz_ne (hr : Room k X.A) (ha : MZ X W Γx Γ a f Γ1) (hb : MZ X W Γx Γ1 b g Γ2) : MZ X W Γx Γ (.Compare a [.NotEq] [b] pos) (mBin oNe f g) Γ2 := mz_cmp (op_neD hr.units) bg_ne ha hb
theorem mt_is (ha : MZ X W Γx Γ a f Γ1) (hb : MZ X W Γx Γ1 b g Γ2) : MT X W Γx Γ (.Compare a [.Is] [b] pos) (mBTst oIs f g) Γ2 := mt_cmp op_is2 bg_is ha hb
theorem mt_isNot (ha : MZ X W Γx Γ a f Γ1) (hb : MZ X W Γx Γ1 b g Γ2) : MT X W Γx Γ (.Compare a [.IsNot] [b] pos) (mBTst oIsNot f g) Γ2 := mt_cmp op_isNot2 bg_isNot ha hb
theorem mz_is (ha : MZ X W Γx Γ a f Γ1) (hb : MZ X W Γx Γ1 b g Γ2) : MZ X W Γx Γ (.Compare a [.Is] [b] pos) (mBin oIs f g) Γ2 := mz_cmp op_is2 bg_is ha hb
theorem mz_isNot (ha : MZ X W Γx Γ a f Γ1) (hb : MZ X W Γx Γ1 b g Γ2) : MZ X W Γx Γ (.Compare a [.IsNot] [b] pos) (mBin oIsNot f g) Γ2 := mz_cmp op_isNot2 bg_isNot ha hb

/-! ### tests joined -/
def mAnd (f g : M Bool) : M Bool := fun e => (f e).bind fun b e1 => if b then g e1 else .ok false e1
def mOr (f g : M Bool) : M Bool := fun e => (f e).bind fun b e1 => if b then .ok true e1 else g e1
def mNot (f : M Bool) : M Bool := fun e => (f e).bind fun b e1 => .ok (!b) e1
def mBl (f : M Bool) : M D := fun e => (f e).bind fun b e1 => .ok (.bl b) e1
variable {ft gt : M Bool} {rest : List Expr}
theorem mtw_and1 (ha : MT X W Γx Γ a ft Γ') : MTW X W Γx Γ (.BoolOp .And [a] pos) ft Γ' := by
  obtain ⟨t, pt, h⟩ := ha
  exact ⟨_, pw_and1 pt, h⟩
theorem mtw_or1 (ha : MT X W Γx Γ a ft Γ') : MTW X W Γx Γ (.BoolOp .Or [a] pos) ft Γ' := by
  obtain ⟨t, pt, h⟩ := ha
  exact ⟨_, pw_or1 pt, h⟩
theorem mtw_and (ha : MT X W Γx Γ a ft Γ') (hb : MTW X W Γx Γ' (.BoolOp .And (b :: rest) pos) gt Γ') : MTW X W Γx Γ (.BoolOp .And (a :: b :: rest) pos) (mAnd ft gt) Γ' := by
  obtain ⟨t, pt, h⟩ := ha
  obtain ⟨u, pu, h'⟩ := hb
  refine ⟨_, pw_and pt pu, fun σ F H p env Q s q => ?_⟩
  show t σ H fun c H1 => if c = true then u σ H1 Q else Q false H1
  refine tseq wpT h s q fun d e1 F1 H1 p1 s1 k1 q1 => ?_
  cases d with
  | true => exact h' σ F1 H1 p1 e1 Q k1 q1
  | false => exact q1 F1 H1 p1 .refl k1
theorem mtw_or (ha : MT X W Γx Γ a ft Γ') (hb : MTW X W Γx Γ' (.BoolOp .Or (b :: rest) pos) gt Γ') : MTW X W Γx Γ (.BoolOp .Or (a :: b :: rest) pos) (mOr ft gt) Γ' := by
  obtain ⟨t, pt, h⟩ := ha
  obtain ⟨u, pu, h'⟩ := hb
  refine ⟨_, pw_or pt pu, fun σ F H p env Q s q => ?_⟩
  show t σ H fun c H1 => if c = true then Q true H1 else u σ H1 Q
  refine tseq wpT h s q fun d e1 F1 H1 p1 s1 k1 q1 => ?_
  cases d with
  | true => exact q1 F1 H1 p1 .refl k1
  | false => exact h' σ F1 H1 p1 e1 Q k1 q1
theorem MTW.t (h : MTW X W Γx Γ e ft Γ') : MT X W Γx Γ e ft Γ' := let ⟨_, pt, h⟩ := h; ⟨_, pt.pt, h⟩
theorem mt_not (ha : MT X W Γx Γ a ft Γ') : MT X W Γx Γ (.UnaryOp .Not a pos) (mNot ft) Γ' := by
  obtain ⟨t, pt, h⟩ := ha
  refine ⟨_, pt_not pt, fun σ F H p env Q s q => ?_⟩
  show t σ H fun c H1 => Q (!c) H1
  exact tseq wpT h s q fun d e1 F1 H1 p1 s1 k1 q1 => q1 F1 H1 p1 .refl k1
/-- .. as values -/
theorem mz_one {op} (h : MZ X W Γx Γ a f Γ') : MZ X W Γx Γ (.BoolOp op [a] pos) f Γ' := let ⟨_, pt, h⟩ := h; ⟨_, pe_one pt, h⟩
def mAndV (f g : M D) : M D := fun e => (f e).bind fun d e1 => match d with
  | .bl true => g e1
  | .bl false => .ok (.bl false) e1
  | _ => .bad
def mOrV (f g : M D) : M D := fun e => (f e).bind fun d e1 => match d with
  | .bl true => .ok (.bl true) e1
  | .bl false => g e1
  | _ => .bad
def mNotV (f : M D) : M D := fun e => (f e).bind fun d e1 => match d with
  | .bl b => .ok (.bl (!b)) e1
  | _ => .bad
theorem mz_and (ha : MZ X W Γx Γ a f Γ') (hb : MZ X W Γx Γ' (.BoolOp .And (b :: rest) pos) g Γ') : MZ X W Γx Γ (.BoolOp .And (a :: b :: rest) pos) (mAndV f g) Γ' := by
  obtain ⟨t, pt, h⟩ := ha
  obtain ⟨u, pu, h'⟩ := hb
  refine ⟨_, pe_and pt pu, fun σ F H p env Q s q => ?_⟩
  show t σ H fun x H1 => ∃ c, x = .bl c ∧ if c = true then u σ H1 Q else Q (.bl false) H1
  refine zseq wpZ h s q fun d e1 v F1 H1 p1 s1 k1 r1 q1 => ?_
  cases d <;> try exact q1.elim
  rename_i b
  rw [r1.bl_inv]
  cases b with
  | true => exact ⟨true, rfl, h' σ F1 H1 p1 e1 Q k1 q1⟩
  | false => exact ⟨false, rfl, q1 _ F1 H1 p1 .refl k1 (.bl _)⟩
theorem mz_or (ha : MZ X W Γx Γ a f Γ') (hb : MZ X W Γx Γ' (.BoolOp .Or (b :: rest) pos) g Γ') : MZ X W Γx Γ (.BoolOp .Or (a :: b :: rest) pos) (mOrV f g) Γ' := by
  obtain ⟨t, pt, h⟩ := ha
  obtain ⟨u, pu, h'⟩ := hb
  refine ⟨_, pe_or pt pu, fun σ F H p env Q s q => ?_⟩
  show t σ H fun x H1 => ∃ c, x = .bl c ∧ if c = true then Q (.bl true) H1 else u σ H1 Q
  refine zseq wpZ h s q fun d e1 v F1 H1 p1 s1 k1 r1 q1 => ?_
  cases d <;> try exact q1.elim
  rename_i b
  rw [r1.bl_inv]
  cases b with
  | true => exact ⟨true, rfl, q1 _ F1 H1 p1 .refl k1 (.bl _)⟩
  | false => exact ⟨false, rfl, h' σ F1 H1 p1 e1 Q k1 q1⟩
theorem mz_not (ha : MZ X W Γx Γ a f Γ') : MZ X W Γx Γ (.UnaryOp .Not a pos) (mNotV f) Γ' := by
  obtain ⟨t, pt, h⟩ := ha
  refine ⟨_, pe_not pt, fun σ F H p env Q s q => ?_⟩
  show t σ H fun x H1 => ∃ c, x = .bl c ∧ Q (.bl (!c)) H1
  refine zseq wpZ h s q fun d e1 v F1 H1 p1 s1 k1 r1 q1 => ?_
  cases d <;> try exact q1.elim
  rename_i b
  rw [r1.bl_inv]
  exact ⟨b, rfl, q1 _ F1 H1 p1 .refl k1 (.bl _)⟩
def mIf {α : Type} (t : M Bool) (f g : M α) : M α := fun e => (t e).bind fun b e1 => if b then f e1 else g e1
theorem mz_ifExp (hc : MT X W Γx Γ c ft Γ1) (ha : MZ X W Γx Γ1 a f Γ') (hb : MZ X W Γx Γ1 b g Γ') : MZ X W Γx Γ (.IfExp c a b pos) (mIf ft f g) Γ' := by
  obtain ⟨tc, pc, hc⟩ := hc
  obtain ⟨ta, pa, ha⟩ := ha
  obtain ⟨tb, pb, hb⟩ := hb
  refine ⟨_, pe_ifExp pc pa pb, fun σ F H p env Q s q => ?_⟩
  show tc σ H fun c H1 => if c = true then ta σ H1 Q else tb σ H1 Q
  refine tseq wpZ hc s q fun d e1 F1 H1 p1 s1 k1 q1 => ?_
  cases d with
  | true => exact ha σ F1 H1 p1 e1 Q k1 q1
  | false => exact hb σ F1 H1 p1 e1 Q k1 q1
theorem mo_ifExp {m : Mode} (hc : MT X W Γx Γ c ft Γ1) (ha : MO X W Γx Γ1 a f m Γ') (hb : MO X W Γx Γ1 b g m Γ') : MO X W Γx Γ (.IfExp c a b pos) (mIf ft f g) m Γ' := by
  obtain ⟨tc, pc, hc⟩ := hc
  obtain ⟨ta, pa, ha⟩ := ha
  obtain ⟨tb, pb, hb⟩ := hb
  refine ⟨_, pe_ifExp pc pa pb, fun σ F H p env Q s q => ?_⟩
  show tc σ H fun c H1 => if c = true then ta σ H1 Q else tb σ H1 Q
  refine tseq wpO hc s q fun d e1 F1 H1 p1 s1 k1 q1 => ?_
  cases d with
  | true => exact ha σ F1 H1 p1 e1 Q k1 q1
  | false => exact hb σ F1 H1 p1 e1 Q k1 q1
/-- a op1 b op2 c of numbers -/
def mChain (o o' : D → D → Option D) (f g h : M D) : M D := fun e => (f e).bind fun x e1 => (g e1).bind fun y e2 => match o x y with
  | some (.bl true) => (h e2).bind fun z e3 => mOpt (o' y z) e3
  | some (.bl false) => .ok (.bl false) e2
  | _ => .bad
theorem chain_core {op op' : CmpOp} {r r' : R2} {o o' : D → D → Option D} {ta tb tc : TE} (hr : BinR X.K r o) (hr' : BinR X.K r' o')
    (ha : ∀ (σ : Sl) (F H : Hp) (p : Pth) (env : Env) (Q : V → Hp → Prop), SOk X.K Γ F H env σ p → PostZ X.K W Γx Γ1 F H p σ Q (f env) → ta σ H Q)
    (hb : ∀ (σ : Sl) (F H : Hp) (p : Pth) (env : Env) (Q : V → Hp → Prop), SOk X.K Γ1 F H env σ p → PostZ X.K W Γx Γ2 F H p σ Q (g env) → tb σ H Q)
    (hc : ∀ (σ : Sl) (F H : Hp) (p : Pth) (env : Env) (Q : V → Hp → Prop), SOk X.K Γ2 F H env σ p → PostZ X.K W Γx Γ2 F H p σ Q (h env) → tc σ H Q)
    (σ : Sl) (F H : Hp) (p : Pth) (env : Env) (Q : V → Hp → Prop) (s : SOk X.K Γ F H env σ p) (q : PostZ X.K W Γx Γ2 F H p σ Q (mChain o o' f g h env)) : tChain r r' ta tb tc σ H Q := by
  show ta σ H fun x H1 => tb σ H1 fun y H2 => r x y H2 fun z H3 => ∃ k, z = .bl k ∧ (if k = true then tc σ H3 fun w' H4 => r' y w' H4 Q else Q (.bl false) H3)
  refine zseq wpZ ha s q fun x e1 v F1 H1 p1 s1 k1 r1 q1 => zseq wpZ hb k1 q1 fun y e2 u F2 H2 p2 s2 k2 r2 q2 => ?_
  cases hd : o x y with
  | none => rw [hd] at q2; exact q2.elim
  | some d =>
    refine hr F2 H2 x y d v u _ k2.same (r1.mono s2.same) r2 hd fun w hw => ?_
    rw [hd] at q2
    cases d <;> try exact q2.elim
    rename_i b
    refine ⟨b, (hw F2).bl_inv, ?_⟩
    cases b with
    | true =>
      rw [if_pos rfl]
      refine zseq wpZ hc k2 q2 fun z e3 w' F3 H3 p3 s3 k3 r3 q3 => ?_
      cases hd3 : o' y z with
      | none => rw [hd3] at q3; exact q3.elim
      | some d3 =>
        rw [hd3] at q3
        exact hr' F3 H3 y z d3 u w' Q k3.same (r2.mono s3.same) r3 hd3 fun w2 hw2 => q3 w2 F3 H3 p3 .refl k3 (hw2 F3)
    | false => rw [if_neg Bool.false_ne_true]; exact q2 _ F2 H2 p2 .refl k2 (.bl _)
theorem mz_chain {op op' : CmpOp} {r r' : R2} {o o' : D → D → Option D} (ho : OpR X (compareOp op) r) (ho' : OpR X (compareOp op') r') (hr : BinR X.K r o) (hr' : BinR X.K r' o')
    (ha : MZ X W Γx Γ a f Γ1) (hb : MZ X W Γx Γ1 b g Γ2) (hc : MZ X W Γx Γ2 c h Γ2) (hm : lastMarks [op, op'] [b, c] = false := by with_unfolding_all rfl) : MZ X W Γx Γ (.Compare a [op, op'] [b, c] pos) (mChain o o' f g h) Γ2 := by
  obtain ⟨ta, pa, ha⟩ := ha
  obtain ⟨tb, pb, hb⟩ := hb
  obtain ⟨tc, pc, hc⟩ := hc
  exact ⟨_, pe_chain ho ho' pa pb pc hm, fun σ F H p env Q s q => chain_core (op := op) (op' := op') hr hr' ha hb hc σ F H p env Q s q⟩
theorem mt_chain {op op' : CmpOp} {r r' : R2} {o o' : D → D → Option D} (ho : OpR X (compareOp op) r) (ho' : OpR X (compareOp op') r') (hr : BinR X.K r o) (hr' : BinR X.K r' o')
    (ha : MZ X W Γx Γ a f Γ1) (hb : MZ X W Γx Γ1 b g Γ2) (hc : MZ X W Γx Γ2 c h Γ2) (hm : lastMarks [op, op'] [b, c] = false := by with_unfolding_all rfl) : MT X W Γx Γ (.Compare a [op, op'] [b, c] pos) (mTst (mChain o o' f g h)) Γ2 := by
  obtain ⟨ta, pa, ha⟩ := ha
  obtain ⟨tb, pb, hb⟩ := hb
  obtain ⟨tc, pc, hc⟩ := hc
  refine ⟨_, pt_chain ho ho' pa pb pc hm, fun σ F H p env Q s q => ?_⟩
  show tChain r r' ta tb tc σ H fun x H' => ∃ k, x = .bl k ∧ Q k H'
  refine chain_core (op := op) (op' := op') hr hr' ha hb hc σ F H p env _ s ?_
  unfold mTst at q
  cases hm : mChain o o' f g h env with
  | bad => rw [hm] at q; exact q
  | ex x e' => rw [hm] at q; exact q
  | ok d e' =>
    rw [hm] at q
    intro v F' H' p' st s' r
    cases d <;> try exact q.elim
    exact ⟨_, r.bl_inv, q F' H' p' st s'⟩
theorem bn_lt : BinR X.K (rI0 fun i j => .bl (decide (i < j))) oLt := by
  intro F H x y d v u Q _ r1 r2 h q
  obtain ⟨i, j, rfl, rfl, rfl⟩ := oI_inv h
  rw [r1.int_inv, r2.int_inv]
  exact ⟨i, j, rfl, rfl, q _ fun _ => .bl _⟩
theorem bn_le : BinR X.K (rI0 fun i j => .bl (decide (i ≤ j))) oLe := by
  intro F H x y d v u Q _ r1 r2 h q
  obtain ⟨i, j, rfl, rfl, rfl⟩ := oI_inv h
  rw [r1.int_inv, r2.int_inv]
  exact ⟨i, j, rfl, rfl, q _ fun _ => .bl _⟩
end
end VM
/-! VM, part 5: places that are read, subscripts, slices, built-in functions. -/
namespace VM
open PySem PySem.Spec PyProof.Rows L2

/-! ### a value that may be read now -/
def Mode.flat : Mode → Bool
  | .fz => true
  | .lst .fz => true
  | .dK .fz => true
  | .dT .fz => true
  | _ => false
def D.plain : D → Bool
  | .lst _ => false
  | .dct _ => false
  | .dcT _ => false
  | _ => true
def RepB (K : PySem.W.Frag) (F H : Hp) (d : D) (v : V) : Prop := ∃ m p, Mode.flat m = true ∧ Rep K m F H d v p
section
variable {K : PySem.W.Frag} {F H : Hp} {d : D} {v : V}
theorem RepZ.b (r : RepZ K F d v) : RepB K F H d v := ⟨.fz, noP, rfl, r⟩
theorem RepB.cases (r : RepB K F H d v) : RepZ K F d v ∨ (∃ a ds vs, d = .lst ds ∧ v = .ref a ∧ H a = some (.lst vs) ∧ RepZs K F ds vs) ∨
    (∃ a kvs us, d = .dct kvs ∧ v = .ref a ∧ H a = some (.dK us) ∧ kvs.length = us.length ∧ (∀ (j : Nat) (k d : D) (k' : Key) (v : V), kvs[j]? = some (k, d) → us[j]? = some (k', v) → keyK k = some k') ∧
      ∀ (j : Nat) (k d : D) (k' : Key) (v : V), kvs[j]? = some (k, d) → us[j]? = some (k', v) → RepZ K F d v) ∨
    (∃ a kvs us, d = .dcT kvs ∧ v = .ref a ∧ H a = some (.dT us) ∧ kvs.length = us.length ∧ (∀ (j : Nat) (k d : D) (k' : List Key) (v : V), kvs[j]? = some (k, d) → us[j]? = some (k', v) → keyT k = some k') ∧
      ∀ (j : Nat) (k d : D) (k' : List Key) (v : V), kvs[j]? = some (k, d) → us[j]? = some (k', v) → RepZ K F d v) := by
  obtain ⟨m, p, hf, r⟩ := r
  cases m with
  | any => cases hf
  | fz => exact .inl r
  | ins _ => cases hf
  | exc _ _ => cases hf
  | lst m =>
    cases m <;> try cases hf
    obtain ⟨a, ds, vs, e1, e2, _, e4, e5, e6⟩ := r
    exact .inr (.inl ⟨a, ds, vs, e1, e2, e4, e5, e6⟩)
  | dK m =>
    cases m <;> try cases hf
    obtain ⟨a, ds, vs, e1, e2, _, e4, e5, e6, e7⟩ := r
    exact .inr (.inr (.inl ⟨a, ds, vs, e1, e2, e4, e5, e6, e7⟩))
  | dT m =>
    cases m <;> try cases hf
    obtain ⟨a, ds, vs, e1, e2, _, e4, e5, e6, e7⟩ := r
    exact .inr (.inr (.inr ⟨a, ds, vs, e1, e2, e4, e5, e6, e7⟩))
theorem RepB.lst_inv {ds : List D} (s : Same F H) (r : RepB K F H (.lst ds) v) : ∃ a vs, v = .ref a ∧ H a = some (.lst vs) ∧ RepZs K F ds vs := by
  rcases r.cases with r | ⟨a, ds', vs, e, h1, h2, h3⟩ | ⟨_, _, _, e, _⟩ | ⟨_, _, _, e, _⟩
  · obtain ⟨a, vs, h1, h2, h3⟩ := r.lst_inv
    exact ⟨a, vs, h1, s _ _ h2, h3⟩
  · cases e; exact ⟨a, vs, h1, h2, h3⟩
  · cases e
  · cases e
theorem RepB.z {d : D} (r : RepB K F H d v) (h : d.plain = true) : RepZ K F d v := by
  rcases r.cases with r | ⟨a, ds', vs, e, _⟩ | ⟨_, _, _, e, _⟩ | ⟨_, _, _, e, _⟩
  · exact r
  · subst e; cases h
  · subst e; cases h
  · subst e; cases h
end
abbrev Get := Env → Option D
/-- a place that is read: what it holds is looked up when it is used -/
def PostB (K : PySem.W.Frag) (W : WX) (Γx Γ' : List Mode) (G : List Mode → Prop) (F H : Hp) (p : Pth) (σ : Sl) (Q : V → Hp → Prop) : Res Get → Prop
  | .ok get e' => ∀ (v : V) (F' H' : Hp) (p' : Pth), Step F H p F' H' p' → SOk K Γ' F' H' e' σ p' →
      (∀ F2 H2 p2 e2 Γ2 d, Step F' H' p' F2 H2 p2 → SOk K Γ2 F2 H2 e2 σ p2 → G Γ2 → get e2 = some d → RepB K F2 H2 d v) → Q v H'
  | .ex x e' => PostX K W Γx F H p σ x e'
  | .bad => False
def MB (X : Cx) (W : WX) (Γx Γ : List Mode) (e : Expr) (f : M Get) (G : List Mode → Prop) (Γ' : List Mode) : Prop :=
  ∃ t, PE X e t ∧ ∀ (σ : Sl) (F H : Hp) (p : Pth) (env : Env) (Q : V → Hp → Prop), SOk X.K Γ F H env σ p → PostB X.K W Γx Γ' G F H p σ Q (f env) → t σ H Q
def mGet (f : M D) : M Get := fun e => (f e).bind fun d e1 => .ok (fun _ => some d) e1
def mGetV (i : Nat) : M Get := fun e => match e[i]? with
  | some (some _) => .ok (fun e2 => (e2[i]?).join) e
  | _ => .bad
def gAny : List Mode → Prop := fun _ => True
def gAt (i : Nat) (m : Mode) : List Mode → Prop := fun Γ => Γ[i]? = some m
section
variable {X : Cx} {W : WX} {Γx Γ Γ1 Γ2 Γ3 Γ' : List Mode} {a b c e : Expr} {f g h : M D} {fg gg : M Get} {G G1 G2 : List Mode → Prop} {pos : Pos} {k : Nat}
theorem bseq {α : Type} {te : TE} {σ : Sl} {F H : Hp} {p : Pth} {env : Env} {k : Get → M α} {P : Hp → Hp → Pth → Res α → Prop} {R : V → Hp → Prop} (w : Wp X.K W Γx σ P)
    (he : ∀ (σ : Sl) (F H : Hp) (p : Pth) (env : Env) (Q : V → Hp → Prop), SOk X.K Γ F H env σ p → PostB X.K W Γx Γ1 G F H p σ Q (fg env) → te σ H Q)
    (s : SOk X.K Γ F H env σ p) (q : P F H p (Res.bind (fg env) k))
    (hk : ∀ get e1 v F1 H1 p1, Step F H p F1 H1 p1 → SOk X.K Γ1 F1 H1 e1 σ p1 →
      (∀ F2 H2 p2 e2 Γ2 d, Step F1 H1 p1 F2 H2 p2 → SOk X.K Γ2 F2 H2 e2 σ p2 → G Γ2 → get e2 = some d → RepB X.K F2 H2 d v) → P F1 H1 p1 (k get e1) → R v H1) : te σ H R := by
  refine he σ F H p env R s ?_
  cases hf : fg env with
  | bad => rw [hf] at q; exact (w.bad q).elim
  | ex x e' => rw [hf] at q; exact w.ex q
  | ok d e' => rw [hf] at q; exact fun v F' H' p' st s' r => hk d e' v F' H' p' st s' r (w.step st q)
theorem mb_z (h : MZ X W Γx Γ e f Γ') : MB X W Γx Γ e (mGet f) gAny Γ' := by
  obtain ⟨t, pt, h⟩ := h
  refine ⟨t, pt, fun σ F H p env Q s q => h σ F H p env Q s ?_⟩
  unfold mGet at q
  cases hf : f env with
  | bad => rw [hf] at q; exact q
  | ex x e' => rw [hf] at q; exact q
  | ok d e' =>
    rw [hf] at q
    refine fun v F' H' p' st s' r => q v F' H' p' st s' fun F2 H2 p2 e2 Γ2 d2 st2 s2 _ hd => ?_
    cases hd
    exact (r.mono st2.same).b
theorem mb_var (i : Nat) {x : Str} {m : Mode} (hΓ : Γ[i]? = some m := by rfl) (hm : m.flat = true := by rfl) (hN : X.N[i]? = some x := by rfl) (hv : Vis X.env.scope x := by first | exact Or.inl rfl | exact Or.inr (Or.inl rfl) | exact Or.inr (Or.inr rfl))
    (hd : (x == ("__debug__" : Str)) = false := by decide) (hcd : (x == ("__classdict__" : Str)) = false := by decide) : MB X W Γx Γ (.Name x pos) (mGetV i) (gAt i m) Γ := by
  have hany : m ≠ .any := fun e => by subst e; cases hm
  refine ⟨_, pe_var hN hv hd hcd, fun σ F H p env Q s q => ?_⟩
  unfold mGetV at q
  cases he : env[i]? with
  | none => rw [he] at q; exact q.elim
  | some od =>
    cases od with
    | none => rw [he] at q; exact q.elim
    | some d =>
      rw [he] at q
      rcases s.slot i _ d hΓ he with h | ⟨v, hv, r⟩
      · exact (hany h).elim
      · refine ⟨v, hv, q v F H p .refl s fun F2 H2 p2 e2 Γ2 d2 st2 s2 hG hd2 => ?_⟩
        have he2 : e2[i]? = some (some d2) := by
          replace hd2 : (e2[i]?).join = some d2 := hd2
          cases h2 : e2[i]? with
          | none => rw [h2] at hd2; cases hd2
          | some od => rw [h2] at hd2; cases od with
            | none => cases hd2
            | some d3 => cases hd2; rfl
        rcases s2.slot i m d2 hG he2 with h | ⟨v2, hv2, r2⟩
        · exact (hany h).elim
        · rw [hv] at hv2; cases hv2
          exact ⟨m, _, hm, r2⟩

/-! ### one value read: built-in functions of one argument, subscripts -/
def mUn (o : D → Option D) (f : M Get) : M D := fun e => (f e).bind fun get e1 => match get e1 with
  | some d => mOpt (o d) e1
  | none => .bad
def UnG (K : PySem.W.Frag) (r : V → Hp → VK → Prop) (o : D → Option D) : Prop :=
  ∀ (W : WX) (Γx Γ : List Mode) (F H : Hp) (p : Pth) (e : Env) (σ : Sl) (x : D) (v : V) (Q : V → Hp → Prop), SOk K Γ F H e σ p → RepB K F H x v → PostZ K W Γx Γ F H p σ Q (mOpt (o x) e) → r v H Q
def UnO (K : PySem.W.Frag) (r : V → Hp → VK → Prop) (o : D → Option D) (m : Mode) : Prop :=
  ∀ (W : WX) (Γx Γ : List Mode) (F H : Hp) (p : Pth) (e : Env) (σ : Sl) (x : D) (v : V) (Q : V → Hp → Prop), SOk K Γ F H e σ p → RepB K F H x v → PostO K W Γx Γ m F H p σ Q (mOpt (o x) e) → r v H Q
theorem un_core {α : Type} {σ : Sl} {F H : Hp} {p : Pth} {env : Env} {te : TE} {o : D → M α} {P : Hp → Hp → Pth → Res α → Prop} {R : V → Hp → Prop} (w : Wp X.K W Γx σ P)
    (he : ∀ (σ : Sl) (F H : Hp) (p : Pth) (env : Env) (Q : V → Hp → Prop), SOk X.K Γ F H env σ p → PostB X.K W Γx Γ1 G F H p σ Q (fg env) → te σ H Q) (hG : G Γ1)
    (s : SOk X.K Γ F H env σ p) (q : P F H p ((fg env).bind fun get e1 => match get e1 with | some d => o d e1 | none => .bad))
    (hk : ∀ d e1 v F1 H1 p1, SOk X.K Γ1 F1 H1 e1 σ p1 → RepB X.K F1 H1 d v → P F1 H1 p1 (o d e1) → R v H1) : te σ H R := by
  refine bseq w he s q fun get e1 v F1 H1 p1 s1 k1 r1 q1 => ?_
  cases hg : get e1 with
  | none => rw [hg] at q1; exact (w.bad q1).elim
  | some d =>
    rw [hg] at q1
    exact hk d e1 v F1 H1 p1 k1 (r1 F1 H1 p1 e1 Γ1 d .refl k1 hG hg) q1
theorem mz_callB {x : Str} {id : String} {r : List V → Hp → VK → Prop} {o : D → Option D} {p : Pos} (hc : CallR X (.builtin id) r) (hr : UnG X.K (fun v => r [v]) o) (hg : Gl X x) (hm : X.mg x = none) (hv : bootBuiltins x = some (.builtin id))
    (ha : MB X W Γx Γ e fg G Γ') (hG : G Γ' := by first | trivial | rfl) (hn : x ≠ "__name__" := by decide) (hdb : (x == ("__debug__" : Str)) = false := by decide)
    (he : starEach [e] X.env = (false, eval e X.env) :: starEach [] X.env := by rfl) : MZ X W Γx Γ (.Call (.Name x p) [e] [] pos) (mUn o fg) Γ' := by
  obtain ⟨t, pt, h⟩ := ha
  refine ⟨_, pe_callB hc hg hm hv (pa_cons pt pa_nil he) hn hdb he (by rfl), fun σ F H p env Q s q => ?_⟩
  show t σ H fun v H1 => r [v] H1 Q
  exact un_core wpZ h hG s q fun d e1 v F1 H1 p1 k1 r1 q1 => hr W Γx Γ' F1 H1 p1 e1 σ d v Q k1 r1 q1
theorem mo_callB {x : Str} {id : String} {r : List V → Hp → VK → Prop} {o : D → Option D} {m : Mode} {p : Pos} (hc : CallR X (.builtin id) r) (hr : UnO X.K (fun v => r [v]) o m) (hg : Gl X x) (hm : X.mg x = none) (hv : bootBuiltins x = some (.builtin id))
    (ha : MB X W Γx Γ e fg G Γ') (hG : G Γ' := by first | trivial | rfl) (hn : x ≠ "__name__" := by decide) (hdb : (x == ("__debug__" : Str)) = false := by decide)
    (he : starEach [e] X.env = (false, eval e X.env) :: starEach [] X.env := by rfl) : MO X W Γx Γ (.Call (.Name x p) [e] [] pos) (mUn o fg) m Γ' := by
  obtain ⟨t, pt, h⟩ := ha
  refine ⟨_, pe_callB hc hg hm hv (pa_cons pt pa_nil he) hn hdb he (by rfl), fun σ F H p env Q s q => ?_⟩
  show t σ H fun v H1 => r [v] H1 Q
  exact un_core wpO h hG s q fun d e1 v F1 H1 p1 k1 r1 q1 => hr W Γx Γ' F1 H1 p1 e1 σ d v Q k1 r1 q1
theorem mz_callTy {x : Str} {id : String} {r : List V → Hp → VK → Prop} {o : D → Option D} {p : Pos} (hc : CallR X (.type id) r) (hr : UnG X.K (fun v => r [v]) o) (hg : Gl X x) (hm : X.mg x = none) (hv : bootBuiltins x = some (.type id))
    (ha : MB X W Γx Γ e fg G Γ') (hG : G Γ' := by first | trivial | rfl) (hn : x ≠ "__name__" := by decide) (hdb : (x == ("__debug__" : Str)) = false := by decide)
    (he : starEach [e] X.env = (false, eval e X.env) :: starEach [] X.env := by rfl) : MZ X W Γx Γ (.Call (.Name x p) [e] [] pos) (mUn o fg) Γ' := by
  obtain ⟨t, pt, h⟩ := ha
  refine ⟨_, pe_callTy hc hg hm hv (pa_cons pt pa_nil he) hn hdb he (by rfl), fun σ F H p env Q s q => ?_⟩
  show t σ H fun v H1 => r [v] H1 Q
  exact un_core wpZ h hG s q fun d e1 v F1 H1 p1 k1 r1 q1 => hr W Γx Γ' F1 H1 p1 e1 σ d v Q k1 r1 q1
theorem mo_callTy {x : Str} {id : String} {r : List V → Hp → VK → Prop} {o : D → Option D} {m : Mode} {p : Pos} (hc : CallR X (.type id) r) (hr : UnO X.K (fun v => r [v]) o m) (hg : Gl X x) (hm : X.mg x = none) (hv : bootBuiltins x = some (.type id))
    (ha : MB X W Γx Γ e fg G Γ') (hG : G Γ' := by first | trivial | rfl) (hn : x ≠ "__name__" := by decide) (hdb : (x == ("__debug__" : Str)) = false := by decide)
    (he : starEach [e] X.env = (false, eval e X.env) :: starEach [] X.env := by rfl) : MO X W Γx Γ (.Call (.Name x p) [e] [] pos) (mUn o fg) m Γ' := by
  obtain ⟨t, pt, h⟩ := ha
  refine ⟨_, pe_callTy hc hg hm hv (pa_cons pt pa_nil he) hn hdb he (by rfl), fun σ F H p env Q s q => ?_⟩
  show t σ H fun v H1 => r [v] H1 Q
  exact un_core wpO h hG s q fun d e1 v F1 H1 p1 k1 r1 q1 => hr W Γx Γ' F1 H1 p1 e1 σ d v Q k1 r1 q1
/-- -a -/
def oNeg : D → Option D
  | .int i => some (.int (-i))
  | _ => none
theorem mz_neg (ha : MZ X W Γx Γ a f Γ') : MZ X W Γx Γ (.UnaryOp .USub a pos) (fun e => (f e).bind fun d e1 => mOpt (oNeg d) e1) Γ' := by
  obtain ⟨t, pt, h⟩ := ha
  refine ⟨_, pe_un un_neg pt, fun σ F H p env Q s q => ?_⟩
  show t σ H fun x H1 => rU (fun i => .int (-i)) x H1 Q
  refine zseq wpZ h s q fun d e1 v F1 H1 p1 s1 k1 r1 q1 => ?_
  cases d <;> try exact q1.elim
  rw [r1.int_inv]
  exact ⟨_, rfl, q1 _ F1 H1 p1 .refl k1 (.int _)⟩
end
/-! ### the functions -/
def oLen : D → Option D
  | .lst ds => some (.int ds.length)
  | .tup ds => some (.int ds.length)
  | .ktp ds => some (.int ds.length)
  | .scr ds => some (.int ds.length)
  | .str z => if z.length ≤ sizeLine then some (.int z.length) else none
  | _ => none
def oAbs : D → Option D
  | .int i => some (.int (if i < 0 then -i else i))
  | _ => none
def oInt : D → Option D
  | .int i => some (.int i)
  | .bl b => some (.int (if b then 1 else 0))
  | _ => none
def oBool : D → Option D
  | .int i => some (.bl (i != 0))
  | .bl b => some (.bl b)
  | _ => none
def intsD : List D → Option (List Int)
  | [] => some []
  | .int i :: r => (intsD r).map (i :: ·)
  | _ :: _ => none
theorem intsD_ok : ∀ {ds : List D} {ns : List Int}, intsD ds = some ns → ds = ns.map D.int
  | [], ns, h => by simp [intsD] at h; subst h; rfl
  | d :: ds, ns, h => by
    cases d <;> simp [intsD] at h
    obtain ⟨r, h1, h2⟩ := h
    subst h2
    rw [intsD_ok h1]; rfl
theorem intsD_map : ∀ ns : List Int, intsD (ns.map D.int) = some ns
  | [] => rfl
  | n :: ns => by simp [intsD, intsD_map ns]
def oSum : D → Option D
  | .lst ds => (intsD ds).map fun ns => .int ns.sum
  | _ => none
def maxI : List Int → Int
  | [] => 0
  | x :: r => r.foldl max x
def minI : List Int → Int
  | [] => 0
  | x :: r => r.foldl min x
def oMax : D → Option D
  | .lst ds => match intsD ds with
    | some (x :: r) => some (.int (maxI (x :: r)))
    | _ => none
  | _ => none
def oMin : D → Option D
  | .lst ds => match intsD ds with
    | some (x :: r) => some (.int (minI (x :: r)))
    | _ => none
  | _ => none
def oList : D → Option D
  | .lst ds => some (.lst ds)
  | .tup ds => some (.lst ds)
  | .ktp ds => some (.lst ds)
  | .scr ds => some (.lst ds)
  | _ => none
def oTuple : D → Option D
  | .lst ds => some (.tup ds)
  | .tup ds => some (.tup ds)
  | .ktp ds => some (.ktp ds)
  | _ => none
section
variable {K : PySem.W.Frag} {F F' H : Hp}
theorem repZs_ints : ∀ {ns : List Int} {vs : List V}, RepZs K F (ns.map D.int) vs → vs = ns.map V.int
  | [], vs, r => r.inv0
  | n :: ns, vs, r => by
    obtain ⟨v, us, rfl, r1, r2⟩ := r.inv
    rw [r1.int_inv, repZs_ints r2]; rfl
theorem repZs_of_ints : ∀ ns : List Int, RepZs K F (ns.map D.int) (ns.map V.int)
  | [] => .nil
  | n :: ns => .cons (.int n) (repZs_of_ints ns)
theorem foldl_max_ge : ∀ (l : List Int) (x : Int), x ≤ l.foldl max x ∧ ∀ y ∈ l, y ≤ l.foldl max x
  | [], x => by simp
  | z :: l, x => by
    have := foldl_max_ge l (max x z)
    refine ⟨by simp only [List.foldl_cons]; omega, fun y hy => ?_⟩
    simp only [List.foldl_cons]
    rcases List.mem_cons.mp hy with e | e
    · subst e; omega
    · exact this.2 y e
theorem foldl_max_mem : ∀ (l : List Int) (x : Int), l.foldl max x = x ∨ l.foldl max x ∈ l
  | [], x => by simp
  | z :: l, x => by
    simp only [List.foldl_cons, List.mem_cons]
    rcases foldl_max_mem l (max x z) with h | h
    · by_cases e : x ≤ z
      · right; left; rw [h]; omega
      · left; rw [h]; omega
    · right; right; exact h
theorem foldl_min_le : ∀ (l : List Int) (x : Int), l.foldl min x ≤ x ∧ ∀ y ∈ l, l.foldl min x ≤ y
  | [], x => by simp
  | z :: l, x => by
    have := foldl_min_le l (min x z)
    refine ⟨by simp only [List.foldl_cons]; omega, fun y hy => ?_⟩
    simp only [List.foldl_cons]
    rcases List.mem_cons.mp hy with e | e
    · subst e; omega
    · exact this.2 y e
theorem foldl_min_mem : ∀ (l : List Int) (x : Int), l.foldl min x = x ∨ l.foldl min x ∈ l
  | [], x => by simp
  | z :: l, x => by
    simp only [List.foldl_cons, List.mem_cons]
    rcases foldl_min_mem l (min x z) with h | h
    · by_cases e : x ≤ z
      · left; rw [h]; omega
      · right; left; rw [h]; omega
    · right; right; exact h
theorem maxI_spec {ns : List Int} (h : ns ≠ []) {m : Int} (hm : m ∈ ns) (hle : ∀ y ∈ ns, y ≤ m) : m = maxI ns := by
  cases ns with
  | nil => exact (h rfl).elim
  | cons x r =>
    have h1 := foldl_max_ge r x
    have h2 : maxI (x :: r) ∈ x :: r := by
      rcases foldl_max_mem r x with e | e
      · show r.foldl max x ∈ _; rw [e]; simp
      · exact List.mem_cons_of_mem _ e
    have h3 := hle _ h2
    have h4 : m ≤ maxI (x :: r) := by
      rcases List.mem_cons.mp hm with e | e
      · subst e; exact h1.1
      · exact h1.2 m e
    omega
theorem minI_spec {ns : List Int} (h : ns ≠ []) {m : Int} (hm : m ∈ ns) (hle : ∀ y ∈ ns, m ≤ y) : m = minI ns := by
  cases ns with
  | nil => exact (h rfl).elim
  | cons x r =>
    have h1 := foldl_min_le r x
    have h2 : minI (x :: r) ∈ x :: r := by
      rcases foldl_min_mem r x with e | e
      · show r.foldl min x ∈ _; rw [e]; simp
      · exact List.mem_cons_of_mem _ e
    have h3 := hle _ h2
    have h4 : minI (x :: r) ≤ m := by
      rcases List.mem_cons.mp hm with e | e
      · subst e; exact h1.1
      · exact h1.2 m e
    omega
theorem ug_abs : UnG K (fun v H Q => ∃ i, [v] = [.int i] ∧ Q (.int (if i < 0 then -i else i)) H) oAbs := by
  intro W Γx Γ F H p e σ x v Q k r q
  cases x <;> try exact q.elim
  rw [(r.z rfl).int_inv]
  exact ⟨_, rfl, q _ F H p .refl k (.int _)⟩
theorem ug_int : UnG K (fun v H Q => (∃ i, [v] = [.int i] ∧ Q (.int i) H) ∨ ∃ k, [v] = [.bl k] ∧ Q (.int (if k then 1 else 0)) H) oInt := by
  intro W Γx Γ F H p e σ x v Q k r q
  cases x <;> try exact q.elim
  · rw [(r.z rfl).bl_inv]
    exact .inr ⟨_, rfl, q _ F H p .refl k (.int _)⟩
  · rw [(r.z rfl).int_inv]
    exact .inl ⟨_, rfl, q _ F H p .refl k (.int _)⟩
theorem ug_bool : UnG K (fun v H Q => (∃ i, [v] = [.int i] ∧ Q (.bl (i != 0)) H) ∨ ∃ k, [v] = [.bl k] ∧ Q (.bl k) H) oBool := by
  intro W Γx Γ F H p e σ x v Q k r q
  cases x <;> try exact q.elim
  · rw [(r.z rfl).bl_inv]
    exact .inr ⟨_, rfl, q _ F H p .refl k (.bl _)⟩
  · rw [(r.z rfl).int_inv]
    exact .inl ⟨_, rfl, q _ F H p .refl k (.bl _)⟩
theorem ug_len : UnG K (fun v H Q => ∃ x n, [v] = [x] ∧ LenV K x H n ∧ Q (.int n) H) oLen := by
  intro W Γx Γ F H p e σ x v Q k r q
  cases x <;> try exact q.elim
  · rename_i z
    rw [(r.z rfl).str_inv]
    simp only [oLen] at q
    split at q
    · rename_i h; exact ⟨_, _, rfl, ⟨h, rfl⟩, q _ F H p .refl k (.int _)⟩
    · exact q.elim
  · obtain ⟨a, vs, rfl, h1, h2⟩ := (r.z rfl).tup_inv
    exact ⟨_, _, rfl, .inr ⟨vs, SqT.of (k.same _ _ h1), h2.1⟩, q _ F H p .refl k (.int _)⟩
  · obtain ⟨a, vs, rfl, h1, h2⟩ := r.lst_inv k.same
    exact ⟨_, _, rfl, .inl ⟨vs, SqL.of h1, h2.1⟩, q _ F H p .refl k (.int _)⟩
  · obtain ⟨a, vs, rfl, h1, h2⟩ := (r.z rfl).scr_inv
    exact ⟨_, _, rfl, .inl ⟨vs, seqL k.same h1, h2.1⟩, q _ F H p .refl k (.int _)⟩
  · obtain ⟨a, vs, rfl, h1, h2⟩ := (r.z rfl).ktp_inv
    exact ⟨_, _, rfl, .inr ⟨vs, seqT k.same h1, h2.1⟩, q _ F H p .refl k (.int _)⟩
theorem ug_sum : UnG K (fun v => rSum K [v]) oSum := by
  intro W Γx Γ F H p e σ x v Q k r q
  cases x <;> try exact q.elim
  rename_i ds
  obtain ⟨a, vs, rfl, h1, h2⟩ := r.lst_inv k.same
  simp only [oSum] at q
  cases hi : intsD ds with
  | none => rw [hi] at q; exact q.elim
  | some ns =>
    rw [hi] at q
    rw [intsD_ok hi] at h2
    rw [repZs_ints h2] at h1
    exact ⟨a, ns, rfl, SqL.of h1, q _ F H p .refl k (.int _)⟩
theorem ug_max : UnG K (fun v => rMax K [v]) oMax := by
  intro W Γx Γ F H p e σ x v Q k r q
  cases x <;> try exact q.elim
  rename_i ds
  obtain ⟨a, vs, rfl, h1, h2⟩ := r.lst_inv k.same
  simp only [oMax] at q
  cases hi : intsD ds with
  | none => rw [hi] at q; exact q.elim
  | some ns =>
    rw [hi] at q
    rw [intsD_ok hi] at h2
    rw [repZs_ints h2] at h1
    cases ns with
    | nil => exact q.elim
    | cons x0 r0 => exact ⟨a, _, rfl, SqL.of h1, by simp, fun m hm hle => by rw [maxI_spec (by simp) hm hle]; exact q _ F H p .refl k (.int _)⟩
theorem ug_min : UnG K (fun v => rMin K [v]) oMin := by
  intro W Γx Γ F H p e σ x v Q k r q
  cases x <;> try exact q.elim
  rename_i ds
  obtain ⟨a, vs, rfl, h1, h2⟩ := r.lst_inv k.same
  simp only [oMin] at q
  cases hi : intsD ds with
  | none => rw [hi] at q; exact q.elim
  | some ns =>
    rw [hi] at q
    rw [intsD_ok hi] at h2
    rw [repZs_ints h2] at h1
    cases ns with
    | nil => exact q.elim
    | cons x0 r0 => exact ⟨a, _, rfl, SqL.of h1, by simp, fun m hm hle => by rw [minI_spec (by simp) hm hle]; exact q _ F H p .refl k (.int _)⟩
theorem mono_new {F H : Hp} {a : Addr} {o : HO} {ds : List D} {vs : List V} (s : Same F H) (ha : H a = none) (r : RepZs K F ds vs) : RepZs K (upd F a o) ds vs :=
  r.mono fun b u h => by rw [upd_ne (ne_of_none (s _ _ h) ha)]; exact h
theorem uo_list : UnO K (fun v H Q => ∃ p ys, [v] = [.ref p] ∧ (SqL K H p ys ∨ SqT K H p ys) ∧ ∀ l, H l = none → Q (.ref l) (upd H l (.lst ys))) oList (.lst .fz) := by
  intro W Γx Γ F H p e σ x v Q k r q
  cases x <;> try exact q.elim
  · obtain ⟨a, vs, rfl, h1, h2⟩ := (r.z rfl).tup_inv
    exact ⟨a, vs, rfl, .inr (SqT.of (k.same _ _ h1)), fun l hl => q _ _ _ p _ (Step.newO hl) (k.newO hl) (rep_root h2) (.root k hl)⟩
  · obtain ⟨a, vs, rfl, h1, h2⟩ := r.lst_inv k.same
    exact ⟨a, vs, rfl, .inl (SqL.of h1), fun l hl => q _ _ _ p _ (Step.newO hl) (k.newO hl) (rep_root h2) (.root k hl)⟩
  · obtain ⟨a, vs, rfl, h1, h2⟩ := (r.z rfl).scr_inv
    exact ⟨a, vs, rfl, .inl (seqL k.same h1), fun l hl => q _ _ _ p _ (Step.newO hl) (k.newO hl) (rep_root h2) (.root k hl)⟩
  · obtain ⟨a, vs, rfl, h1, h2⟩ := (r.z rfl).ktp_inv
    exact ⟨a, vs, rfl, .inr (seqT k.same h1), fun l hl => q _ _ _ p _ (Step.newO hl) (k.newO hl) (rep_root h2) (.root k hl)⟩
theorem ug_tuple : UnG K (fun v H Q => ∃ p ys, [v] = [.ref p] ∧ ((SqL K H p ys ∧ ∀ l, H l = none → Q (.ref l) (upd H l (.tup ys))) ∨ (SqT K H p ys ∧ Q (.ref p) H))) oTuple := by
  intro W Γx Γ F H p e σ x v Q k r q
  cases x <;> try exact q.elim
  · have r' := r.z rfl
    obtain ⟨a, vs, rfl, h1, h2⟩ := r'.tup_inv
    exact ⟨a, vs, rfl, .inr ⟨SqT.of (k.same _ _ h1), q _ F H p .refl k r'⟩⟩
  · obtain ⟨a, vs, rfl, h1, h2⟩ := r.lst_inv k.same
    exact ⟨a, vs, rfl, .inl ⟨SqL.of h1, fun l hl => q _ _ _ p (Step.newZ hl k.same) (k.newZ hl) (.tup' upd_same (mono_new k.same hl h2))⟩⟩
  · have r' := r.z rfl
    obtain ⟨a, vs, rfl, h1, h2⟩ := r'.ktp_inv
    exact ⟨a, vs, rfl, .inr ⟨seqT k.same h1, q _ F H p .refl k r'⟩⟩
end
/-! ### sorted -/
def pairOf : D → Option (Int × Int)
  | .tup [.int i, .int j] => some (i, j)
  | _ => none
def pairD (p : Int × Int) : D := .tup [.int p.1, .int p.2]
def pairsD : List D → Option (List (Int × Int))
  | [] => some []
  | d :: r => match pairOf d, pairsD r with
    | some p, some ps => some (p :: ps)
    | _, _ => none
theorem pairOf_ok {d : D} {p : Int × Int} (h : pairOf d = some p) : d = pairD p := by
  unfold pairOf at h
  split at h
  · cases h; rfl
  · cases h
theorem pairsD_ok : ∀ {ds : List D} {ns : List (Int × Int)}, pairsD ds = some ns → ds = ns.map pairD
  | [], ns, h => by simp [pairsD] at h; subst h; rfl
  | d :: ds, ns, h => by
    simp only [pairsD] at h
    cases h1 : pairOf d <;> cases h2 : pairsD ds <;> simp [h1, h2] at h
    subst h
    rw [pairsD_ok h2, pairOf_ok h1]; rfl
theorem pairsD_map : ∀ ns : List (Int × Int), pairsD (ns.map pairD) = some ns
  | [] => rfl
  | n :: ns => by simp [pairsD, pairsD_map ns, pairOf, pairD]
def leI (a b : Int) : Bool := decide (a ≤ b)
/-- the order of pairs -/
def leP (a b : Int × Int) : Bool := decide (a.1 < b.1) || (decide (a.1 = b.1) && decide (a.2 ≤ b.2))
def sortI (ns : List Int) : List Int := ns.mergeSort leI
def sortP (ns : List (Int × Int)) : List (Int × Int) := ns.mergeSort leP
def oSorted : D → Option D
  | .lst ds => match intsD ds with
    | some ns => some (.lst ((sortI ns).map D.int))
    | none => match pairsD ds with
      | some ps => some (.lst ((sortP ps).map pairD))
      | none => none
  | _ => none
theorem sortI_perm (ns : List Int) : (sortI ns).Perm ns := List.mergeSort_perm _ _
theorem sortI_sorted (ns : List Int) : (sortI ns).Pairwise (· ≤ ·) := by
  have := List.pairwise_mergeSort (le := leI) (fun a b c h1 h2 => by simp only [leI, decide_eq_true_eq] at *; omega) (fun a b => by simp only [leI, Bool.or_eq_true, decide_eq_true_eq]; omega) ns
  exact this.imp fun h => by simpa [leI] using h
theorem sortI_eq {ns ms : List Int} (hp : ms.Perm ns) (hs : ms.Pairwise (· ≤ ·)) : ms = sortI ns :=
  List.Perm.eq_of_pairwise (le := (· ≤ ·)) (fun a b _ _ h1 h2 => by omega) hs (sortI_sorted ns) (hp.trans (sortI_perm ns).symm)
theorem sortP_perm (ns : List (Int × Int)) : (sortP ns).Perm ns := List.mergeSort_perm _ _
theorem sortP_sorted (ns : List (Int × Int)) : (sortP ns).Pairwise (fun a b => leP a b = true) :=
  List.pairwise_mergeSort (le := leP) (fun a b c h1 h2 => by simp only [leP, Bool.or_eq_true, Bool.and_eq_true, decide_eq_true_eq] at *; omega) (fun a b => by simp only [leP, Bool.or_eq_true, Bool.and_eq_true, decide_eq_true_eq]; omega) ns
theorem sortP_eq {ns ms : List (Int × Int)} (hp : ms.Perm ns) (hs : ms.Pairwise (fun a b => leP a b = true)) : ms = sortP ns :=
  List.Perm.eq_of_pairwise (le := fun a b => leP a b = true) (fun a b _ _ h1 h2 => by
    simp only [leP, Bool.or_eq_true, Bool.and_eq_true, decide_eq_true_eq] at h1 h2
    exact Prod.ext (by omega) (by omega)) hs (sortP_sorted ns) (hp.trans (sortP_perm ns).symm)
end VM
/-! VM, part 6: sorted, subscripts, slices, sums of lists, in. -/
namespace VM
open PySem PySem.Spec PyProof.Rows L2
section
variable {K : PySem.W.Frag} {F F' H : Hp}
theorem repZs_of {ds : List D} {vs : List V} (h : ds.length = vs.length) (k : ∀ (j : Nat) (d : D) (v : V), ds[j]? = some d → vs[j]? = some v → RepZ K F d v) : RepZs K F ds vs := ⟨h, k⟩
/-- the pair that stands at a value -/
noncomputable def pairAt (H : Hp) (v : V) : Int × Int := open Classical in
  if h : ∃ q : Int × Int, ∃ t, v = .ref t ∧ H t = some (.tup [.int q.1, .int q.2]) then h.choose else (0, 0)
theorem pairAt_eq {H : Hp} {t : Addr} {i j : Int} (h : H t = some (.tup [.int i, .int j])) : pairAt H (.ref t) = (i, j) := by
  have e : ∃ q : Int × Int, ∃ u, V.ref t = .ref u ∧ H u = some (.tup [.int q.1, .int q.2]) := ⟨(i, j), t, rfl, h⟩
  unfold pairAt
  rw [dif_pos e]
  obtain ⟨u, h1, h2⟩ := e.choose_spec
  cases h1
  rw [h] at h2
  injection h2 with h2
  injection h2 with h2
  injection h2 with h3 h2
  injection h2 with h4 h2
  injection h3 with h3
  injection h4 with h4
  exact Prod.ext h3.symm h4.symm
theorem repZ_pair {q : Int × Int} {v : V} (r : RepZ K F (pairD q) v) : ∃ t, v = .ref t ∧ F t = some (.tup [.int q.1, .int q.2]) := by
  obtain ⟨a, vs, rfl, h1, h2⟩ := RepZ.tup_inv r
  obtain ⟨v1, us, rfl, r1, h2⟩ := h2.inv
  obtain ⟨v2, us, rfl, r2, h2⟩ := h2.inv
  rw [h2.inv0, r1.int_inv, r2.int_inv] at h1
  exact ⟨a, rfl, h1⟩
theorem pairs_map {H : Hp} (s : Same F H) : ∀ {ps : List (Int × Int)} {vs : List V}, RepZs K F (ps.map pairD) vs → vs.map (pairAt H) = ps ∧ ∀ v ∈ vs, ∃ t, v = .ref t ∧ F t = some (.tup [.int (pairAt H v).1, .int (pairAt H v).2])
  | [], vs, r => by rw [r.inv0]; simp
  | q :: ps, vs, r => by
    obtain ⟨v, us, rfl, r1, r2⟩ := RepZs.inv r
    obtain ⟨t, rfl, ht⟩ := repZ_pair r1
    have ih := pairs_map s r2
    have e := pairAt_eq (H := H) (s _ _ ht)
    refine ⟨by rw [List.map_cons, ih.1, e], fun v hv => ?_⟩
    rcases List.mem_cons.mp hv with h | h
    · subst h; rw [e]; exact ⟨t, rfl, ht⟩
    · exact ih.2 v h
theorem repZs_pairs {H : Hp} : ∀ {vs : List V}, (∀ v ∈ vs, ∃ t, v = .ref t ∧ F t = some (.tup [.int (pairAt H v).1, .int (pairAt H v).2])) → RepZs K F ((vs.map (pairAt H)).map pairD) vs
  | [], _ => .nil
  | v :: vs, h => by
    obtain ⟨t, e, ht⟩ := h v List.mem_cons_self
    refine .cons ?_ (repZs_pairs fun u hu => h u (List.mem_cons_of_mem _ hu))
    rw [e] at ht ⊢
    exact .tup' ht (.cons (.int _) (.cons (.int _) .nil))
def rSort2 (K : PySem.W.Frag) : List V → Hp → VK → Prop := fun xs H Q => rSortedI K xs H Q ∨ rSortedPO K xs H Q
theorem cr_sort2 {X : Cx} : CallR X (.builtin "sorted") (rSort2 X.K) := CallR.or cr_sortedI cr_sortedPO
theorem uo_sorted : UnO K (fun v => rSort2 K [v]) oSorted (.lst .fz) := by
  intro W Γx Γ F H p e σ x v Q k r q
  cases x <;> try exact q.elim
  rename_i ds
  obtain ⟨a, vs, rfl, h1, h2⟩ := r.lst_inv k.same
  simp only [oSorted] at q
  cases hi : intsD ds with
  | some ns =>
    rw [hi] at q
    rw [intsD_ok hi] at h2
    rw [repZs_ints h2] at h1
    refine .inl ⟨a, ns, rfl, SqL.of h1, fun ns' l hp hs hl => ?_⟩
    rw [sortI_eq hp hs]
    exact q _ _ _ p _ (Step.newO hl) (k.newO hl) (rep_root (repZs_of_ints _)) (.root k hl)
  | none =>
    rw [hi] at q
    cases hj : pairsD ds with
    | none => rw [hj] at q; exact q.elim
    | some ps =>
      rw [hj] at q
      rw [pairsD_ok hj] at h2
      have hm := pairs_map k.same h2
      refine .inr ⟨a, vs, pairAt H, rfl, SqL.of h1, fun v hv => ?_, fun ys l hs hb hl => ?_⟩
      · obtain ⟨t, e, ht⟩ := hm.2 v hv
        exact ⟨t, e, k.same _ _ ht⟩
      · have e : ys.map (pairAt H) = sortP ps := by
          refine sortP_eq ?_ ?_
          · rw [← hm.1]; exact hb.perm.map _
          · rw [List.pairwise_map]
            refine List.Pairwise.imp ?_ hs
            intro u w huw
            have := huw
            simp only [L2.ltP, SrtO.lexB_no] at this
            simp only [leP, Bool.or_eq_true, Bool.and_eq_true, decide_eq_true_eq]
            omega
        refine q _ _ _ p _ (Step.newO hl) (k.newO hl) (rep_root (ds := (sortP ps).map pairD) ?_) (.root k hl)
        rw [← e]
        exact repZs_pairs fun v hv => hm.2 v (hb.perm.mem_iff.mp hv)
end
/-! ### a[i] -/
def oIx (x y : D) : Option D := match y with
  | .int i => match x with
    | .lst ds => atI ds i
    | .tup ds => atI ds i
    | .ktp ds => atI ds i
    | _ => none
  | _ => none
def mIx (fg : M Get) (g : M D) : M D := fun e => (fg e).bind fun get e1 => (g e1).bind fun y e2 => match get e2 with
  | some d => mOpt (oIx d y) e2
  | none => .bad
section
variable {X : Cx} {W : WX} {Γx Γ Γ1 Γ2 Γ3 Γ' : List Mode} {a b c e : Expr} {f g h : M D} {fg gg : M Get} {G G1 G2 : List Mode → Prop} {pos : Pos} {k : Nat}
theorem at_rep {K : PySem.W.Frag} {F : Hp} {ds : List D} {vs : List V} {i : Int} {d : D} (r : RepZs K F ds vs) (h : atI ds i = some d) : ∃ v, atI vs i = some v ∧ RepZ K F d v := by
  unfold atI at h ⊢
  cases hi : ixN ds.length i with
  | none => rw [hi] at h; cases h
  | some j =>
    rw [hi] at h
    obtain ⟨v, h1, h2⟩ := r.get (j := j) h
    exact ⟨v, by rw [← r.1, hi]; exact h1, h2⟩
theorem mz_ix (ha : MB X W Γx Γ a fg G Γ1) (hb : MZ X W Γx Γ1 b g Γ2) (hG : G Γ2 := by first | trivial | rfl) (hs : PlainIx b := by exact fun _ _ => rfl) : MZ X W Γx Γ (.Subscript a b pos) (mIx fg g) Γ2 := by
  obtain ⟨ta, pa, ha⟩ := ha
  obtain ⟨tb, pb, hb⟩ := hb
  refine ⟨_, pe_ix ix_seq pa pb hs, fun σ F H p env Q s q => ?_⟩
  show ta σ H fun x H1 => tb σ H1 fun y H2 => rIx X.K x y H2 Q
  refine bseq wpZ ha s q fun get e1 v F1 H1 p1 s1 k1 r1 q1 => zseq wpZ hb k1 q1 fun y e2 u F2 H2 p2 s2 k2 r2 q2 => ?_
  cases hg : get e2 with
  | none => rw [hg] at q2; exact q2.elim
  | some d =>
    rw [hg] at q2
    have rb := r1 F2 H2 p2 e2 Γ2 d s2 k2 hG hg
    unfold oIx at q2
    cases y <;> try exact q2.elim
    rename_i i
    rw [r2.int_inv]
    cases d <;> try exact q2.elim
    · obtain ⟨a', vs, rfl, h1, h2⟩ := (rb.z rfl).tup_inv
      simp only at q2
      cases hd : atI _ i with
      | none => rw [hd] at q2; exact q2.elim
      | some d =>
        rw [hd] at q2
        obtain ⟨w, h3, h4⟩ := at_rep h2 hd
        exact .inr (.inl ⟨a', vs, i, w, rfl, rfl, SqT.of (k2.same _ _ h1), h3, q2 w F2 H2 p2 .refl k2 h4⟩)
    · obtain ⟨a', vs, rfl, h1, h2⟩ := rb.lst_inv k2.same
      simp only at q2
      cases hd : atI _ i with
      | none => rw [hd] at q2; exact q2.elim
      | some d =>
        rw [hd] at q2
        obtain ⟨w, h3, h4⟩ := at_rep h2 hd
        exact .inl ⟨a', vs, i, w, rfl, rfl, SqL.of h1, h3, q2 w F2 H2 p2 .refl k2 h4⟩
    · obtain ⟨a', vs, rfl, h1, h2⟩ := (rb.z rfl).ktp_inv
      simp only at q2
      cases hd : atI _ i with
      | none => rw [hd] at q2; exact q2.elim
      | some d =>
        rw [hd] at q2
        obtain ⟨w, h3, h4⟩ := at_rep h2 hd
        exact .inr (.inl ⟨a', vs, i, w, rfl, rfl, seqT k2.same h1, h3, q2 w F2 H2 p2 .refl k2 h4⟩)
/-! ### comparisons of places -/
def mBin2 (o : D → D → Option D) (fg gg : M Get) : M D := fun e => (fg e).bind fun get e1 => (gg e1).bind fun get2 e2 => match get e2, get2 e2 with
  | some x, some y => mOpt (o x y) e2
  | _, _ => .bad
def BinB (K : PySem.W.Frag) (r : R2) (o : D → D → Option D) : Prop :=
  ∀ (W : WX) (Γx Γ : List Mode) (F H : Hp) (p : Pth) (e : Env) (σ : Sl) (x y : D) (v u : V) (Q : V → Hp → Prop), SOk K Γ F H e σ p → RepB K F H x v → RepB K F H y u → PostZ K W Γx Γ F H p σ Q (mOpt (o x y) e) → r v u H Q
theorem bin2_core {α : Type} {σ : Sl} {F H : Hp} {p : Pth} {env : Env} {ta tb : TE} {r : V → V → Hp → Prop} {o : D → D → M α} {P : Hp → Hp → Pth → Res α → Prop} (w : Wp X.K W Γx σ P)
    (ha : ∀ (σ : Sl) (F H : Hp) (p : Pth) (env : Env) (Q : V → Hp → Prop), SOk X.K Γ F H env σ p → PostB X.K W Γx Γ1 G1 F H p σ Q (fg env) → ta σ H Q)
    (hb : ∀ (σ : Sl) (F H : Hp) (p : Pth) (env : Env) (Q : V → Hp → Prop), SOk X.K Γ1 F H env σ p → PostB X.K W Γx Γ2 G2 F H p σ Q (gg env) → tb σ H Q) (hG1 : G1 Γ2) (hG2 : G2 Γ2)
    (s : SOk X.K Γ F H env σ p) (q : P F H p ((fg env).bind fun get e1 => (gg e1).bind fun get2 e2 => match get e2, get2 e2 with | some x, some y => o x y e2 | _, _ => .bad))
    (hk : ∀ x y e2 v u F2 H2 p2, SOk X.K Γ2 F2 H2 e2 σ p2 → RepB X.K F2 H2 x v → RepB X.K F2 H2 y u → P F2 H2 p2 (o x y e2) → r v u H2) : ta σ H fun x H1 => tb σ H1 fun y H2 => r x y H2 := by
  refine bseq w ha s q fun get e1 v F1 H1 p1 s1 k1 r1 q1 => bseq w hb k1 q1 fun get2 e2 u F2 H2 p2 s2 k2 r2 q2 => ?_
  cases hg : get e2 with
  | none => rw [hg] at q2; exact (w.bad q2).elim
  | some x =>
    cases hg2 : get2 e2 with
    | none => rw [hg, hg2] at q2; exact (w.bad q2).elim
    | some y =>
      rw [hg, hg2] at q2
      exact hk x y e2 v u F2 H2 p2 k2 (r1 F2 H2 p2 e2 Γ2 x s2 k2 hG1 hg) (r2 F2 H2 p2 e2 Γ2 y .refl k2 hG2 hg2) q2
theorem mz_cmpB {op : CmpOp} {r : R2} {o : D → D → Option D} (ho : OpR X (compareOp op) r) (hr : BinB X.K r o)
    (ha : MB X W Γx Γ a fg G1 Γ1) (hb : MB X W Γx Γ1 b gg G2 Γ2) (hG1 : G1 Γ2 := by first | trivial | rfl) (hG2 : G2 Γ2 := by first | trivial | rfl) (hm : behindInMarks op b = false := by first | exact nomark _ | rfl | with_unfolding_all rfl) :
    MZ X W Γx Γ (.Compare a [op] [b] pos) (mBin2 o fg gg) Γ2 := by
  obtain ⟨ta, pa, ha⟩ := ha
  obtain ⟨tb, pb, hb⟩ := hb
  refine ⟨_, pe_cmpR ho pa pb hm, fun σ F H p env Q s q => ?_⟩
  show ta σ H fun x H1 => tb σ H1 fun y H2 => r x y H2 Q
  exact bin2_core (r := fun x y H2 => r x y H2 Q) wpZ ha hb hG1 hG2 s q fun x y e2 v u F2 H2 p2 k2 r1 r2 q2 => hr W Γx Γ2 F2 H2 p2 e2 σ x y v u Q k2 r1 r2 q2
def mBTst2 (o : D → D → Option D) (fg gg : M Get) : M Bool := mTst (mBin2 o fg gg)
theorem mt_cmpB {op : CmpOp} {r : R2} {o : D → D → Option D} (ho : OpR X (compareOp op) r) (hr : BinB X.K r o)
    (ha : MB X W Γx Γ a fg G1 Γ1) (hb : MB X W Γx Γ1 b gg G2 Γ2) (hG1 : G1 Γ2 := by first | trivial | rfl) (hG2 : G2 Γ2 := by first | trivial | rfl) (hm : behindInMarks op b = false := by first | exact nomark _ | rfl | with_unfolding_all rfl) :
    MT X W Γx Γ (.Compare a [op] [b] pos) (mBTst2 o fg gg) Γ2 := by
  obtain ⟨ta, pa, ha⟩ := ha
  obtain ⟨tb, pb, hb⟩ := hb
  refine ⟨_, pt_cmpR ho pa pb hm, fun σ F H p env Q s q => ?_⟩
  show ta σ H fun x H1 => tb σ H1 fun y H2 => r x y H2 fun z H3 => ∃ k, z = .bl k ∧ Q k H3
  have e0 : mBTst2 o fg gg env = (fg env).bind fun get e1 => (gg e1).bind fun get2 e2 => match get e2, get2 e2 with | some x, some y => mTst (fun e => mOpt (o x y) e) e2 | _, _ => .bad := by
    unfold mBTst2 mTst mBin2
    cases fg env with
    | bad => rfl
    | ex x e => rfl
    | ok get e1 =>
      dsimp only [Res.bind]
      cases gg e1 with
      | bad => rfl
      | ex x e => rfl
      | ok get2 e2 => dsimp only; cases get e2 <;> cases get2 e2 <;> rfl
  rw [e0] at q
  refine bin2_core (r := fun x y H2 => r x y H2 fun z H3 => ∃ k, z = .bl k ∧ Q k H3) (o := fun x y => mTst (fun e => mOpt (o x y) e)) wpT ha hb hG1 hG2 s q fun x y e2 v u F2 H2 p2 k2 r1 r2 q2 => ?_
  refine hr W Γx Γ2 F2 H2 p2 e2 σ x y v u _ k2 r1 r2 ?_
  unfold mTst at q2
  cases hd : o x y with
  | none => rw [hd] at q2; exact q2.elim
  | some d =>
    rw [hd] at q2
    intro w F3 H3 p3 s3 k3 r3
    cases d <;> try exact q2.elim
    exact ⟨_, r3.bl_inv, q2 F3 H3 p3 s3 k3⟩
end
end VM
/-! VM, part 7: statements. -/
namespace VM
open PySem PySem.Spec PyProof.Rows L2

inductive Fl where
  | next | ret (d : D) | brk | cont
/-- what is fixed of a place in a body: modes at a raise, at a return, at break and continue; the returned value's mode; slots that are never stored -/
structure SC where
  Γx : List Mode
  Γr : List Mode
  Γb : List Mode
  Γc : List Mode
  rm : Mode
  pin : Nat → Bool
def PinOk (pin : Nat → Bool) (σ σ' : Sl) : Prop := ∀ i, pin i = true → σ'[i]? = σ[i]?
theorem PinOk.refl {pin : Nat → Bool} {σ : Sl} : PinOk pin σ σ := fun _ _ => rfl
theorem PinOk.trans {pin : Nat → Bool} {σ σ1 σ2 : Sl} (a : PinOk pin σ σ1) (b : PinOk pin σ1 σ2) : PinOk pin σ σ2 := fun i h => (b i h).trans (a i h)
theorem PinOk.set {pin : Nat → Bool} {σ : Sl} {i : Nat} {o : Option V} (h : pin i = false) : PinOk pin σ (σ.set i o) := fun j hj => List.getElem?_set_ne fun (e : i = j) => by rw [← e, h] at hj; cases hj
section
variable {K : PySem.W.Frag} {W : WX} {S : SC} {Γ' : List Mode}
def PostS (K : PySem.W.Frag) (W : WX) (S : SC) (Γ' : List Mode) (F H : Hp) (p : Pth) (σ : Sl) (D : Ends) : Res Fl → Prop
  | .ok .next e' => ∀ (σ' : Sl) (F' H' : Hp) (p' : Pth), PinOk S.pin σ σ' → Step F H p F' H' p' → SOk K Γ' F' H' e' σ' p' → D.nx σ' H'
  | .ok (.ret d) e' => ∀ (v : V) (σ' : Sl) (F' H' : Hp) (p' pv : Pth), PinOk S.pin σ σ' → Step F H p F' H' p' → SOk K S.Γr F' H' e' σ' p' → Rep K S.rm F' H' d v pv → Fresh F H p F' H' p' pv → D.rt v H'
  | .ok .brk e' => ∀ (σ' : Sl) (F' H' : Hp) (p' : Pth), PinOk S.pin σ σ' → Step F H p F' H' p' → SOk K S.Γb F' H' e' σ' p' → D.bk σ' H'
  | .ok .cont e' => ∀ (σ' : Sl) (F' H' : Hp) (p' : Pth), PinOk S.pin σ σ' → Step F H p F' H' p' → SOk K S.Γc F' H' e' σ' p' → D.ct σ' H'
  | .ex x e' => ∀ (σ' : Sl) (cls : Value) (dd : Option Addr) (F' H' : Hp) (p' : Pth), PinOk S.pin σ σ' → Step F H p F' H' p' → SOk K S.Γx F' H' e' σ' p' → ExnR K F' x cls dd → W cls dd σ' H'
  | .bad => False
theorem PostS.stepσ {F H F1 H1 : Hp} {p p1 : Pth} {σ σ1 : Sl} {D : Ends} {r : Res Fl} (hp : PinOk S.pin σ σ1) (s : Step F H p F1 H1 p1) (h : PostS K W S Γ' F H p σ D r) : PostS K W S Γ' F1 H1 p1 σ1 D r := by
  cases r with
  | bad => exact h
  | ex x e => exact fun σ' cls dd F' H' p' q s' k r => h σ' cls dd F' H' p' (hp.trans q) (s.trans s') k r
  | ok f e =>
    cases f with
    | next => exact fun σ' F' H' p' q s' k => h σ' F' H' p' (hp.trans q) (s.trans s') k
    | brk => exact fun σ' F' H' p' q s' k => h σ' F' H' p' (hp.trans q) (s.trans s') k
    | cont => exact fun σ' F' H' p' q s' k => h σ' F' H' p' (hp.trans q) (s.trans s') k
    | ret d => exact fun v σ' F' H' p' pv q s' k r f => h v σ' F' H' p' pv (hp.trans q) (s.trans s') k r (f.step s)
theorem PostS.step {F H F1 H1 : Hp} {p p1 : Pth} {σ : Sl} {D : Ends} {r : Res Fl} (s : Step F H p F1 H1 p1) (h : PostS K W S Γ' F H p σ D r) : PostS K W S Γ' F1 H1 p1 σ D r := PostS.stepσ .refl s h
theorem wpS {σ : Sl} {D : Ends} : Wp K W S.Γx σ (fun F H p r => PostS K W S Γ' F H p σ D r) := ⟨PostS.step, fun h => h, fun h cls dd F' H' p' s k r => h σ cls dd F' H' p' .refl s k r⟩
end
def MS (X : Cx) (W : WX) (S : SC) (Γ : List Mode) (st : Stmt) (f : M Fl) (Γ' : List Mode) : Prop :=
  ∃ t, PS X st t ∧ ∀ (D : Ends) (σ : Sl) (F H : Hp) (p : Pth) (env : Env), SOk X.K Γ F H env σ p → PostS X.K W S Γ' F H p σ D (f env) → t D σ H
def MSs (X : Cx) (W : WX) (S : SC) (Γ : List Mode) (st : List Stmt) (f : M Fl) (Γ' : List Mode) : Prop :=
  ∃ t, PSs X st t ∧ ∀ (D : Ends) (σ : Sl) (F H : Hp) (p : Pth) (env : Env), SOk X.K Γ F H env σ p → PostS X.K W S Γ' F H p σ D (f env) → t D σ H
def mNext : M Fl := fun e => .ok .next e
def mSeq (f g : M Fl) : M Fl := fun e => (f e).bind fun fl e1 => match fl with
  | .next => g e1
  | fl => .ok fl e1
section
variable {X : Cx} {W : WX} {S : SC} {Γ Γ1 Γ2 Γ3 Γ' : List Mode} {st : Stmt} {rest : List Stmt} {f g : M Fl} {pos : Pos} {e c : Expr} {fe ge : M D} {ft : M Bool}
theorem mss_nil : MSs X W S Γ [] mNext Γ := ⟨_, pss_nil, fun D σ F H p env s q => q σ F H p .refl .refl s⟩
theorem ms_pass : MS X W S Γ (.Pass pos) mNext Γ := ⟨_, ps_pass, fun D σ F H p env s q => q σ F H p .refl .refl s⟩
theorem mss_cons (h1 : MS X W S Γ st f Γ1) (h2 : MSs X W S Γ1 rest g Γ2) : MSs X W S Γ (st :: rest) (mSeq f g) Γ2 := by
  obtain ⟨t, pt, h1⟩ := h1
  obtain ⟨u, pu, h2⟩ := h2
  refine ⟨_, pss_cons pt pu, fun D σ F H p env s q => ?_⟩
  show t { D with nx := u D } σ H
  refine h1 _ σ F H p env s ?_
  unfold mSeq at q
  cases hf : f env with
  | bad => rw [hf] at q; exact q
  | ex x e' => rw [hf] at q; exact q
  | ok fl e1 =>
    rw [hf] at q
    cases fl with
    | next => exact fun σ' F' H' p' hp s' k => h2 D σ' F' H' p' e1 k (q.stepσ hp s')
    | ret d => exact q
    | brk => exact q
    | cont => exact q
theorem mss_one (h1 : MS X W S Γ st f Γ1) : MSs X W S Γ [st] f Γ1 := by
  obtain ⟨t, pt, h1⟩ := h1
  exact ⟨_, pss_one pt, h1⟩
theorem PostS.le {K : PySem.W.Frag} {F H : Hp} {p : Pth} {σ : Sl} {D : Ends} {r : Res Fl} (l : MLe Γ1 Γ2) (h : PostS K W S Γ2 F H p σ D r) : PostS K W S Γ1 F H p σ D r := by
  cases r with
  | bad => exact h
  | ex x e => exact h
  | ok f e =>
    cases f with
    | next => exact fun σ' F' H' p' q s' k => h σ' F' H' p' q s' (k.le l)
    | brk => exact h
    | cont => exact h
    | ret d => exact h
theorem MSs.le (h : MSs X W S Γ rest f Γ1) (l : MLe Γ1 Γ2) : MSs X W S Γ rest f Γ2 := by
  obtain ⟨t, pt, h⟩ := h
  exact ⟨t, pt, fun D σ F H p env s q => h D σ F H p env s (q.le l)⟩
theorem MS.le (h : MS X W S Γ st f Γ1) (l : MLe Γ1 Γ2) : MS X W S Γ st f Γ2 := by
  obtain ⟨t, pt, h⟩ := h
  exact ⟨t, pt, fun D σ F H p env s q => h D σ F H p env s (q.le l)⟩
/-- what is forgotten ahead of a statement -/
theorem MSs.pre (h : MSs X W S Γ1 rest f Γ2) (l : MLe Γ Γ1) : MSs X W S Γ rest f Γ2 := by
  obtain ⟨t, pt, h⟩ := h
  exact ⟨t, pt, fun D σ F H p env s q => h D σ F H p env (s.le l) q⟩
/-- a slot is shared ahead of a statement -/
theorem MSs.frz {m : Mode} (i : Nat) (hΓ : Γ[i]? = some m) (hg : m.good) (h : MSs X W S (Γ.set i .fz) rest f Γ2) : MSs X W S Γ rest f Γ2 := by
  obtain ⟨t, pt, h⟩ := h
  exact ⟨t, pt, fun D σ F H p env s q => h D σ _ H _ env (s.frz hΓ hg) (q.step (Step.frzS s.off))⟩
/-- x = e -/
def mSet (i : Nat) (f : M D) : M Fl := fun e => (f e).bind fun d e1 => .ok .next (e1.set i (some d))
theorem ms_set (i : Nat) {x : Str} {pos' : Pos} (he : MZ X W S.Γx Γ e fe Γ1) (hpin : S.pin i = false := by rfl) (hN : X.N.Nodup := by assumption) (hi : X.N[i]? = some x := by rfl) (hx : Loc X.env.scope x := by first | exact .inl rfl | exact .inr rfl) (hs : swapsWith e (some (.Name x pos')) pos.line X.env = pure false := by rfl)
    (hf : X.fn x = true ∨ X.env.scope.names.lookup x = some .local := by first | exact .inl rfl | exact .inr rfl) : MS X W S Γ (.Assign [.Name x pos'] e pos) (mSet i fe) (Γ1.set i .fz) := by
  obtain ⟨t, pt, he⟩ := he
  refine ⟨_, ps_set hN hi hx pt hs hf, fun D σ F H p env s q => ?_⟩
  show t σ H fun x H1 => D.nx (σ.set i (some x)) H1
  exact zseq wpS he s q fun d e1 v F1 H1 p1 s1 k1 r1 q1 => q1 _ F1 H1 p1 (.set hpin) .refl (k1.setZ r1)
theorem ms_setO (i : Nat) {x : Str} {m : Mode} {pos' : Pos} (he : MO X W S.Γx Γ e fe m Γ1) (hpin : S.pin i = false := by rfl) (hN : X.N.Nodup := by assumption) (hi : X.N[i]? = some x := by rfl) (hx : Loc X.env.scope x := by first | exact .inl rfl | exact .inr rfl) (hs : swapsWith e (some (.Name x pos')) pos.line X.env = pure false := by rfl)
    (hf : X.fn x = true ∨ X.env.scope.names.lookup x = some .local := by first | exact .inl rfl | exact .inr rfl) : MS X W S Γ (.Assign [.Name x pos'] e pos) (mSet i fe) (Γ1.set i m) := by
  obtain ⟨t, pt, he⟩ := he
  refine ⟨_, ps_set hN hi hx pt hs hf, fun D σ F H p env s q => ?_⟩
  show t σ H fun x H1 => D.nx (σ.set i (some x)) H1
  refine he σ F H p env _ s ?_
  unfold mSet at q
  cases hf : fe env with
  | bad => rw [hf] at q; exact q.elim
  | ex x e' => rw [hf] at q; exact fun cls dd F' H' p' s k r => q σ cls dd F' H' p' .refl s k r
  | ok d e1 =>
    rw [hf] at q
    exact fun v F1 H1 p1 pv s1 k1 r1 f1 => q _ F1 H1 _ (.set hpin) (s1.put f1) (k1.setO r1 f1)
/-- e -/
def mExpr (f : M D) : M Fl := fun e => (f e).bind fun _ e1 => .ok .next e1
theorem ms_expr (he : MZ X W S.Γx Γ e fe Γ1) (hs : swapsWith e none pos.line X.env = pure false := by rfl) : MS X W S Γ (.Expr e pos) (mExpr fe) Γ1 := by
  obtain ⟨t, pt, he⟩ := he
  refine ⟨_, ps_expr pt hs, fun D σ F H p env s q => ?_⟩
  show t σ H fun _ H1 => D.nx σ H1
  exact zseq wpS he s q fun d e1 v F1 H1 p1 s1 k1 r1 q1 => q1 _ F1 H1 p1 .refl .refl k1
/-- return e -/
def mRet (f : M D) : M Fl := fun e => (f e).bind fun d e1 => .ok (.ret d) e1
theorem ms_ret (he : MZ X W S.Γx Γ e fe Γ1) (hm : S.rm = .fz := by rfl) (l : MLe Γ1 S.Γr := by repeat (first | exact MLe.nil | apply MLe.drop | apply MLe.same)) : MS X W S Γ (.Return (some e) pos) (mRet fe) Γ' := by
  obtain ⟨t, pt, he⟩ := he
  refine ⟨_, ps_ret pt, fun D σ F H p env s q => ?_⟩
  show t σ H D.rt
  exact zseq wpS he s q fun d e1 v F1 H1 p1 s1 k1 r1 q1 => q1 v σ F1 H1 p1 noP .refl .refl (k1.le l) (by rw [hm]; exact r1) .no
theorem ms_retO {m : Mode} (he : MO X W S.Γx Γ e fe m Γ1) (hm : S.rm = m := by rfl) (l : MLe Γ1 S.Γr := by repeat (first | exact MLe.nil | apply MLe.drop | apply MLe.same)) : MS X W S Γ (.Return (some e) pos) (mRet fe) Γ' := by
  obtain ⟨t, pt, he⟩ := he
  refine ⟨_, ps_ret pt, fun D σ F H p env s q => ?_⟩
  show t σ H D.rt
  refine he σ F H p env _ s ?_
  unfold mRet at q
  cases hf : fe env with
  | bad => rw [hf] at q; exact q.elim
  | ex x e' => rw [hf] at q; exact fun cls dd F' H' p' s k r => q σ cls dd F' H' p' .refl s k r
  | ok d e1 =>
    rw [hf] at q
    exact fun v F1 H1 p1 pv s1 k1 r1 f1 => q v σ F1 H1 p1 pv .refl s1 (k1.le l) (by rw [hm]; exact r1) f1
theorem ms_retN (hm : S.rm = .fz := by rfl) (l : MLe Γ S.Γr := by repeat (first | exact MLe.nil | apply MLe.drop | apply MLe.same)) : MS X W S Γ (.Return none pos) (fun e => .ok (.ret .non) e) Γ' :=
  ⟨_, ps_retN, fun D σ F H p env s q => q .non σ F H p noP .refl .refl (s.le l) (by rw [hm]; exact .non) .no⟩
theorem ms_if {a b : List Stmt} (hc : MT X W S.Γx Γ c ft Γ1) (ha : MSs X W S Γ1 a f Γ') (hb : MSs X W S Γ1 b g Γ') : MS X W S Γ (.If c a b pos) (mIf ft f g) Γ' := by
  obtain ⟨tc, pc, hc⟩ := hc
  obtain ⟨ta, pa, ha⟩ := ha
  obtain ⟨tb, pb, hb⟩ := hb
  refine ⟨_, ps_if pc pa pb, fun D σ F H p env s q => ?_⟩
  show tc σ H fun b H1 => if b = true then ta D σ H1 else tb D σ H1
  refine tseq wpS hc s q fun d e1 F1 H1 p1 s1 k1 q1 => ?_
  cases d with
  | true => exact ha D σ F1 H1 p1 e1 k1 q1
  | false => exact hb D σ F1 H1 p1 e1 k1 q1
theorem ms_break (l : MLe Γ S.Γb := by repeat (first | exact MLe.nil | apply MLe.drop | apply MLe.same)) : MS X W S Γ (.Break pos) (fun e => .ok .brk e) Γ' := ⟨_, ps_break, fun D σ F H p env s q => q σ F H p .refl .refl (s.le l)⟩
theorem ms_continue (l : MLe Γ S.Γc := by repeat (first | exact MLe.nil | apply MLe.drop | apply MLe.same)) : MS X W S Γ (.Continue pos) (fun e => .ok .cont e) Γ' := ⟨_, ps_continue, fun D σ F H p env s q => q σ F H p .refl .refl (s.le l)⟩

/-! ### targets -/
abbrev Tg := D → Env → Option Env
abbrev Tgs := List D → Env → Option Env
def MG (X : Cx) (S : SC) (Γ : List Mode) (tg : Expr) (h : Tg) (Γ' : List Mode) : Prop :=
  ∃ g, PG X tg g ∧ ∀ (σ : Sl) (F H : Hp) (p : Pth) (env e' : Env) (d : D) (v : V) (Q : L2.St → Hp → Prop), SOk X.K Γ F H env σ p → RepZ X.K F d v → h d env = some e' →
    (∀ σ', PinOk S.pin σ σ' → SOk X.K Γ' F H e' σ' p → Q σ' H) → g v σ H Q
def MGs (X : Cx) (S : SC) (Γ : List Mode) (ts : List Expr) (h : Tgs) (Γ' : List Mode) : Prop :=
  ∃ g, PGs X ts g ∧ ∀ (σ : Sl) (F H : Hp) (p : Pth) (env e' : Env) (ds : List D) (vs : List V) (Q : L2.St → Hp → Prop), SOk X.K Γ F H env σ p → RepZs X.K F ds vs → h ds env = some e' →
    (∀ σ', PinOk S.pin σ σ' → SOk X.K Γ' F H e' σ' p → Q σ' H) → g vs σ H Q
def gSet (i : Nat) : Tg := fun d e => some (e.set i (some d))
def gsNil : Tgs := fun ds e => match ds with
  | [] => some e
  | _ => none
def gsCons (h : Tg) (t : Tgs) : Tgs := fun ds e => match ds with
  | d :: r => (h d e).bind (t r)
  | [] => none
def gTupD (t : Tgs) : Tg := fun d e => match d with
  | .tup ds => t ds e
  | .ktp ds => t ds e
  | _ => none
theorem mg_name (i : Nat) {x : Str} (hpin : S.pin i = false := by rfl) (hN : X.N.Nodup := by assumption) (hi : X.N[i]? = some x := by rfl) (hx : Loc X.env.scope x := by first | exact .inl rfl | exact .inr rfl)
    (hf : X.fn x = true ∨ X.env.scope.names.lookup x = some .local := by first | exact .inl rfl | exact .inr rfl) : MG X S Γ (.Name x pos) (gSet i) (Γ.set i .fz) := by
  refine ⟨_, pg_name hN hi hx hf, fun σ F H p env e' d v Q s r he q => ?_⟩
  cases he
  exact q _ (.set hpin) (s.setZ r)
theorem mgs_nil : MGs X S Γ [] gsNil Γ := by
  refine ⟨_, pgs_nil, fun σ F H p env e' ds vs Q s r he q => ?_⟩
  cases ds with
  | nil => cases he; exact ⟨r.inv0, q σ .refl s⟩
  | cons d r => cases he
theorem mgs_cons {tg : Expr} {ts : List Expr} {h : Tg} {t : Tgs} (h1 : MG X S Γ tg h Γ1) (h2 : MGs X S Γ1 ts t Γ2)
    (hs : (assignEach (tg :: ts) X.env).map (·.2) = assign tg X.env :: (assignEach ts X.env).map (·.2) := by rfl) : MGs X S Γ (tg :: ts) (gsCons h t) Γ2 := by
  obtain ⟨g, pg, h1⟩ := h1
  obtain ⟨gs, pgs, h2⟩ := h2
  refine ⟨_, pgs_cons pg pgs hs, fun σ F H p env e' ds vs Q s r he q => ?_⟩
  cases ds with
  | nil => cases he
  | cons d dr =>
    obtain ⟨v, us, rfl, r1, r2⟩ := r.inv
    refine ⟨v, us, rfl, ?_⟩
    simp only [gsCons] at he
    cases hh : h d env with
    | none => rw [hh] at he; cases he
    | some e1 =>
      rw [hh] at he
      exact h1 σ F H p env e1 d v _ s r1 hh fun σ' hp' s' => h2 σ' F H p e1 e' dr us Q s' r2 he fun σ'' hp'' s'' => q σ'' (hp'.trans hp'') s''
def GLen (t : Tgs) (n : Nat) : Prop := ∀ ds e e', t ds e = some e' → ds.length = n
theorem GLen.cons {h : Tg} {t : Tgs} {n : Nat} (ht : GLen t n) : GLen (gsCons h t) (n + 1) := by
  intro ds e e' he
  cases ds with
  | nil => cases he
  | cons d r =>
    simp only [gsCons] at he
    cases hh : h d e with
    | none => rw [hh] at he; cases he
    | some e1 => rw [hh] at he; simp [ht r e1 e' he]
theorem GLen.nil : GLen gsNil 0 := by
  intro ds e e' he
  cases ds with
  | nil => rfl
  | cons d r => cases he
theorem mg_tup {es : List Expr} {k n : Nat} {t : Tgs} (h : MGs X S Γ es t Γ') (hl : GLen t n := by repeat (first | exact GLen.nil | apply GLen.cons)) (hc : X.calm = true := by rfl)
    (hn : (assignEach es X.env).length = n := by rfl) (hst : (assignEach es X.env).findIdx? (·.1) = none := by rfl) : MG X S Γ (.Tuple es k pos) (gTupD t) Γ' := by
  obtain ⟨g, pg, h⟩ := h
  refine ⟨_, L2.pg_tup hc pg hn hst, fun σ F H p env e' d v Q s r he q => ?_⟩
  unfold gTupD at he
  cases d <;> try cases he
  · obtain ⟨a, vs, rfl, h1, h2⟩ := r.tup_inv
    exact ⟨a, vs, rfl, SqT.of (s.same _ _ h1), h2.1 ▸ hl _ _ _ he, h σ F H p env e' _ vs Q s h2 he q⟩
  · obtain ⟨a, vs, rfl, h1, h2⟩ := r.ktp_inv
    exact ⟨a, vs, rfl, seqT s.same h1, h2.1 ▸ hl _ _ _ he, h σ F H p env e' _ vs Q s h2 he q⟩
/-- a, b = e -/
def mAsg (f : M D) (h : Tg) : M Fl := fun e => (f e).bind fun d e1 => match h d e1 with
  | some e2 => .ok .next e2
  | none => .bad
theorem ms_asg {tg : Expr} {h : Tg} (he : MZ X W S.Γx Γ e fe Γ1) (hg : MG X S Γ1 tg h Γ2) (hs : swapsWithSole [tg] e pos.line X.env = pure false := by rfl) (hw : swappedStores [tg] e X.env = pure none := by rfl)
    (h1 : (assignEach [tg] X.env).map (·.2) = [assign tg X.env] := by rfl) : MS X W S Γ (.Assign [tg] e pos) (mAsg fe h) Γ2 := by
  obtain ⟨t, pt, he⟩ := he
  obtain ⟨g, pg, hg⟩ := hg
  refine ⟨_, ps_asg pt pg hs hw h1, fun D σ F H p env s q => ?_⟩
  show t σ H fun x H1 => g x σ H1 D.nx
  refine zseq wpS he s q fun d e1 v F1 H1 p1 s1 k1 r1 q1 => ?_
  cases hh : h d e1 with
  | none => rw [hh] at q1; exact q1.elim
  | some e2 =>
    rw [hh] at q1
    exact hg σ F1 H1 p1 e1 e2 d v _ k1 r1 hh fun σ' hp' s' => q1 σ' F1 H1 p1 hp' .refl s'

/-! ### loops -/
/-- an iterator gives these, whatever is done to what is owned -/
def WalkD (K : PySem.W.Frag) (J : It) (F0 : Hp) (ds : List D) : Prop :=
  (∀ F H i, Same F0 F → Same F H → ds.length ≤ i → J.stop i H) ∧
  ∀ F H (i : Nat) (d : D), Same F0 F → Same F H → ds[i]? = some d → J.go i H ∧ ∀ x H', J.yld i H x H' → ∀ Γ e σ p, SOk K Γ F H e σ p → ∃ F', Step F H p F' H' p ∧ SOk K Γ F' H' e σ p ∧ RepZ K F' d x
def PostI (K : PySem.W.Frag) (W : WX) (Γx Γ' : List Mode) (F H : Hp) (p : Pth) (σ : Sl) (R : It → Hp → Prop) : Res (List D) → Prop
  | .ok ds e' => ∀ (J : It) (F' H' : Hp) (p' : Pth), Step F H p F' H' p' → SOk K Γ' F' H' e' σ p' → WalkD K J F' ds → R J H'
  | .ex x e' => PostX K W Γx F H p σ x e'
  | .bad => False
def MI (X : Cx) (W : WX) (Γx Γ : List Mode) (tg iter : Expr) (f : M (List D)) (Γ' : List Mode) : Prop :=
  ∃ wi, PI X tg iter wi ∧ ∀ (σ : Sl) (F H : Hp) (p : Pth) (env : Env) (R : It → Hp → Prop), SOk X.K Γ F H env σ p → PostI X.K W Γx Γ' F H p σ R (f env) → wi σ H R
def mFor (h : Tg) (body : M Fl) : List D → M Fl
  | [], e => .ok .next e
  | d :: ds, e => match h d e with
    | none => .bad
    | some e1 => (body e1).bind fun fl e2 => match fl with
      | .next => mFor h body ds e2
      | .cont => mFor h body ds e2
      | .brk => .ok .next e2
      | .ret d => .ok (.ret d) e2
def mForS (it : M (List D)) (h : Tg) (body : M Fl) : M Fl := fun e => (it e).bind fun ds e1 => mFor h body ds e1
theorem ms_for {tg iter : Expr} {body : List Stmt} {it : M (List D)} {h : Tg} {Γh : List Mode} (hi : MI X W S.Γx Γ tg iter it Γ1) (l : MLe Γ1 Γh) (hg : MG X S Γh tg h Γ2)
    (hb : MSs X W { S with Γb := Γh, Γc := Γh } Γ2 body f Γh) (hp : PassesOwn (model X.prog X.w) X.A X.env X.xe) (hc : X.calm = true := by rfl) (hs : ∀ x, foldedSetIterable iter X.env x = pure x := by intro _; rfl) :
    MS X W S Γ (.For tg iter body [] pos) (mForS it h f) Γh := by
  obtain ⟨wi, pi, hi⟩ := hi
  obtain ⟨g, pg, hg⟩ := hg
  obtain ⟨tb, pb, hb⟩ := hb
  refine ⟨_, ps_for hp hc pi pg pb hs, fun D σ F H p env s q => ?_⟩
  show wi σ H fun J H1 => ∃ W : Nat → Nat → L2.St → Hp → Prop, (∃ m, W 0 m σ H1) ∧ ∀ i m σ H, W i m σ H →
    (J.stop i H ∧ D.nx σ H) ∨ (J.go i H ∧ ∃ N : L2.St → Hp → Prop, (∀ σ' H', N σ' H' → ∃ m', m' < m ∧ W (i + 1) m' σ' H') ∧ ∀ x H', J.yld i H x H' → g x σ H' fun σ2 H2 => tb { D with nx := N, ct := N, bk := D.nx } σ2 H2)
  refine hi σ F H p env _ s ?_
  unfold mForS at q
  cases hit : it env with
  | bad => rw [hit] at q; exact q
  | ex x e' => rw [hit] at q; exact fun cls dd F' H' p' s k r => q σ cls dd F' H' p' .refl s k r
  | ok ds e1 =>
    rw [hit] at q
    intro J F1 H1 p1 s1 k1 wd
    refine ⟨fun i m σ2 H2 => i ≤ ds.length ∧ m = ds.length - i ∧ ∃ F2 p2 e2, Same F1 F2 ∧ SOk X.K Γh F2 H2 e2 σ2 p2 ∧ PostS X.K W S Γh F2 H2 p2 σ2 D (mFor h f (ds.drop i) e2),
      ⟨ds.length, Nat.zero_le _, rfl, F1, p1, e1, fun _ _ z => z, k1.le l, q.step s1⟩, ?_⟩
    rintro i m σ2 H2 ⟨hil, rfl, F2, p2, e2, sF, k2, q2⟩
    by_cases hlt : i < ds.length
    · have hd : ds[i]? = some ds[i] := List.getElem?_eq_getElem hlt
      obtain ⟨go, yl⟩ := wd.2 F2 H2 i ds[i] sF k2.same hd
      rw [List.drop_eq_getElem_cons hlt] at q2
      refine .inr ⟨go, fun σ' H' => ∃ F3 p3 e3, Same F1 F3 ∧ SOk X.K Γh F3 H' e3 σ' p3 ∧ PostS X.K W S Γh F3 H' p3 σ' D (mFor h f (ds.drop (i + 1)) e3), fun σ' H' n => ⟨ds.length - (i + 1), by omega, hlt, rfl, n⟩, fun x H' y => ?_⟩
      obtain ⟨F3, s3, k3, r3⟩ := yl x H' y Γh e2 σ2 p2 k2
      replace q3 := q2.step s3
      simp only [mFor] at q3
      cases hh : h ds[i] e2 with
      | none => rw [hh] at q3; exact q3.elim
      | some e3 =>
        rw [hh] at q3
        dsimp only at q3
        refine hg σ2 F3 H' p2 e2 e3 ds[i] x _ k3 r3 hh fun σ4 hp4 k4 => ?_
        refine hb _ σ4 F3 H' p2 e3 k4 ?_
        have sF3 : Same F1 F3 := fun a o z => s3.same a o (sF a o z)
        replace q3 := q3.stepσ hp4 .refl
        cases hf : f e3 with
        | bad => rw [hf] at q3; exact q3.elim
        | ex x e' => rw [hf] at q3; exact q3
        | ok fl e4 =>
          rw [hf] at q3
          cases fl with
          | next => exact fun σ' F' H'' p' hp' s' k' => ⟨F', p', e4, fun a o z => s'.same a o (sF3 a o z), k', q3.stepσ hp' s'⟩
          | cont => exact fun σ' F' H'' p' hp' s' k' => ⟨F', p', e4, fun a o z => s'.same a o (sF3 a o z), k', q3.stepσ hp' s'⟩
          | brk => exact q3
          | ret d => exact q3
    · have e : i = ds.length := by omega
      subst e
      rw [List.drop_length] at q2
      exact .inl ⟨wd.1 F2 H2 _ sF k2.same (Nat.le_refl _), q2 σ2 F2 H2 p2 .refl .refl k2⟩
def mWhile (t : M Bool) (body : M Fl) : Nat → M Fl
  | 0, _ => .bad
  | n + 1, e => (t e).bind fun b e1 => if b then (body e1).bind fun fl e2 => match fl with
      | .next => mWhile t body n e2
      | .cont => mWhile t body n e2
      | .brk => .ok .next e2
      | .ret d => .ok (.ret d) e2
    else .ok .next e1
theorem ms_while {body : List Stmt} {Γh : List Mode} (n : Nat) (l : MLe Γ Γh) (ht : MT X W S.Γx Γh c ft Γh) (hb : MSs X W { S with Γb := Γh, Γc := Γh } Γh body f Γh) (hp : PassesOwn (model X.prog X.w) X.A X.env X.xe) :
    MS X W S Γ (.While c body [] pos) (mWhile ft f n) Γh := by
  obtain ⟨tc, pc, ht⟩ := ht
  obtain ⟨tb, pb, hb⟩ := hb
  refine ⟨_, ps_while hp pc pb, fun D σ F H p env s q => ?_⟩
  refine ⟨fun m σ2 H2 => ∃ F2 p2 e2, SOk X.K Γh F2 H2 e2 σ2 p2 ∧ PostS X.K W S Γh F2 H2 p2 σ2 D (mWhile ft f m e2), ⟨n, F, p, env, s.le l, q⟩, ?_⟩
  rintro m σ2 H2 ⟨F2, p2, e2, k2, q2⟩
  cases m with
  | zero => exact q2.elim
  | succ m =>
    refine tseq wpS ht k2 q2 fun b e3 F3 H3 p3 s3 k3 q3 => ?_
    cases b with
    | false => exact q3 σ2 F3 H3 p3 .refl .refl k3
    | true =>
      rw [if_pos rfl]
      refine ⟨fun σ' H' => ∃ F4 p4 e4, SOk X.K Γh F4 H' e4 σ' p4 ∧ PostS X.K W S Γh F4 H' p4 σ' D (mWhile ft f m e4), fun σ' H' ⟨F4, p4, e4, w⟩ => ⟨m, Nat.lt_succ_self m, F4, p4, e4, w⟩, ?_⟩
      refine hb _ σ2 F3 H3 p3 e3 k3 ?_
      simp only [if_true] at q3
      cases hf : f e3 with
      | bad => rw [hf] at q3; exact q3.elim
      | ex x e' => rw [hf] at q3; exact q3
      | ok fl e4 =>
        rw [hf] at q3
        cases fl with
        | next => exact fun σ' F' H'' p' hp' s' k' => ⟨F', p', e4, k', q3.stepσ hp' s'⟩
        | cont => exact fun σ' F' H'' p' hp' s' k' => ⟨F', p', e4, k', q3.stepσ hp' s'⟩
        | brk => exact q3
        | ret d => exact q3
end
end VM
/-! VM, part 8: defs and their calls. -/
namespace VM
open PySem PySem.Spec PyProof.Rows L2

inductive FRes where
  | ok (d : D) (as : List D)
  | ex (x : Exn) (as : List D)
  | bad
def Mode.owned : Mode → Bool
  | .any => false
  | .fz => false
  | .exc _ _ => false
  | _ => true
def pickO : List Mode → Env → Option (List D)
  | [], _ => some []
  | _ :: _, [] => none
  | m :: pm, od :: e => if m.owned then (match od with
      | some d => (pickO pm e).map (d :: ·)
      | none => none)
    else pickO pm e
def outE : List Mode → List D → Env
  | [], _ => []
  | m :: pm, as => if m.owned then (match as with
      | a :: r => some a :: outE pm r
      | [] => none :: outE pm [])
    else none :: outE pm as
theorem outE_len : ∀ (pm : List Mode) (as : List D), (outE pm as).length = pm.length
  | [], _ => rfl
  | m :: pm, as => by
    unfold outE
    split
    · split
      · simp [outE_len pm]
      · simp [outE_len pm]
    · simp [outE_len pm]
theorem outE_get : ∀ {pm : List Mode} {e : Env} {as : List D}, pickO pm e = some as → ∀ {i : Nat} {m : Mode} {d : D}, pm[i]? = some m → (outE pm as)[i]? = some (some d) → m.owned = true ∧ e[i]? = some (some d)
  | [], _, _, _, i, m, d, h, _ => by simp at h
  | _ :: _, [], _, h, _, _, _, _, _ => by simp [pickO] at h
  | m0 :: pm, od :: e, as, h, i, m, d, h1, h2 => by
    unfold pickO at h
    split at h
    · rename_i ho
      cases od with
      | none => cases h
      | some d0 =>
        simp only [Option.map_eq_some_iff] at h
        obtain ⟨r, hr, rfl⟩ := h
        unfold outE at h2
        rw [if_pos ho] at h2
        cases i with
        | zero =>
          simp at h1 h2
          subst h1; subst h2
          exact ⟨ho, rfl⟩
        | succ i => simpa using outE_get hr (i := i) (by simpa using h1) (by simpa using h2)
    · rename_i ho
      unfold outE at h2
      rw [if_neg ho] at h2
      cases i with
      | zero => simp at h2
      | succ i => simpa using outE_get h (i := i) (by simpa using h1) (by simpa using h2)
/-- a def's promise: from data to data -/
def spM (K : PySem.W.Frag) (pm : List Mode) (rm : Mode) (Fm : List D → FRes) : Sp := fun vs H Q E =>
  ∃ (ds : List D) (F : Hp) (p : Pth), ds.length = pm.length ∧ SOk K pm F H (ds.map some) (vs.map some) p ∧
    match Fm ds with
    | .ok d as => ∀ (v : V) (F' H' : Hp) (p' pv : Pth), Step F H p F' H' p' → SOk K pm F' H' (outE pm as) (vs.map some) p' → Rep K rm F' H' d v pv → Fresh F H p F' H' p' pv → Q v H'
    | .ex x as => ∀ (cls : Value) (dd : Option Addr) (F' H' : Hp) (p' : Pth), Step F H p F' H' p' → SOk K pm F' H' (outE pm as) (vs.map some) p' → ExnR K F' x cls dd → E cls dd H'
    | .bad => False
def FnM (P : Program) (w : World) (K : PySem.W.Frag) (mg : Str → Option Value) (base : Heap) (k : Nat) (f : Addr) (fd : FuncData) (ps : List Str) (pm : List Mode) (rm : Mode) (Fm : List D → FRes) : Prop :=
  FnOk P w K mg base (L2.CX P w) k f fd ps (spM K pm rm Fm)
def ownΓ (pm : List Mode) : List Mode := pm.map fun m => if m.owned then m else .any
def bodyΓ (pm : List Mode) (n : Nat) : List Mode := pm ++ List.replicate (n - pm.length) .fz
def endΓ (pm : List Mode) (n : Nat) : List Mode := ownΓ pm ++ List.replicate (n - pm.length) .any
def pinsOf (pm : List Mode) : Nat → Bool := fun i => match pm[i]? with
  | some m => m.owned
  | none => false
def scOf (pm : List Mode) (rm : Mode) (n : Nat) : SC := ⟨endΓ pm n, endΓ pm n, [], [], rm, pinsOf pm⟩
/-- a def's function by its body's -/
def mFn (n : Nat) (pm : List Mode) (nx : Bool) (fb : M Fl) : List D → FRes := fun ds => match fb (ds.map some ++ List.replicate (n - ds.length) none) with
  | .ok fl e => match pickO pm e with
    | some as => (match fl with
      | .ret d => .ok d as
      | .next => if nx then .ok .non as else .bad
      | _ => .bad)
    | none => .bad
  | .ex x e => match pickO pm e with
    | some as => .ex x as
    | none => .bad
  | .bad => .bad
section
variable {K : PySem.W.Frag}
theorem back_ok {pm : List Mode} {n : Nat} {F' H' : Hp} {e' : Env} {N : List Str} {vs : List V} {σ' : Sl} {p' : Pth} {as : List D} (hn : N.length = n) (hv : vs.length = pm.length) (k : SOk K (endΓ pm n) F' H' e' σ' p')
    (hp : PinOk (pinsOf pm) (L2.start N vs) σ') (ha : pickO pm e' = some as) : SOk K pm F' H' (outE pm as) (vs.map some) p' := by
  refine ⟨k.same, k.inj, k.off, by rw [outE_len, List.length_map, hv], fun i m d hm hd => ?_⟩
  obtain ⟨ho, he⟩ := outE_get ha hm hd
  have hi : i < pm.length := (List.getElem?_eq_some_iff.mp hm).1
  have hΓ : (endΓ pm n)[i]? = some m := by
    unfold endΓ ownΓ
    rw [List.getElem?_append_left (by simpa using hi), List.getElem?_map, hm]
    simp [ho]
  rcases k.slot i m d hΓ he with h | ⟨v, h1, h2⟩
  · exact .inl h
  · refine .inr ⟨v, ?_, h2⟩
    have hpin : pinsOf pm i = true := by
      unfold pinsOf
      rw [hm]; exact ho
    have := hp i hpin
    rw [h1] at this
    unfold L2.start at this
    rw [List.getElem?_append_left (by rw [List.length_map, hv]; exact hi)] at this
    exact this.symm
theorem fnM_of {P : Program} {w : World} {mg : Str → Option Value} {base : Heap} {x qual : Str} {st : Stmt} {f : Addr} {fd : FuncData} {N ps : List Str} {k : Nat} {pm : List Mode} {rm : Mode} {nx : Bool} {fb : M Fl} {Γ' : List Mode}
    (F : Fun K x qual st f fd) (S : FnScope N ps (defScope st)) (hl : ps.length = pm.length) (hn : pm.length ≤ N.length) (hx : nx = true → rm = .fz ∧ MLe Γ' (endΓ pm N.length))
    (body : ∀ (cdv : Value) (A : Around) (outer : List PySem.Env) (s : Shared) (H : Hp) (E : XK), Room k (A.deeper (envOfC qual (defScope st) s.heap.objs.size f cdv)) →
      MSs (cxOf (L2.CX P w) P w K mg base N qual (defScope st) f cdv A outer s H E) (fun cls d _ H => E cls d H) (scOf pm rm N.length) (bodyΓ pm N.length) (defBody st) fb Γ') :
    FnM P w K mg base (k + 1) f fd ps pm rm (mFn N.length pm nx fb) := by
  refine F.okX S (fun vs H Q E h => ?_) (fun cdv A outer s H vs Q E hr h => ?_)
  · obtain ⟨ds, F0, p, h1, h2, _⟩ := h
    have := h2.len
    simp only [List.length_map] at this
    omega
  · obtain ⟨ds, F0, p, h1, h2, h3⟩ := h
    obtain ⟨t, pt, hb⟩ := body cdv A outer s H E hr
    have hvl : vs.length = pm.length := by
      have := h2.len
      simp only [List.length_map] at this
      omega
    refine ⟨t, pt, hb _ (L2.start N vs) F0 H p (ds.map some ++ List.replicate (N.length - ds.length) none) ⟨h2.same, h2.inj, h2.off, ?_, fun i m d hm hd => ?_⟩ ?_⟩
    · unfold L2.start
      have := h2.len
      simp only [List.length_map] at this
      simp only [List.length_append, List.length_map, List.length_replicate]
      omega
    · have hi : i < ds.length := by
        rcases Nat.lt_or_ge i ds.length with h | h
        · exact h
        · rw [List.getElem?_append_right (by simpa using h)] at hd
          rw [List.getElem?_replicate] at hd
          split at hd <;> cases hd
      rw [List.getElem?_append_left (by simpa using hi)] at hd
      have hm' : pm[i]? = some m := by
        unfold bodyΓ at hm
        rw [List.getElem?_append_left (by omega)] at hm
        exact hm
      rcases h2.slot i m d hm' hd with z | ⟨v, z1, z2⟩
      · exact .inl z
      · refine .inr ⟨v, ?_, z2⟩
        unfold L2.start
        rw [List.getElem?_append_left (by rw [List.length_map, hvl]; omega)]
        exact z1
    · unfold mFn at h3
      cases hf : fb (ds.map some ++ List.replicate (N.length - ds.length) none) with
      | bad => rw [hf] at h3; exact h3
      | ex x e =>
        rw [hf] at h3
        cases ha : pickO pm e with
        | none => simp only [ha] at h3
        | some as =>
          simp only [ha] at h3
          exact fun σ' cls dd F' H' p' hp s' k' r => h3 cls dd F' H' p' s' (back_ok rfl hvl k' hp ha) r
      | ok fl e =>
        rw [hf] at h3
        cases ha : pickO pm e with
        | none => simp only [ha] at h3
        | some as =>
          simp only [ha] at h3
          cases fl with
          | brk => exact h3.elim
          | cont => exact h3.elim
          | ret d => exact fun v σ' F' H' p' pv hp s' k' r fr => h3 v F' H' p' pv s' (back_ok rfl hvl k' hp ha) r fr
          | next =>
            cases nx with
            | false => simp at h3
            | true =>
              simp only [if_true] at h3
              obtain ⟨e1, l⟩ := hx rfl
              exact fun σ' F' H' p' hp s' k' => h3 .non F' H' p' noP s' (back_ok rfl hvl (k'.le l) hp ha) (by rw [e1]; exact RepZ.non) .no
end

/-! ### arguments -/
inductive Arg where
  | val (f : M D)
  | slot (i : Nat)
abbrev AV := D ⊕ Nat
def mArgs : List Arg → M (List AV)
  | [], e => .ok [] e
  | .val f :: r, e => (f e).bind fun d e1 => (mArgs r e1).bind fun xs e2 => .ok (.inl d :: xs) e2
  | .slot i :: r, e => match e[i]? with
    | some (some _) => (mArgs r e).bind fun xs e2 => .ok (.inr i :: xs) e2
    | _ => .bad
def ArgR (K : PySem.W.Frag) (F : Hp) (σ : Sl) : List AV → List V → Prop
  | [], [] => True
  | .inl d :: xs, v :: vs => RepZ K F d v ∧ ArgR K F σ xs vs
  | .inr s :: xs, v :: vs => σ[s]? = some (some v) ∧ ArgR K F σ xs vs
  | _, _ => False
theorem ArgR.mono {K : PySem.W.Frag} {F F' : Hp} {σ : Sl} (s : Same F F') : ∀ {xs : List AV} {vs : List V}, ArgR K F σ xs vs → ArgR K F' σ xs vs
  | [], [], _ => trivial
  | .inl d :: xs, v :: vs, h => ⟨h.1.mono s, ArgR.mono s h.2⟩
  | .inr i :: xs, v :: vs, h => ⟨h.1, ArgR.mono s h.2⟩
  | [], _ :: _, h => h.elim
  | .inl _ :: _, [], h => h.elim
  | .inr _ :: _, [], h => h.elim
theorem ArgR.length {K : PySem.W.Frag} {F : Hp} {σ : Sl} : ∀ {xs : List AV} {vs : List V}, ArgR K F σ xs vs → xs.length = vs.length
  | [], [], _ => rfl
  | .inl d :: xs, v :: vs, h => by simp [ArgR.length h.2]
  | .inr i :: xs, v :: vs, h => by simp [ArgR.length h.2]
  | [], _ :: _, h => h.elim
  | .inl _ :: _, [], h => h.elim
  | .inr _ :: _, [], h => h.elim
theorem ArgR.inl {K : PySem.W.Frag} {F : Hp} {σ : Sl} : ∀ {xs : List AV} {vs : List V} {j : Nat} {d : D}, ArgR K F σ xs vs → xs[j]? = some (.inl d) → ∃ v, vs[j]? = some v ∧ RepZ K F d v
  | [], _, j, d, _, h => by simp at h
  | .inl d0 :: xs, v :: vs, 0, d, h, e => by simp at e; subst e; exact ⟨v, rfl, h.1⟩
  | .inr i :: xs, v :: vs, 0, d, h, e => by simp at e
  | .inl d0 :: xs, v :: vs, j + 1, d, h, e => by simpa using ArgR.inl h.2 (by simpa using e)
  | .inr i :: xs, v :: vs, j + 1, d, h, e => by simpa using ArgR.inl h.2 (by simpa using e)
  | .inl _ :: _, [], _, _, h, _ => h.elim
  | .inr _ :: _, [], _, _, h, _ => h.elim
theorem ArgR.inr {K : PySem.W.Frag} {F : Hp} {σ : Sl} : ∀ {xs : List AV} {vs : List V} {j s : Nat}, ArgR K F σ xs vs → xs[j]? = some (.inr s) → ∃ v, vs[j]? = some v ∧ σ[s]? = some (some v)
  | [], _, j, d, _, h => by simp at h
  | .inl d0 :: xs, v :: vs, 0, d, h, e => by simp at e
  | .inr i :: xs, v :: vs, 0, d, h, e => by simp at e; subst e; exact ⟨v, rfl, h.1⟩
  | .inl d0 :: xs, v :: vs, j + 1, d, h, e => by simpa using ArgR.inr h.2 (by simpa using e)
  | .inr i :: xs, v :: vs, j + 1, d, h, e => by simpa using ArgR.inr h.2 (by simpa using e)
  | .inl _ :: _, [], _, _, h, _ => h.elim
  | .inr _ :: _, [], _, _, h, _ => h.elim
def PostA (K : PySem.W.Frag) (W : WX) (Γx Γ' : List Mode) (F H : Hp) (p : Pth) (σ : Sl) (Q : List V → Hp → Prop) : Res (List AV) → Prop
  | .ok xs e' => ∀ (vs : List V) (F' H' : Hp) (p' : Pth), Step F H p F' H' p' → SOk K Γ' F' H' e' σ p' → ArgR K F' σ xs vs → Q vs H'
  | .ex x e' => PostX K W Γx F H p σ x e'
  | .bad => False
def MA (X : Cx) (W : WX) (Γx Γ : List Mode) (es : List Expr) (args : List Arg) (Γ' : List Mode) : Prop :=
  ∃ t, PA X es t ∧ ∀ (σ : Sl) (F H : Hp) (p : Pth) (env : Env) (Q : List V → Hp → Prop), SOk X.K Γ F H env σ p → PostA X.K W Γx Γ' F H p σ Q (mArgs args env) → t σ H Q
theorem PostA.step {K : PySem.W.Frag} {W : WX} {Γx Γ' : List Mode} {F H F1 H1 : Hp} {p p1 : Pth} {σ : Sl} {Q : List V → Hp → Prop} {r : Res (List AV)} (s : Step F H p F1 H1 p1) (h : PostA K W Γx Γ' F H p σ Q r) : PostA K W Γx Γ' F1 H1 p1 σ Q r := by
  cases r with
  | ok d e => exact fun v F' H' p' s' k r => h v F' H' p' (s.trans s') k r
  | ex x e => exact PostX.step s h
  | bad => exact h
theorem wpA {K : PySem.W.Frag} {W : WX} {Γx Γ' : List Mode} {σ : Sl} {Q : List V → Hp → Prop} : Wp K W Γx σ (fun F H p r => PostA K W Γx Γ' F H p σ Q r) := ⟨PostA.step, fun h => h, fun h => h⟩
section
variable {X : Cx} {W : WX} {Γx Γ Γ1 Γ2 Γ3 Γ' : List Mode} {e : Expr} {es : List Expr} {f : M D} {args : List Arg} {pos : Pos}
theorem ma_nil : MA X W Γx Γ [] [] Γ := ⟨_, pa_nil, fun σ F H p env Q s q => q [] F H p .refl s trivial⟩
theorem ma_val (ha : MZ X W Γx Γ e f Γ1) (hr : MA X W Γx Γ1 es args Γ2) (hs : starEach (e :: es) X.env = (false, eval e X.env) :: starEach es X.env := by rfl) : MA X W Γx Γ (e :: es) (.val f :: args) Γ2 := by
  obtain ⟨ta, pa, ha⟩ := ha
  obtain ⟨tr, pr, hr⟩ := hr
  refine ⟨_, pa_cons pa pr hs, fun σ F H p env Q s q => ?_⟩
  show ta σ H fun x H1 => tr σ H1 fun xs H2 => Q (x :: xs) H2
  refine zseq wpA ha s q fun d e1 v F1 H1 p1 s1 k1 r1 q1 => ?_
  refine hr σ F1 H1 p1 e1 _ k1 ?_
  cases hm : mArgs args e1 with
  | bad => rw [hm] at q1; exact q1
  | ex x e' => rw [hm] at q1; exact q1
  | ok xs e2 =>
    rw [hm] at q1
    exact fun vs F2 H2 p2 s2 k2 r2 => q1 (v :: vs) F2 H2 p2 s2 k2 ⟨r1.mono s2.same, r2⟩
theorem ma_slot (i : Nat) {x : Str} {m : Mode} (hr : MA X W Γx Γ es args Γ2) (hΓ : Γ[i]? = some m := by rfl) (hm : m.owned = true := by rfl) (hN : X.N[i]? = some x := by rfl) (hv : Vis X.env.scope x := by first | exact Or.inl rfl | exact Or.inr (Or.inl rfl) | exact Or.inr (Or.inr rfl))
    (hd : (x == ("__debug__" : Str)) = false := by decide) (hcd : (x == ("__classdict__" : Str)) = false := by decide) (hs : starEach (.Name x pos :: es) X.env = (false, eval (.Name x pos) X.env) :: starEach es X.env := by rfl) :
    MA X W Γx Γ (.Name x pos :: es) (.slot i :: args) Γ2 := by
  obtain ⟨tr, pr, hr⟩ := hr
  refine ⟨_, pa_cons (pe_var hN hv hd hcd) pr hs, fun σ F H p env Q s q => ?_⟩
  show ∃ v, σ[i]? = some (some v) ∧ tr σ H fun xs H2 => Q (v :: xs) H2
  unfold mArgs at q
  cases he : env[i]? with
  | none => simp only [he] at q; exact q.elim
  | some od =>
    cases od with
    | none => simp only [he] at q; exact q.elim
    | some d =>
      simp only [he] at q
      rcases s.slot i m d hΓ he with h | ⟨v, hv', r⟩
      · subst h; cases hm
      · refine ⟨v, hv', hr σ F H p env _ s ?_⟩
        cases hm : mArgs args env with
        | bad => rw [hm] at q; exact q
        | ex x e' => rw [hm] at q; exact q
        | ok xs e2 =>
          rw [hm] at q
          exact fun vs F2 H2 p2 s2 k2 r2 => q (v :: vs) F2 H2 p2 s2 k2 ⟨hv', r2⟩
end
/-! ### the call -/
def fillA (e : Env) : List AV → Option (List D)
  | [] => some []
  | .inl d :: xs => (fillA e xs).map (d :: ·)
  | .inr s :: xs => match e[s]? with
    | some (some d) => (fillA e xs).map (d :: ·)
    | _ => none
def backA : List AV → List D → Env → Option Env
  | [], _, e => some e
  | .inl _ :: xs, as, e => backA xs as e
  | .inr s :: xs, a :: as, e => backA xs as (e.set s (some a))
  | .inr _ :: _, [], _ => none
def mCall (Fm : List D → FRes) (args : List Arg) : M D := fun e => (mArgs args e).bind fun xs e1 => match fillA e1 xs with
  | some ds => (match Fm ds with
    | .ok d as => (match backA xs as e1 with
      | some e2 => .ok d e2
      | none => .bad)
    | .ex x as => (match backA xs as e1 with
      | some e2 => .ex x e2
      | none => .bad)
    | .bad => .bad)
  | none => .bad
/-- the arguments' modes are the parameters' -/
def ArgsM (Γ : List Mode) : List Arg → List Mode → Prop
  | [], [] => True
  | .val _ :: as, m :: pm => m = .fz ∧ ArgsM Γ as pm
  | .slot s :: as, m :: pm => m.owned = true ∧ Γ[s]? = some m ∧ ArgsM Γ as pm
  | _, _ => False
def slotsOf : List Arg → List Nat
  | [] => []
  | .val _ :: as => slotsOf as
  | .slot s :: as => s :: slotsOf as
def slotsV : List AV → List Nat
  | [] => []
  | .inl _ :: as => slotsV as
  | .inr s :: as => s :: slotsV as
def AvM (Γ : List Mode) : List AV → List Mode → Prop
  | [], [] => True
  | .inl _ :: as, m :: pm => m = .fz ∧ AvM Γ as pm
  | .inr s :: as, m :: pm => m.owned = true ∧ Γ[s]? = some m ∧ AvM Γ as pm
  | _, _ => False
theorem mArgs_shape {Γ : List Mode} : ∀ {args : List Arg} {pm : List Mode} {e e' : Env} {xs : List AV}, mArgs args e = .ok xs e' → ArgsM Γ args pm → AvM Γ xs pm ∧ slotsV xs = slotsOf args
  | [], pm, e, e', xs, h, hm => by
    simp only [mArgs] at h
    cases h
    cases pm with
    | nil => exact ⟨trivial, rfl⟩
    | cons _ _ => exact hm.elim
  | .val f :: args, pm, e, e', xs, h, hm => by
    cases pm with
    | nil => exact hm.elim
    | cons m pm =>
      simp only [mArgs] at h
      cases hf : f e with
      | bad => rw [hf] at h; cases h
      | ex x e1 => rw [hf] at h; cases h
      | ok d e1 =>
        rw [hf, Res.bind_ok] at h
        cases ha : mArgs args e1 with
        | bad => rw [ha] at h; cases h
        | ex x e1 => rw [ha] at h; cases h
        | ok ys e2 =>
          rw [ha, Res.bind_ok] at h
          cases h
          have := mArgs_shape ha hm.2
          exact ⟨⟨hm.1, this.1⟩, this.2⟩
  | .slot s :: args, pm, e, e', xs, h, hm => by
    cases pm with
    | nil => exact hm.elim
    | cons m pm =>
      simp only [mArgs] at h
      split at h
      · cases ha : mArgs args e with
        | bad => rw [ha] at h; cases h
        | ex x e1 => rw [ha] at h; cases h
        | ok ys e2 =>
          rw [ha, Res.bind_ok] at h
          cases h
          have := mArgs_shape ha hm.2.2
          exact ⟨⟨hm.1, hm.2.1, this.1⟩, by simp only [slotsV, slotsOf, this.2]⟩
      · cases h
theorem mem_slotsV : ∀ {xs : List AV} {j s : Nat}, xs[j]? = some (.inr s) → s ∈ slotsV xs
  | [], j, s, h => by simp at h
  | .inl d :: xs, 0, s, h => by simp at h
  | .inr i :: xs, 0, s, h => by simp at h; subst h; simp [slotsV]
  | .inl d :: xs, j + 1, s, h => by simp only [slotsV]; exact mem_slotsV (j := j) (by simpa using h)
  | .inr i :: xs, j + 1, s, h => by simp only [slotsV]; exact List.mem_cons_of_mem _ (mem_slotsV (j := j) (by simpa using h))
theorem slotsV_inj : ∀ {xs : List AV} {j j' s : Nat}, (slotsV xs).Nodup → xs[j]? = some (.inr s) → xs[j']? = some (.inr s) → j = j'
  | [], j, j', s, _, h, _ => by simp at h
  | .inl d :: xs, 0, j', s, _, h, _ => by simp at h
  | .inl d :: xs, j + 1, 0, s, _, _, h => by simp at h
  | .inl d :: xs, j + 1, j' + 1, s, n, h, h' => congrArg (· + 1) (slotsV_inj (xs := xs) (j := j) (j' := j') (s := s) n (by simpa using h) (by simpa using h'))
  | .inr i :: xs, 0, 0, s, _, _, _ => rfl
  | .inr i :: xs, 0, j' + 1, s, n, h, h' => by
    simp at h; subst h
    simp only [slotsV, List.nodup_cons] at n
    exact (n.1 (mem_slotsV (j := j') (by simpa using h'))).elim
  | .inr i :: xs, j + 1, 0, s, n, h, h' => by
    simp at h'; subst h'
    simp only [slotsV, List.nodup_cons] at n
    exact (n.1 (mem_slotsV (j := j) (by simpa using h))).elim
  | .inr i :: xs, j + 1, j' + 1, s, n, h, h' => by
    simp only [slotsV, List.nodup_cons] at n
    exact congrArg (· + 1) (slotsV_inj (xs := xs) (j := j) (j' := j') (s := s) n.2 (by simpa using h) (by simpa using h'))
theorem fillA_get {e : Env} : ∀ {xs : List AV} {ds : List D}, fillA e xs = some ds → ds.length = xs.length ∧ (∀ (j : Nat) (d : D), xs[j]? = some (.inl d) → ds[j]? = some d) ∧ ∀ (j s : Nat), xs[j]? = some (.inr s) → ∃ d, ds[j]? = some d ∧ e[s]? = some (some d)
  | [], ds, h => by simp [fillA] at h; subst h; simp
  | .inl d0 :: xs, ds, h => by
    simp only [fillA, Option.map_eq_some_iff] at h
    obtain ⟨r, hr, rfl⟩ := h
    obtain ⟨h1, h2, h3⟩ := fillA_get hr
    refine ⟨by simp [h1], fun j d hj => ?_, fun j s hj => ?_⟩
    · cases j with
      | zero => simp at hj; subst hj; rfl
      | succ j => simpa using h2 j d (by simpa using hj)
    · cases j with
      | zero => simp at hj
      | succ j => simpa using h3 j s (by simpa using hj)
  | .inr s0 :: xs, ds, h => by
    simp only [fillA] at h
    split at h
    · rename_i d0 he
      simp only [Option.map_eq_some_iff] at h
      obtain ⟨r, hr, rfl⟩ := h
      obtain ⟨h1, h2, h3⟩ := fillA_get hr
      refine ⟨by simp [h1], fun j d hj => ?_, fun j s hj => ?_⟩
      · cases j with
        | zero => simp at hj
        | succ j => simpa using h2 j d (by simpa using hj)
      · cases j with
        | zero => simp at hj; subst hj; exact ⟨d0, rfl, he⟩
        | succ j => simpa using h3 j s (by simpa using hj)
    · cases h
theorem backA_len : ∀ {xs : List AV} {as : List D} {e e' : Env}, backA xs as e = some e' → e'.length = e.length
  | [], _, _, _, h => by simp [backA] at h; rw [h]
  | .inl _ :: xs, as, e, e', h => backA_len (xs := xs) (by simpa only [backA] using h)
  | .inr s :: xs, [], e, e', h => by simp [backA] at h
  | .inr s :: xs, a :: as, e, e', h => by
    have := backA_len (xs := xs) (as := as) (e := e.set s (some a)) (e' := e') (by simpa only [backA] using h)
    rw [this, List.length_set]
theorem backA_ne : ∀ {xs : List AV} {as : List D} {e e' : Env} {i : Nat}, backA xs as e = some e' → i ∉ slotsV xs → e'[i]? = e[i]?
  | [], _, _, _, _, h, _ => by simp [backA] at h; rw [h]
  | .inl _ :: xs, as, e, e', i, h, hi => backA_ne (xs := xs) (by simpa only [backA] using h) (by simpa [slotsV] using hi)
  | .inr s :: xs, [], e, _, i, h, _ => by simp [backA] at h
  | .inr s :: xs, a :: as, e, e', i, h, hi => by
    simp only [slotsV, List.mem_cons, not_or] at hi
    have := backA_ne (xs := xs) (as := as) (e := e.set s (some a)) (e' := e') (by simpa only [backA] using h) hi.2
    rw [this, List.getElem?_set_ne (Ne.symm hi.1)]
theorem backA_at {Γ : List Mode} : ∀ {xs : List AV} {pm : List Mode} {as : List D} {e e' : Env} {j s : Nat}, backA xs as e = some e' → AvM Γ xs pm → (slotsV xs).Nodup → xs[j]? = some (.inr s) → s < e.length → ∃ d, (outE pm as)[j]? = some (some d) ∧ e'[s]? = some (some d)
  | [], _, _, _, _, j, s, _, _, _, h, _ => by simp at h
  | .inl _ :: xs, [], _, _, _, _, _, _, hm, _, _, _ => hm.elim
  | .inr _ :: xs, [], _, _, _, _, _, _, hm, _, _, _ => hm.elim
  | .inl d0 :: xs, m :: pm, as, e, e', j, s, hb, hm, hn, h, hl => by
    simp only [backA] at hb
    have e1 : m.owned = false := by rw [hm.1]; rfl
    cases j with
    | zero => simp at h
    | succ j =>
      obtain ⟨d, h1, h2⟩ := backA_at (xs := xs) (pm := pm) (j := j) (s := s) hb hm.2 hn (by simpa using h) hl
      refine ⟨d, ?_, h2⟩
      unfold outE
      rw [if_neg (by rw [e1]; simp)]
      simpa using h1
  | .inr s0 :: xs, m :: pm, [], e, e', j, s, hb, hm, hn, h, hl => by simp [backA] at hb
  | .inr s0 :: xs, m :: pm, a :: as, e, e', j, s, hb, hm, hn, h, hl => by
    simp only [backA] at hb
    simp only [slotsV, List.nodup_cons] at hn
    unfold outE
    rw [if_pos hm.1]
    cases j with
    | zero =>
      simp at h
      subst h
      refine ⟨a, rfl, ?_⟩
      rw [backA_ne hb hn.1, List.getElem?_set_self hl]
    | succ j =>
      obtain ⟨d, h1, h2⟩ := backA_at (xs := xs) (pm := pm) (as := as) (j := j) (s := s) hb hm.2.2 hn.2 (by simpa using h) (by simpa using hl)
      exact ⟨d, by simpa using h1, h2⟩
theorem AvM.inl {Γ : List Mode} : ∀ {xs : List AV} {pm : List Mode} {j : Nat} {d : D}, AvM Γ xs pm → xs[j]? = some (.inl d) → pm[j]? = some .fz
  | [], _, j, _, _, h => by simp at h
  | .inl _ :: xs, [], _, _, hm, _ => hm.elim
  | .inr _ :: xs, [], _, _, hm, _ => hm.elim
  | .inl d0 :: xs, m :: pm, 0, d, hm, h => by rw [hm.1]; rfl
  | .inr s :: xs, m :: pm, 0, d, hm, h => by simp at h
  | .inl d0 :: xs, m :: pm, j + 1, d, hm, h => by simpa using AvM.inl hm.2 (by simpa using h)
  | .inr s :: xs, m :: pm, j + 1, d, hm, h => by simpa using AvM.inl hm.2.2 (by simpa using h)
theorem AvM.inr {Γ : List Mode} : ∀ {xs : List AV} {pm : List Mode} {j s : Nat}, AvM Γ xs pm → xs[j]? = some (.inr s) → ∃ m, pm[j]? = some m ∧ m.owned = true ∧ Γ[s]? = some m
  | [], _, j, _, _, h => by simp at h
  | .inl _ :: xs, [], _, _, hm, _ => hm.elim
  | .inr _ :: xs, [], _, _, hm, _ => hm.elim
  | .inl d0 :: xs, m :: pm, 0, s, hm, h => by simp at h
  | .inr s0 :: xs, m :: pm, 0, s, hm, h => by simp at h; subst h; exact ⟨m, rfl, hm.1, hm.2.1⟩
  | .inl d0 :: xs, m :: pm, j + 1, s, hm, h => by simpa using AvM.inr hm.2 (by simpa using h)
  | .inr s0 :: xs, m :: pm, j + 1, s, hm, h => by simpa using AvM.inr hm.2.2 (by simpa using h)
theorem AvM.length {Γ : List Mode} : ∀ {xs : List AV} {pm : List Mode}, AvM Γ xs pm → xs.length = pm.length
  | [], [], _ => rfl
  | [], _ :: _, hm => hm.elim
  | .inl _ :: xs, [], hm => hm.elim
  | .inr _ :: xs, [], hm => hm.elim
  | .inl d0 :: xs, m :: pm, hm => by simp [AvM.length hm.2]
  | .inr s0 :: xs, m :: pm, hm => by simp [AvM.length hm.2.2]
/-- the callee's own view of what is owned, and the caller's behind it -/
def inP (xs : List AV) (p : Pth) : Pth
  | [] => none
  | j :: q => match xs[j]? with
    | some (.inr s) => p (s :: q)
    | _ => none
noncomputable def outP (xs : List AV) (p pa : Pth) : Pth
  | [] => none
  | s :: q => open Classical in if h : ∃ j, xs[j]? = some (.inr s) then pa (h.choose :: q) else p (s :: q)
theorem inP_inv {xs : List AV} {p : Pth} {q : List Nat} {a : Addr} (h : inP xs p q = some a) : ∃ (j s : Nat) (q' : List Nat), q = j :: q' ∧ xs[j]? = some (.inr s) ∧ p (s :: q') = some a := by
  cases q with
  | nil => cases h
  | cons j q =>
    simp only [inP] at h
    split at h
    · rename_i s hs; exact ⟨j, s, q, rfl, hs, h⟩
    · cases h
theorem outP_inv {xs : List AV} {p pa : Pth} {q : List Nat} {a : Addr} (h : outP xs p pa q = some a) : ∃ (s : Nat) (q' : List Nat), q = s :: q' ∧ ((∃ j : Nat, xs[j]? = some (.inr s) ∧ pa (j :: q') = some a) ∨ ((∀ j : Nat, xs[j]? ≠ some (.inr s)) ∧ p (s :: q') = some a)) := by
  cases q with
  | nil => cases h
  | cons s q =>
    simp only [outP] at h
    split at h
    · rename_i e; exact ⟨s, q, rfl, .inl ⟨_, e.choose_spec, h⟩⟩
    · rename_i e; exact ⟨s, q, rfl, .inr ⟨fun j hj => e ⟨j, hj⟩, h⟩⟩
theorem outP_in {xs : List AV} {p pa : Pth} {j s : Nat} {q : List Nat} (hn : (slotsV xs).Nodup) (h : xs[j]? = some (.inr s)) : outP xs p pa (s :: q) = pa (j :: q) := by
  have e : ∃ j : Nat, xs[j]? = some (.inr s) := ⟨j, h⟩
  simp only [outP]
  rw [dif_pos e, slotsV_inj hn e.choose_spec h]
theorem outP_out {xs : List AV} {p pa : Pth} {s : Nat} {q : List Nat} (h : ∀ j : Nat, xs[j]? ≠ some (.inr s)) : outP xs p pa (s :: q) = p (s :: q) := by
  simp only [outP]
  rw [dif_neg]
  rintro ⟨j, hj⟩
  exact h j hj
section
variable {K : PySem.W.Frag} {Γ pm : List Mode} {F H F3 H3 : Hp} {e : Env} {σ : Sl} {p pa' : Pth} {xs : List AV} {vs : List V} {ds : List D}
theorem call_in (s : SOk K Γ F H e σ p) (r : ArgR K F σ xs vs) (m : AvM Γ xs pm) (n : (slotsV xs).Nodup) (hf : fillA e xs = some ds) : SOk K pm F H (ds.map some) (vs.map some) (inP xs p) := by
  obtain ⟨hl, hf1, hf2⟩ := fillA_get hf
  refine ⟨s.same, fun q q' a h h' => ?_, fun q a h => ?_, by simp [hl, r.length], fun j m' d hm hd => ?_⟩
  · obtain ⟨j, s1, q1, rfl, h1, h2⟩ := inP_inv h
    obtain ⟨j', s2, q2, rfl, h3, h4⟩ := inP_inv h'
    have := s.inj _ _ _ h2 h4
    injection this with e1 e2
    subst e1; subst e2
    rw [slotsV_inj n h1 h3]
  · obtain ⟨j, s1, q1, rfl, h1, h2⟩ := inP_inv h
    exact s.off _ _ h2
  · have hd' : ds[j]? = some d := by
      rw [List.getElem?_map] at hd
      cases hz : ds[j]? with
      | none => rw [hz] at hd; cases hd
      | some d2 => rw [hz] at hd; cases hd; rfl
    have hj : j < xs.length := by rw [← hl]; exact (List.getElem?_eq_some_iff.mp hd').1
    cases hx : xs[j]? with
    | none => rw [List.getElem?_eq_none_iff] at hx; omega
    | some x =>
      cases x with
      | inl d2 =>
        have := hf1 j d2 hx
        rw [hd'] at this; cases this
        obtain ⟨v, h1, h2⟩ := r.inl hx
        rw [m.inl hx] at hm; cases hm
        exact .inr ⟨v, by rw [List.getElem?_map, h1]; rfl, h2⟩
      | inr s1 =>
        obtain ⟨d2, h1, h2⟩ := hf2 j s1 hx
        rw [hd'] at h1; cases h1
        obtain ⟨v, h3, h4⟩ := r.inr hx
        obtain ⟨m2, h5, h6, h7⟩ := m.inr hx
        rw [h5] at hm; cases hm
        rcases s.slot s1 _ d h7 h2 with z | ⟨v2, z1, z2⟩
        · exact .inl z
        · rw [h4] at z1; cases z1
          refine .inr ⟨v, by rw [List.getElem?_map, h3]; rfl, ?_⟩
          have : (fun q => inP xs p (j :: q)) = fun q => p (s1 :: q) := funext fun q => by simp only [inP, hx]
          rw [this]; exact z2
theorem inP_sub {q : List Nat} {a : Addr} (h : inP xs p q = some a) : ∃ q0, p q0 = some a := by
  obtain ⟨j, s1, q1, rfl, h1, h2⟩ := inP_inv h
  exact ⟨_, h2⟩
theorem call_sep (s : SOk K Γ F H e σ p) {s1 : Nat} {q1 : List Nat} {a : Addr} (h : p (s1 :: q1) = some a) (hs : ∀ j : Nat, xs[j]? ≠ some (.inr s1)) : (∀ q, inP xs p q ≠ some a) ∧ H a ≠ none ∧ F a = none := by
  refine ⟨fun q hq => ?_, (s.off _ _ h).2, (s.off _ _ h).1⟩
  obtain ⟨j, s2, q2, rfl, h1, h2⟩ := inP_inv hq
  have := s.inj _ _ _ h h2
  injection this with e1 e2
  exact hs j (e1 ▸ h1)
theorem call_step (s : SOk K Γ F H e σ p) (t : Step F H (inP xs p) F3 H3 pa') : Step F H p F3 H3 (outP xs p pa') := by
  refine ⟨t.same, fun a o h n => t.keep a o h fun q hq => ?_, fun q a h => ?_, fun a h => ?_⟩
  · obtain ⟨q0, h0⟩ := inP_sub hq
    exact n q0 h0
  · obtain ⟨s1, q1, rfl, ⟨j, h1, h2⟩ | ⟨h1, h2⟩⟩ := outP_inv h
    · rcases t.own _ _ h2 with ⟨q0, z⟩ | z
      · exact .inl (inP_sub z)
      · exact .inr z
    · exact .inl ⟨_, h2⟩
  · rcases t.frz a h with z | ⟨q0, z⟩ | z
    · exact .inl z
    · exact .inr (.inl (inP_sub z))
    · exact .inr (.inr z)
theorem call_out {as : List D} {e' : Env} (hb : backA xs as e = some e') (s : SOk K Γ F H e σ p) (r : ArgR K F σ xs vs) (m : AvM Γ xs pm) (n : (slotsV xs).Nodup) (hf : fillA e xs = some ds) (t : Step F H (inP xs p) F3 H3 pa') (k : SOk K pm F3 H3 (outE pm as) (vs.map some) pa') :
    SOk K Γ F3 H3 e' σ (outP xs p pa') := by
  have mem : ∀ {s1 : Nat}, s1 ∈ slotsV xs → ∃ j : Nat, xs[j]? = some (.inr s1) := by
    intro s1
    have : ∀ (xs : List AV), s1 ∈ slotsV xs → ∃ j : Nat, xs[j]? = some (.inr s1) := by
      intro xs
      induction xs with
      | nil => intro h; simp [slotsV] at h
      | cons x xs ih =>
        intro h
        cases x with
        | inl d => obtain ⟨j, hj⟩ := ih (by simpa [slotsV] using h); exact ⟨j + 1, by simpa using hj⟩
        | inr i =>
          simp only [slotsV, List.mem_cons] at h
          rcases h with h | h
          · subst h; exact ⟨0, rfl⟩
          · obtain ⟨j, hj⟩ := ih h; exact ⟨j + 1, by simpa using hj⟩
    exact this xs
  have cross : ∀ {s1 : Nat} {q1 : List Nat} {j : Nat} {q2 : List Nat} {a : Addr}, (∀ j : Nat, xs[j]? ≠ some (.inr s1)) → p (s1 :: q1) = some a → pa' (j :: q2) = some a → False := by
    intro s1 q1 j q2 a h1 h2 h3
    obtain ⟨z1, z2, _⟩ := call_sep s h2 h1
    rcases t.own _ _ h3 with ⟨q0, z⟩ | z
    · exact z1 q0 z
    · exact z2 z
  refine ⟨k.same, fun q q' a h h' => ?_, fun q a h => ?_, by rw [backA_len hb]; exact s.len, fun i m' d hm hd => ?_⟩
  · obtain ⟨s1, q1, rfl, ⟨j, h1, h2⟩ | ⟨h1, h2⟩⟩ := outP_inv h <;> obtain ⟨s2, q2, rfl, ⟨j', h3, h4⟩ | ⟨h3, h4⟩⟩ := outP_inv h'
    · have := k.inj _ _ _ h2 h4
      injection this with e1 e2
      subst e1; subst e2
      rw [h1] at h3; cases h3; rfl
    · exact (cross h3 h4 h2).elim
    · exact (cross h1 h2 h4).elim
    · exact s.inj _ _ _ h2 h4
  · obtain ⟨s1, q1, rfl, ⟨j, h1, h2⟩ | ⟨h1, h2⟩⟩ := outP_inv h
    · exact k.off _ _ h2
    · obtain ⟨z1, z2, z3⟩ := call_sep s h2 h1
      refine ⟨?_, fun z => ?_⟩
      · cases hz : F3 a with
        | none => rfl
        | some o =>
          exfalso
          rcases t.frz a (by rw [hz]; simp) with z | ⟨q0, z⟩ | z
          · exact z z3
          · exact z1 q0 z
          · exact z2 z
      · cases ho : H a with
        | none => exact z2 ho
        | some o => rw [t.keep a o ho z1] at z; cases z
  · by_cases hi : i ∈ slotsV xs
    · obtain ⟨j, hj⟩ := mem hi
      obtain ⟨m2, h5, h6, h7⟩ := m.inr hj
      rw [h7] at hm; cases hm
      obtain ⟨v, h3, h4⟩ := r.inr hj
      obtain ⟨_, _, hf2⟩ := fillA_get hf
      obtain ⟨d0, _, he0⟩ := hf2 j i hj
      have hlen : i < e.length := (List.getElem?_eq_some_iff.mp he0).1
      obtain ⟨d2, ho, hd2⟩ := backA_at hb m n hj hlen
      rw [hd] at hd2; cases hd2
      rcases k.slot j _ d h5 ho with z | ⟨v2, z1, z2⟩
      · exact .inl z
      · rw [List.getElem?_map, h3] at z1; cases z1
        refine .inr ⟨v, h4, ?_⟩
        have : (fun q => outP xs p pa' (i :: q)) = fun q => pa' (j :: q) := funext fun q => outP_in n hj
        rw [this]; exact z2
    · have hs : ∀ j : Nat, xs[j]? ≠ some (.inr i) := fun j hj => hi (mem_slotsV hj)
      rw [backA_ne hb hi] at hd
      rcases s.slot i m' d hm hd with z | ⟨v, z1, z2⟩
      · exact .inl z
      · refine .inr ⟨v, z1, ?_⟩
        have : (fun q => outP xs p pa' (i :: q)) = fun q => p (i :: q) := funext fun q => outP_out hs
        rw [this]
        exact Rep.frame m' z2 t.same fun q a o hq ho => t.keep a o ho (call_sep s hq hs).1
end
end VM
/-! VM, part 9: calls by name, comprehensions, what is walked. -/
namespace VM
open PySem PySem.Spec PyProof.Rows L2
section
variable {X : Cx} {W : WX} {Γx Γ Γ1 Γ2 Γ3 Γ' : List Mode} {e : Expr} {es : List Expr} {f g : M D} {args : List Arg} {pos : Pos}
/-- what a call's reading asks -/
theorem call_core {pm : List Mode} {rm : Mode} {Fm : List D → FRes} {t : TA} {σ : Sl} {F H : Hp} {p : Pth} {env : Env} {Q : V → Hp → Prop}
    (ha : ∀ (σ : Sl) (F H : Hp) (p : Pth) (env : Env) (Q : List V → Hp → Prop), SOk X.K Γ F H env σ p → PostA X.K W Γx Γ2 F H p σ Q (mArgs args env) → t σ H Q)
    (hA : ArgsM Γ2 args pm) (hnd : (slotsOf args).Nodup) (hle : MLe Γ2 Γx) (s : SOk X.K Γ F H env σ p) (q : PostO X.K W Γx Γ2 rm F H p σ Q (mCall Fm args env)) :
    t σ H fun vs H1 => spM X.K pm rm Fm vs H1 Q (WE W σ) := by
  refine ha σ F H p env _ s ?_
  unfold mCall at q
  cases hm : mArgs args env with
  | bad => rw [hm] at q; exact q
  | ex x e' => rw [hm] at q; exact q
  | ok xs e1 =>
    rw [hm, Res.bind_ok] at q
    intro vs F1 H1 p1 s1 k1 r1
    obtain ⟨am, as_⟩ := mArgs_shape hm hA
    have hn : (slotsV xs).Nodup := by rw [as_]; exact hnd
    cases hf : fillA e1 xs with
    | none => rw [hf] at q; exact q.elim
    | some ds =>
      rw [hf] at q
      dsimp only at q
      have hl := (fillA_get hf).1
      refine ⟨ds, F1, inP xs p1, by rw [hl, am.length], call_in k1 r1 am hn hf, ?_⟩
      cases hF : Fm ds with
      | bad => rw [hF] at q; exact q.elim
      | ok d as =>
        rw [hF] at q
        dsimp only at q ⊢
        intro v F3 H3 p3 pv t3 k3 r3 f3
        cases hb : backA xs as e1 with
        | none => rw [hb] at q; exact q.elim
        | some e2 =>
          rw [hb] at q
          refine q v F3 H3 (outP xs p1 p3) pv (s1.trans (call_step k1 t3)) (call_out hb k1 r1 am hn hf t3 k3) r3 (Fresh.step s1 ⟨f3.inj, fun q1 q2 a h1 h2 => ?_, f3.off, fun q1 a h1 => ?_⟩)
          · obtain ⟨s2, q3, rfl, ⟨j, h3, h4⟩ | ⟨h3, h4⟩⟩ := outP_inv h2
            · exact f3.apart _ _ _ h1 h4
            · obtain ⟨z1, z2, _⟩ := call_sep k1 h4 h3
              rcases f3.new _ _ h1 with ⟨q0, z⟩ | z
              · exact z1 q0 z
              · exact z2 z
          · rcases f3.new _ _ h1 with ⟨q0, z⟩ | z
            · exact .inl (inP_sub z)
            · exact .inr z
      | ex x as =>
        rw [hF] at q
        dsimp only at q ⊢
        intro cls dd F3 H3 p3 t3 k3 r3
        cases hb : backA xs as e1 with
        | none => rw [hb] at q; exact q.elim
        | some e2 =>
          rw [hb] at q
          exact q cls dd F3 H3 (outP xs p1 p3) (s1.trans (call_step k1 t3)) ((call_out hb k1 r1 am hn hf t3 k3).le hle) r3
theorem mo_call {x : Str} {k : Nat} {fa : Addr} {fd : FuncData} {ps : List Str} {pm : List Mode} {rm : Mode} {Fm : List D → FRes} {p : Pos} (FN : FnM X.prog X.w X.K X.mg X.base k fa fd ps pm rm Fm) (hr : Room k X.A) (tk : Takes X W)
    (hm : X.mg x = some (.ref fa)) (hk : PySem.W.keepIn X.K (.ref fa) = true) (hb : Binds X.K fd ps []) (ha : MA X W Γx Γ (e :: es) args Γ2)
    (hA : ArgsM Γ2 args pm := by repeat (first | exact trivial | refine ⟨rfl, ?_⟩)) (hnd : (slotsOf args).Nodup := by decide) (hle : MLe Γ2 Γx := by repeat (first | exact MLe.nil | apply MLe.drop | apply MLe.same))
    (hg : Gl X x := by rfl) (hdb : (x == ("__debug__" : Str)) = false := by decide) (he : starEach (e :: es) X.env = (false, eval e X.env) :: starEach es X.env := by rfl) (hpl : (backTo pos (starEach es X.env)).any (·.1) = false := by rfl) :
    MO X W Γx Γ (.Call (.Name x p) (e :: es) [] pos) (mCall Fm args) rm Γ2 := by
  obtain ⟨t, pt, ha⟩ := ha
  exact ⟨_, pe_callS FN hr hg hm hk hb (fun σ => passAt tk σ) pt hdb he hpl, fun σ F H p env Q s q => call_core ha hA hnd hle s q⟩
theorem MO.z0 (h : MO X W Γx Γ e f .fz Γ') : MZ X W Γx Γ e f Γ' := h.z
theorem MZ.o (h : MZ X W Γx Γ e f Γ') : MO X W Γx Γ e f .fz Γ' := by
  obtain ⟨t, pt, h⟩ := h
  refine ⟨t, pt, fun σ F H p env Q s q => h σ F H p env Q s ?_⟩
  cases hf : f env with
  | bad => rw [hf] at q; exact q
  | ex x e' => rw [hf] at q; exact q
  | ok d e' => rw [hf] at q; exact fun v F' H' p' st s' r => q v F' H' p' noP st s' r .no

/-! ### what is walked -/
theorem PI.or {tg iter : Expr} {w1 w2 : TI} (h1 : PI X tg iter w1) (h2 : PI X tg iter w2) : PI X tg iter (fun σ H R => w1 σ H R ∨ w2 σ H R) :=
  ⟨fun pins s σ H R I h => h.elim (h1.run pins s σ H R I) (h2.run pins s σ H R I)⟩
theorem walk_l {K : PySem.W.Frag} {F : Hp} {a : Addr} {vs : List V} {ds : List D} (h : SqL K F a vs) (r : RepZs K F ds vs) : WalkD K (Itl K a) F ds := by
  refine ⟨fun F2 H i s1 s2 hi => ⟨vs, seqL s2 (seqL s1 h), by rw [← r.1]; exact hi⟩, fun F2 H i d s1 s2 hd => ?_⟩
  obtain ⟨v, h1, h2⟩ := r.get hd
  refine ⟨⟨vs, v, seqL s2 (seqL s1 h), h1⟩, fun x H' y Γ e σ p k => ?_⟩
  obtain ⟨rfl, y⟩ := y
  have := y vs (seqL s2 (seqL s1 h))
  rw [h1] at this; cases this
  exact ⟨F2, .refl, k, h2.mono s1⟩
theorem walk_t {K : PySem.W.Frag} {F : Hp} {a : Addr} {vs : List V} {ds : List D} (h : SqT K F a vs) (r : RepZs K F ds vs) : WalkD K (Itt K a) F ds := by
  refine ⟨fun F2 H i s1 s2 hi => ⟨vs, seqT s2 (seqT s1 h), by rw [← r.1]; exact hi⟩, fun F2 H i d s1 s2 hd => ?_⟩
  obtain ⟨v, h1, h2⟩ := r.get hd
  refine ⟨⟨vs, v, seqT s2 (seqT s1 h), h1⟩, fun x H' y Γ e σ p k => ?_⟩
  obtain ⟨rfl, y⟩ := y
  have := y vs (seqT s2 (seqT s1 h))
  rw [h1] at this; cases this
  exact ⟨F2, .refl, k, h2.mono s1⟩
def itemsOf : D → Option (List D)
  | .lst ds => some ds
  | .tup ds => some ds
  | .ktp ds => some ds
  | .scr ds => some ds
  | _ => none
def mItems (f : M D) : M (List D) := fun e => (f e).bind fun d e1 => mOpt (itemsOf d) e1
theorem mi_z {tg : Expr} (h : MZ X W Γx Γ e f Γ') : MI X W Γx Γ tg e (mItems f) Γ' := by
  obtain ⟨t, pt, h⟩ := h
  refine ⟨_, PI.or (pi_list pt) (pi_tup pt), fun σ F H p env R s q => ?_⟩
  unfold mItems at q
  cases hf : f env with
  | bad => rw [hf] at q; exact q.elim
  | ex x e' =>
    rw [hf] at q
    refine .inl (h σ F H p env _ s ?_)
    rw [hf]; exact q
  | ok d e1 =>
    rw [hf, Res.bind_ok] at q
    cases d <;> try exact q.elim
    · refine .inr (h σ F H p env _ s ?_)
      rw [hf]
      intro v F1 H1 p1 s1 k1 r1
      obtain ⟨a, vs, rfl, h1, h2⟩ := r1.tup_inv
      exact ⟨a, rfl, ⟨vs, SqT.of (k1.same _ _ h1)⟩, q _ F1 H1 p1 s1 k1 (walk_t (SqT.of h1) h2)⟩
    · refine .inl (h σ F H p env _ s ?_)
      rw [hf]
      intro v F1 H1 p1 s1 k1 r1
      obtain ⟨a, vs, rfl, h1, h2⟩ := r1.lst_inv
      exact ⟨a, rfl, ⟨vs, SqL.of (k1.same _ _ h1)⟩, q _ F1 H1 p1 s1 k1 (walk_l (SqL.of h1) h2)⟩
    · refine .inl (h σ F H p env _ s ?_)
      rw [hf]
      intro v F1 H1 p1 s1 k1 r1
      obtain ⟨a, vs, rfl, h1, h2⟩ := r1.scr_inv
      exact ⟨a, rfl, ⟨vs, seqL k1.same h1⟩, q _ F1 H1 p1 s1 k1 (walk_l h1 h2)⟩
    · refine .inr (h σ F H p env _ s ?_)
      rw [hf]
      intro v F1 H1 p1 s1 k1 r1
      obtain ⟨a, vs, rfl, h1, h2⟩ := r1.ktp_inv
      exact ⟨a, rfl, ⟨vs, seqT k1.same h1⟩, q _ F1 H1 p1 s1 k1 (walk_t h1 h2)⟩
/-- range -/
def rangeD (lo : Int) (n : Nat) : List D := (List.range n).map fun (i : Nat) => D.int (lo + i)
theorem walk_r {K : PySem.W.Frag} {F : Hp} {lo : Int} {n : Nat} : WalkD K (Itr lo n) F (rangeD lo n) := by
  refine ⟨fun F2 H i s1 s2 hi => show n ≤ i by simpa [rangeD] using hi, fun F2 H i d s1 s2 hd => ?_⟩
  unfold rangeD at hd
  rw [List.getElem?_map] at hd
  cases hi : (List.range n)[i]? with
  | none => rw [hi] at hd; cases hd
  | some j =>
    rw [hi] at hd
    obtain ⟨h1, h2⟩ := List.getElem?_eq_some_iff.mp hi
    rw [List.getElem_range] at h2
    subst h2
    cases hd
    refine ⟨show i < n by simpa using h1, fun x H' y Γ e σ p k => ?_⟩
    obtain ⟨rfl, rfl⟩ := y
    exact ⟨F2, .refl, k, .int _⟩
def cRg (i : Int) : Bool := decide (-(2 ^ 62) ≤ i ∧ i < 2 ^ 62)
def mRange1 (f : M D) : M (List D) := fun e => (f e).bind fun d e1 => match d with
  | .int j => if cRg j then .ok (rangeD 0 j.toNat) e1 else .bad
  | _ => .bad
def mRange2 (f g : M D) : M (List D) := fun e => (f e).bind fun d e1 => (g e1).bind fun d2 e2 => match d, d2 with
  | .int i, .int j => if cRg i && cRg j then .ok (rangeD i (j - i).toNat) e2 else .bad
  | _, _ => .bad
theorem iseq {α : Type} {te : TE} {σ : Sl} {F H : Hp} {p : Pth} {env : Env} {k : D → M (List D)} {R : It → Hp → Prop} {R2 : V → Hp → Prop}
    (he : ∀ (σ : Sl) (F H : Hp) (p : Pth) (env : Env) (Q : V → Hp → Prop), SOk X.K Γ F H env σ p → PostZ X.K W Γx Γ1 F H p σ Q (f env) → te σ H Q)
    (s : SOk X.K Γ F H env σ p) (q : PostI X.K W Γx Γ' F H p σ R (Res.bind (f env) k))
    (hk : ∀ d e1 v F1 H1 p1, Step F H p F1 H1 p1 → SOk X.K Γ1 F1 H1 e1 σ p1 → RepZ X.K F1 d v → PostI X.K W Γx Γ' F1 H1 p1 σ R (k d e1) → R2 v H1) : te σ H R2 := by
  refine he σ F H p env R2 s ?_
  cases hf : f env with
  | bad => rw [hf] at q; exact q.elim
  | ex x e' => rw [hf] at q; exact q
  | ok d e' =>
    rw [hf, Res.bind_ok] at q
    refine fun v F' H' p' st s' r => hk d e' v F' H' p' st s' r ?_
    cases hkd : k d e' with
    | bad => rw [hkd] at q; exact q
    | ex x e2 => rw [hkd] at q; exact PostX.step st q
    | ok ds e2 => rw [hkd] at q; exact fun J F2 H2 p2 s2 k2 w => q J F2 H2 p2 (st.trans s2) k2 w
theorem mi_range1 {tg a : Expr} {p : Pos} (ha : MZ X W Γx Γ a f Γ') (hm : X.mg "range" = none) (hg : Gl X "range" := by rfl) (hs : starEach [a] X.env = [(false, eval a X.env)] := by rfl) : MI X W Γx Γ tg (.Call (.Name "range" p) [a] [] pos) (mRange1 f) Γ' := by
  obtain ⟨t, pt, h⟩ := ha
  refine ⟨_, pi_range1 hg hm (pa_cons pt pa_nil hs) hs, fun σ F H p env R s q => ?_⟩
  show t σ H fun x H1 => ∃ j : Int, [x] = [.int j] ∧ -(2 ^ 62) ≤ j ∧ j < 2 ^ 62 ∧ R (Itr 0 j.toNat) H1
  refine iseq (α := Unit) h s q fun d e1 v F1 H1 p1 s1 k1 r1 q1 => ?_
  cases d <;> try exact q1.elim
  rename_i j
  simp only at q1
  split at q1
  · rename_i hj
    simp only [cRg, decide_eq_true_eq] at hj
    rw [r1.int_inv]
    exact ⟨j, rfl, hj.1, hj.2, q1 _ F1 H1 p1 .refl k1 walk_r⟩
  · exact q1.elim
theorem mi_range2 {tg a b : Expr} {p : Pos} (ha : MZ X W Γx Γ a f Γ1) (hb : MZ X W Γx Γ1 b g Γ') (hm : X.mg "range" = none) (hg : Gl X "range" := by rfl) (hs : starEach [a, b] X.env = [(false, eval a X.env), (false, eval b X.env)] := by rfl) (hs2 : starEach [b] X.env = [(false, eval b X.env)] := by rfl) :
    MI X W Γx Γ tg (.Call (.Name "range" p) [a, b] [] pos) (mRange2 f g) Γ' := by
  obtain ⟨t, pt, h⟩ := ha
  obtain ⟨t2, pt2, h2⟩ := hb
  refine ⟨_, pi_range2 hg hm (pa_cons pt (pa_cons pt2 pa_nil hs2) (by rw [hs, hs2])) hs hs2, fun σ F H p env R s q => ?_⟩
  show t σ H fun x H1 => t2 σ H1 fun y H2 => ∃ i j : Int, [x, y] = [.int i, .int j] ∧ (-(2 ^ 62) ≤ i ∧ i < 2 ^ 62 ∧ -(2 ^ 62) ≤ j ∧ j < 2 ^ 62) ∧ R (Itr i (j - i).toNat) H2
  refine iseq (α := Unit) h s q fun d e1 v F1 H1 p1 s1 k1 r1 q1 => iseq (α := Unit) h2 k1 q1 fun d2 e2 v2 F2 H2 p2 s2 k2 r2 q2 => ?_
  cases d <;> try exact q2.elim
  cases d2 <;> try exact q2.elim
  rename_i i j
  simp only at q2
  split at q2
  · rename_i hj
    simp only [cRg, Bool.and_eq_true, decide_eq_true_eq] at hj
    rw [r1.int_inv, r2.int_inv]
    exact ⟨i, j, rfl, ⟨hj.1.1, hj.1.2, hj.2.1, hj.2.2⟩, q2 _ F2 H2 p2 .refl k2 walk_r⟩
  · exact q2.elim
/-- enumerate of a list -/
def enumD (ds : List D) : List D := ds.mapIdx fun i d => D.tup [.int i, d]
theorem SOk.pairZ {K : PySem.W.Frag} {F H : Hp} {env : Env} {σ : Sl} {p : Pth} {T : Addr} {v1 v2 : V} {d1 d2 : D} (k : SOk K Γ F H env σ p) (hT : H T = none) (r1 : RepZ K F d1 v1) (r2 : RepZ K F d2 v2) :
    ∃ F', Step F H p F' (upd H T (.tup [v1, v2])) p ∧ SOk K Γ F' (upd H T (.tup [v1, v2])) env σ p ∧ RepZ K F' (.tup [d1, d2]) (.ref T) :=
  ⟨upd F T (.tup [v1, v2]), Step.newZ hT k.same, k.newZ hT, .tup' upd_same (mono_new k.same hT (.cons r1 (.cons r2 .nil)))⟩
theorem walk_e {K : PySem.W.Frag} {F : Hp} {a : Addr} {vs : List V} {ds : List D} (h : SqL K F a vs) (r : RepZs K F ds vs) : WalkD K (Ite K a) F (enumD ds) := by
  refine ⟨fun F2 H i s1 s2 hi => ⟨vs, seqL s2 (seqL s1 h), by rw [← r.1]; simpa [enumD] using hi⟩, fun F2 H i d s1 s2 hd => ?_⟩
  unfold enumD at hd
  rw [List.getElem?_mapIdx] at hd
  cases hj : ds[i]? with
  | none => rw [hj] at hd; cases hd
  | some d0 =>
    rw [hj] at hd
    cases hd
    obtain ⟨v, h1, h2⟩ := r.get hj
    refine ⟨⟨vs, v, seqL s2 (seqL s1 h), h1⟩, fun x H' y Γ e σ p k => ?_⟩
    obtain ⟨T, x0, rfl, hT, rfl, y⟩ := y
    have := y vs (seqL s2 (seqL s1 h))
    rw [h1] at this; cases this
    exact k.pairZ hT (.int _) (h2.mono s1)
def mEnum (f : M D) : M (List D) := fun e => (f e).bind fun d e1 => match d with
  | .lst ds => .ok (enumD ds) e1
  | _ => .bad
theorem mi_enum {a : Expr} {p tpos : Pos} {elts : List Expr} {kk : Nat} (ha : MZ X W Γx Γ a f Γ') (hm : X.mg "enumerate" = none) (hg : Gl X "enumerate" := by rfl) (hs : starEach [a] X.env = [(false, eval a X.env)] := by rfl) :
    MI X W Γx Γ (.Tuple elts kk tpos) (.Call (.Name "enumerate" p) [a] [] pos) (mEnum f) Γ' := by
  obtain ⟨t, pt, h⟩ := ha
  refine ⟨_, pi_enum hg hm (pa_cons pt pa_nil hs) hs, fun σ F H p env R s q => ?_⟩
  show t σ H fun x H1 => ∃ a xs, [x] = [.ref a] ∧ SqL X.K H1 a xs ∧ R (Ite X.K a) H1
  refine iseq (α := Unit) h s q fun d e1 v F1 H1 p1 s1 k1 r1 q1 => ?_
  cases d <;> try exact q1.elim
  obtain ⟨a, vs, rfl, h1, h2⟩ := r1.lst_inv
  exact ⟨a, vs, rfl, SqL.of (k1.same _ _ h1), q1 _ F1 H1 p1 .refl k1 (walk_e (SqL.of h1) h2)⟩
/-- zip of two lists, two tuples -/
def zipD (xs ys : List D) : List D := List.zipWith (fun x y => D.tup [x, y]) xs ys
theorem walk_z {K : PySem.W.Frag} {F : Hp} {a b : Addr} {vs us : List V} {ds es : List D} (h : SqL K F a vs) (h' : SqL K F b us) (r : RepZs K F ds vs) (r' : RepZs K F es us) : WalkD K (Itz K a b) F (zipD ds es) := by
  refine ⟨fun F2 H i s1 s2 hi => ⟨vs, us, seqL s2 (seqL s1 h), seqL s2 (seqL s1 h'), ?_⟩, fun F2 H i d s1 s2 hd => ?_⟩
  · rw [← r.1, ← r'.1]
    simp only [zipD, List.length_zipWith] at hi
    omega
  · unfold zipD at hd
    rw [List.getElem?_zipWith] at hd
    cases hj : ds[i]? with
    | none => rw [hj] at hd; simp at hd
    | some d0 =>
      cases hj' : es[i]? with
      | none => rw [hj, hj'] at hd; simp at hd
      | some e0 =>
        rw [hj, hj'] at hd
        cases hd
        obtain ⟨v, h1, h2⟩ := r.get hj
        obtain ⟨u, h3, h4⟩ := r'.get hj'
        refine ⟨⟨vs, us, v, u, seqL s2 (seqL s1 h), seqL s2 (seqL s1 h'), h1, h3⟩, fun x H' y Γ e σ p k => ?_⟩
        obtain ⟨T, x0, y0, rfl, hT, rfl, y, y'⟩ := y
        have := y vs (seqL s2 (seqL s1 h))
        rw [h1] at this; cases this
        have := y' us (seqL s2 (seqL s1 h'))
        rw [h3] at this; cases this
        exact k.pairZ hT (h2.mono s1) (h4.mono s1)
theorem walk_zT {K : PySem.W.Frag} {F : Hp} {a b : Addr} {vs us : List V} {ds es : List D} (h : SqT K F a vs) (h' : SqT K F b us) (r : RepZs K F ds vs) (r' : RepZs K F es us) : WalkD K (RZ.ItzT K a b) F (zipD ds es) := by
  refine ⟨fun F2 H i s1 s2 hi => ⟨vs, us, seqT s2 (seqT s1 h), seqT s2 (seqT s1 h'), ?_⟩, fun F2 H i d s1 s2 hd => ?_⟩
  · rw [← r.1, ← r'.1]
    simp only [zipD, List.length_zipWith] at hi
    omega
  · unfold zipD at hd
    rw [List.getElem?_zipWith] at hd
    cases hj : ds[i]? with
    | none => rw [hj] at hd; simp at hd
    | some d0 =>
      cases hj' : es[i]? with
      | none => rw [hj, hj'] at hd; simp at hd
      | some e0 =>
        rw [hj, hj'] at hd
        cases hd
        obtain ⟨v, h1, h2⟩ := r.get hj
        obtain ⟨u, h3, h4⟩ := r'.get hj'
        refine ⟨⟨vs, us, v, u, seqT s2 (seqT s1 h), seqT s2 (seqT s1 h'), h1, h3⟩, fun x H' y Γ e σ p k => ?_⟩
        obtain ⟨T, x0, y0, rfl, hT, rfl, y, y'⟩ := y
        have := y vs (seqT s2 (seqT s1 h))
        rw [h1] at this; cases this
        have := y' us (seqT s2 (seqT s1 h'))
        rw [h3] at this; cases this
        exact k.pairZ hT (h2.mono s1) (h4.mono s1)
def mZip (f g : M D) : M (List D) := fun e => (f e).bind fun d e1 => (g e1).bind fun d2 e2 => match d, d2 with
  | .lst xs, .lst ys => .ok (zipD xs ys) e2
  | .tup xs, .tup ys => .ok (zipD xs ys) e2
  | _, _ => .bad
theorem mi_zip {a b : Expr} {p tpos : Pos} {elts : List Expr} {kk : Nat} (ha : MZ X W Γx Γ a f Γ1) (hb : MZ X W Γx Γ1 b g Γ') (hm : X.mg "zip" = none) (hg : Gl X "zip" := by rfl)
    (hs : starEach [a, b] X.env = (false, eval a X.env) :: starEach [b] X.env := by rfl) (hs2 : starEach [b] X.env = (false, eval b X.env) :: starEach [] X.env := by rfl) (hpl : (backTo pos (starEach [b] X.env)).any (·.1) = false := by rfl) :
    MI X W Γx Γ (.Tuple elts kk tpos) (.Call (.Name "zip" p) [a, b] [] pos) (mZip f g) Γ' := by
  obtain ⟨t, pt, h⟩ := ha
  obtain ⟨t2, pt2, h2⟩ := hb
  refine ⟨_, RZ.pi_zipA hg hm (pa_cons pt (pa_cons pt2 pa_nil hs2) hs) hs hpl, fun σ F H p env R s q => ?_⟩
  show t σ H fun x H1 => t2 σ H1 fun y H2 => ∃ a b xs ys, [x, y] = [.ref a, .ref b] ∧ ((SqL X.K H2 a xs ∧ SqL X.K H2 b ys ∧ R (Itz X.K a b) H2) ∨ (SqT X.K H2 a xs ∧ SqT X.K H2 b ys ∧ R (RZ.ItzT X.K a b) H2))
  refine iseq (α := Unit) h s q fun d e1 v F1 H1 p1 s1 k1 r1 q1 => iseq (α := Unit) h2 k1 q1 fun d2 e2 v2 F2 H2 p2 s2 k2 r2 q2 => ?_
  cases d <;> try exact q2.elim
  · cases d2 <;> try exact q2.elim
    obtain ⟨a, vs, rfl, h3, h4⟩ := r1.tup_inv
    obtain ⟨b, us, rfl, h5, h6⟩ := r2.tup_inv
    have h3' := s2.same _ _ h3
    exact ⟨a, b, vs, us, rfl, .inr ⟨SqT.of (k2.same _ _ h3'), SqT.of (k2.same _ _ h5), q2 _ F2 H2 p2 .refl k2 (walk_zT (SqT.of h3') (SqT.of h5) (h4.mono s2.same) h6)⟩⟩
  · cases d2 <;> try exact q2.elim
    obtain ⟨a, vs, rfl, h3, h4⟩ := r1.lst_inv
    obtain ⟨b, us, rfl, h5, h6⟩ := r2.lst_inv
    have h3' := s2.same _ _ h3
    exact ⟨a, b, vs, us, rfl, .inl ⟨SqL.of (k2.same _ _ h3'), SqL.of (k2.same _ _ h5), q2 _ F2 H2 p2 .refl k2 (walk_z (SqL.of h3') (SqL.of h5) (h4.mono s2.same) h6)⟩⟩
end
end VM
/-! VM, part 10: list comprehensions. -/
namespace VM
open PySem PySem.Spec PyProof.Rows L2

/-! ### readings without a hidden term -/
def tZ (K : PySem.W.Frag) (W : WX) (Γx Γ : List Mode) (f : M D) (Γ' : List Mode) : TE := fun σ H Q => ∃ F p env, SOk K Γ F H env σ p ∧ PostZ K W Γx Γ' F H p σ Q (f env)
def tO (K : PySem.W.Frag) (W : WX) (Γx Γ : List Mode) (f : M D) (m : Mode) (Γ' : List Mode) : TE := fun σ H Q => ∃ F p env, SOk K Γ F H env σ p ∧ PostO K W Γx Γ' m F H p σ Q (f env)
def tT (K : PySem.W.Frag) (W : WX) (Γx Γ : List Mode) (f : M Bool) (Γ' : List Mode) : TT := fun σ H Q => ∃ F p env, SOk K Γ F H env σ p ∧ PostT K W Γx Γ' F H p σ Q (f env)
def tG (K : PySem.W.Frag) (S : SC) (Γ : List Mode) (h : Tg) (Γ' : List Mode) : TG := fun v σ H Q => ∃ F p env e' d, SOk K Γ F H env σ p ∧ RepZ K F d v ∧ h d env = some e' ∧ ∀ σ', PinOk S.pin σ σ' → SOk K Γ' F H e' σ' p → Q σ' H
section
variable {X : Cx} {W : WX} {S : SC} {Γx Γ Γ1 Γ2 Γ' : List Mode} {e tg : Expr} {f : M D} {ft : M Bool} {h : Tg} {m : Mode}
theorem MZ.pe (he : MZ X W Γx Γ e f Γ') : PE X e (tZ X.K W Γx Γ f Γ') := by
  obtain ⟨t, pt, he⟩ := he
  exact ⟨fun pins s σ H Q I ⟨F, p, env, k, q⟩ => pt.run pins s σ H Q I (he σ F H p env Q k q)⟩
theorem MO.pe (he : MO X W Γx Γ e f m Γ') : PE X e (tO X.K W Γx Γ f m Γ') := by
  obtain ⟨t, pt, he⟩ := he
  exact ⟨fun pins s σ H Q I ⟨F, p, env, k, q⟩ => pt.run pins s σ H Q I (he σ F H p env Q k q)⟩
theorem MT.pt (he : MT X W Γx Γ e ft Γ') : PT X e (tT X.K W Γx Γ ft Γ') := by
  obtain ⟨t, pt, he⟩ := he
  exact ⟨fun pins s σ H Q I ⟨F, p, env, k, q⟩ => pt.run pins s σ H Q I (he σ F H p env Q k q)⟩
theorem MG.pg (he : MG X S Γ tg h Γ') : PG X tg (tG X.K S Γ h Γ') := by
  obtain ⟨t, pt, he⟩ := he
  exact ⟨fun pins s σ H v u Q I r ⟨F, p, env, e', d, k, rd, hd, q⟩ => pt.run pins s σ H v u Q I r (he σ F H p env e' d v Q k rd hd q)⟩
end
/-! ### slots wiped -/
def wipeE (e : Env) : List Nat → Env
  | [] => e
  | v :: vs => (wipeE e vs).set v none
def backE (e0 e : Env) : List Nat → Env
  | [] => e
  | v :: vs => (backE e0 e vs).set v (e0[v]?).join
def anyAt (Γ : List Mode) : List Nat → List Mode
  | [] => Γ
  | v :: vs => (anyAt Γ vs).set v .any
theorem wipeE_len (e : Env) : ∀ vs, (wipeE e vs).length = e.length
  | [] => rfl
  | v :: vs => by simp only [wipeE, List.length_set, wipeE_len e vs]
theorem backE_len (e0 e : Env) : ∀ vs, (backE e0 e vs).length = e.length
  | [] => rfl
  | v :: vs => by simp only [backE, List.length_set, backE_len e0 e vs]
theorem wipeE_some {e : Env} {i : Nat} {d : D} : ∀ {vs : List Nat}, (wipeE e vs)[i]? = some (some d) → e[i]? = some (some d) ∧ i ∉ vs
  | [], h => ⟨h, by simp⟩
  | v :: vs, h => by
    simp only [wipeE] at h
    by_cases hv : v = i
    · subst hv
      rw [List.getElem?_set] at h
      split at h
      · split at h <;> cases h
      · rename_i z; exact (z rfl).elim
    · rw [List.getElem?_set_ne hv] at h
      have := wipeE_some h
      exact ⟨this.1, by simp [Ne.symm hv, this.2]⟩
theorem wipe_ne {σ : Sl} {i : Nat} : ∀ {vs : List Nat}, i ∉ vs → (wipe σ vs)[i]? = σ[i]?
  | [], _ => rfl
  | v :: vs, h => by
    simp only [List.mem_cons, not_or] at h
    simp only [wipe]
    rw [List.getElem?_set_ne (Ne.symm h.1), wipe_ne h.2]
theorem wipe_at {σ : Sl} {i : Nat} : ∀ {vs : List Nat}, i ∈ vs → i < σ.length → (wipe σ vs)[i]? = some none
  | [], h, _ => by simp at h
  | v :: vs, h, hl => by
    simp only [wipe]
    by_cases hv : v = i
    · subst hv; exact List.getElem?_set_self (by rw [wipe_length]; exact hl)
    · rw [List.getElem?_set_ne hv]
      exact wipe_at (by simpa [Ne.symm hv] using h) hl
theorem wipe_eq {σ σ' : Sl} {vs : List Nat} (hl : σ'.length = σ.length) (h : ∀ i, i ∉ vs → σ'[i]? = σ[i]?) : wipe σ' vs = wipe σ vs := by
  apply List.ext_getElem?
  intro i
  by_cases hi : i ∈ vs
  · by_cases hlt : i < σ.length
    · rw [wipe_at hi hlt, wipe_at hi (by omega)]
    · rw [List.getElem?_eq_none (by rw [wipe_length]; omega), List.getElem?_eq_none (by rw [wipe_length]; omega)]
  · rw [wipe_ne hi, wipe_ne hi, h i hi]
theorem backE_ne {e0 e : Env} {i : Nat} : ∀ {vs : List Nat}, i ∉ vs → (backE e0 e vs)[i]? = e[i]?
  | [], _ => rfl
  | v :: vs, h => by
    simp only [List.mem_cons, not_or] at h
    simp only [backE]
    rw [List.getElem?_set_ne (Ne.symm h.1), backE_ne h.2]
theorem backE_at {e0 e : Env} {i : Nat} : ∀ {vs : List Nat}, i ∈ vs → i < e.length → (backE e0 e vs)[i]? = some (e0[i]?).join
  | [], h, _ => by simp at h
  | v :: vs, h, hl => by
    simp only [backE]
    by_cases hv : v = i
    · subst hv; exact List.getElem?_set_self (by rw [backE_len]; exact hl)
    · rw [List.getElem?_set_ne hv]
      exact backE_at (by simpa [Ne.symm hv] using h) hl
theorem anyAt_ne {Γ : List Mode} {i : Nat} : ∀ {vs : List Nat}, i ∉ vs → (anyAt Γ vs)[i]? = Γ[i]?
  | [], _ => rfl
  | v :: vs, h => by
    simp only [List.mem_cons, not_or] at h
    simp only [anyAt]
    rw [List.getElem?_set_ne (Ne.symm h.1), anyAt_ne h.2]
theorem anyAt_get {Γ : List Mode} {i : Nat} {m : Mode} : ∀ {vs : List Nat}, (anyAt Γ vs)[i]? = some m → m = .any ∨ (Γ[i]? = some m ∧ i ∉ vs)
  | [], h => .inr ⟨h, by simp⟩
  | v :: vs, h => by
    simp only [anyAt] at h
    by_cases hv : v = i
    · subst hv
      rw [List.getElem?_set] at h
      split at h
      · split at h
        · exact .inl (Option.some.inj h).symm
        · cases h
      · rename_i z; exact (z rfl).elim
    · rw [List.getElem?_set_ne hv] at h
      rcases anyAt_get h with z | ⟨z1, z2⟩
      · exact .inl z
      · exact .inr ⟨z1, by simp [Ne.symm hv, z2]⟩
section
variable {K : PySem.W.Frag} {Γ : List Mode} {F H : Hp} {env : Env} {σ : Sl} {p : Pth}
theorem SOk.wipe (s : SOk K Γ F H env σ p) (vs : List Nat) : SOk K (anyAt Γ vs) F H (wipeE env vs) (L2.wipe σ vs) p := by
  refine ⟨s.same, s.inj, s.off, by rw [wipeE_len, wipe_length]; exact s.len, fun i m d hm hd => ?_⟩
  obtain ⟨h1, h2⟩ := wipeE_some hd
  rcases anyAt_get hm with z | ⟨z, _⟩
  · exact .inl z
  · rcases s.slot i m d z h1 with z | ⟨v, z1, z2⟩
    · exact .inl z
    · exact .inr ⟨v, by rw [wipe_ne h2]; exact z1, z2⟩
/-- wiped once more, at a turn's end -/
theorem SOk.rewipe {Γ2 : List Mode} {σ2 : Sl} {vs : List Nat} (s : SOk K Γ2 F H env σ2 p) (l : MLe Γ2 (anyAt Γ vs)) (e : L2.wipe σ2 vs = L2.wipe σ vs) : SOk K (anyAt Γ vs) F H (wipeE env vs) (L2.wipe σ vs) p := by
  have s' := (s.le l).wipe vs
  rw [e] at s'
  refine ⟨s'.same, s'.inj, s'.off, s'.len, fun i m d hm hd => ?_⟩
  rcases anyAt_get hm with z | ⟨z, hi⟩
  · exact .inl z
  · exact s'.slot i m d (by rw [anyAt_ne hi, anyAt_ne hi]; exact z) hd
end
abbrev wF : WX := fun _ _ _ _ => False
def mCompL (vs : List Nat) (h : Tg) (tt : M Bool) (te : M D) : List D → List D → M (List D)
  | [], acc, e => .ok acc e
  | d :: ds, acc, e => match h d (wipeE e vs) with
    | none => .bad
    | some e1 => (tt e1).bind fun b e2 => if b then (te e2).bind fun y e3 => if acc.length < sizeLine then mCompL vs h tt te ds (acc ++ [y]) e3 else .bad
      else mCompL vs h tt te ds acc e2
def mComp (vs : List Nat) (it : M (List D)) (h : Tg) (tt : M Bool) (te : M D) : M D := fun e => (it e).bind fun ds e1 => match mCompL vs h tt te ds [] e1 with
  | .ok ys e2 => .ok (.lst ys) (backE e1 e2 vs)
  | _ => .bad
def scPin (vs : List Nat) : SC := ⟨[], [], [], [], .fz, fun i => !vs.contains i⟩
def TgLen (h : Tg) : Prop := ∀ d e e', h d e = some e' → e'.length = e.length
def TgsLen (h : Tgs) : Prop := ∀ d e e', h d e = some e' → e'.length = e.length
theorem TgLen.set {i : Nat} : TgLen (gSet i) := fun d e e' h => by cases h; simp
theorem TgLen.tup {t : Tgs} (ht : TgsLen t) : TgLen (gTupD t) := fun d e e' h => by
  unfold gTupD at h
  cases d <;> first | exact ht _ _ _ h | cases h
theorem TgsLen.nil : TgsLen gsNil := fun ds e e' h => by cases ds <;> cases h; rfl
theorem TgsLen.cons {h : Tg} {t : Tgs} (hh : TgLen h) (ht : TgsLen t) : TgsLen (gsCons h t) := fun ds e e' he => by
  cases ds with
  | nil => cases he
  | cons d r =>
    simp only [gsCons] at he
    cases h1 : h d e with
    | none => rw [h1] at he; cases he
    | some e1 => rw [h1] at he; exact (ht _ _ _ he).trans (hh _ _ _ h1)
/-- a clause's tests -/
def MTs (X : Cx) (W : WX) (Γx Γ : List Mode) (ifs : List Expr) (f : M Bool) (Γ' : List Mode) : Prop := PTs X ifs (tT X.K W Γx Γ f Γ')
def mYes : M Bool := fun e => .ok true e
section
variable {X : Cx} {W : WX} {S : SC} {Γx Γ Γ1 Γ2 Γ3 Γ' Γb : List Mode} {e tg iter elt c : Expr} {f : M D} {ft : M Bool} {h : Tg} {m : Mode} {it : M (List D)} {ifs : List Expr}
theorem mts_nil : MTs X W Γx Γ [] mYes Γ := ⟨fun pins s σ H Q I ⟨F, p, env, k, q⟩ => pts_nil.run pins s σ H Q I (q F H p .refl k)⟩
theorem mts_one (h : MT X W Γx Γ c ft Γ') : MTs X W Γx Γ [c] ft Γ' := pts_one h.pt
theorem lc_read {vs : List Nat} {σ : Sl} {F1 H1 : Hp} {p1 : Pth} {e1 : Env} {ds : List D} {J : It} {Q : V → Hp → Prop} {ys : List D} {e2 : Env}
    (k1 : SOk X.K Γ1 F1 H1 e1 σ p1) (wd : WalkD X.K J F1 ds) (hl : TgLen h) (hle : MLe Γ3 (anyAt Γ1 vs)) (hle2 : MLe Γ' (anyAt Γ1 vs)) (hv : ∀ v ∈ vs, Γ1[v]? = some .fz ∨ Γ1[v]? = some .any ∨ Γ1[v]? = none)
    (hm : mCompL vs h ft f ds [] e1 = .ok ys e2)
    (q : ∀ (F' H' : Hp) (p' : Pth) (v : V) (pv : Pth), Step F1 H1 p1 F' H' p' → SOk X.K Γ1 F' H' (backE e1 e2 vs) σ p' → Rep X.K (.lst .fz) F' H' (.lst ys) v pv → Fresh F1 H1 p1 F' H' p' pv → Q v H') :
    ∀ D, H1 D = none → ∃ W' : Nat → Nat → Hp → Prop, (∃ m, W' 0 m (upd H1 D (.lst []))) ∧ ∀ i m H, W' i m H →
      (J.stop i H ∧ Q (.ref D) H) ∨ (J.go i H ∧ ∃ Nx : Hp → Prop, (∀ H', Nx H' → ∃ m', m' < m ∧ W' (i + 1) m' H') ∧ ∀ x H', J.yld i H x H' →
        (tG X.K (scPin vs) (anyAt Γ1 vs) h Γ2) x (L2.wipe σ vs) H' fun σ2 H2 => L2.wipe σ2 vs = L2.wipe σ vs ∧ (tT X.K wF Γb Γ2 ft Γ3) σ2 H2 fun b H3 =>
          if b = true then (tZ X.K wF Γb Γ3 f Γ') σ2 H3 fun y H4 => ∃ acc, H4 D = some (.lst acc) ∧ acc.length < sizeLine ∧ Nx (upd H4 D (.lst (acc ++ [y]))) else Nx H3) := by
  intro Dn hD
  have e0 : ∀ {F2 H2 p2 e3 acc us}, Step F1 (upd H1 Dn (.lst [])) p1 F2 H2 p2 → SOk X.K (anyAt Γ1 vs) F2 H2 (wipeE e3 vs) (L2.wipe σ vs) p2 → H2 Dn = some (.lst us) → RepZs X.K F2 acc us → F2 Dn = none → (∀ q, p2 q ≠ some Dn) → True := fun _ _ _ _ _ _ => trivial
  refine ⟨fun i m H => i ≤ ds.length ∧ m = ds.length - i ∧ ∃ F2 p2 e3 acc us, Same F1 F2 ∧ Step F1 H1 p1 F2 H p2 ∧ SOk X.K (anyAt Γ1 vs) F2 H (wipeE e3 vs) (L2.wipe σ vs) p2 ∧ H Dn = some (.lst us) ∧ RepZs X.K F2 acc us ∧ F2 Dn = none ∧ (∀ q, p2 q ≠ some Dn) ∧
      mCompL vs h ft f (ds.drop i) acc e3 = .ok ys e2 ∧ wipeE e3 vs = wipeE e3 vs,
    ⟨ds.length, Nat.zero_le _, rfl, F1, p1, e1, [], [], fun _ _ z => z, Step.newO hD, (k1.newO hD).wipe vs, upd_same, .nil, Same.not k1.same hD, fun q hq => (k1.off _ _ hq).2 hD, hm, rfl⟩, ?_⟩
  rintro i m H2 ⟨hil, rfl, F2, p2, e3, acc, us, sF, st2, k2, hDn, ra, fD, pD, hmi, _⟩
  by_cases hlt : i < ds.length
  · have hd : ds[i]? = some ds[i] := List.getElem?_eq_getElem hlt
    obtain ⟨go, yl⟩ := wd.2 F2 H2 i ds[i] sF k2.same hd
    rw [List.drop_eq_getElem_cons hlt] at hmi
    simp only [mCompL] at hmi
    cases hh : h ds[i] (wipeE e3 vs) with
    | none => rw [hh] at hmi; cases hmi
    | some e4 =>
      rw [hh] at hmi
      dsimp only at hmi
      refine .inr ⟨go, fun H' => ∃ F4 p4 e5 acc us, Same F1 F4 ∧ Step F1 H1 p1 F4 H' p4 ∧ SOk X.K (anyAt Γ1 vs) F4 H' (wipeE e5 vs) (L2.wipe σ vs) p4 ∧ H' Dn = some (.lst us) ∧ RepZs X.K F4 acc us ∧ F4 Dn = none ∧ (∀ q, p4 q ≠ some Dn) ∧
        mCompL vs h ft f (ds.drop (i + 1)) acc e5 = .ok ys e2 ∧ wipeE e5 vs = wipeE e5 vs, fun H' n => ⟨ds.length - (i + 1), by omega, hlt, rfl, n⟩, fun x H' y => ?_⟩
      obtain ⟨F3, s3, k3, r3⟩ := yl x H' y _ _ _ p2 k2
      -- the new list stands as it was
      have keepD : ∀ {F5 H5 p5 F6 H6 p6}, Step F5 H5 p5 F6 H6 p6 → H5 Dn = some (.lst us) → F5 Dn = none → (∀ q, p5 q ≠ some Dn) → H6 Dn = some (.lst us) ∧ F6 Dn = none ∧ ∀ q, p6 q ≠ some Dn := by
        intro F5 H5 p5 F6 H6 p6 t a b c
        refine ⟨t.keep _ _ a c, ?_, fun q hq => ?_⟩
        · cases z : F6 Dn with
          | none => rfl
          | some o =>
            exfalso
            rcases t.frz Dn (by rw [z]; simp) with z | ⟨q0, z⟩ | z
            · exact z b
            · exact c q0 z
            · rw [a] at z; cases z
        · rcases t.own q _ hq with ⟨q0, z⟩ | z
          · exact c q0 z
          · rw [a] at z; cases z
      obtain ⟨hD3, fD3, pD3⟩ := keepD s3 hDn fD pD
      refine ⟨F3, p2, wipeE e3 vs, e4, ds[i], k3, r3, hh, fun σ2 hp2 k4 => ⟨?_, ?_⟩⟩
      · have hlen : σ2.length = (L2.wipe σ vs).length := by
          rw [← k4.len, hl _ _ _ hh, wipeE_len, wipe_length]
          have := k3.len
          rw [wipeE_len, wipe_length] at this
          exact this
        have hw : L2.wipe σ2 vs = L2.wipe (L2.wipe σ vs) vs := by
          refine wipe_eq hlen fun j hj => ?_
          exact hp2 j (show (!vs.contains j) = true by simpa using hj)
        rw [hw]
        refine wipe_eq (wipe_length _ _) fun j hj => wipe_ne hj
      · have hw : L2.wipe σ2 vs = L2.wipe σ vs := by
          have hlen : σ2.length = (L2.wipe σ vs).length := by
            rw [← k4.len, hl _ _ _ hh, wipeE_len, wipe_length]
            have := k3.len
            rw [wipeE_len, wipe_length] at this
            exact this
          have hw : L2.wipe σ2 vs = L2.wipe (L2.wipe σ vs) vs := by
            refine wipe_eq hlen fun j hj => ?_
            exact hp2 j (show (!vs.contains j) = true by simpa using hj)
          rw [hw]
          exact wipe_eq (wipe_length _ _) fun j hj => wipe_ne hj
        have sF3 : Same F1 F3 := fun a o z => s3.same a o (sF a o z)
        refine ⟨F3, p2, e4, k4, ?_⟩
        cases ht : ft e4 with
        | bad => rw [ht] at hmi; cases hmi
        | ex x e' => rw [ht] at hmi; cases hmi
        | ok b e5 =>
          rw [ht, Res.bind_ok] at hmi
          intro F5 H5 p5 s5 k5
          obtain ⟨hD5, fD5, pD5⟩ := keepD s5 hD3 fD3 pD3
          have sF5 : Same F1 F5 := fun a o z => s5.same a o (sF3 a o z)
          have st5 := (st2.trans s3).trans s5
          cases b with
          | false =>
            rw [if_neg Bool.false_ne_true]
            simp only [Bool.false_eq_true, if_false] at hmi
            exact ⟨F5, p5, e5, acc, us, sF5, st5, k5.rewipe hle hw, hD5, ra.mono fun a o z => s5.same a o (s3.same a o z), fD5, pD5, hmi, rfl⟩
          | true =>
            rw [if_pos rfl]
            simp only [if_true] at hmi
            refine ⟨F5, p5, e5, k5, ?_⟩
            cases hf : f e5 with
            | bad => rw [hf] at hmi; cases hmi
            | ex x e' => rw [hf] at hmi; cases hmi
            | ok y e6 =>
              rw [hf, Res.bind_ok] at hmi
              intro v F6 H6 p6 s6 k6 r6
              obtain ⟨hD6, fD6, pD6⟩ := keepD s6 hD5 fD5 pD5
              split at hmi
              · rename_i hsz
                have ra6 : RepZs X.K F6 acc us := ra.mono fun a o z => s6.same a o (s5.same a o (s3.same a o z))
                have sF6 : Same F1 F6 := fun a o z => s6.same a o (sF5 a o z)
                have st6 := st5.trans s6
                have hne : ∀ b o, F6 b = some o → b ≠ Dn := fun b o z e => by rw [e, fD6] at z; cases z
                refine ⟨us, hD6, by rw [← ra6.1]; exact hsz, F6, p6, e6, acc ++ [y], us ++ [v], sF6, ⟨st6.same, fun a o ha hq => ?_, st6.own, st6.frz⟩, ?_, upd_same, ra6.append (.cons r6 .nil), fD6, pD6, hmi, rfl⟩
                · have hne : a ≠ Dn := fun e => by rw [e, hD] at ha; cases ha
                  rw [upd_ne hne]
                  exact st6.keep a o ha hq
                · have k7 := k6.rewipe hle2 hw
                  refine ⟨fun b o z => by rw [upd_ne (hne b o z)]; exact k7.same b o z, k7.inj, fun q a hq => ?_, k7.len, fun j mm d hm2 hd2 => ?_⟩
                  · have : a ≠ Dn := fun e => pD6 q (e ▸ hq)
                    rw [upd_ne this]; exact k7.off q a hq
                  · rcases k7.slot j mm d hm2 hd2 with z | ⟨u, z1, z2⟩
                    · exact .inl z
                    · refine .inr ⟨u, z1, Rep.frame mm z2 (fun _ _ z => z) fun q a o hq ho => ?_⟩
                      have : a ≠ Dn := fun e => pD6 _ (e ▸ hq)
                      rw [upd_ne this]; exact ho
              · cases hmi
  · have e : i = ds.length := by omega
    subst e
    rw [List.drop_length] at hmi
    simp only [mCompL] at hmi
    cases hmi
    refine .inl ⟨wd.1 F2 H2 _ sF k2.same (Nat.le_refl _), q F2 H2 p2 (.ref Dn) (rootP Dn) st2 ⟨k2.same, k2.inj, k2.off, ?_, fun i m d hm hd => ?_⟩ ⟨Dn, _, us, rfl, rfl, rfl, hDn, ra.1, ra.2⟩ ⟨fun q q' b h h' => ?_, fun q q' b h h' => ?_, fun q b h => ?_, fun q b h => ?_⟩⟩
    · rw [backE_len]
      have := k2.len
      rw [wipeE_len, wipe_length] at this
      exact this
    · by_cases hi : i ∈ vs
      · have hlen : i < e2.length := by
          have := (List.getElem?_eq_some_iff.mp hd).1
          rw [backE_len] at this; exact this
        rw [backE_at hi hlen] at hd
        have hd' : e1[i]? = some (some d) := by
          cases z : e1[i]? with
          | none => rw [z] at hd; cases hd
          | some o => rw [z] at hd; cases o with
            | none => cases hd
            | some d2 => cases hd; rfl
        rcases hv i hi with z | z | z
        · rw [hm] at z; cases z
          rcases k1.slot i .fz d hm hd' with z | ⟨v, z1, z2⟩
          · cases z
          · exact .inr ⟨v, z1, RepZ.mono z2 sF⟩
        · rw [hm] at z; cases z; exact .inl rfl
        · rw [hm] at z; cases z
      · rw [backE_ne hi] at hd
        have hd' : (wipeE e2 vs)[i]? = some (some d) := by
          have : ∀ (vs : List Nat), i ∉ vs → (wipeE e2 vs)[i]? = e2[i]? := by
            intro vs
            induction vs with
            | nil => intro _; rfl
            | cons v vs ih =>
              intro h
              simp only [List.mem_cons, not_or] at h
              simp only [wipeE]
              rw [List.getElem?_set_ne (Ne.symm h.1), ih h.2]
          rw [this vs hi]; exact hd
        rcases k2.slot i m d (by rw [anyAt_ne hi]; exact hm) hd' with z | ⟨v, z1, z2⟩
        · exact .inl z
        · exact .inr ⟨v, by rw [wipe_ne hi] at z1; exact z1, z2⟩
    · rw [(rootP_inv h).1, (rootP_inv h').1]
    · exact pD _ ((rootP_inv h).2 ▸ h')
    · rw [(rootP_inv h).2]; exact ⟨fD, by rw [hDn]; simp⟩
    · rw [(rootP_inv h).2]; exact .inr hD
/-- the block of a comprehension: any of the contexts that the layer asks about -/
abbrev Blk (X : Cx) (scope : Scope) (P : Cx → Prop) : Prop := ∀ (s : Shared) (H : Hp) (C : Addr) (cl : List (Str × Addr)) (fp : List Addr), P (X.blk s H scope (compEnvC scope cl C X.env) fp)
theorem mo_lc {scope : Scope} {own : List (Str × Nat)} {pos : Pos} (vs : List Nat) (hi : MI X W Γx Γ tg iter it Γ1) (ok : BlkOk X.N X.env.scope scope own)
    (hg : Blk X scope fun Y => MG Y (scPin vs) (anyAt Γ1 vs) tg h Γ2) (ht : Blk X scope fun Y => MTs Y wF Γb Γ2 ifs ft Γ3) (he : Blk X scope fun Y => MZ Y wF Γb Γ3 elt f Γ')
    (hle : MLe Γ3 (anyAt Γ1 vs) := by repeat (first | exact MLe.nil | apply MLe.same | apply MLe.drop)) (hle2 : MLe Γ' (anyAt Γ1 vs) := by repeat (first | exact MLe.nil | apply MLe.same | apply MLe.drop))
    (hl : TgLen h := by repeat (first | exact TgLen.set | exact TgsLen.nil | apply TgsLen.cons | apply TgLen.tup)) (hvs : own.map (·.2) = vs := by rfl) (hv : ∀ v ∈ vs, Γ1[v]? = some .fz ∨ Γ1[v]? = some .any ∨ Γ1[v]? = none := by simp)
    (hc : X.calm = true := by rfl) (hN : X.N.Nodup := by assumption) (hs : ∀ x, foldedSetIterable iter X.env x = pure x := by intro _; rfl) :
    MO X W Γx Γ (.ListComp elt [⟨tg, iter, ifs, 0⟩] scope pos) (mComp vs it h ft f) (.lst .fz) Γ1 := by
  obtain ⟨wi, pi, hi⟩ := hi
  refine ⟨_, pe_lc (g := tG X.K (scPin vs) (anyAt Γ1 vs) h Γ2) (tt := tT X.K wF Γb Γ2 ft Γ3) (te := tZ X.K wF Γb Γ3 f Γ') hc hN pi ok (fun s H C cl fp => (hg s H C cl fp).pg) (fun s H C cl fp => ht s H C cl fp) (fun s H C cl fp => (he s H C cl fp).pe) hs, fun σ F H p env Q s q => ?_⟩
  rw [hvs]
  show wi σ H fun J H1 => _
  refine hi σ F H p env _ s ?_
  unfold mComp at q
  cases hit : it env with
  | bad => rw [hit] at q; exact q.elim
  | ex x e' => rw [hit] at q; exact q
  | ok ds e1 =>
    rw [hit, Res.bind_ok] at q
    intro J F1 H1 p1 s1 k1 wd
    cases hm : mCompL vs h ft f ds [] e1 with
    | bad => rw [hm] at q; exact q.elim
    | ex x e' => rw [hm] at q; exact q.elim
    | ok ys e2 =>
      rw [hm] at q
      exact lc_read k1 wd hl hle hle2 hv hm fun F' H' p' v pv t k r fr => q v F' H' p' pv (s1.trans t) k r (fr.step s1)
/-- y = [..] -/
theorem ms_setLc {S : SC} {scope : Scope} {own : List (Str × Nat)} {pos spos py : Pos} {y : Str} (i : Nat) (vs : List Nat) (hi : MI X W S.Γx Γ tg iter it Γ1) (ok : BlkOk X.N X.env.scope scope own)
    (hg : Blk X scope fun Y => MG Y (scPin vs) (anyAt Γ1 vs) tg h Γ2) (ht : Blk X scope fun Y => MTs Y wF Γb Γ2 ifs ft Γ3) (he : Blk X scope fun Y => MZ Y wF Γb Γ3 elt f Γ')
    (hle : MLe Γ3 (anyAt Γ1 vs) := by repeat (first | exact MLe.nil | apply MLe.same | apply MLe.drop)) (hle2 : MLe Γ' (anyAt Γ1 vs) := by repeat (first | exact MLe.nil | apply MLe.same | apply MLe.drop))
    (hl : TgLen h := by repeat (first | exact TgLen.set | exact TgsLen.nil | apply TgsLen.cons | apply TgLen.tup)) (hvs : own.map (·.2) = vs := by rfl) (hv : ∀ v ∈ vs, Γ1[v]? = some .fz ∨ Γ1[v]? = some .any ∨ Γ1[v]? = none := by simp)
    (hpin : S.pin i = false := by rfl) (hc : X.calm = true := by rfl) (hN : X.N.Nodup := by assumption) (hy : X.N[i]? = some y := by rfl) (hyl : X.env.scope.names.lookup y = some .local := by rfl)
    (hsw : swapsWith (.ListComp elt [⟨tg, iter, ifs, 0⟩] scope pos) (some (.Name y py)) spos.line X.env = pure true := by exact sw_true rfl rfl rfl (by decide +kernel)) (hs : ∀ x, foldedSetIterable iter X.env x = pure x := by intro _; rfl) :
    MS X W S Γ (.Assign [.Name y py] (.ListComp elt [⟨tg, iter, ifs, 0⟩] scope pos) spos) (mSet i (mComp vs it h ft f)) (Γ1.set i (.lst .fz)) := by
  obtain ⟨wi, pi, hi⟩ := hi
  refine ⟨_, ps_setLc (g := tG X.K (scPin vs) (anyAt Γ1 vs) h Γ2) (tt := tT X.K wF Γb Γ2 ft Γ3) (te := tZ X.K wF Γb Γ3 f Γ') hc hN hy hyl hsw pi ok (fun s H C cl fp => (hg s H C cl fp).pg) (fun s H C cl fp => ht s H C cl fp) (fun s H C cl fp => (he s H C cl fp).pe) hs, fun D σ F H p env s q => ?_⟩
  rw [hvs]
  show wi σ H fun J H1 => _
  refine hi σ F H p env _ s ?_
  unfold mSet mComp at q
  cases hit : it env with
  | bad => rw [hit] at q; exact q.elim
  | ex x e' => rw [hit] at q; exact fun cls dd F' H' p' s k r => q σ cls dd F' H' p' .refl s k r
  | ok ds e1 =>
    rw [hit, Res.bind_ok] at q
    intro J F1 H1 p1 s1 k1 wd
    cases hm : mCompL vs h ft f ds [] e1 with
    | bad => rw [hm] at q; exact q.elim
    | ex x e' => rw [hm] at q; exact q.elim
    | ok ys e2 =>
      rw [hm] at q
      refine lc_read (Q := fun v H' => D.nx (σ.set i (some v)) H') k1 wd hl hle hle2 hv hm fun F' H' p' v pv t k r fr => ?_
      have fr' := fr.step s1
      exact q _ F' H' _ (.set hpin) ((s1.trans t).put fr') (k.setO r fr')
end
end VM
/-! VM, exceptions: own classes C over D over Exception, D's __init__ being: super().__init__(str(what)); self.what = what. -/
namespace VM
open PySem PySem.Spec PyProof.Rows L2
open Builtin Builtin.ObjectAttr

abbrev exB : List Value := [.type "Exception", .type "BaseException", .type "object"]
/-- what the written part says of such a class -/
structure ExC (K : PySem.W.Frag) (prog : Program) (C D fI cc : Addr) (st : Stmt) (wh : Str) : Prop where
  made : PySem.W.excInitIn K C exB "Exception.__new__" = true
  hdict : PySem.W.hasDictIn K C = true
  init : PySem.W.findIn K (.ref C) "__init__" = some (some (.ref fI))
  initT : PySem.W.typeIn K (.ref fI) = some (.type "function")
  sub : PySem.W.mroIn K C (.ref D) = some true
  isD : ∃ cd, PySem.W.clsIn K D = some cd
  sup : PySem.W.ks_superIn K C D "__init__" = some (some (.builtin "Exception.__init__"))
  isE : PySem.W.subIn K (.ref C) (.type "Exception") = some true
  isB : PySem.W.subIn K (.ref C) (.type "BaseException") = some true
  tyC : PySem.W.typeIn K (.ref C) = some (.type "type")
  keep : PySem.W.keepIn K (.ref C) = true
  opq : PySem.W.nsIn K cStatics "thirdparty.any" = some none
  noat : PySem.W.findIn K (.ref C) wh = some none
  over : PySem.W.excOver K C exB = true
  sattr : PySem.W.findIn K (.ref C) "__setattr__" = some (some (.builtin "object.__setattr__"))
  fn : ∃ (oc : Value) (od : Option Addr) (kV doc pm : Value) (an : Option Addr) (cdv ct : Value) (osl : Array (Option Value)),
    K.lookup fI = some ⟨oc, od, .func (PySem.W.fnX "__init__" "CellError.__init__" (defArgs st) (defBody st) (defScope st) [("__class__", cc)] .none kV doc pm an cdv ct), osl⟩ ∧ PySem.W.codeIn K cdv "CellError.__init__" = true ∧
      ∃ (cda : Addr) (ccl : Value) (cdd : Option Addr) (vs : Array Value) (ccs : Array (Option Value)) (file : Str) (tf : Tok), cdv = .ref cda ∧ K.lookup cda = some ⟨ccl, cdd, .fields vs, ccs⟩ ∧ vs[2]? = some (.str file tf) ∧ ((prog.main.file : Str) == file) = true
  cell : ∃ (cl : Value) (cld : Option Addr) (csl : Array (Option Value)), K.lookup cc = some ⟨cl, cld, .cell (some (.ref D)), csl⟩
/-- the text of that __init__ -/
structure ExT (st : Stmt) (wh : Str) : Prop where
  scope : (defScope st).kind = .function ∧ (defScope st).isCoroutine = false ∧ (defScope st).isGenerator = false ∧ (∀ x ∈ (defScope st).names, x.2 ≠ .cell) ∧ (defScope st).names.lookup ("self" : Str) = some .local ∧ (defScope st).names.lookup wh = some .local ∧
    (defScope st).names.lookup ("super" : Str) = some .globalImplicit ∧ (defScope st).names.lookup ("str" : Str) = some .globalImplicit ∧ (defScope st).names.lookup ("__class__" : Str) = some .free
  args : ∃ ar, ((defArgs st).posonlyargs ++ (defArgs st).args).head? = some ar ∧ ar.arg = "self"
  body : ∃ p0 p1 p2 p3 p4 p5 p6 p7 p8 p9 p10 p11, defBody st = [.Expr (.Call (.Attribute (.Call (.Name "super" p0) [] [] p1) "__init__" p2) [.Call (.Name "str" p3) [.Name wh p4] [] p5] [] p6) p7, .Assign [.Attribute (.Name "self" p8) wh p9] (.Name wh p10) p11] ∧
    ∀ env : PySem.Env, ∃ pl : Sem Bool, PySem.eval (.Call (.Attribute (.Call (.Name "super" p0) [] [] p1) "__init__" p2) [.Call (.Name "str" p3) [.Name wh p4] [] p5] [] p6) env = (do
      let ov ← attributeBase (.Call (.Name "super" p0) [] [] p1) "__init__" env (PySem.eval (.Call (.Name "super" p0) [] [] p1) env)
      standAt p2.atName
      let (f, first) ← holding [ov] (getMethod ov "__init__" pl)
      callWith p6 f first (backTo p6 (starEach [.Call (.Name "str" p3) [.Name wh p4] [] p5] env)) [])
  whs : wh ≠ "self"
  whd : (wh == ("__debug__" : Str)) = false
  binds : ∀ (kV doc pm : Value) (an : Option Addr) (cdv ct : Value) (cc : Addr) (u v : Value), bindArgs (PySem.W.fnX "__init__" "CellError.__init__" (defArgs st) (defBody st) (defScope st) [("__class__", cc)] .none kV doc pm an cdv ct) ⟨[u, v], []⟩ = pure [(("self" : Str), u), (wh, v)]

section
variable {prog : Program} {w : World} {A : Around} {R : Result → Shared → Prop} {K : PySem.W.Frag} {C D fI cc x t0 : Addr} {st : Stmt} {h : Heap} {g : Array GenState} {d : Drawn} {t : Nat} {os : OsState} {mg : Str → Option Value}
/-- self.what = v of a new exception -/
theorem ex_store {wh : Str} (T : ExC K prog C D fI cc st wh) (X : K.In h) (hx : h.get? x = some (HandSPX.excO C t0)) {v : Value} {Q : Unit → Shared → Prop} {E : Value → Shared → Prop}
    (hq : ∀ h' t' dx, (∀ b o, b ≠ x → h.get? b = some o → h'.get? b = some o) → h.objs.size ≤ dx → dx ≠ x → h'.get? x = some { cls := .ref C, dict := some dx, data := .fields #[.ref t0, .none, .none, .none, .bool false, .none] } →
      h'.Ns1 dx (fun y => if y = wh then some v else none) → Q () ⟨h', g, d, t', os⟩) :
    wpAny (model prog w) A (setAttr (.ref x) wh v) Q E ⟨h, g, d, t, os⟩ := by
  have I : PySem.W.InstAt h x (HandSPX.excO C t0) C none := ⟨hx, rfl, rfl, trivial⟩
  have hxs : x ≠ h.objs.size := Nat.ne_of_lt (Heap.lt_size hx)
  refine PySem.W.set_plain X I T.sattr ?_
  refine PySem.W.osa_openX PySem.F.store_Exception X I T.over (r := none) (by unfold PySem.W.takerIn; rw [T.noat]; rfl) fun b => ?_
  obtain ⟨cd, hcd, hh⟩ : ∃ cd, PySem.W.clsIn K C = some cd ∧ cd.hasDict = true := by
    have := T.hdict
    unfold PySem.W.hasDictIn at this
    cases z : PySem.W.clsIn K C with
    | none => rw [z] at this; cases this
    | some cd => rw [z] at this; exact ⟨cd, rfl, this⟩
  have hcls : PySem.W.Looks (model prog w) h (classData C) cd := PySem.W.looks_clsIn X hcd
  obtain ⟨nm, bs, mro, ns, qn, hd, sn, sb, ab, col, del⟩ := cd
  dsimp only at hh
  subst hh
  show wpAny _ _ (storeInOwnDict (.ref x) (.ref C) (.str wh t) wh v b) _ _ _
  unfold storeInOwnDict ownDictForStores
  repeat (first | with_reducible refine HandSPX.store_in_new ?_ ?_ | with_reducible refine wpAny_loadPart_at hx ?_ | with_reducible refine hcls.at ?_ | wp_step)
  · exact ⟨_, #[], _, (Heap.get?_update_ne _ _ _ _ hxs.symm).trans (Heap.get?_push_at rfl rfl), rfl, fun e he => absurd he (by simp), fun _ => rfl⟩
  · intro h' tk' hn' hs
    have hx₁ : (h.push { cls := .type "dict", data := .dict #[] }).get? x = some (HandSPX.excO C t0) := Heap.get?_push_of_some _ hx
    refine hq h' tk' h.objs.size (fun b o hb ho => ?_) (Nat.le_refl _) hxs.symm ?_ hn'
    · exact (hs.2 b (Nat.ne_of_lt (Heap.lt_size ho))).trans ((Heap.get?_update_ne _ _ _ _ hb).trans (Heap.get?_push_of_some _ ho))
    · exact (hs.2 x hxs).trans (Heap.get?_update_self _ hx₁ rfl)

abbrev exO (C t1 dx : Addr) : Obj := { cls := .ref C, dict := some dx, data := .fields #[.ref t1, .none, .none, .none, .bool false, .none] }
/-- the names that the __init__ asks outside -/
structure ExN (mg : Str → Option Value) (h : Heap) : Prop where
  glob : h.Ns mainGlobals mg
  blt : ∃ mb, h.Ns builtinsNs mb ∧ ∀ x : Str, x ≠ "__name__" → mb x = bootBuiltins x
  sup : mg "super" = none
  str : mg "str" = none
theorem ExN.keeps {h' : Heap} (n : ExN mg h) (k : ∀ b o, h.get? b = some o → h'.get? b = some o) : ExN mg h' :=
  ⟨n.glob.keeps k, let ⟨mb, h1, h2⟩ := n.blt; ⟨mb, h1.keeps k, h2⟩, n.sup, n.str⟩
theorem ExN.load {env : PySem.Env} {s : Shared} {y : Str} {v : Value} {M : Model} {A : Around} {E : Value → Shared → Prop} {Q : Value → Shared → Prop} (n : ExN mg s.heap) (hk : env.scope.kind = .function) (hy : env.scope.names.lookup y = some .globalImplicit) (hg : env.globals = mainGlobals) (hb : env.builtins = builtinsNs)
    (hm : mg y = none) (hv : bootBuiltins y = some v) (hn : y ≠ "__name__") (h : Q v s) : wpAny M A (loadName env y) Q E s := by
  obtain ⟨mb, h1, h2⟩ := n.blt
  exact PySem.W.ks_loadName_global hk hy (Calls.loadGlobal_builtin (by rw [hg]; exact n.glob) hm (by rw [hb]; exact h1) ((h2 y hn).trans hv) h)
theorem ex_init {wh z : Str} {tk : Tok} (T : ExC K prog C D fI cc st wh) (Tx : ExT st wh) (X : K.In h) (lim : h.NoLimit) (n : ExN mg h) (htop : (prog.main.scope.names.lookup ("super" : Str)).isSome = false) (hroom : A.depth < recursionLimit) (hx : h.get? x = some (HandSPX.excO C t0)) (hKx : K.lookup x = none)
    (hq : ∀ h' t' t1 dx, (∀ b o, b ≠ x → h.get? b = some o → h'.get? b = some o) → h.objs.size ≤ dx → dx ≠ x → h'.get? x = some (exO C t1 dx) → h'.Ns1 dx (fun y => if y = wh then some (.str z tk) else none) → R (.ok (.ret .none)) ⟨h', g, d, t', os⟩) :
    codeAny (model prog w) A (.call (.ref fI) ⟨[.ref x, .str z tk], []⟩) R ⟨h, g, d, t, os⟩ := by
  obtain ⟨oc, od, kV, doc, pm, an, cdv, ct, osl, lk, cdi, cda, ccl, cdd, vs, ccs, file, tf, rfl, lkc, hvs, hfile⟩ := T.fn
  obtain ⟨cl, cld, csl, lkcc⟩ := T.cell
  obtain ⟨sk, sco, sgen, scell, sself, swhat, ssuper, sstr, scls⟩ := Tx.scope
  obtain ⟨ar, har, hars⟩ := Tx.args
  obtain ⟨p0, p1, p2, p3, p4, p5, p6, p7, p8, p9, p10, p11, hbody, hcall⟩ := Tx.body
  obtain ⟨cdD, hD⟩ := T.isD
  have hxC : x ≠ C := by
    intro e
    have := PySem.W.excInit_of X T.made
    obtain ⟨nm, N, qn, bs, bm, hd, sn, sub, ab, col, dd, k0, k1, k2, k3, k5, hC, _⟩ := this
    rw [e, hC] at hx
    cases hx
  refine PySem.ks_codeAny_call_defAt (binds := [(("self" : Str), .ref x), (wh, .str z tk)]) hroom (X _ _ lk) rfl lim (PySem.W.codeRec_of X cdi) rfl (.of_eq (Tx.binds kV doc pm an (.ref cda) ct cc (.ref x) (.str z tk))) scell ?_ (fun h0 hns hk => ?_) sco sgen sk
  · intro y hy
    rcases List.mem_cons.mp hy with e | hy
    · rw [e]; exact sself
    · rcases List.mem_cons.mp hy with e | hy
      · rw [e]; exact swhat
      · cases hy
  · have m1 : ([(("self" : Str), Value.ref x), (wh, Value.str z tk)].reverse.lookup ("self" : Str)) = some (.ref x) := by
      show ([(wh, Value.str z tk), (("self" : Str), Value.ref x)]).lookup ("self" : Str) = _
      rw [List.lookup_cons]
      have : (("self" : Str) == wh) = false := by simpa using fun e => Tx.whs (Eq.symm e)
      rw [this]; rfl
    have m2 : ([(("self" : Str), Value.ref x), (wh, Value.str z tk)].reverse.lookup wh) = some (.str z tk) := by
      show ([(wh, Value.str z tk), (("self" : Str), Value.ref x)]).lookup wh = _
      rw [List.lookup_cons]
      simp
    have k1 : ∀ b o, h.get? b = some o → h0.get? b = some o := hk
    generalize henv : callEnv (PySem.W.fnX "__init__" "CellError.__init__" (defArgs st) (defBody st) (defScope st) [("__class__", cc)] .none kV doc pm an (.ref cda) ct) h.objs.size fI = env
    have e1 : env.scope = defScope st := by rw [← henv]; rfl
    have e2 : env.locals = h.objs.size := by rw [← henv]; rfl
    have e3 : env.cells = [(("__class__" : Str), cc)] := by rw [← henv]; rfl
    have e4 : env.code = .ref cda := by rw [← henv]; rfl
    have e5 : env.func = some fI := by rw [← henv]; rfl
    have e6 : env.globals = mainGlobals := by rw [← henv]; rfl
    have e7 : env.builtins = builtinsNs := by rw [← henv]; rfl
    rw [← e2] at hns
    have X0 : K.In h0 := PySem.W.Frag.In.keeps X k1
    have n0 : ExN mg h0 := n.keeps k1
    have ek : env.scope.kind = .function := by rw [e1]; exact sk
    have hx0 : h0.get? x = some (HandSPX.excO C t0) := k1 _ _ hx
    obtain ⟨oD, hoD, hoDd⟩ : ∃ oD, h0.get? D = some oD ∧ oD.data = .cls cdD := by
      unfold PySem.W.clsIn at hD
      split at hD
      · rename_i c d cd' sl ho
        cases hD
        exact ⟨_, X0 _ _ ho, rfl⟩
      · cases hD
    rw [hbody]
    obtain ⟨pl, hpl⟩ := hcall env
    refine ks_wpAt_execs_cons (ks_wpAt_Expr_any (ks_wpAt_MethodCall (pl := pl) ?hm hpl) (by simp [interactive, ek]) ?hs)
    case hs => rfl
    case hm =>
      have kS : env.kindOf "super" = some .globalImplicit := by show env.scope.names.lookup _ = _; rw [e1]; exact ssuper
      have kT : env.scope.names.lookup ("str" : Str) = some .globalImplicit := by rw [e1]; exact sstr
      have kC : env.kindOf "__class__" = some .free := by show env.scope.names.lookup _ = _; rw [e1]; exact scls
      have kL : env.kindOf "self" = some .local := by show env.scope.names.lookup _ = _; rw [e1]; exact sself
      have kW : env.kindOf wh = some .local := by show env.scope.names.lookup _ = _; rw [e1]; exact swhat
      refine ks_wpAt_super_base (ar := ar) kS kC rfl e5 (X0 _ _ lk) rfl har e4 (X0 _ _ lkc) rfl hvs hfile htop ?_
      refine n0.load ek kS e6 e7 n0.sup (by decide +kernel : bootBuiltins "super" = some (.type "super")) (by decide) ⟨rfl, ?_⟩
      refine wpAny_loadName_free ek kC (by rw [e3]; rfl) ⟨_, X0 _ _ lkcc, rfl⟩ ?_
      rw [hars]
      refine wpAny_loadName_local ek kL hns m1 ?_
      refine ks_wpAny_isType_cls hoD hoDd ⟨rfl, ?_⟩
      refine ks_wpAny_call_super hoD hoDd hx0 rfl (fun c e => by cases e) (PySem.W.looks_mroIn X0 T.sub) (fun h1 hso k2 => ?_)
      have X1 : K.In h1 := PySem.W.Frag.In.keeps X0 k2
      have hx1 := k2 _ _ hx0
      have I1 : PySem.W.InstAt h1 x (HandSPX.excO C t0) C none := ⟨hx1, rfl, rfl, trivial⟩
      obtain ⟨cdC, hcC, hal⟩ : ∃ cd, PySem.W.clsIn K C = some cd ∧ PySem.W.alongIn K "__init__" ((cd.mro.dropWhile (· != .ref D)).drop 1) = some (some (.builtin "Exception.__init__")) := by
        have := T.sup
        unfold PySem.W.ks_superIn at this
        exact Option.bind_eq_some_iff.mp this
      refine ESX.getMethod_super hso (PySem.W.looks_opaque X1 T.opq) (l₀ := cdC.mro) (fun A Q E s k q => wpAny_bind ((PySem.W.looks_clsIn X1 hcC) A _ E s k (wpAny_pure q))) rfl X1 hal hxC rfl (I1.type.andThen (PySem.W.looks_subIn X1 T.isE)) ?_
      have k3 : ∀ b o, h1.get? b = some o → (h1.push (ESX.bw x)).get? b = some o := fun b o e => Heap.get?_push_of_some _ e
      have n3 : ExN mg (h1.push (ESX.bw x)) := (n0.keeps k2).keeps k3
      have hns3 := (hns.keeps k2).keeps k3
      refine ESX.callWith_bound (x := x) ?_ rfl rfl
      refine Calls.spliced_cons (Call_ ?_)
      refine wpAny_Name (n3.load ek kT e6 e7 n3.str (by decide +kernel : bootBuiltins "str" = some (.type "str")) (by decide) ?_) (by decide)
      refine PyProof.Rows.callWith_type1 ?_ rfl rfl
      refine Calls.spliced_cons (wpAny_Name (wpAny_loadName_local ek kW hns3 m2 ?_) Tx.whd)
      refine Calls.spliced_nil (PySem.P.str_of_str (Calls.spliced_nil ?_))
      obtain ⟨nm, N, qn, bs, bm, hd, sn, sub, ab, col, dd, k0', k1', k2', k3', k5', hC, hbm⟩ := PySem.W.excInit_of (PySem.W.Frag.In.keeps X1 k3) T.made
      have hu : (h1.push (ESX.bw x)).get? h1.objs.size = some (ESX.bw x) := Heap.get?_push_at rfl rfl
      refine ⟨hu, ?_⟩
      have hxe : (h1.push (ESX.bw x)).get? x = some (HandSPX.excO C t0) := k3 _ _ hx1
      refine ESX.call_bw hC hxe hu (by show 1 ≤ sizeLine; rw [sizeLine_eq]; omega) fun h2 t1 k4 hx2 => ?_
      have kx : ∀ b o, b ≠ x → h.get? b = some o → h2.get? b = some o := fun b o hb e => k4 b o hb (k3 b o (k2 b o (k1 b o e)))
      have hxl : env.locals ≠ x := fun e => by
        have := Heap.lt_size hx
        rw [← e, e2] at this
        exact Nat.lt_irrefl _ this
      have hns2 := show h2.Ns env.locals _ from (let ⟨o, es, ep, ho, r⟩ := hns3; ⟨o, es, ep, k4 _ _ hxl ho, r⟩)
      have X2 : K.In h2 := fun b o e => kx b o (fun z => by
        rw [z, hKx] at e
        cases e) (X _ _ e)
      show _root_.PySem.wpAt _ _ _ (execs [_] env) _ _ _
      refine ks_wpAt_execs_cons (ks_wpAt_Assign_Attr (wpAt_of_wpAny (wpAny_Name (wpAny_loadName_local ek kW hns2 m2 (wpAny_Name (wpAny_loadName_local ek kL hns2 m1 ?_) (by decide))) Tx.whd)) rfl)
      refine ex_store T X2 hx2 fun h3 t3 dx k5 hdx hne hx3 hn3 => ?_
      refine wpAt_of_wpAny (wpAny_execs_nil ?_)
      exact hq h3 t3 t1 dx (fun b o hb e => k5 b o hb (kx b o hb e)) (Nat.le_trans (Nat.le_of_lt (e2 ▸ hns2.lt)) hdx) hne hx3 hn3
end
end VM

namespace VM
open PySem PySem.Spec PyProof.Rows L2
section
variable {X : Cx} {C D fI cc : Addr} {st : Stmt} {wh : Str} {x : Str} {e : Expr} {ta : TE} {p pos : Pos} {k : Nat}
/-- C(e), e a text -/
def tEx (C : Addr) (wh : Str) (ta : TE) : L2.St → Hp → XK → Prop := fun σ H Q => ta σ H fun v H1 => ∃ z, [v] = [V.str z] ∧ ∀ d, H1 d = none → Q (.ref C) (some d) (upd H1 d (.xd [(wh, .str z)]))
theorem pmk_ex (T : ExC X.K X.prog C D fI cc st wh) (Tx : ExT st wh) (hr : Room (k + 1) X.A) (htop : (X.prog.main.scope.names.lookup ("super" : Str)).isSome = false) (ms : X.mg "super" = none) (mt : X.mg "str" = none) (hm : X.mg x = some (.ref C)) (ha : PE X e ta)
    (hg : Gl X x) (hdb : (x == ("__debug__" : Str)) = false := by decide) (he : starEach [e] X.env = (false, PySem.eval e X.env) :: starEach [] X.env := by rfl) (hpl : (backTo pos (starEach [] X.env)).any (·.1) = false := by rfl) :
    PMk X (.Call (.Name x p) [e] [] pos) (tEx C wh ta) := by
  intro pins s σ H Q I h
  refine wpAny_Call_Name_kw (ld_glob I hg hm ?_ hdb)
  have hpa : PA X [e] (tCons ta tNil) := pa_cons ha pa_nil he
  refine PySem.W.callWith_K (h₀ := X.base) I.ok.mod.kin T.keep (thn (hpa.run pos pins s σ H (fun vs H1 => ∃ z, vs = [.str z] ∧ ∀ d, H1 d = none → Q (.ref C) (some d) (upd H1 d (.xd [(wh, .str z)]))) I h) fun us s1 ⟨vs, H1, I1, r1, z, ez, q1⟩ => ⟨I1.kIn, ?_⟩) he hpl
  · subst ez
    obtain ⟨u, rfl, t0, rfl⟩ := vals1 r1
    show wpAny _ _ (call (.ref C) [Value.str z t0]) _ _ _
    obtain ⟨hp, g, dr, tk, os⟩ := s1
    obtain ⟨nm, N, qn, bs, bm, hd, sn, sub, ab, col, dd, k0, k1, k2, k3, k5, hC, hbm⟩ := PySem.W.excInit_of I1.kIn T.made
    have kk : ∀ b o, hp.get? b = some o → ((hp.push (PySem.W.kdv_tup [Value.str z t0])).push (HandSPX.excO C hp.objs.size)).get? b = some o := fun b o e => Heap.get?_push_of_some _ (Heap.get?_push_of_some _ e)
    have hget : ((hp.push (PySem.W.kdv_tup [Value.str z t0])).push (HandSPX.excO C hp.objs.size)).get? (hp.objs.size + 1) = some (HandSPX.excO C hp.objs.size) := by heap_get
    have hfresh : hp.get? (hp.objs.size + 1) = none := Heap.get?_none_of_le (Nat.le_succ _)
    have hKx : X.K.lookup (hp.objs.size + 1) = none := by
      cases e : X.K.lookup (hp.objs.size + 1) with
      | none => rfl
      | some o =>
        have := I1.kIn _ _ e
        have h2 : hp.get? (hp.objs.size + 1) = some o := this
        rw [hfresh] at h2; cases h2
    have I2 := I1.kept (h' := (hp.push (PySem.W.kdv_tup [Value.str z t0])).push (HandSPX.excO C hp.objs.size)) (t' := tk) kk
    refine wpAny_call (HandSPX.call_own F.excBase_Exception hbm hC (PySem.W.looks_findIn I1.kIn T.init) (fun self => PySem.W.bind_fn I1.kIn self T.initT) (by show 1 ≤ sizeLine; rw [sizeLine_eq]; omega) ?_)
    refine ex_init T Tx I2.kIn I2.nolimit ⟨I2.mod.glob.keeps I2.bk, let ⟨mb, h1, h2⟩ := I2.mod.blt; ⟨mb, h1.keeps I2.bk, h2⟩, ms, mt⟩ htop (hr.make C [Value.str z t0] []).depth hget hKx fun h' t' t1 dx kx hdx hne hx hn => ?_
    refine ⟨rfl, ?_⟩
    obtain ⟨G, G1, G2⟩ := L2.restrict h' (fun b => decide (b ≠ hp.objs.size + 1))
    have g1 : ∀ b, b ≠ hp.objs.size + 1 → G.get? b = h'.get? b := fun b hb => G1 b (decide_eq_true hb)
    have g2 : G.get? (hp.objs.size + 1) = none := G2 _ (decide_eq_false (by simp))
    have size2 : ((hp.push (PySem.W.kdv_tup [Value.str z t0])).push (HandSPX.excO C hp.objs.size)).objs.size = hp.objs.size + 2 := by rw [Heap.size_push, Heap.size_push]
    have hdx' : hp.objs.size ≤ dx := by rw [size2] at hdx; exact Nat.le_trans (Nat.le_add_right _ 2) hdx
    have nx : ∀ b o, hp.get? b = some o → b ≠ hp.objs.size + 1 := fun b o e z => by rw [z, hfresh] at e; cases e
    have hnd : H1 dx = none := I1.hok.fresh hdx'
    have hGn : G.Ns1 dx (fun y => if y = wh then some (.str z t0) else none) := by
      obtain ⟨o, es, ep, ho, r⟩ := hn
      exact ⟨o, es, ep, (g1 dx hne).trans ho, r⟩
    have I3 : Inv X pins σ (upd H1 dx (.xd [(wh, .str z)])) ⟨G, g, dr, t', os⟩ := I1.laid (h' := G) (t' := t') (fun b o e => (g1 b (nx b o e)).trans (kx b o (nx b o e) (kk b o e))) hdx' ⟨_, hGn, fun f => by
      show RelO (List.lookup f [(wh, V.str z)]) _
      rw [List.lookup_cons]
      by_cases ef : f = wh
      · subst ef; simp only [beq_self_eq_true, if_true]; exact ⟨t0, rfl⟩
      · have : (f == wh) = false := by simpa using ef
        rw [this, if_neg ef]; trivial⟩
    refine ⟨hp.objs.size + 1, _, _, ⟨G, g, dr, t', os⟩, _, .ref C, some dx, rfl, I3, fun b o e => ?_, g2, hx, ⟨rfl, rfl⟩, rfl, rfl, ?_, rfl, I1.bare, raises_own T.isB T.tyC, q1 dx hnd⟩
    · have : b ≠ hp.objs.size + 1 := fun z => by
        have e' : G.get? b = some o := e
        rw [z, g2] at e'; cases e'
      exact (g1 b this).symm.trans e
    · rw [upd_ne (Ne.symm hne)]
      exact I1.hok.fresh (Nat.le_succ _)
end
end VM

namespace VM
open PySem PySem.Spec PyProof.Rows L2
end VM
/-! VM, part 11: raise and try. -/
namespace VM
open PySem PySem.Spec PyProof.Rows L2

def tS (K : PySem.W.Frag) (W : WX) (S : SC) (Γ : List Mode) (f : M Fl) (Γ' : List Mode) : TS := fun D σ H => ∃ F p env, SOk K Γ F H env σ p ∧ PostS K W S Γ' F H p σ D (f env)
section
variable {X : Cx} {W : WX} {S : SC} {Γx Γ Γ1 Γ2 Γ' : List Mode} {e : Expr} {f : M D} {fb : M Fl} {st : Stmt} {sts : List Stmt} {pos : Pos}
theorem MSs.pss (he : MSs X W S Γ sts fb Γ') : PSs X sts (tS X.K W S Γ fb Γ') := by
  obtain ⟨t, pt, he⟩ := he
  exact ⟨fun pins s σ H D I ⟨F, p, env, k, q⟩ => pt.run pins s σ H D I (he D σ F H p env k q)⟩
/-- raise C('..') -/
def mRaise (c wh : Str) (f : M D) : M Fl := fun e => (f e).bind fun d e1 => match d with
  | .str z => .ex ⟨c, [(wh, .str z)]⟩ e1
  | _ => .bad
theorem ms_raise {D fI cc : Addr} {ist : Stmt} {wh x : Str} {p cpos : Pos} {k : Nat} (T : ExC X.K X.prog (He.ga X.K x) D fI cc ist wh) (Tx : ExT ist wh) (hr : Room (k + 1) X.A) (tk : Takes X W) (htop : (X.prog.main.scope.names.lookup ("super" : Str)).isSome = false) (ms : X.mg "super" = none) (mt : X.mg "str" = none)
    (hm : X.mg x = some (.ref (He.ga X.K x))) (ha : MZ X W S.Γx Γ e f Γ1) (l : MLe Γ1 S.Γx := by repeat (first | exact MLe.nil | apply MLe.drop | apply MLe.same)) (hc : X.calm = true := by rfl)
    (hg : Gl X x := by rfl) (hdb : (x == ("__debug__" : Str)) = false := by decide) (he : starEach [e] X.env = (false, PySem.eval e X.env) :: starEach [] X.env := by rfl) (hpl : (backTo cpos (starEach [] X.env)).any (·.1) = false := by rfl) :
    MS X W S Γ (.Raise (some (.Call (.Name x p) [e] [] cpos)) none pos) (mRaise x wh f) Γ' := by
  obtain ⟨t, pt, ha⟩ := ha
  refine ⟨_, ps_raise hc tk (pmk_ex T Tx hr htop ms mt hm pt hg hdb he hpl), fun Dd σ F H p env s q => ?_⟩
  show t σ H fun v H1 => ∃ z, [v] = [V.str z] ∧ ∀ d, H1 d = none → W (.ref (He.ga X.K x)) (some d) σ (upd H1 d (.xd [(wh, .str z)]))
  refine zseq wpS ha s q fun d e1 v F1 H1 p1 s1 k1 r1 q1 => ?_
  cases d <;> try exact q1.elim
  rename_i z
  rw [r1.str_inv]
  refine ⟨z, rfl, fun a hd => ?_⟩
  refine q1 σ (.ref (He.ga X.K x)) (some a) (upd F1 a (.xd [(wh, .str z)])) _ p1 .refl (Step.newZ hd k1.same) ((k1.newZ hd).le l) ⟨rfl, a, [(wh, .str z)], rfl, upd_same, rfl, fun j n d n' v h1 h2 => ?_⟩
  cases j with
  | zero => simp at h1 h2; obtain ⟨rfl, rfl⟩ := h1; obtain ⟨rfl, rfl⟩ := h2; exact ⟨rfl, .str _⟩
  | succ j => simp at h1
theorem SOk.none {K : PySem.W.Frag} {F H : Hp} {env : Env} {σ : Sl} {p : Pth} (s : SOk K Γ F H env σ p) (i : Nat) : SOk K Γ F H (env.set i none) (σ.set i none) p := by
  refine ⟨s.same, s.inj, s.off, by simp [s.len], fun j m d hm hd => ?_⟩
  by_cases e : i = j
  · subst e
    rw [List.getElem?_set] at hd
    split at hd
    · split at hd <;> cases hd
    · rename_i z; exact (z rfl).elim
  · rw [List.getElem?_set_ne e] at hd
    rcases s.slot j m d hm hd with z | ⟨v, z1, z2⟩
    · exact .inl z
    · exact .inr ⟨v, by rw [List.getElem?_set_ne e]; exact z1, z2⟩
/-- a caught exception is put at slot i -/
theorem SOk.exc {K : PySem.W.Frag} {F H : Hp} {env : Env} {σ : Sl} {p : Pth} (s : SOk K Γ F H env σ p) {i : Nat} {a : Addr} {dd : Option Addr} {cls : Value} {x : Exn} (r : ExnR K F x cls dd) :
    SOk K (Γ.set i (.exc a dd)) F H (env.set i (some (.ins x.c x.fs))) (σ.set i (some (.ref a))) p := by
  refine ⟨s.same, s.inj, s.off, by simp [s.len], fun j m d hm hd => ?_⟩
  by_cases e : i = j
  · subst e
    have h1 := (List.getElem?_eq_some_iff.mp hd).1
    simp only [List.length_set] at h1
    rw [List.getElem?_set_self h1] at hd
    have h2 := (List.getElem?_eq_some_iff.mp hm).1
    simp only [List.length_set] at h2
    rw [List.getElem?_set_self h2] at hm
    cases hd; cases hm
    obtain ⟨_, b, us, h3, h4, h5, h6⟩ := r
    exact .inr ⟨.ref a, List.getElem?_set_self (s.len ▸ h1), rfl, x.c, x.fs, b, us, rfl, h3, h4, h5, h6⟩
  · rw [List.getElem?_set_ne e] at hd hm
    rcases s.slot j m d hm hd with z | ⟨v, z1, z2⟩
    · exact .inl z
    · exact .inr ⟨v, by rw [List.getElem?_set_ne e]; exact z1, z2⟩
/-- error.what, in the suite -/
def mExF (i : Nat) (wh : Str) : M D := fun e => match e[i]? with
  | some (some (.ins _ fs)) => mOpt (fs.lookup wh) e
  | _ => .bad
theorem lookup_at {K : PySem.W.Frag} {F : Hp} {fs : List (Str × D)} {us : List (Str × V)} (hl : fs.length = us.length) (h : ∀ (j : Nat) (n : Str) (d : D) (n' : Str) (v : V), fs[j]? = some (n, d) → us[j]? = some (n', v) → n = n' ∧ RepZ K F d v) {f : Str} {d : D} (hd : fs.lookup f = some d) :
    ∃ v, us.lookup f = some v ∧ RepZ K F d v := by
  induction fs generalizing us with
  | nil => simp at hd
  | cons a fs ih =>
    cases us with
    | nil => simp at hl
    | cons b us =>
      obtain ⟨n, d0⟩ := a
      obtain ⟨n', v0⟩ := b
      obtain ⟨rfl, r⟩ := h 0 n d0 n' v0 rfl rfl
      rw [List.lookup_cons] at hd ⊢
      split at hd
      · rename_i hb
        cases hd
        exact ⟨v0, rfl, r⟩
      · rename_i hb
        exact ih (us := us) (by simpa using hl) (fun j n d n' v h1 h2 => h (j + 1) n d n' v (by simpa using h1) (by simpa using h2)) hd
theorem mz_exf (i : Nat) {a : Addr} {oe : Obj} {dd : Option Addr} {pn : List (Addr × Obj)} {C : Addr} {n wh : Str} {npos : Pos} (T : XfC X.K C) (hno : PySem.W.findIn X.K (.ref C) wh = some none) (hz : Zc (.ref C) dd oe) (hf : ∃ vs, oe.data = .fields vs) (hΓ : Γ[i]? = some (.exc a dd)) (hN : X.N[i]? = some n := by rfl)
    (hv : Vis X.env.scope n := by first | exact Or.inl rfl | exact Or.inr (Or.inl rfl) | exact Or.inr (Or.inr rfl)) (hd : (n == ("__debug__" : Str)) = false := by decide) (hcd : (n == ("__classdict__" : Str)) = false := by decide)
    (hb : attributeBase (.Name n npos) wh X.env (PySem.eval (.Name n npos) X.env) = PySem.eval (.Name n npos) X.env := by rfl) :
    MZ (X.suite a ((a, oe) :: pn)) W Γx Γ (.Attribute (.Name n npos) wh pos) (mExF i wh) Γ := by
  refine ⟨_, pe_xf T hno hz hf (pe_var (X := X.suite a ((a, oe) :: pn)) hN hv hd hcd) hb, fun σ F H p env Q s q => ?_⟩
  show ∃ v, σ[i]? = some (some v) ∧ (v = .ref a ∧ Value.ref C = .ref C ∧ ∃ (b : Addr) (fs : List (Str × V)) (u : V), dd = some b ∧ H b = some (.xd fs) ∧ fs.lookup wh = some u ∧ Q u H)
  unfold mExF at q
  cases he : env[i]? with
  | none => rw [he] at q; exact q.elim
  | some od =>
    cases od with
    | none => rw [he] at q; exact q.elim
    | some d =>
      rw [he] at q
      cases d <;> try exact q.elim
      rename_i c fs
      rcases s.slot i _ _ hΓ he with h | ⟨v, hv', r⟩
      · cases h
      · obtain ⟨e1, c', fs', b, us, e2, e3, e4, e5, e6⟩ := r
        cases e2
        simp only at q
        cases hl : fs.lookup wh with
        | none => rw [hl] at q; exact q.elim
        | some d =>
          rw [hl] at q
          obtain ⟨u, h1, h2⟩ := lookup_at e5 e6 hl
          exact ⟨v, hv', e1, rfl, b, us, u, e3, s.same _ _ e4, h1, q u F H p .refl s h2⟩
/-- try: body / except C as n: suite -/
def mTry (fb : M Fl) (i : Nat) (tbl : List (Str × Bool)) (fs : M Fl) : M Fl := fun e => match fb e with
  | .ex x e1 => (match tbl.lookup x.c with
    | some true => (match fs (e1.set i (some (.ins x.c x.fs))) with
      | .ok fl e2 => .ok fl (e2.set i none)
      | _ => .bad)
    | some false => .ex x e1
    | none => .bad)
  | r => r
theorem ms_try {cn n : Str} {c : Value} {body suite : List Stmt} {b0 : Stmt} {np pos' : Pos} {fs : M Fl} {Γt : List Mode} {Γs : Addr → Option Addr → List Mode} (i : Nat) (tbl : List (Str × Bool)) (ht : ∀ y b, tbl.lookup y = some b → PySem.W.exmOne X.K (.ref (He.ga X.K y)) c = some b) (hc : Names X cn c) (tk : Takes X W)
    (hb : ∀ (W' : WX) (pn : List (Addr × Obj)) (xe : Value → Shared → Prop), Takes (X.tr pn xe) W' → PassesOwn (model X.prog X.w) X.A X.env xe → MSs (X.tr pn xe) W' { S with Γx := Γt } Γ body fb Γ')
    (hsu : ∀ y, tbl.lookup y = some true → ∀ (a : Addr) (oe : Obj) (d : Option Addr) (pn : List (Addr × Obj)), Zc (.ref (He.ga X.K y)) d oe → (∃ vs, oe.data = .fields vs) → MSs (X.suite a ((a, oe) :: pn)) wF { S with Γx := [] } (Γt.set i (.exc a d)) (b0 :: suite) fs (Γs a d))
    (l1 : MLe Γt S.Γx) (l2 : ∀ a d, MLe (Γs a d) Γ') (hpin : S.pin i = false := by rfl) (hN : X.N.Nodup := by assumption) (hi : X.N[i]? = some n := by rfl) (hln : X.env.kindOf n = some .local := by rfl) (hs : X.stack = X.env :: X.outer := by rfl) (hf : X.env.frame = some X.env.locals := by rfl) :
    MS X W S Γ (.Try body [.ExceptHandler (some (.Name cn np)) (some n) (b0 :: suite) pos'] [] [] pos) (mTry fb i tbl fs) Γ' := by
  refine ⟨_, ps_try_as (tb := fun W' => tS X.K W' { S with Γx := Γt } Γ fb Γ')
    (ts := fun a cls d Dd σ H => ∃ y, tbl.lookup y = some true ∧ cls = .ref (He.ga X.K y) ∧ tS X.K wF { S with Γx := [] } (Γt.set i (.exc a d)) fs (Γs a d) Dd σ H)
    hs hf hN hi hln hc tk (fun W' pn xe tk' po => (hb W' pn xe tk' po).pss) (fun a oe cls d pn hz hfd => ⟨fun pins s σ H Dd I ⟨y, hy, hcl, h⟩ => ?_⟩), fun Dd σ F H p env s q => ?_⟩
  · subst hcl
    exact (hsu y hy a oe d pn hz hfd).pss.run pins s σ H Dd I h
  · refine ⟨F, p, env, s, ?_⟩
    unfold mTry at q
    cases hfb : fb env with
    | bad => rw [hfb] at q; exact q
    | ok fl e1 => rw [hfb] at q; cases fl <;> exact q
    | ex x e1 =>
      rw [hfb] at q
      simp only at q
      intro σ1 cls dd F1 H1 p1 hp1 s1 k1 r1
      cases hl : tbl.lookup x.c with
      | none => rw [hl] at q; exact q.elim
      | some b =>
        rw [hl] at q
        have hcl := r1.1
        refine ⟨b, by rw [hcl]; exact ht _ _ hl, fun hbt a ha => ?_, fun hbf => ?_⟩
        · subst hbt
          simp only at q
          refine ⟨x.c, hl, hcl, F1, p1, _, k1.exc r1, ?_⟩
          cases hfs : fs (e1.set i (some (.ins x.c x.fs))) with
          | bad => rw [hfs] at q; exact q
          | ex x2 e2 => rw [hfs] at q; exact q.elim
          | ok fl e2 =>
            rw [hfs] at q
            have hpp : ∀ {σ2 : Sl}, PinOk S.pin (σ1.set i (some (.ref a))) σ2 → PinOk S.pin σ (σ2.set i none) := fun h => (hp1.trans (.set hpin)).trans (h.trans (.set hpin))
            cases fl with
            | next => exact fun σ2 F2 H2 p2 hp2 s2 k2 => q (σ2.set i none) F2 H2 p2 (hpp hp2) (s1.trans s2) ((k2.none i).le (l2 a dd))
            | brk => exact fun σ2 F2 H2 p2 hp2 s2 k2 => q (σ2.set i none) F2 H2 p2 (hpp hp2) (s1.trans s2) (k2.none i)
            | cont => exact fun σ2 F2 H2 p2 hp2 s2 k2 => q (σ2.set i none) F2 H2 p2 (hpp hp2) (s1.trans s2) (k2.none i)
            | ret d => exact fun v σ2 F2 H2 p2 pv hp2 s2 k2 r2 f2 => q v (σ2.set i none) F2 H2 p2 pv (hpp hp2) (s1.trans s2) (k2.none i) r2 (f2.step s1)
        · subst hbf
          simp only at q
          exact q σ1 cls dd F1 H1 p1 hp1 s1 (k1.le l1) r1
end
end VM
/-! VM, part 12: isinstance, tests of truth, in. -/
namespace VM
open PySem PySem.Spec PyProof.Rows L2

/-! ### isinstance -/
def tyName : D → Option String
  | .non => some "NoneType"
  | .bl _ => some "bool"
  | .int _ => some "int"
  | .str _ => some "str"
  | .tup _ => some "tuple"
  | .ktp _ => some "tuple"
  | .lst _ => some "list"
  | .scr _ => some "list"
  | .dct _ => some "dict"
  | .dcT _ => some "dict"
  | _ => none
def isT1 (t c : String) : Bool := t == c || (t == "bool" && c == "int")
def isT (cs : List String) (t : String) : Bool := cs.any (isT1 t)
def tyAll : List String := ["NoneType", "bool", "int", "str", "tuple", "list", "dict"]
def tyAsk : List String := ["bool", "int", "str", "tuple", "list", "dict"]
theorem kit_tab : ∀ t ∈ tyAll, ∀ c ∈ tyAsk, kitB t c = some (isT1 t c) := by decide +kernel
theorem kit_one {K : PySem.W.Frag} {t c : String} (ht : t ∈ tyAll) (hc : c ∈ tyAsk) : PySem.W.kitOne K (.type t) (.type c) = some (isT1 t c) := kit_ty (kit_tab t ht c hc)
theorem kit_all {K : PySem.W.Frag} {t : String} (ht : t ∈ tyAll) : ∀ cs : List String, (∀ c ∈ cs, c ∈ tyAsk) → PySem.W.kitAny K (.type t) (cs.map Value.type) = some (isT cs t)
  | [], _ => kitAny_nil
  | c :: cs, h => by
    have h1 := kit_one (K := K) ht (h c List.mem_cons_self)
    have h2 := kit_all (K := K) ht cs fun c hc => h c (List.mem_cons_of_mem _ hc)
    show PySem.W.kitAny K (.type t) (.type c :: cs.map Value.type) = some (isT (c :: cs) t)
    unfold isT at h2 ⊢
    rw [List.any_cons]
    cases hb : isT1 t c with
    | true => rw [hb] at h1; exact kitAny_cons h1 (fun h => by cases h) fun _ => rfl
    | false => rw [hb] at h1; rw [Bool.false_or]; exact kitAny_cons h1 (fun _ => h2) fun h => by cases h
section
variable {K : PySem.W.Frag} {F H : Hp}
theorem ty_rdL {a : Addr} {xs : List V} (h : SqL K H a xs) : TyX K H (.ref a) (.type "list") := by
  rcases h with (h | ⟨o, h⟩) | ⟨o, its, n, h1, h2, _⟩
  · exact .base (.lst h)
  · exact .base (.frz h)
  · exact .kList h1 h2
theorem ty_rdT {a : Addr} {xs : List V} (h : SqT K H a xs) : TyX K H (.ref a) (.type "tuple") := by
  rcases h with (h | ⟨o, h⟩) | ⟨o, its, n, h1, h2, _⟩
  · exact .base (.tup h)
  · exact .fTuple h
  · exact .kTuple h1 h2
theorem ty_rep (s : Same F H) {d : D} {v : V} {t : String} (r : RepB K F H d v) (h : tyName d = some t) : TyX K H v (.type t) ∧ t ∈ tyAll := by
  cases d <;> simp only [tyName, reduceCtorEq, Option.some.injEq] at h <;> subst h
  · rw [(r.z rfl).non_inv]; exact ⟨.base .non, by decide⟩
  · rw [(r.z rfl).bl_inv]; exact ⟨.base (.bl _), by decide⟩
  · rw [(r.z rfl).int_inv]; exact ⟨.base (.int _), by decide⟩
  · rw [(r.z rfl).str_inv]; exact ⟨.base (.str _), by decide⟩
  · obtain ⟨a, vs, rfl, h1, _⟩ := (r.z rfl).tup_inv
    exact ⟨ty_rdT (SqT.of (s _ _ h1)), by decide⟩
  · obtain ⟨a, vs, rfl, h1, _⟩ := r.lst_inv s
    exact ⟨ty_rdL (SqL.of h1), by decide⟩
  · rcases r.cases with r | ⟨_, _, _, e, _⟩ | ⟨a, _, us, e, rfl, h1, _⟩ | ⟨a, _, us, e, rfl, h1, _⟩
    · cases r with
      | dK h1 => exact ⟨.base (.dK (s _ _ h1)), by decide⟩
    · cases e
    · exact ⟨.base (.dK h1), by decide⟩
    · cases e
  · rcases r.cases with r | ⟨_, _, _, e, _⟩ | ⟨a, _, us, e, rfl, h1, _⟩ | ⟨a, _, us, e, rfl, h1, _⟩
    · cases r with
      | dT h1 => exact ⟨.base (.dT (s _ _ h1)), by decide⟩
    · cases e
    · cases e
    · exact ⟨.base (.dT h1), by decide⟩
  · obtain ⟨a, vs, rfl, h1, _⟩ := (r.z rfl).scr_inv
    exact ⟨ty_rdL (seqL s h1), by decide⟩
  · obtain ⟨a, vs, rfl, h1, _⟩ := (r.z rfl).ktp_inv
    exact ⟨ty_rdT (seqT s h1), by decide⟩
end
/-- the built-in types by their names -/
inductive TyNm (X : Cx) : List Expr → List String → Prop where
  | nil : TyNm X [] []
  | cons {x : Str} {c : String} {p : Pos} {es : List Expr} {cs : List String} (hg : Gl X x) (hm : X.mg x = none) (hv : bootBuiltins x = some (.type c)) (hc : c ∈ tyAsk) (hn : x ≠ "__name__") (hd : (x == ("__debug__" : Str)) = false)
      (hs : starEach (.Name x p :: es) X.env = (false, eval (.Name x p) X.env) :: starEach es X.env) (t : TyNm X es cs) : TyNm X (.Name x p :: es) (c :: cs)
def tTys (cs : List String) : TA := fun _ H Q => Q (cs.map V.ty) H
theorem TyNm.pa {X : Cx} {es : List Expr} {cs : List String} (h : TyNm X es cs) : PA X es (tTys cs) := by
  induction h with
  | nil => exact pa_nil
  | @cons x c p es cs hg hm hv hc hn hd hs t ih =>
    have pt : PE X (.Name x p) (tC (.ty c)) := pe_bltn hg hm hv rfl hn hd
    exact pa_cons pt ih hs
theorem TyNm.ask {X : Cx} {es : List Expr} {cs : List String} (h : TyNm X es cs) : ∀ c ∈ cs, c ∈ tyAsk := by
  induction h with
  | nil => intro c h; cases h
  | cons hg hm hv hc hn hd hs t ih =>
    intro c h
    rcases List.mem_cons.mp h with e | e
    · exact e ▸ hc
    · exact ih c e
theorem clsV_all : ∀ cs : List String, Paired ClsV (cs.map V.ty) (cs.map Value.type)
  | [] => .nil
  | c :: cs => .cons (.ty c) (clsV_all cs)
def mIsi (cs : List String) (f : M Get) : M Bool := fun e => (f e).bind fun get e1 => match get e1 with
  | some d => (match tyName d with
    | some t => .ok (isT cs t) e1
    | none => .bad)
  | none => .bad
section
variable {X : Cx} {W : WX} {Γx Γ Γ1 Γ2 Γ3 Γ' : List Mode} {a b c e : Expr} {f g h : M D} {fg : M Get} {G : List Mode → Prop} {pos p p2 p3 : Pos}
theorem isi_core {cs : List String} {σ : Sl} {F H : Hp} {p0 : Pth} {env : Env} {te : TE} {Q : Bool → Hp → Prop} {R : V → Hp → Prop} (he : ∀ (σ : Sl) (F H : Hp) (p : Pth) (env : Env) (Q : V → Hp → Prop), SOk X.K Γ F H env σ p → PostB X.K W Γx Γ' G F H p σ Q (fg env) → te σ H Q)
    (hG : G Γ') (s : SOk X.K Γ F H env σ p0) (q : PostT X.K W Γx Γ' F H p0 σ Q (mIsi cs fg env))
    (hk : ∀ d t v F1 H1 p1 e1, SOk X.K Γ' F1 H1 e1 σ p1 → RepB X.K F1 H1 d v → tyName d = some t → PostT X.K W Γx Γ' F1 H1 p1 σ Q (.ok (isT cs t) e1) → R v H1) : te σ H R := by
  refine un_core (o := fun d e1 => match tyName d with | some t => .ok (isT cs t) e1 | none => .bad) wpT he hG s q fun d e1 v F1 H1 p1 k1 r1 q1 => ?_
  cases ht : tyName d with
  | none => rw [ht] at q1; exact q1.elim
  | some t => rw [ht] at q1; exact hk d t v F1 H1 p1 e1 k1 r1 ht q1
/-- isinstance(e, T) -/
theorem mt_isi {T : Expr} {c : String} (hm : X.mg "isinstance" = none) (hT : TyNm X [T] [c]) (ha : MB X W Γx Γ e fg G Γ') (hG : G Γ' := by first | trivial | rfl) (hg : Gl X "isinstance" := by rfl)
    (he : starEach [e, T] X.env = (false, eval e X.env) :: starEach [T] X.env := by rfl) (hpl : (backTo pos (starEach [T] X.env)).any (·.1) = false := by rfl) (hnt : ∀ whole, isTrue (.Call (.Name "isinstance" p) [e, T] [] pos) X.env whole = (do let v ← whole; standAt (Expr.Call (.Name "isinstance" p) [e, T] [] pos).pos; holding [v] (truthy v)) := by intro _; rfl) :
    MT X W Γx Γ (.Call (.Name "isinstance" p) [e, T] [] pos) (mIsi [c] fg) Γ' := by
  obtain ⟨t, pt, h⟩ := ha
  refine ⟨_, pt_val (pe_callB call_isi hg hm rfl (pa_cons pt hT.pa he) (by decide) (by decide) he hpl) hnt, fun σ F H p env Q s q => ?_⟩
  show t σ H fun v H1 => rIsi X.K [v, .ty c] H1 fun z H2 => ∃ k, z = .bl k ∧ Q k H2
  refine isi_core h hG s q fun d t v F1 H1 p1 e1 k1 r1 ht q1 => ?_
  obtain ⟨h1, h2⟩ := ty_rep k1.same r1 ht
  refine ⟨v, .ty c, .type t, .type c, isT1 t c, rfl, .ty c, h1, kit_one h2 (hT.ask c (by simp)), isT1 t c, rfl, ?_⟩
  have := q1 F1 H1 p1 .refl k1
  simpa [isT] using this
/-- isinstance(e, (T, U, ..)) -/
theorem mt_isiT {es : List Expr} {cs : List String} {kk : Nat} {p3 : Pos} (hm : X.mg "isinstance" = none) (hT : TyNm X es cs) (ha : MB X W Γx Γ e fg G Γ') (hl : cs.length ≤ 100 := by decide) (hG : G Γ' := by first | trivial | rfl) (hg : Gl X "isinstance" := by rfl)
    (he : starEach [e, .Tuple es kk p3] X.env = (false, eval e X.env) :: starEach [.Tuple es kk p3] X.env := by rfl) (he2 : starEach [.Tuple es kk p3] X.env = (false, eval (.Tuple es kk p3) X.env) :: starEach [] X.env := by rfl) (hpl : (backTo pos (starEach [.Tuple es kk p3] X.env)).any (·.1) = false := by rfl)
    (hnt : ∀ whole, isTrue (.Call (.Name "isinstance" p) [e, .Tuple es kk p3] [] pos) X.env whole = (do let v ← whole; standAt (Expr.Call (.Name "isinstance" p) [e, .Tuple es kk p3] [] pos).pos; holding [v] (truthy v)) := by intro _; rfl) :
    MT X W Γx Γ (.Call (.Name "isinstance" p) [e, .Tuple es kk p3] [] pos) (mIsi cs fg) Γ' := by
  obtain ⟨t, pt, h⟩ := ha
  refine ⟨_, pt_val (pe_callB call_isiT hg hm rfl (pa_cons pt (pa_cons (pe_tup hT.pa) pa_nil he2) he) (by decide) (by decide) he hpl) hnt, fun σ F H p env Q s q => ?_⟩
  show t σ H fun v H1 => (cs.map V.ty).length ≤ sizeLine ∧ ∀ tp, H1 tp = none → rIsiT X.K [v, .ref tp] (upd H1 tp (.tup (cs.map V.ty))) fun z H2 => ∃ k, z = .bl k ∧ Q k H2
  refine isi_core h hG s q fun d t v F1 H1 p1 e1 k1 r1 ht q1 => ⟨by rw [List.length_map]; unfold sizeLine; omega, fun tp htp => ?_⟩
  have s2 := Step.newZ (o := .tup (cs.map V.ty)) (p := p1) htp k1.same
  have k2 := k1.newZ (o := .tup (cs.map V.ty)) htp
  have st : ∀ a o, H1 a = some o → upd H1 tp (.tup (cs.map V.ty)) a = some o := fun a o h => by rw [upd_ne (ne_of_none h htp)]; exact h
  have r2 : RepB X.K (upd F1 tp (.tup (cs.map V.ty))) (upd H1 tp (.tup (cs.map V.ty))) d v := by
    obtain ⟨m, pp, hf, r⟩ := r1
    exact ⟨m, pp, hf, Rep.frame m r s2.same fun q a o _ ho => st a o ho⟩
  obtain ⟨h1, h2⟩ := ty_rep k2.same r2 ht
  exact ⟨v, tp, cs.map V.ty, .type t, cs.map Value.type, isT cs t, rfl, upd_same, clsV_all cs, h1, kit_all h2 cs hT.ask, _, rfl, q1 _ _ p1 s2 k2⟩
theorem mz_isi {T : Expr} {c : String} (hm : X.mg "isinstance" = none) (hT : TyNm X [T] [c]) (ha : MB X W Γx Γ e fg G Γ') (hG : G Γ' := by first | trivial | rfl) (hg : Gl X "isinstance" := by rfl)
    (he : starEach [e, T] X.env = (false, eval e X.env) :: starEach [T] X.env := by rfl) (hpl : (backTo pos (starEach [T] X.env)).any (·.1) = false := by rfl) :
    MZ X W Γx Γ (.Call (.Name "isinstance" p) [e, T] [] pos) (mBl (mIsi [c] fg)) Γ' := by
  obtain ⟨t, pt, h⟩ := ha
  refine ⟨_, pe_callB call_isi hg hm rfl (pa_cons pt hT.pa he) (by decide) (by decide) he hpl, fun σ F H p env Q s q => ?_⟩
  show t σ H fun v H1 => rIsi X.K [v, .ty c] H1 Q
  have q' : PostT X.K W Γx Γ' F H p σ (fun b H => Q (.bl b) H) (mIsi [c] fg env) := by
    unfold mBl at q
    cases hf : mIsi [c] fg env with
    | bad => rw [hf] at q; exact q
    | ex x e' => rw [hf] at q; exact q
    | ok b e1 => rw [hf] at q; exact fun F' H' p' s' k' => q _ F' H' p' s' k' (.bl _)
  refine isi_core h hG s q' fun d t v F1 H1 p1 e1 k1 r1 ht q1 => ?_
  obtain ⟨h1, h2⟩ := ty_rep k1.same r1 ht
  refine ⟨v, .ty c, .type t, .type c, isT1 t c, rfl, .ty c, h1, kit_one h2 (hT.ask c (by simp)), ?_⟩
  have := q1 F1 H1 p1 .refl k1
  simpa [isT] using this
end
end VM
/-! VM, part 13: what is owned changes: methods of lists, stores; dicts. -/
namespace VM
open PySem PySem.Spec PyProof.Rows L2

/-! ### tables -/
section
variable {κ : Type} [DecidableEq κ]
def DKs (key : D → Option κ) (R : D → V → Prop) : List (D × D) → List (κ × V) → Prop
  | [], [] => True
  | (k, d) :: kvs, (k', v) :: us => key k = some k' ∧ R d v ∧ DKs key R kvs us
  | _, _ => False
variable {key : D → Option κ} {R : D → V → Prop}
theorem DKs.of : ∀ {kvs : List (D × D)} {us : List (κ × V)}, kvs.length = us.length → (∀ (j : Nat) (k d : D) (k' : κ) (v : V), kvs[j]? = some (k, d) → us[j]? = some (k', v) → key k = some k') →
    (∀ (j : Nat) (k d : D) (k' : κ) (v : V), kvs[j]? = some (k, d) → us[j]? = some (k', v) → R d v) → DKs key R kvs us
  | [], [], _, _, _ => trivial
  | [], _ :: _, h, _, _ => by simp at h
  | _ :: _, [], h, _, _ => by simp at h
  | (k, d) :: kvs, (k', v) :: us, h, h1, h2 => ⟨h1 0 k d k' v rfl rfl, h2 0 k d k' v rfl rfl,
    DKs.of (by simpa using h) (fun j k d k' v a b => h1 (j + 1) k d k' v (by simpa using a) (by simpa using b)) fun j k d k' v a b => h2 (j + 1) k d k' v (by simpa using a) (by simpa using b)⟩
theorem DKs.len : ∀ {kvs : List (D × D)} {us : List (κ × V)}, DKs key R kvs us → kvs.length = us.length
  | [], [], _ => rfl
  | [], _ :: _, h => h.elim
  | _ :: _, [], h => h.elim
  | (k, d) :: kvs, (k', v) :: us, h => by simp [DKs.len h.2.2]
theorem DKs.keys : ∀ {kvs : List (D × D)} {us : List (κ × V)}, DKs key R kvs us → ∀ (j : Nat) (k d : D) (k' : κ) (v : V), kvs[j]? = some (k, d) → us[j]? = some (k', v) → key k = some k'
  | [], [], _, j, _, _, _, _, h, _ => by simp at h
  | [], _ :: _, h, _, _, _, _, _, _, _ => h.elim
  | _ :: _, [], h, _, _, _, _, _, _, _ => h.elim
  | (k, d) :: kvs, (k', v) :: us, h, 0, _, _, _, _, h1, h2 => by simp at h1 h2; obtain ⟨rfl, rfl⟩ := h1; obtain ⟨rfl, rfl⟩ := h2; exact h.1
  | (k, d) :: kvs, (k', v) :: us, h, j + 1, _, _, _, _, h1, h2 => DKs.keys h.2.2 j _ _ _ _ (by simpa using h1) (by simpa using h2)
theorem DKs.vals : ∀ {kvs : List (D × D)} {us : List (κ × V)}, DKs key R kvs us → ∀ (j : Nat) (k d : D) (k' : κ) (v : V), kvs[j]? = some (k, d) → us[j]? = some (k', v) → R d v
  | [], [], _, j, _, _, _, _, h, _ => by simp at h
  | [], _ :: _, h, _, _, _, _, _, _, _ => h.elim
  | _ :: _, [], h, _, _, _, _, _, _, _ => h.elim
  | (k, d) :: kvs, (k', v) :: us, h, 0, _, _, _, _, h1, h2 => by simp at h1 h2; obtain ⟨rfl, rfl⟩ := h1; obtain ⟨rfl, rfl⟩ := h2; exact h.2.1
  | (k, d) :: kvs, (k', v) :: us, h, j + 1, _, _, _, _, h1, h2 => DKs.vals h.2.2 j _ _ _ _ (by simpa using h1) (by simpa using h2)
theorem DKs.imp {R' : D → V → Prop} (hi : ∀ d v, R d v → R' d v) : ∀ {kvs : List (D × D)} {us : List (κ × V)}, DKs key R kvs us → DKs key R' kvs us
  | [], [], _ => trivial
  | [], _ :: _, h => h.elim
  | _ :: _, [], h => h.elim
  | (k, d) :: kvs, (k', v) :: us, h => ⟨h.1, hi _ _ h.2.1, DKs.imp hi h.2.2⟩
def dGet : List (D × D) → D → Option D
  | [], _ => none
  | (k, d) :: r, x => if k = x then some d else dGet r x
def dPut : List (D × D) → D → D → List (D × D)
  | [], x, d => [(x, d)]
  | (k, e) :: r, x, d => if k = x then (k, d) :: r else (k, e) :: dPut r x d
def KInj (key : D → Option κ) : Prop := ∀ a b k, key a = some k → key b = some k → a = b
theorem DKs.get (inj : KInj key) {x : D} {x' : κ} (hx : key x = some x') : ∀ {kvs : List (D × D)} {us : List (κ × V)}, DKs key R kvs us → (dGet kvs x = none ∧ valV us x' = none) ∨ ∃ d v, dGet kvs x = some d ∧ valV us x' = some v ∧ R d v
  | [], [], _ => .inl ⟨rfl, rfl⟩
  | [], _ :: _, h => h.elim
  | _ :: _, [], h => h.elim
  | (k, d) :: kvs, (k', v) :: us, h => by
    by_cases e : k = x
    · subst e
      have : k' = x' := Option.some.inj (h.1.symm.trans hx)
      refine .inr ⟨d, v, by simp [dGet], valV_pos this, h.2.1⟩
    · have ne : ¬ k' = x' := fun e2 => e (inj _ _ _ h.1 (e2 ▸ hx))
      have h3 : valV ((k', v) :: us) x' = valV us x' := valV_neg (p := (k', v)) ne
      rw [show dGet ((k, d) :: kvs) x = dGet kvs x by simp [dGet, e], h3]
      exact DKs.get inj hx h.2.2
theorem putK_cons {p : κ × V} {us : List (κ × V)} {k : κ} {v : V} (h : ¬ p.1 = k) : putK (p :: us) k v = p :: putK us k v := by
  unfold putK
  have : ((p :: us).any fun kv => decide (kv.1 = k)) = us.any fun kv => decide (kv.1 = k) := by simp [h]
  rw [this]
  split
  · simp [h]
  · rfl
theorem DKs.put (inj : KInj key) {x d0 : D} {x' : κ} {v0 : V} (hx : key x = some x') (hr : R d0 v0) : ∀ {kvs : List (D × D)} {us : List (κ × V)}, (us.map (·.1)).Nodup → DKs key R kvs us → DKs key R (dPut kvs x d0) (putK us x' v0)
  | [], [], _, _ => by simp [dPut, putK, DKs, hx, hr]
  | [], _ :: _, _, h => h.elim
  | _ :: _, [], _, h => h.elim
  | (k, d) :: kvs, (k', v) :: us, hn, h => by
    by_cases e : k = x
    · subst e
      have e2 : k' = x' := Option.some.inj (h.1.symm.trans hx)
      subst e2
      rw [show dPut ((k, d) :: kvs) k d0 = (k, d0) :: kvs by simp [dPut]]
      have : putK ((k', v) :: us) k' v0 = (k', v0) :: us := by
        unfold putK
        rw [if_pos (by simp)]
        simp only [List.map_cons, if_true, List.cons.injEq, true_and]
        simp only [List.map_cons, List.nodup_cons] at hn
        conv => rhs; rw [← List.map_id us]
        refine List.map_congr_left fun kv hkv => ?_
        rw [if_neg fun (e : kv.1 = k') => hn.1 (e ▸ List.mem_map_of_mem hkv)]; rfl
      rw [this]
      exact ⟨h.1, hr, h.2.2⟩
    · have ne : ¬ k' = x' := fun e2 => e (inj _ _ _ h.1 (e2 ▸ hx))
      rw [show dPut ((k, d) :: kvs) x d0 = (k, d) :: dPut kvs x d0 by simp [dPut, e], putK_cons (p := (k', v)) ne]
      simp only [List.map_cons, List.nodup_cons] at hn
      exact ⟨h.1, h.2.1, DKs.put inj hx hr hn.2 h.2.2⟩
theorem DKs.put' (inj : KInj key) {x d0 : D} {x' : κ} {v0 : V} (hx : key x = some x') (hr : R d0 v0) : ∀ {kvs : List (D × D)} {us : List (κ × V)}, (kvs.map (·.1)).Nodup → DKs key R kvs us → DKs key R (dPut kvs x d0) (putK us x' v0) := by
  intro kvs us hn h
  refine DKs.put inj hx hr ?_ h
  clear hx hr
  induction kvs generalizing us with
  | nil => cases us with
    | nil => simp
    | cons _ _ => exact h.elim
  | cons a kvs ih =>
    obtain ⟨k, d⟩ := a
    cases us with
    | nil => exact h.elim
    | cons b us =>
      obtain ⟨k', v⟩ := b
      simp only [List.map_cons, List.nodup_cons] at hn ⊢
      refine ⟨fun hm => hn.1 ?_, ih hn.2 h.2.2⟩
      obtain ⟨⟨k2, v2⟩, h1, h2⟩ := List.mem_map.mp hm
      obtain ⟨j, hj⟩ := List.mem_iff_getElem?.mp h1
      have hl := (List.getElem?_eq_some_iff.mp hj).1
      rw [← h.2.2.len] at hl
      have hk := h.2.2.keys j kvs[j].1 kvs[j].2 k2 v2 (List.getElem?_eq_getElem hl) hj
      simp only at h2
      rw [h2] at hk
      rw [inj _ _ _ h.1 hk]
      exact List.mem_map_of_mem (List.getElem_mem hl)
end
theorem keyK_KInj : KInj keyK := fun _ _ _ h1 h2 => keyK_inj h1 h2
theorem keyT_KInj : KInj keyT := fun _ _ _ h1 h2 => keyT_inj h1 h2
section
variable {K : PySem.W.Frag} {F H : Hp} {d : D} {v : V}
theorem RepB.dct_inv {kvs : List (D × D)} (s : Same F H) (r : RepB K F H (.dct kvs) v) : ∃ a us, v = .ref a ∧ H a = some (.dK us) ∧ DKs keyK (RepZ K F) kvs us := by
  rcases r.cases with r | ⟨_, _, _, e, _⟩ | ⟨a, ks, us, e, rfl, h1, h2, h3, h4⟩ | ⟨_, _, _, e, _⟩
  · cases r with | dK h1 h2 h3 h4 => exact ⟨_, _, rfl, s _ _ h1, .of h2 h3 h4⟩
  · cases e
  · cases e; exact ⟨a, us, rfl, h1, .of h2 h3 h4⟩
  · cases e
theorem RepB.dcT_inv {kvs : List (D × D)} (s : Same F H) (r : RepB K F H (.dcT kvs) v) : ∃ a us, v = .ref a ∧ H a = some (.dT us) ∧ DKs keyT (RepZ K F) kvs us := by
  rcases r.cases with r | ⟨_, _, _, e, _⟩ | ⟨_, _, _, e, _⟩ | ⟨a, ks, us, e, rfl, h1, h2, h3, h4⟩
  · cases r with | dT h1 h2 h3 h4 => exact ⟨_, _, rfl, s _ _ h1, .of h2 h3 h4⟩
  · cases e
  · cases e
  · cases e; exact ⟨a, us, rfl, h1, .of h2 h3 h4⟩
theorem repZ_key {x : D} {u : V} {k : Key} (r : RepZ K F x u) (h : keyK x = some k) : u = kV k := by
  cases x <;> simp [keyK] at h <;> subst h
  · rw [r.int_inv]; rfl
  · rw [r.str_inv]; rfl
theorem repZs_keys : ∀ {xs : List D} {us : List V} {ks : List Key}, RepZs K F xs us → keysK xs = some ks → us = ks.map kV
  | [], us, ks, r, h => by simp [keysK] at h; subst h; rw [r.inv0]; rfl
  | x :: xs, us, ks, r, h => by
    obtain ⟨v, vs, rfl, r1, r2⟩ := r.inv
    simp only [keysK] at h
    cases h1 : keyK x <;> cases h2 : keysK xs <;> simp [h1, h2] at h
    subst h
    rw [repZ_key r1 h1, repZs_keys r2 h2]; rfl
theorem repZ_keyT {x : D} {u : V} {k : List Key} (r : RepZ K F x u) (h : keyT x = some k) : ∃ b, u = .ref b ∧ F b = some (.tup (k.map kV)) := by
  cases x <;> simp [keyT] at h
  obtain ⟨a, vs, rfl, h1, h2⟩ := r.tup_inv
  exact ⟨a, rfl, by rw [h1, repZs_keys h2 h]⟩
/-- the key's entry -/
theorem dget_of {x y : D} {v u : V} {kvs : List (D × D)} (s : Same F H) (rx : RepZ K F x v) (ry : RepB K F H y u) (hd : (y = .dct kvs ∧ (keyK x).isSome = true) ∨ (y = .dcT kvs ∧ (keyT x).isSome = true)) :
    ∃ a o, u = .ref a ∧ DGet H a v o ∧ ((dGet kvs x = none ∧ o = none) ∨ ∃ d w, dGet kvs x = some d ∧ o = some w ∧ RepZ K F d w) := by
  rcases hd with ⟨rfl, hk⟩ | ⟨rfl, hk⟩
  · obtain ⟨k, hk⟩ := Option.isSome_iff_exists.mp hk
    obtain ⟨a, us, rfl, h1, h2⟩ := ry.dct_inv s
    refine ⟨a, valV us k, rfl, .inl ⟨us, k, .of h1, repZ_key rx hk, rfl⟩, ?_⟩
    rcases h2.get keyK_KInj hk with ⟨h3, h4⟩ | ⟨d, w, h3, h4, h5⟩
    · exact .inl ⟨h3, h4⟩
    · exact .inr ⟨d, w, h3, h4, h5⟩
  · obtain ⟨k, hk⟩ := Option.isSome_iff_exists.mp hk
    obtain ⟨a, us, rfl, h1, h2⟩ := ry.dcT_inv s
    obtain ⟨b, rfl, hb⟩ := repZ_keyT rx hk
    refine ⟨a, valV us k, rfl, .inr ⟨us, k, b, .of h1, rfl, s _ _ hb, rfl⟩, ?_⟩
    rcases h2.get keyT_KInj hk with ⟨h3, h4⟩ | ⟨d, w, h3, h4, h5⟩
    · exact .inl ⟨h3, h4⟩
    · exact .inr ⟨d, w, h3, h4, h5⟩
end
/-- y[x] of a dict, asked -/
def dAsk (y x : D) : Option (Option D) := match y with
  | .dct kvs => if (keyK x).isSome then some (dGet kvs x) else none
  | .dcT kvs => if (keyT x).isSome then some (dGet kvs x) else none
  | _ => none
theorem dAsk_inv {y x : D} {o : Option D} (h : dAsk y x = some o) : ∃ kvs, ((y = .dct kvs ∧ (keyK x).isSome = true) ∨ (y = .dcT kvs ∧ (keyT x).isSome = true)) ∧ o = dGet kvs x := by
  cases y <;> simp [dAsk] at h
  · exact ⟨_, .inl ⟨rfl, h.1⟩, h.2.symm⟩
  · exact ⟨_, .inr ⟨rfl, h.1⟩, h.2.symm⟩

/-! ### a root changes -/
section
variable {K : PySem.W.Frag} {Γ : List Mode} {F H : Hp} {env : Env} {σ : Sl} {p : Pth} {i : Nat} {m : Mode} {d : D} {a : Addr} {o : HO}
theorem SOk.at (s : SOk K Γ F H env σ p) (hΓ : Γ[i]? = some m) (ho : m.owned = true) (hd : env[i]? = some (some d)) : ∃ v, σ[i]? = some (some v) ∧ Rep K m F H d v fun q => p (i :: q) := by
  rcases s.slot i m d hΓ hd with h | h
  · subst h; cases ho
  · exact h
theorem SOk.put1 (s : SOk K Γ F H env σ p) (hΓ : Γ[i]? = some m) (hv : σ[i]? = some (some (.ref a))) (hp : p [i] = some a) (r : Rep K m F (upd H a o) d (.ref a) fun q => p (i :: q)) :
    SOk K Γ F (upd H a o) (env.set i (some d)) σ p := by
  obtain ⟨hF, hH⟩ := s.off _ _ hp
  refine ⟨fun b u h => ?_, s.inj, fun q b h => ⟨(s.off q b h).1, ?_⟩, by simp [s.len], fun j m' d' hm hd => ?_⟩
  · rw [upd_ne (fun e => by subst e; rw [hF] at h; cases h)]; exact s.same _ _ h
  · by_cases e : b = a
    · subst e; rw [upd_same]; simp
    · rw [upd_ne e]; exact (s.off q b h).2
  · by_cases e : i = j
    · subst e
      have h1 := (List.getElem?_eq_some_iff.mp hd).1
      simp only [List.length_set] at h1
      rw [List.getElem?_set_self h1] at hd
      cases hd
      rw [hΓ] at hm; cases hm
      exact .inr ⟨_, hv, r⟩
    · rw [List.getElem?_set_ne e] at hd
      rcases s.slot j m' d' hm hd with h | ⟨u, h1, h2⟩
      · exact .inl h
      · refine .inr ⟨u, h1, Rep.frame m' h2 (fun _ _ h => h) fun q b ob hq hb => ?_⟩
        rw [upd_ne fun e2 => by
          subst e2
          have := s.inj _ _ _ hp hq
          injection this with e3 _
          exact e e3]
        exact hb
theorem Step.put1 (hp : ∃ q, p q = some a) : Step F H p F (upd H a o) p := by
  obtain ⟨q0, hp⟩ := hp
  refine ⟨fun _ _ h => h, fun b u h n => ?_, fun q b h => .inl ⟨q, h⟩, fun b h => .inl h⟩
  rw [upd_ne fun e => by subst e; exact n _ hp]; exact h
end
/-! ### methods of an owned list -/
def MtL (K : PySem.W.Frag) (r : V → List V → Hp → VK → Prop) (o : List D → List D → Option (List D × D)) : Prop :=
  ∀ (F H : Hp) (l : Addr) (xs : List D) (vs : List V) (ys : List D) (us : List V) (xs' : List D) (d : D) (Q : VK), Same F H → F l = none → H l = some (.lst vs) → RepZs K F xs vs → RepZs K F ys us → o xs ys = some (xs', d) →
    (∀ vs' w, RepZs K F xs' vs' → RepZ K F d w → Q w (upd H l (.lst vs'))) → r (.ref l) us H Q
def mLM (i : Nat) (o : List D → List D → Option (List D × D)) (fs : M (List D)) : M D := fun e => match e[i]? with
  | some (some (.lst _)) => (fs e).bind fun ys e1 => (match e1[i]? with
    | some (some (.lst xs)) => (match o xs ys with
      | some (xs', d) => .ok d (e1.set i (some (.lst xs')))
      | none => .bad)
    | _ => .bad)
  | _ => .bad
section
variable {X : Cx} {W : WX} {S : SC} {Γx Γ Γ1 Γ2 Γ3 Γ' : List Mode} {a b c e : Expr} {es : List Expr} {f g h : M D} {fs : M (List D)} {pos p p2 p3 np apos cpos : Pos}
theorem lm_core {r : V → List V → Hp → VK → Prop} {o : List D → List D → Option (List D × D)} {i : Nat} {σ : Sl} {F H : Hp} {p0 : Pth} {env : Env} {t : TA} {Q : VK} (hr : MtL X.K r o)
    (he : ∀ (σ : Sl) (F H : Hp) (p : Pth) (env : Env) (Q : List V → Hp → Prop), SOk X.K Γ F H env σ p → PostL X.K W Γx Γ1 F H p σ Q (fs env) → t σ H Q)
    (hΓ : Γ[i]? = some (.lst .fz)) (hΓ1 : Γ1[i]? = some (.lst .fz)) (s : SOk X.K Γ F H env σ p0) (q : PostZ X.K W Γx Γ1 F H p0 σ Q (mLM i o fs env)) :
    ∃ v, σ[i]? = some (some v) ∧ tyV X.K "list" v H ∧ t σ H fun us H2 => r v us H2 Q := by
  unfold mLM at q
  split at q
  · rename_i ds hd
    obtain ⟨v, hv, a, ds', vs, e1, rfl, hp, ha, hl, hz⟩ := s.at hΓ rfl hd
    refine ⟨_, hv, .inl ⟨rfl, vs, SqL.of ha⟩, ?_⟩
    refine lseq wpZ he s q fun ys e1 us F1 H1 p1 s1 k1 r1 q1 => ?_
    split at q1
    · rename_i xs hx
      obtain ⟨v2, hv2, a2, ds2, vs2, e3, rfl, hp2, ha2, hl2, hz2⟩ := k1.at hΓ1 rfl hx
      cases e3
      rw [hv] at hv2; cases hv2
      split at q1
      · rename_i xs' d ho
        refine hr F1 H1 a xs vs2 ys us xs' d Q k1.same (k1.off _ _ hp2).1 ha2 ⟨hl2, hz2⟩ r1 ho fun vs' w r2 rw' => ?_
        exact q1 w F1 _ p1 (.put1 ⟨_, hp2⟩) (k1.put1 hΓ1 hv hp2 ⟨a, xs', vs', rfl, rfl, hp2, upd_same, r2.1, fun j d v h1 h2 => r2.2 j d v h1 h2⟩) rw'
      · exact q1.elim
    · exact q1.elim
  · exact q.elim
theorem mz_lm {name x : Str} {id : String} {r : V → List V → Hp → VK → Prop} {o : List D → List D → Option (List D × D)} (i : Nat) (hr : MtL X.K r o) (slot : Slot "list" name id) (hty : typeOf (.builtin id) = pure (.type "method_descriptor")) (hm : MtR X id r)
    (ha : ML X W Γx Γ (e :: es) fs Γ1) (hΓ : Γ[i]? = some (.lst .fz) := by rfl) (hΓ1 : Γ1[i]? = some (.lst .fz) := by rfl) (hN : X.N[i]? = some x := by rfl) (hv : Vis X.env.scope x := by first | exact Or.inl rfl | exact Or.inr (Or.inl rfl) | exact Or.inr (Or.inr rfl))
    (hd : (x == ("__debug__" : Str)) = false := by decide) (hcd : (x == ("__classdict__" : Str)) = false := by decide) (hbase : attributeBase (.Name x np) name X.env (eval (.Name x np) X.env) = eval (.Name x np) X.env := by rfl)
    (hfew : ((backTo cpos (starEach (e :: es) X.env)).all (fun x => !x.1) && (backToKw cpos (keywordEach [] X.env)).all (fun x => x.1.isSome)
      && decide ((e :: es).length + ([] : List Keyword).length + (if ([] : List Keyword).isEmpty then 0 else 1) < 30)) = true := by rfl)
    (hline : (apos.endLine == cpos.line) = true := by rfl) (hs : starEach (e :: es) X.env = (false, eval e X.env) :: starEach es X.env := by rfl) (hplain : (backTo cpos (starEach es X.env)).any (·.1) = false := by rfl) :
    MZ X W Γx Γ (.Call (.Attribute (.Name x np) name apos) (e :: es) [] cpos) (mLM i o fs) Γ1 := by
  obtain ⟨t, pt, h⟩ := ha
  refine ⟨_, pe_bm PySem.F.plainAttrs_list slot hty hm (pe_var hN hv hd hcd) pt hbase hfew hline hs hplain, fun σ F H p env Q s q => ?_⟩
  obtain ⟨v, h1, h2, h3⟩ := lm_core hr h hΓ hΓ1 s q
  exact ⟨v, h1, h2, h3⟩
theorem mz_lm0 {name x : Str} {id : String} {r : V → List V → Hp → VK → Prop} {o : List D → List D → Option (List D × D)} (i : Nat) (hr : MtL X.K r o) (slot : Slot "list" name id) (hty : typeOf (.builtin id) = pure (.type "method_descriptor")) (hm : MtR X id r)
    (hΓ : Γ[i]? = some (.lst .fz) := by rfl) (hN : X.N[i]? = some x := by rfl) (hv : Vis X.env.scope x := by first | exact Or.inl rfl | exact Or.inr (Or.inl rfl) | exact Or.inr (Or.inr rfl))
    (hd : (x == ("__debug__" : Str)) = false := by decide) (hcd : (x == ("__classdict__" : Str)) = false := by decide) (hbase : attributeBase (.Name x np) name X.env (eval (.Name x np) X.env) = eval (.Name x np) X.env := by rfl)
    (hline : (apos.endLine == cpos.line) = true := by rfl) :
    MZ X W Γx Γ (.Call (.Attribute (.Name x np) name apos) [] [] cpos) (mLM i o mNil) Γ := by
  refine ⟨_, pe_bm0 PySem.F.plainAttrs_list slot hty hm (pe_var hN hv hd hcd) hbase hline, fun σ F H p env Q s q => ?_⟩
  obtain ⟨v, h1, h2, h3⟩ := lm_core (fs := mNil) (t := fun σ H Q => Q [] H) hr (fun σ F H p env Q s q => q [] F H p .refl s .nil) hΓ hΓ s q
  exact ⟨v, h1, h2, h3⟩
end
def oAppend (xs ys : List D) : Option (List D × D) := match ys with
  | [y] => if xs.length < sizeLine then some (xs ++ [y], .non) else none
  | _ => none
def oExtend (xs ys : List D) : Option (List D × D) := match ys with
  | [.lst zs] => if xs.length + zs.length ≤ sizeLine then some (xs ++ zs, .non) else none
  | _ => none
def oPop (xs ys : List D) : Option (List D × D) := match ys with
  | [] => (xs[xs.length - 1]?).map fun d => (xs.dropLast, d)
  | [.int i] => if -(2 ^ 63) ≤ i ∧ i < 2 ^ 63 then (match seqIndex? i xs.length with
    | some k => (xs[k]?).map fun d => (xs.eraseIdx k, d)
    | none => none) else none
  | _ => none
section
variable {K : PySem.W.Frag} {F : Hp}
theorem RepZs.snoc {ds : List D} {vs : List V} {d : D} {v : V} (r : RepZs K F ds vs) (h : RepZ K F d v) : RepZs K F (ds ++ [d]) (vs ++ [v]) := r.append (.cons h .nil)
theorem RepZs.dropLast {ds : List D} {vs : List V} (r : RepZs K F ds vs) : RepZs K F ds.dropLast vs.dropLast := by
  rw [List.dropLast_eq_take, List.dropLast_eq_take, r.1]; exact r.take _
theorem RepZs.eraseIdx {ds : List D} {vs : List V} (r : RepZs K F ds vs) (k : Nat) : RepZs K F (ds.eraseIdx k) (vs.eraseIdx k) := by
  rw [List.eraseIdx_eq_take_drop_succ, List.eraseIdx_eq_take_drop_succ]; exact (r.take k).append (r.drop (k + 1))
theorem RepZs.set {ds : List D} {vs : List V} {d : D} {v : V} (r : RepZs K F ds vs) (h : RepZ K F d v) (k : Nat) : RepZs K F (ds.set k d) (vs.set k v) := by
  refine ⟨by simp [r.1], fun j d' v' h1 h2 => ?_⟩
  by_cases e : k = j
  · subst e
    have l1 := (List.getElem?_eq_some_iff.mp h1).1
    have l2 := (List.getElem?_eq_some_iff.mp h2).1
    simp only [List.length_set] at l1 l2
    rw [List.getElem?_set_self l1] at h1
    rw [List.getElem?_set_self l2] at h2
    cases h1; cases h2; exact h
  · rw [List.getElem?_set_ne e] at h1 h2
    exact r.2 j d' v' h1 h2
theorem ml_append : MtL K rAppend oAppend := by
  intro F H l xs vs ys us xs' d Q s hF hl rx ry ho q
  unfold oAppend at ho
  split at ho
  · split at ho
    · rename_i y hsz
      cases ho
      obtain ⟨u, us', rfl, r1, r2⟩ := ry.inv
      rw [r2.inv0]
      exact ⟨l, vs, u, rfl, rfl, hl, rx.1 ▸ hsz, q _ _ (rx.snoc r1) .non⟩
    · cases ho
  · cases ho
theorem ml_extend : MtL K rExtend oExtend := by
  intro F H l xs vs ys us xs' d Q s hF hl rx ry ho q
  unfold oExtend at ho
  split at ho
  · split at ho
    · rename_i zs hsz
      cases ho
      obtain ⟨u, us', rfl, r1, r2⟩ := ry.inv
      obtain ⟨b, ws, rfl, h1, h2⟩ := r1.lst_inv
      rw [r2.inv0]
      exact ⟨l, b, vs, ws, rfl, rfl, hl, s _ _ h1, by rw [← rx.1, ← h2.1]; exact hsz, q _ _ (rx.append h2) .non⟩
    · cases ho
  · cases ho
theorem ml_pop : MtL K rPop (fun xs ys => match ys with | [] => oPop xs [] | _ => none) := by
  intro F H l xs vs ys us xs' d Q s hF hl rx ry ho q
  cases ys with
  | cons _ _ => cases ho
  | nil =>
    simp only [oPop, Option.map_eq_some_iff, Prod.mk.injEq] at ho
    obtain ⟨d0, h1, rfl, rfl⟩ := ho
    obtain ⟨v, h2, h3⟩ := rx.get h1
    rw [ry.inv0]
    exact ⟨l, vs, v, rfl, rfl, hl, by rw [← rx.1]; exact h2, q _ _ rx.dropLast h3⟩
theorem ml_popAt : MtL K rPopAt (fun xs ys => match ys with | [y] => oPop xs [y] | _ => none) := by
  intro F H l xs vs ys us xs' d Q s hF hl rx ry ho q
  dsimp only at ho
  split at ho
  · rename_i y
    cases y <;> simp only [oPop, reduceCtorEq] at ho
    rename_i i
    split at ho
    · rename_i hi
      cases hk : seqIndex? i xs.length with
      | none => rw [hk] at ho; cases ho
      | some k =>
        rw [hk] at ho
        simp only [Option.map_eq_some_iff, Prod.mk.injEq] at ho
        obtain ⟨d0, h1, rfl, rfl⟩ := ho
        obtain ⟨v, h2, h3⟩ := rx.get h1
        obtain ⟨u, us', rfl, r1, r2⟩ := ry.inv
        rw [r2.inv0, r1.int_inv]
        exact ⟨l, vs, i, k, v, rfl, rfl, hl, hi.1, hi.2, by rw [← rx.1]; exact hk, h2, q _ _ (rx.eraseIdx k) h3⟩
    · cases ho
  · cases ho
end
/-! ### stores -/
def stSub (c k d : D) : Option D := match c with
  | .lst ds => (match k with
    | .int i => (ixN ds.length i).map fun j => .lst (ds.set j d)
    | _ => none)
  | .dct kvs => if (keyK k).isSome ∧ kvs.length < sizeLine ∧ (kvs.map (·.1)).Nodup then some (.dct (dPut kvs k d)) else none
  | .dcT kvs => if (keyT k).isSome ∧ kvs.length < sizeLine ∧ (kvs.map (·.1)).Nodup then some (.dcT (dPut kvs k d)) else none
  | _ => none
def SetM (K : PySem.W.Frag) (m : Mode) (r : TSet) : Prop :=
  ∀ (F H : Hp) (c k d c' : D) (a : Addr) (vk vd : V) (p : Pth) (Q : Hp → Prop), Same F H → Rep K m F H c (.ref a) p → RepZ K F k vk → RepZ K F d vd → stSub c k d = some c' →
    (∀ o, Rep K m F (upd H a o) c' (.ref a) p → Q (upd H a o)) → r (.ref a) vk vd H Q
section
variable {K : PySem.W.Frag}
theorem setM_lst : SetM K (.lst .fz) rSetL := by
  intro F H c k d c' a vk vd p Q s r rk rd h q
  obtain ⟨a', ds, vs, rfl, e, hp, ha, hl, hz⟩ := r
  cases e
  cases k <;> simp only [stSub, reduceCtorEq, Option.map_eq_some_iff] at h
  obtain ⟨j, hj, rfl⟩ := h
  rw [rk.int_inv]
  have rz : RepZs K F ds vs := ⟨hl, hz⟩
  have := rz.set rd j
  exact ⟨a, vs, _, j, rfl, rfl, ha, by rw [← hl]; exact hj, q _ ⟨a, _, _, rfl, rfl, hp, upd_same, this.1, fun j d v h1 h2 => this.2 j d v h1 h2⟩⟩
theorem setM_dK : SetM K (.dK .fz) rSetD := by
  intro F H c k d c' a vk vd p Q s r rk rd h q
  obtain ⟨a', kvs, us, rfl, e, hp, ha, hl, h1, h2⟩ := r
  cases e
  simp only [stSub] at h
  split at h
  · rename_i hh
    obtain ⟨k', hk⟩ := Option.isSome_iff_exists.mp hh.1
    cases h
    have dk : DKs keyK (RepZ K F) kvs us := .of hl h1 h2
    have := dk.put' keyK_KInj hk rd hh.2.2
    rw [repZ_key rk hk]
    exact ⟨a, _, rfl, .inl ⟨us, k', ha, rfl, by rw [← hl]; exact hh.2.1, rfl⟩, q _ ⟨a, _, _, rfl, rfl, hp, upd_same, this.len, this.keys, this.vals⟩⟩
  · cases h
theorem setM_dT : SetM K (.dT .fz) rSetD := by
  intro F H c k d c' a vk vd p Q s r rk rd h q
  obtain ⟨a', kvs, us, rfl, e, hp, ha, hl, h1, h2⟩ := r
  cases e
  simp only [stSub] at h
  split at h
  · rename_i hh
    obtain ⟨k', hk⟩ := Option.isSome_iff_exists.mp hh.1
    cases h
    have dk : DKs keyT (RepZ K F) kvs us := .of hl h1 h2
    have := dk.put' keyT_KInj hk rd hh.2.2
    obtain ⟨b, rfl, hb⟩ := repZ_keyT rk hk
    exact ⟨a, _, rfl, .inr ⟨us, k', b, ha, rfl, s _ _ hb, by rw [← hl]; exact hh.2.1, rfl⟩, q _ ⟨a, _, _, rfl, rfl, hp, upd_same, this.len, this.keys, this.vals⟩⟩
  · cases h
end
/-- x[k] = e of an owned slot -/
def mSetSub (i : Nat) (f g : M D) : M Fl := fun e => (f e).bind fun d e1 => match e1[i]? with
  | some (some _) => (g e1).bind fun k e2 => (match e2[i]? with
    | some (some c) => (match stSub c k d with
      | some c' => .ok .next (e2.set i (some c'))
      | none => .bad)
    | _ => .bad)
  | _ => .bad
section
variable {X : Cx} {W : WX} {S : SC} {Γx Γ Γ1 Γ2 Γ3 Γ' : List Mode} {a b c e ie : Expr} {es : List Expr} {f g h : M D} {fs : M (List D)} {pos p p2 p3 np apos cpos spos : Pos}
theorem ms_setSub {x : Str} {m : Mode} {r : TSet} (i : Nat) (hr : SetM X.K m r) (hs' : PSet X r) (hmo : m.owned = true) (he : MZ X W S.Γx Γ e f Γ1) (hi : MZ X W S.Γx Γ1 ie g Γ2) (hroot : ∀ F H d v (p : Pth), Rep X.K m F H d v p → ∃ a, v = .ref a ∧ p [] = some a)
    (hΓ1 : Γ1[i]? = some m := by rfl) (hΓ2 : Γ2[i]? = some m := by rfl) (hN : X.N[i]? = some x := by rfl) (hv : Vis X.env.scope x := by first | exact Or.inl rfl | exact Or.inr (Or.inl rfl) | exact Or.inr (Or.inr rfl))
    (hd : (x == ("__debug__" : Str)) = false := by decide) (hcd : (x == ("__classdict__" : Str)) = false := by decide)
    (hpa : ∀ v, assign (.Subscript (.Name x np) ie spos) X.env v = (do let ov ← holding [v] (eval (.Name x np) X.env); let iv ← holding [v, ov] (eval ie X.env); standAt spos; holding [v, ov, iv] (setItem ov iv v); release [v, ov, iv] []) := by intro _; rfl)
    (hs : swapsWithSole [.Subscript (.Name x np) ie spos] e pos.line X.env = pure false := by rfl) (hw : swappedStores [.Subscript (.Name x np) ie spos] e X.env = pure none := by rfl)
    (h1 : (assignEach [.Subscript (.Name x np) ie spos] X.env).map (·.2) = [assign (.Subscript (.Name x np) ie spos) X.env] := by rfl) :
    MS X W S Γ (.Assign [.Subscript (.Name x np) ie spos] e pos) (mSetSub i f g) Γ2 := by
  obtain ⟨t, pt, he⟩ := he
  obtain ⟨u, pu, hi⟩ := hi
  refine ⟨_, ps_asg pt (pg_sub (pe_var hN hv hd hcd) pu hs' hpa) hs hw h1, fun D σ F H p env s q => ?_⟩
  show t σ H fun v H1 => ∃ o, σ[i]? = some (some o) ∧ u σ H1 fun k H2 => r o k v H2 fun H3 => D.nx σ H3
  refine zseq wpS he s q fun d e1 v F1 H1 p1 s1 k1 r1 q1 => ?_
  split at q1
  · rename_i c1 hc1
    obtain ⟨o, ho, ro⟩ := k1.at hΓ1 hmo hc1
    obtain ⟨a, rfl, ha⟩ := hroot _ _ _ _ _ ro
    refine ⟨_, ho, zseq wpS hi k1 q1 fun k e2 vk F2 H2 p2 s2 k2 r2 q2 => ?_⟩
    split at q2
    · rename_i c hc
      obtain ⟨o2, ho2, ro2⟩ := k2.at hΓ2 hmo hc
      obtain ⟨a2, rfl, ha2⟩ := hroot _ _ _ _ _ ro2
      rw [ho] at ho2; cases ho2
      split at q2
      · rename_i c' hst
        refine hr F2 H2 c k d c' a vk v _ _ k2.same ro2 r2 (r1.mono s2.same) hst fun ob rep => ?_
        exact q2 σ F2 _ p2 .refl (.put1 ⟨_, ha2⟩) (k2.put1 hΓ2 ho ha2 rep)
      · exact q2.elim
    · exact q2.elim
  · exact q1.elim
theorem ms_setL {x : Str} (i : Nat) (he : MZ X W S.Γx Γ e f Γ1) (hi : MZ X W S.Γx Γ1 ie g Γ2)
    (hΓ1 : Γ1[i]? = some (.lst .fz) := by rfl) (hΓ2 : Γ2[i]? = some (.lst .fz) := by rfl) (hN : X.N[i]? = some x := by rfl) (hv : Vis X.env.scope x := by first | exact Or.inl rfl | exact Or.inr (Or.inl rfl) | exact Or.inr (Or.inr rfl))
    (hd : (x == ("__debug__" : Str)) = false := by decide) (hcd : (x == ("__classdict__" : Str)) = false := by decide)
    (hpa : ∀ v, assign (.Subscript (.Name x np) ie spos) X.env v = (do let ov ← holding [v] (eval (.Name x np) X.env); let iv ← holding [v, ov] (eval ie X.env); standAt spos; holding [v, ov, iv] (setItem ov iv v); release [v, ov, iv] []) := by intro _; rfl)
    (hs : swapsWithSole [.Subscript (.Name x np) ie spos] e pos.line X.env = pure false := by rfl) (hw : swappedStores [.Subscript (.Name x np) ie spos] e X.env = pure none := by rfl)
    (h1 : (assignEach [.Subscript (.Name x np) ie spos] X.env).map (·.2) = [assign (.Subscript (.Name x np) ie spos) X.env] := by rfl) :
    MS X W S Γ (.Assign [.Subscript (.Name x np) ie spos] e pos) (mSetSub i f g) Γ2 :=
  ms_setSub i setM_lst set_list rfl he hi (fun _ _ _ _ _ ⟨a, _, _, _, h1, h2, _⟩ => ⟨a, h1, h2⟩) hΓ1 hΓ2 hN hv hd hcd hpa hs hw h1
theorem ms_setDK {x : Str} {k : Nat} (i : Nat) (hr : Room k X.A) (he : MZ X W S.Γx Γ e f Γ1) (hi : MZ X W S.Γx Γ1 ie g Γ2)
    (hΓ1 : Γ1[i]? = some (.dK .fz) := by rfl) (hΓ2 : Γ2[i]? = some (.dK .fz) := by rfl) (hN : X.N[i]? = some x := by rfl) (hv : Vis X.env.scope x := by first | exact Or.inl rfl | exact Or.inr (Or.inl rfl) | exact Or.inr (Or.inr rfl))
    (hd : (x == ("__debug__" : Str)) = false := by decide) (hcd : (x == ("__classdict__" : Str)) = false := by decide)
    (hpa : ∀ v, assign (.Subscript (.Name x np) ie spos) X.env v = (do let ov ← holding [v] (eval (.Name x np) X.env); let iv ← holding [v, ov] (eval ie X.env); standAt spos; holding [v, ov, iv] (setItem ov iv v); release [v, ov, iv] []) := by intro _; rfl)
    (hs : swapsWithSole [.Subscript (.Name x np) ie spos] e pos.line X.env = pure false := by rfl) (hw : swappedStores [.Subscript (.Name x np) ie spos] e X.env = pure none := by rfl)
    (h1 : (assignEach [.Subscript (.Name x np) ie spos] X.env).map (·.2) = [assign (.Subscript (.Name x np) ie spos) X.env] := by rfl) :
    MS X W S Γ (.Assign [.Subscript (.Name x np) ie spos] e pos) (mSetSub i f g) Γ2 :=
  ms_setSub i setM_dK (set_dict (by have := hr.units; omega)) rfl he hi (fun _ _ _ _ _ ⟨a, _, _, _, h1, h2, _⟩ => ⟨a, h1, h2⟩) hΓ1 hΓ2 hN hv hd hcd hpa hs hw h1
theorem ms_setDT {x : Str} {k : Nat} (i : Nat) (hr : Room k X.A) (he : MZ X W S.Γx Γ e f Γ1) (hi : MZ X W S.Γx Γ1 ie g Γ2)
    (hΓ1 : Γ1[i]? = some (.dT .fz) := by rfl) (hΓ2 : Γ2[i]? = some (.dT .fz) := by rfl) (hN : X.N[i]? = some x := by rfl) (hv : Vis X.env.scope x := by first | exact Or.inl rfl | exact Or.inr (Or.inl rfl) | exact Or.inr (Or.inr rfl))
    (hd : (x == ("__debug__" : Str)) = false := by decide) (hcd : (x == ("__classdict__" : Str)) = false := by decide)
    (hpa : ∀ v, assign (.Subscript (.Name x np) ie spos) X.env v = (do let ov ← holding [v] (eval (.Name x np) X.env); let iv ← holding [v, ov] (eval ie X.env); standAt spos; holding [v, ov, iv] (setItem ov iv v); release [v, ov, iv] []) := by intro _; rfl)
    (hs : swapsWithSole [.Subscript (.Name x np) ie spos] e pos.line X.env = pure false := by rfl) (hw : swappedStores [.Subscript (.Name x np) ie spos] e X.env = pure none := by rfl)
    (h1 : (assignEach [.Subscript (.Name x np) ie spos] X.env).map (·.2) = [assign (.Subscript (.Name x np) ie spos) X.env] := by rfl) :
    MS X W S Γ (.Assign [.Subscript (.Name x np) ie spos] e pos) (mSetSub i f g) Γ2 :=
  ms_setSub i setM_dT (set_dict (by have := hr.units; omega)) rfl he hi (fun _ _ _ _ _ ⟨a, _, _, _, h1, h2, _⟩ => ⟨a, h1, h2⟩) hΓ1 hΓ2 hN hv hd hcd hpa hs hw h1
end
end VM
/-! VM, part 14: rules that ask what stands there: subscripts, in, +, *, slices; displays of dicts; pairs of assignments. -/
namespace VM
open PySem PySem.Spec PyProof.Rows L2

theorem PE.or {X : Cx} {e : Expr} {t1 t2 : TE} (h1 : PE X e t1) (h2 : PE X e t2) : PE X e (fun σ H Q => t1 σ H Q ∨ t2 σ H Q) :=
  ⟨fun pins s σ H Q I h => h.elim (h1.run pins s σ H Q I) (h2.run pins s σ H Q I)⟩
section
variable {X : Cx} {W : WX} {S : SC} {Γx Γ Γ1 Γ2 Γ3 Γ' : List Mode} {a b c e : Expr} {es : List Expr} {f g h f1 f2 : M D} {fg gg : M Get} {G G1 G2 : List Mode → Prop} {fs : M (List D)} {pos p p2 p3 : Pos} {k : Nat} {m : Mode}
theorem MZ.or (h1 : MZ X W Γx Γ e f1 Γ') (h2 : MZ X W Γx Γ e f2 Γ') (hc : ∀ env, f env = f1 env ∨ f env = f2 env) : MZ X W Γx Γ e f Γ' := by
  obtain ⟨t1, p1, h1⟩ := h1
  obtain ⟨t2, p2, h2⟩ := h2
  refine ⟨_, PE.or p1 p2, fun σ F H p env Q s q => ?_⟩
  rcases hc env with z | z
  · exact .inl (h1 σ F H p env Q s (z ▸ q))
  · exact .inr (h2 σ F H p env Q s (z ▸ q))
theorem MO.or (h1 : MO X W Γx Γ e f1 m Γ') (h2 : MO X W Γx Γ e f2 m Γ') (hc : ∀ env, f env = f1 env ∨ f env = f2 env) : MO X W Γx Γ e f m Γ' := by
  obtain ⟨t1, p1, h1⟩ := h1
  obtain ⟨t2, p2, h2⟩ := h2
  refine ⟨_, PE.or p1 p2, fun σ F H p env Q s q => ?_⟩
  rcases hc env with z | z
  · exact .inl (h1 σ F H p env Q s (z ▸ q))
  · exact .inr (h2 σ F H p env Q s (z ▸ q))
/-! ### a name of the module -/
theorem mz_glob {x : Str} {d : D} {v : V} {u : Value} (hm : X.mg x = some u) (r : RelV v u) (hr : ∀ F, RepZ X.K F d v) (hg : Gl X x := by rfl) (hd : (x == ("__debug__" : Str)) = false := by decide) : MZ X W Γx Γ (.Name x pos) (mC d) Γ := mz_c (pe_glob hg hm r hd) hr
/-! ### x[k], asked -/
def oDIx (x y : D) : Option D := (dAsk x y).join
def oIdx (x y : D) : Option D := match x with
  | .dct _ => oDIx x y
  | .dcT _ => oDIx x y
  | _ => oIx x y
def mSub2 (o : D → D → Option D) (fg : M Get) (g : M D) : M D := fun e => (fg e).bind fun get e1 => (g e1).bind fun y e2 => match get e2 with
  | some d => mOpt (o d y) e2
  | none => .bad
def mSub (fg : M Get) (g : M D) : M D := mSub2 oIdx fg g
theorem mz_dix (hr : Room k X.A) (ha : MB X W Γx Γ a fg G Γ1) (hb : MZ X W Γx Γ1 b g Γ2) (hG : G Γ2 := by first | trivial | rfl) (hs : NoSl b := by exact fun _ _ => rfl) : MZ X W Γx Γ (.Subscript a b pos) (mSub2 oDIx fg g) Γ2 := by
  obtain ⟨ta, pa, ha⟩ := ha
  obtain ⟨tb, pb, hb⟩ := hb
  refine ⟨_, pe_dget (by have := hr.units; omega) pa pb hs, fun σ F H p env Q s q => ?_⟩
  show ta σ H fun x H1 => tb σ H1 fun y H2 => ∃ a v, x = .ref a ∧ DGet H2 a y (some v) ∧ Q v H2
  refine bseq wpZ ha s q fun get e1 v F1 H1 p1 s1 k1 r1 q1 => zseq wpZ hb k1 q1 fun y e2 u F2 H2 p2 s2 k2 r2 q2 => ?_
  cases hg : get e2 with
  | none => rw [hg] at q2; exact q2.elim
  | some d =>
    rw [hg] at q2
    have rb := r1 F2 H2 p2 e2 Γ2 d s2 k2 hG hg
    simp only [oDIx] at q2
    cases hd : dAsk d y with
    | none => rw [hd] at q2; exact q2.elim
    | some o =>
      rw [hd] at q2
      obtain ⟨kvs, h1, h2⟩ := dAsk_inv hd
      obtain ⟨a', o', h3, h4, h5⟩ := dget_of k2.same r2 rb h1
      rcases h5 with ⟨h5, h6⟩ | ⟨d', w, h5, h6, h7⟩
      · rw [h2, h5] at q2; exact q2.elim
      · rw [h2, h5] at q2
        rw [h6] at h4
        exact ⟨a', w, h3, h4, q2 w F2 H2 p2 .refl k2 h7⟩
theorem mz_sub' (hr : Room k X.A) (ha : MB X W Γx Γ a fg G Γ1) (hb : MZ X W Γx Γ1 b g Γ2) (hG : G Γ2 := by first | trivial | rfl) (hs : NoSl b := by exact fun _ _ => rfl) (hs' : PlainIx b := by exact fun _ _ => rfl) : MZ X W Γx Γ (.Subscript a b pos) (mSub fg g) Γ2 := by
  refine MZ.or (mz_ix ha hb hG hs') (mz_dix hr ha hb hG hs) fun env => ?_
  unfold mSub mSub2 mIx
  cases fg env with
  | bad => exact .inl rfl
  | ex x e => exact .inl rfl
  | ok get e1 =>
    simp only [Res.bind_ok]
    cases g e1 with
    | bad => exact .inl rfl
    | ex x e => exact .inl rfl
    | ok y e2 =>
      simp only [Res.bind_ok]
      cases get e2 with
      | none => exact .inl rfl
      | some d => cases d <;> first | exact .inl rfl | exact .inr rfl
/-! ### in -/
def oInD (neg : Bool) (x y : D) : Option D := match dAsk y x with
  | some o => some (.bl (if neg then !o.isSome else o.isSome))
  | none => none
def oInU (neg : Bool) (x y : D) : Option D := match y with
  | .lst _ => oIn neg x y
  | _ => oInD neg x y
def rInK (neg : Bool) : R2 := fun x y H Q => ∃ a o, y = .ref a ∧ DGet H a x o ∧ Q (.bl (if neg then !o.isSome else o.isSome)) H
theorem op_inK {X : Cx} (hu : X.A.units + 1 < cLine) : OpR X (compareOp .In) (rInK false) := by
  intro pins s σ H x y v u Q I rx ry h
  obtain ⟨a, o, rfl, g, q⟩ := h
  obtain rfl : u = Value.ref a := ry
  exact d_in hu I g rx fun s3 I3 => ⟨.bl o.isSome, H, I3, rfl, q⟩
theorem op_notInK {X : Cx} (hu : X.A.units + 1 < cLine) : OpR X (compareOp .NotIn) (rInK true) := by
  intro pins s σ H x y v u Q I rx ry h
  obtain ⟨a, o, rfl, g, q⟩ := h
  obtain rfl : u = Value.ref a := ry
  exact d_notIn hu I g rx fun s3 I3 => ⟨.bl (!o.isSome), H, I3, rfl, q⟩
/-- as BinB, the left one being shared -/
def BinZB (K : PySem.W.Frag) (r : R2) (o : D → D → Option D) : Prop :=
  ∀ (W : WX) (Γx Γ : List Mode) (F H : Hp) (p : Pth) (e : Env) (σ : Sl) (x y : D) (v u : V) (Q : V → Hp → Prop), SOk K Γ F H e σ p → RepZ K F x v → RepB K F H y u → PostZ K W Γx Γ F H p σ Q (mOpt (o x y) e) → r v u H Q
theorem bzb_inK {K : PySem.W.Frag} {neg : Bool} : BinZB K (rInK neg) (oInD neg) := by
  intro W Γx Γ F H p e σ x y v u Q k r1 r2 q
  unfold oInD at q
  cases hd : dAsk y x with
  | none => rw [hd] at q; exact q.elim
  | some o =>
    rw [hd] at q
    obtain ⟨kvs, h1, h2⟩ := dAsk_inv hd
    obtain ⟨a', o', h3, h4, h5⟩ := dget_of k.same r1 r2 h1
    have : o'.isSome = o.isSome := by
      rcases h5 with ⟨h5, h6⟩ | ⟨d', w, h5, h6, h7⟩ <;> rw [h2, h5, h6] <;> rfl
    refine ⟨a', o', h3, h4, ?_⟩
    rw [this]
    exact q _ F H p .refl k (.bl _)
theorem dp_ofB {K : PySem.W.Frag} {F H : Hp} (s : Same F H) {n : Nat} {ds : List D} {v : V} (h : (D.lst ds).lv (n + 1) = true) (r : RepB K F H (.lst ds) v) : Dp K H v (D.lst ds).py := by
  obtain ⟨a, vs, rfl, h1, h2⟩ := r.lst_inv s
  simp only [D.py]
  exact .lst (SqL.of h1) (dpAll_of (fun d v h r => dp_of n d v h r) _ _ (by simpa only [D.lv] using h) (h2.mono s))
theorem bzb_inD {K : PySem.W.Frag} : BinZB K (rInD K) (oIn false) := by
  intro W Γx Γ F H p e σ x y v u Q k r1 r2 q
  cases y <;> try exact q.elim
  rename_i ys
  simp only [oIn, if_true, Bool.false_eq_true, if_false] at q
  split at q
  · rename_i h
    rw [Bool.and_eq_true] at h
    have hy : (D.lst ys).lv 16 = true := h.2
    have hx := lv_mono 15 16 x (by decide) h.1
    refine ⟨x.py, D.pys ys, dp_of 16 x v hx (r1.mono k.same), ?_, shaped_lv hx, ?_, ?_⟩
    · have := dp_ofB k.same hy r2; simpa only [D.py] using this
    · have := shaped_lv hy; simpa only [D.py] using this
    · rw [any_pys]; exact q _ F H p .refl k (.bl _)
  · exact q.elim
theorem bzb_notInD {K : PySem.W.Frag} : BinZB K (rNotInD K) (oIn true) := by
  intro W Γx Γ F H p e σ x y v u Q k r1 r2 q
  cases y <;> try exact q.elim
  rename_i ys
  simp only [oIn, if_true, Bool.false_eq_true, if_false] at q
  split at q
  · rename_i h
    rw [Bool.and_eq_true] at h
    have hy : (D.lst ys).lv 16 = true := h.2
    have hx := lv_mono 15 16 x (by decide) h.1
    refine ⟨x.py, D.pys ys, dp_of 16 x v hx (r1.mono k.same), ?_, shaped_lv hx, ?_, ?_⟩
    · have := dp_ofB k.same hy r2; simpa only [D.py] using this
    · have := shaped_lv hy; simpa only [D.py] using this
    · rw [any_pys]; exact q _ F H p .refl k (.bl _)
  · exact q.elim
theorem BinZB.or {K : PySem.W.Frag} {r1 r2 : R2} {o o1 o2 : D → D → Option D} (h1 : BinZB K r1 o1) (h2 : BinZB K r2 o2) (hc : ∀ x y, o x y = o1 x y ∨ o x y = o2 x y) : BinZB K (fun x y H Q => r1 x y H Q ∨ r2 x y H Q) o := by
  intro W Γx Γ F H p e σ x y v u Q k ra rb q
  rcases hc x y with z | z
  · exact .inl (h1 W Γx Γ F H p e σ x y v u Q k ra rb (z ▸ q))
  · exact .inr (h2 W Γx Γ F H p e σ x y v u Q k ra rb (z ▸ q))
def mBinZB (o : D → D → Option D) (f : M D) (gg : M Get) : M D := fun e => (f e).bind fun x e1 => (gg e1).bind fun get e2 => match get e2 with
  | some y => mOpt (o x y) e2
  | none => .bad
theorem mz_cmpZB {op : CmpOp} {r : R2} {o : D → D → Option D} (ho : OpR X (compareOp op) r) (hr : BinZB X.K r o)
    (ha : MZ X W Γx Γ a f Γ1) (hb : MB X W Γx Γ1 b gg G Γ2) (hG : G Γ2 := by first | trivial | rfl) (hm : behindInMarks op b = false := by first | exact nomark _ | rfl | with_unfolding_all rfl) :
    MZ X W Γx Γ (.Compare a [op] [b] pos) (mBinZB o f gg) Γ2 := by
  obtain ⟨ta, pa, ha⟩ := ha
  obtain ⟨tb, pb, hb⟩ := hb
  refine ⟨_, pe_cmpR ho pa pb hm, fun σ F H p env Q s q => ?_⟩
  show ta σ H fun x H1 => tb σ H1 fun y H2 => r x y H2 Q
  refine zseq wpZ ha s q fun x e1 v F1 H1 p1 s1 k1 r1 q1 => bseq wpZ hb k1 q1 fun get e2 u F2 H2 p2 s2 k2 r2 q2 => ?_
  cases hg : get e2 with
  | none => rw [hg] at q2; exact q2.elim
  | some y =>
    rw [hg] at q2
    exact hr W Γx Γ2 F2 H2 p2 e2 σ x y v u Q k2 (r1.mono s2.same) (r2 F2 H2 p2 e2 Γ2 y .refl k2 hG hg) q2
theorem mt_cmpZB {op : CmpOp} {r : R2} {o : D → D → Option D} (ho : OpR X (compareOp op) r) (hr : BinZB X.K r o)
    (ha : MZ X W Γx Γ a f Γ1) (hb : MB X W Γx Γ1 b gg G Γ2) (hG : G Γ2 := by first | trivial | rfl) (hm : behindInMarks op b = false := by first | exact nomark _ | rfl | with_unfolding_all rfl) :
    MT X W Γx Γ (.Compare a [op] [b] pos) (mTst (mBinZB o f gg)) Γ2 := by
  obtain ⟨ta, pa, ha⟩ := ha
  obtain ⟨tb, pb, hb⟩ := hb
  refine ⟨_, pt_cmpR ho pa pb hm, fun σ F H p env Q s q => ?_⟩
  show ta σ H fun x H1 => tb σ H1 fun y H2 => r x y H2 fun z H3 => ∃ k, z = .bl k ∧ Q k H3
  have e0 : mTst (mBinZB o f gg) env = (f env).bind fun x e1 => (gg e1).bind fun get e2 => match get e2 with | some y => mTst (fun e => mOpt (o x y) e) e2 | none => .bad := by
    unfold mTst mBinZB
    cases f env with
    | bad => rfl
    | ex x e => rfl
    | ok x e1 =>
      dsimp only [Res.bind]
      cases gg e1 with
      | bad => rfl
      | ex x e => rfl
      | ok get2 e2 => dsimp only; cases get2 e2 <;> rfl
  rw [e0] at q
  refine zseq wpT ha s q fun x e1 v F1 H1 p1 s1 k1 r1 q1 => bseq wpT hb k1 q1 fun get e2 u F2 H2 p2 s2 k2 r2 q2 => ?_
  cases hg : get e2 with
  | none => rw [hg] at q2; exact q2.elim
  | some y =>
    rw [hg] at q2
    refine hr W Γx Γ2 F2 H2 p2 e2 σ x y v u _ k2 (r1.mono s2.same) (r2 F2 H2 p2 e2 Γ2 y .refl k2 hG hg) ?_
    dsimp only at q2
    unfold mTst at q2
    cases hd : o x y with
    | none => rw [hd] at q2; exact q2.elim
    | some d =>
      rw [hd] at q2
      intro w F3 H3 p3 s3 k3 r3
      cases d <;> try exact q2.elim
      exact ⟨_, r3.bl_inv, q2 F3 H3 p3 s3 k3⟩
theorem oInU_or (neg : Bool) (x y : D) : oInU neg x y = oIn neg x y ∨ oInU neg x y = oInD neg x y := by cases y <;> first | exact .inl rfl | exact .inr rfl
def mIn (neg : Bool) (f : M D) (gg : M Get) : M Bool := mTst (mBinZB (oInU neg) f gg)
theorem mt_in (hr : Room k X.A) (ha : MZ X W Γx Γ a f Γ1) (hb : MB X W Γx Γ1 b gg G Γ2) (hG : G Γ2 := by first | trivial | rfl) (hm : behindInMarks .In b = false := by first | exact nomark _ | rfl | with_unfolding_all rfl) : MT X W Γx Γ (.Compare a [.In] [b] pos) (mIn false f gg) Γ2 :=
  mt_cmpZB (OpR.or (op_inD (by have := hr.un; omega)) (op_inK (by have := hr.units; omega))) (BinZB.or bzb_inD bzb_inK (oInU_or false)) ha hb hG hm
theorem mt_notIn (hr : Room k X.A) (ha : MZ X W Γx Γ a f Γ1) (hb : MB X W Γx Γ1 b gg G Γ2) (hG : G Γ2 := by first | trivial | rfl) (hm : behindInMarks .NotIn b = false := by first | exact nomark _ | rfl | with_unfolding_all rfl) : MT X W Γx Γ (.Compare a [.NotIn] [b] pos) (mIn true f gg) Γ2 :=
  mt_cmpZB (OpR.or (op_notInD (by have := hr.un; omega)) (op_notInK (by have := hr.units; omega))) (BinZB.or bzb_notInD bzb_inK (oInU_or true)) ha hb hG hm
theorem mz_in (hr : Room k X.A) (ha : MZ X W Γx Γ a f Γ1) (hb : MB X W Γx Γ1 b gg G Γ2) (hG : G Γ2 := by first | trivial | rfl) (hm : behindInMarks .In b = false := by first | exact nomark _ | rfl | with_unfolding_all rfl) : MZ X W Γx Γ (.Compare a [.In] [b] pos) (mBinZB (oInU false) f gg) Γ2 :=
  mz_cmpZB (OpR.or (op_inD (by have := hr.un; omega)) (op_inK (by have := hr.units; omega))) (BinZB.or bzb_inD bzb_inK (oInU_or false)) ha hb hG hm
theorem mz_notIn (hr : Room k X.A) (ha : MZ X W Γx Γ a f Γ1) (hb : MB X W Γx Γ1 b gg G Γ2) (hG : G Γ2 := by first | trivial | rfl) (hm : behindInMarks .NotIn b = false := by first | exact nomark _ | rfl | with_unfolding_all rfl) : MZ X W Γx Γ (.Compare a [.NotIn] [b] pos) (mBinZB (oInU true) f gg) Γ2 :=
  mz_cmpZB (OpR.or (op_notInD (by have := hr.un; omega)) (op_notInK (by have := hr.units; omega))) (BinZB.or bzb_notInD bzb_inK (oInU_or true)) ha hb hG hm
/-- == of plain values where there is no room (behind a raise) -/
def D.scalar : D → Bool
  | .non => true
  | .bl _ => true
  | .int _ => true
  | .str _ => true
  | _ => false
def oEqS (x y : D) : Option D := match x, y with
  | .str i, .str j => some (.bl (decide (i = j)))
  | .int i, .int j => some (.bl (decide (i = j)))
  | _, _ => none
theorem bg_eqS {K : PySem.W.Frag} : BinG K rEq oEqS := by
  apply BinR.gen; intro F H x y d v u Q _ r1 r2 h q
  cases x <;> cases y <;> simp only [oEqS, reduceCtorEq, Option.some.injEq] at h
  · subst h
    rw [r1.int_inv, r2.int_inv]
    refine ⟨rfl, ?_⟩
    have := q _ fun _ => .bl _
    rename_i i j
    have e : decide (V.int i = V.int j) = decide (i = j) := by simp
    rw [e]; exact this
  · subst h
    rw [r1.str_inv, r2.str_inv]
    refine ⟨rfl, ?_⟩
    have := q _ fun _ => .bl _
    rename_i i j
    have e : decide (V.str i = V.str j) = decide (i = j) := by simp
    rw [e]; exact this
theorem mz_eqS (ha : MZ X W Γx Γ a f Γ1) (hb : MZ X W Γx Γ1 b g Γ2) : MZ X W Γx Γ (.Compare a [.Eq] [b] pos) (mBin oEqS f g) Γ2 := mz_cmp op_eq bg_eqS ha hb
theorem mt_eqS (ha : MZ X W Γx Γ a f Γ1) (hb : MZ X W Γx Γ1 b g Γ2) : MT X W Γx Γ (.Compare a [.Eq] [b] pos) (mBTst oEqS f g) Γ2 := mt_cmp op_eq bg_eqS ha hb

/-! ### +, * of lists, texts -/
def oCatL : D → D → Option D
  | .lst xs, .lst ys => if xs.length + ys.length ≤ sizeLine then some (.lst (xs ++ ys)) else none
  | _, _ => none
theorem bo_cat {K : PySem.W.Frag} : BinO K rCat oCatL (.lst .fz) := by
  intro W Γx Γ F H p e σ x y v u Q k r1 r2 q
  cases x <;> cases y <;> simp only [oCatL] at q <;> try exact q.elim
  split at q
  · rename_i h
    obtain ⟨a1, vs1, rfl, h1, h2⟩ := r1.lst_inv
    obtain ⟨a2, vs2, rfl, h3, h4⟩ := r2.lst_inv
    exact ⟨a1, a2, vs1, vs2, rfl, rfl, k.same _ _ h1, k.same _ _ h3, by rw [← h2.1, ← h4.1]; exact h, fun l hl => q _ _ _ p _ (Step.newO hl) (k.newO hl) (rep_root (h2.append h4)) (.root k hl)⟩
  · exact q.elim
theorem mo_cat (ha : MZ X W Γx Γ a f Γ1) (hb : MZ X W Γx Γ1 b g Γ2) : MO X W Γx Γ (.BinOp a .Add b pos) (mBin oCatL f g) (.lst .fz) Γ2 := mo_op op_cat bo_cat ha hb
def repD (k : Int) (xs : List D) : List D := (List.replicate k.toNat xs).flatten
def oRepL : D → D → Option D
  | .lst xs, .int k => if -(2 ^ 63) ≤ k ∧ k < 2 ^ 63 ∧ xs.length * k.toNat ≤ sizeLine then some (.lst (repD k xs)) else none
  | _, _ => none
theorem RepZs.rep {K : PySem.W.Frag} {F : Hp} {ds : List D} {vs : List V} (r : RepZs K F ds vs) : ∀ n : Nat, RepZs K F (List.replicate n ds).flatten (List.replicate n vs).flatten
  | 0 => by simp; exact .nil
  | n + 1 => by simp only [List.replicate_succ, List.flatten_cons]; exact r.append (RepZs.rep r n)
theorem bo_rep {K : PySem.W.Frag} : BinO K rRep oRepL (.lst .fz) := by
  intro W Γx Γ F H p e σ x y v u Q k r1 r2 q
  cases x <;> cases y <;> simp only [oRepL] at q <;> try exact q.elim
  split at q
  · rename_i h
    obtain ⟨a1, vs1, rfl, h1, h2⟩ := r1.lst_inv
    rw [r2.int_inv]
    exact ⟨a1, _, vs1, rfl, rfl, k.same _ _ h1, h.1, h.2.1, by rw [← h2.1]; exact h.2.2, fun l hl => q _ _ _ p _ (Step.newO hl) (k.newO hl) (rep_root (h2.rep _)) (.root k hl)⟩
  · exact q.elim
theorem mo_rep (ha : MZ X W Γx Γ a f Γ1) (hb : MZ X W Γx Γ1 b g Γ2) : MO X W Γx Γ (.BinOp a .Mult b pos) (mBin oRepL f g) (.lst .fz) Γ2 := mo_op op_rep bo_rep ha hb
end
/-! ### slices -/
def PostV {α : Type} (K : PySem.W.Frag) (W : WX) (Γx Γ' : List Mode) (F H : Hp) (p : Pth) (σ : Sl) (Q : α → Hp → Prop) : Res α → Prop
  | .ok b e' => ∀ (F' H' : Hp) (p' : Pth), Step F H p F' H' p' → SOk K Γ' F' H' e' σ p' → Q b H'
  | .ex x e' => PostX K W Γx F H p σ x e'
  | .bad => False
def MP (X : Cx) (W : WX) (Γx Γ : List Mode) (e : Option Expr) (f : M (Option Int)) (Γ' : List Mode) : Prop :=
  ∃ t, PO X e t ∧ ∀ (σ : Sl) (F H : Hp) (p : Pth) (env : Env) (Q : Option Int → Hp → Prop), SOk X.K Γ F H env σ p → PostV X.K W Γx Γ' F H p σ Q (f env) → t σ H Q
theorem oseqP {α : Type} {X : Cx} {W : WX} {Γx Γ Γ1 : List Mode} {fo : M (Option Int)} {te : TO} {σ : Sl} {F H : Hp} {p : Pth} {env : Env} {k : Option Int → M α} {P : Hp → Hp → Pth → Res α → Prop} {R : Option Int → Hp → Prop} (w : Wp X.K W Γx σ P)
    (he : ∀ (σ : Sl) (F H : Hp) (p : Pth) (env : Env) (Q : Option Int → Hp → Prop), SOk X.K Γ F H env σ p → PostV X.K W Γx Γ1 F H p σ Q (fo env) → te σ H Q)
    (s : SOk X.K Γ F H env σ p) (q : P F H p (Res.bind (fo env) k))
    (hk : ∀ d e1 F1 H1 p1, Step F H p F1 H1 p1 → SOk X.K Γ1 F1 H1 e1 σ p1 → P F1 H1 p1 (k d e1) → R d H1) : te σ H R := by
  refine he σ F H p env R s ?_
  cases hf : fo env with
  | bad => rw [hf] at q; exact (w.bad q).elim
  | ex x e' => rw [hf] at q; exact w.ex q
  | ok d e' => rw [hf] at q; exact fun F' H' p' st s' => hk d e' F' H' p' st s' (w.step st q)
def mPart (f : M D) : M (Option Int) := fun e => (f e).bind fun d e1 => match d with
  | .int i => .ok (some i) e1
  | _ => .bad
def pickD {α : Type} (ds : List α) (lo hi st : Option Int) : List α := (sliceRange (sliceBounds lo hi st ds.length).1 (sliceBounds lo hi st ds.length).2.1 (sliceBounds lo hi st ds.length).2.2).filterMap (ds[·]?)
def oSliceL (lo hi st : Option Int) : D → Option D
  | .lst ds => if st = some 0 then none else some (.lst (pickD ds lo hi st))
  | .scr ds => if st = some 0 then none else some (.lst (pickD ds lo hi st))
  | _ => none
def mSlice (o : Option Int → Option Int → Option Int → D → Option D) (f : M D) (fl fh ft : M (Option Int)) : M D := fun e => (f e).bind fun d e1 => (fl e1).bind fun lo e2 => (fh e2).bind fun hi e3 => (ft e3).bind fun st e4 => mOpt (o lo hi st d) e4
theorem Paired.pick {α β : Type} {R : α → β → Prop} {xs : List α} {ys : List β} (h : Paired R xs ys) (js : List Nat) : Paired R (js.filterMap (xs[·]?)) (js.filterMap (ys[·]?)) := by
  have len := Paired.length h
  have get : ∀ (j : Nat) (x : α) (y : β), xs[j]? = some x → ys[j]? = some y → R x y := by
    intro j
    induction h generalizing j with
    | nil => intro x y h; simp at h
    | cons r t ih =>
      intro x y h1 h2
      cases j with
      | zero => simp at h1 h2; subst h1; subst h2; exact r
      | succ j => exact ih (Paired.length t) j x y (by simpa using h1) (by simpa using h2)
  induction js with
  | nil => exact .nil
  | cons j js ih =>
    cases hx : xs[j]? with
    | none =>
      have hy : ys[j]? = none := by rw [List.getElem?_eq_none_iff] at hx ⊢; omega
      simp only [List.filterMap_cons, hx, hy]; exact ih
    | some x =>
      have hl : j < ys.length := by rw [← len]; exact (List.getElem?_eq_some_iff.mp hx).1
      have hy : ys[j]? = some ys[j] := List.getElem?_eq_getElem hl
      simp only [List.filterMap_cons, hx, hy]
      exact .cons (get j x _ hx hy) ih
theorem RepZs.pick {K : PySem.W.Frag} {F : Hp} {ds : List D} {vs : List V} (h : RepZs K F ds vs) (lo hi st : Option Int) : RepZs K F (pickD ds lo hi st) (pickD vs lo hi st) := by
  have toP : ∀ {ds : List D} {vs : List V}, RepZs K F ds vs → Paired (RepZ K F) ds vs := by
    intro ds
    induction ds with
    | nil => intro vs r; rw [r.inv0]; exact .nil
    | cons d ds ih => intro vs r; obtain ⟨v, us, rfl, r1, r2⟩ := r.inv; exact .cons r1 (ih r2)
  have ofP : ∀ {ds : List D} {vs : List V}, Paired (RepZ K F) ds vs → RepZs K F ds vs := by
    intro ds vs r
    induction r with
    | nil => exact .nil
    | cons r t ih => exact .cons r ih
  unfold pickD
  rw [← h.1]
  exact ofP (Paired.pick (toP h) _)
theorem pickD_len {α : Type} (ds : List α) (lo hi st : Option Int) {its : List Value} (h : ds.length = its.length) : (pickD ds lo hi st).length ≤ ds.length := by
  have e := slicePick_size_le its.toArray lo hi st
  have e2 : (slicePick its.toArray lo hi st).size = (pickD ds lo hi st).length := by
    unfold slicePick pickD
    rw [List.size_toArray, h]
    simp only [List.size_toArray]
    have len : ∀ js : List Nat, (js.filterMap (its.toArray[·]?)).length = (js.filterMap (ds[·]?)).length := by
      intro js
      induction js with
      | nil => rfl
      | cons j js ih =>
        by_cases hj : j < ds.length
        · have h1 : ds[j]? = some ds[j] := List.getElem?_eq_getElem hj
          have h2 : its.toArray[j]? = some (its[j]'(h ▸ hj)) := by rw [List.getElem?_toArray]; exact List.getElem?_eq_getElem _
          simp only [List.filterMap_cons, h1, h2, List.length_cons, ih]
        · have h1 : ds[j]? = none := List.getElem?_eq_none (by omega)
          have h2 : its.toArray[j]? = none := by rw [List.getElem?_toArray]; exact List.getElem?_eq_none (by omega)
          simp only [List.filterMap_cons, h1, h2, ih]
    exact len _
  rw [e2] at e
  simpa [h] using e
def tSl3 (K : PySem.W.Frag) (te : TE) (tl th tt : TO) : TE := fun σ H Q => te σ H fun x H1 => tl σ H1 fun lo H2 => th σ H2 fun hi H3 => tt σ H3 fun st H4 => ∃ a xs, x = .ref a ∧ SqL K H4 a xs ∧ st ≠ some 0 ∧ ∀ p, H4 p = none → Q (.ref p) (upd H4 p (.lst (pickD xs lo hi st)))
section
variable {X : Cx} {W : WX} {S : SC} {Γx Γ Γ1 Γ2 Γ3 Γ4 Γ' : List Mode} {a b c e : Expr} {lo hi st : Option Expr} {te : TE} {tl th tt : TO} {f : M D} {fl fh ft : M (Option Int)} {pos p2 : Pos}
theorem pe_slice3 (he : PE X e te) (hl : PO X lo tl) (hu : PO X hi th) (ht : PO X st tt) (hsub : ∀ ov iv, ∃ ops, subscripted (.Slice lo hi st p2) false ov iv = operate ops (getItem ov iv)) : PE X (.Subscript e (.Slice lo hi st p2) pos) (tSl3 X.K te tl th tt) := by
  refine ⟨fun pins s σ H Q I h => ?_⟩
  refine Subscript_ (thn (he.run pins s σ H _ I h) fun v s1 ⟨x, H1, I1, r1, q1⟩ => ?_)
  refine wpAny_Slice (thn (hl.run pins s1 σ H1 _ I1 q1) fun vl s2 ⟨l, H2, I2, pl, q2⟩ => thn (hu.run pins s2 σ H2 _ I2 q2) fun vu s3 ⟨u, H3, I3, pu, q3⟩ => thn (ht.run pins s3 σ H3 _ I3 q3) fun vk s4 ⟨k, H4, I4, pk, q4⟩ => ?_)
  have I5 : Inv X pins σ H4 { s4 with heap := s4.heap.push { cls := .type "slice", data := .fields #[vl, vu, vk] } } := I4.kept (t' := s4.toks) fun b ob q => Heap.get?_push_of_some _ q
  obtain ⟨a, xs, rfl, hx, h0, q⟩ := q4
  cases r1
  obtain ⟨its, rv, hL, hz⟩ := I5.list hx
  have hg := wpAny_getItem_list_slice (E := X.xe) (prog := X.prog) (w := X.w) (A := X.A) (s := { s4 with heap := s4.heap.push { cls := .type "slice", data := .fields #[vl, vu, vk] } }) (Q := EP X pins σ Q) hL.isList (Heap.IsSliceOf.new ..) pl pu pk h0 ?_ (by rw [List.size_toArray, ← rv.length]; exact hz)
  · obtain ⟨ops, hop⟩ := hsub (.ref a) (.ref s4.heap.objs.size)
    exact tail_any hL.isList.typeIs list_getitem_lookup hg hop
  · have hlen : xs.length = its.length := rv.length
    have hpl : (pickD xs l u k).length ≤ sizeLine := Nat.le_trans (pickD_len xs l u k hlen) hz
    have hv : Vals (pickD xs l u k) (slicePick its.toArray l u k).toList := by
      unfold pickD slicePick
      simp only [List.size_toArray, hlen, List.getElem?_toArray, List.toList_toArray]
      exact Paired.pick rv _
    refine ⟨.ref (s4.heap.push { cls := .type "slice", data := .fields #[vl, vu, vk] }).objs.size, _, ?_, rfl, q _ I5.fresh⟩
    exact I5.lnew (t' := s4.toks) hv hpl
theorem mp_none : MP X W Γx Γ none (fun e => .ok none e) Γ := ⟨_, po_none, fun σ F H p env Q s q => q F H p .refl s⟩
theorem mp_some (h : MZ X W Γx Γ e f Γ') : MP X W Γx Γ (some e) (mPart f) Γ' := by
  obtain ⟨t, pt, h⟩ := h
  refine ⟨_, po_some pt, fun σ F H p env Q s q => ?_⟩
  show t σ H fun x H1 => ∃ i, x = .int i ∧ Q (some i) H1
  refine h σ F H p env _ s ?_
  unfold mPart at q
  cases hf : f env with
  | bad => rw [hf] at q; exact q
  | ex x e' => rw [hf] at q; exact q
  | ok d e1 =>
    rw [hf, Res.bind_ok] at q
    cases d <;> try exact q.elim
    intro v F1 H1 p1 s1 k1 r1
    exact ⟨_, r1.int_inv, q F1 H1 p1 s1 k1⟩
theorem mo_slice (he : MZ X W Γx Γ e f Γ1) (hl : MP X W Γx Γ1 lo fl Γ2) (hu : MP X W Γx Γ2 hi fh Γ3) (ht : MP X W Γx Γ3 st ft Γ4) (hsub : ∀ ov iv, ∃ ops, subscripted (.Slice lo hi st p2) false ov iv = operate ops (getItem ov iv) := by exact fun _ _ => ⟨_, rfl⟩) : MO X W Γx Γ (.Subscript e (.Slice lo hi st p2) pos) (mSlice oSliceL f fl fh ft) (.lst .fz) Γ4 := by
  obtain ⟨t, pt, he⟩ := he
  obtain ⟨tl, pl, hl⟩ := hl
  obtain ⟨th, ph, hu⟩ := hu
  obtain ⟨tt, ptt, ht⟩ := ht
  refine ⟨_, pe_slice3 pt pl ph ptt hsub, fun σ F H p env Q s q => ?_⟩
  show t σ H fun x H1 => tl σ H1 fun lo H2 => th σ H2 fun hi H3 => tt σ H3 fun st H4 => ∃ a xs, x = .ref a ∧ SqL X.K H4 a xs ∧ st ≠ some 0 ∧ ∀ p, H4 p = none → Q (.ref p) (upd H4 p (.lst (pickD xs lo hi st)))
  refine zseq wpO he s q fun d e1 v F1 H1 p1 s1 k1 r1 q1 => oseqP wpO hl k1 q1 fun lo e2 F2 H2 p2 s2 k2 q2 => oseqP wpO hu k2 q2 fun hi e3 F3 H3 p3 s3 k3 q3 => oseqP wpO ht k3 q3 fun st e4 F4 H4 p4 s4 k4 q4 => ?_
  have rz : RepZ X.K F4 d v := ((r1.mono s2.same).mono s3.same).mono s4.same
  cases d <;> simp only [oSliceL] at q4 <;> try exact q4.elim
  · split at q4
    · exact q4.elim
    · rename_i h0
      obtain ⟨a, vs, rfl, h1, h2⟩ := rz.lst_inv
      exact ⟨a, vs, rfl, SqL.of (k4.same _ _ h1), h0, fun l hl => q4 _ _ _ p4 _ (Step.newO hl) (k4.newO hl) (rep_root (h2.pick _ _ _)) (.root k4 hl)⟩
  · split at q4
    · exact q4.elim
    · rename_i h0
      obtain ⟨a, vs, rfl, h1, h2⟩ := rz.scr_inv
      exact ⟨a, vs, rfl, seqL k4.same h1, h0, fun l hl => q4 _ _ _ p4 _ (Step.newO hl) (k4.newO hl) (rep_root (h2.pick _ _ _)) (.root k4 hl)⟩
end
end VM
/-! VM, part 15: values that are owned ahead of their slots; pairs of assignments; new dicts. -/
namespace VM
open PySem PySem.Spec PyProof.Rows L2

def RepM (K : PySem.W.Frag) (ms : List Mode) (F H : Hp) (ds : List D) (vs : List V) (pv : Pth) : Prop :=
  ds.length = vs.length ∧ ∀ (j : Nat) (m : Mode) (d : D) (v : V), ms[j]? = some m → ds[j]? = some d → vs[j]? = some v → Rep K m F H d v fun q => pv (j :: q)
def consP (pa pb : Pth) : Pth
  | [] => none
  | 0 :: q => pa q
  | (j + 1) :: q => pb (j :: q)
theorem consP_inv {pa pb : Pth} {q : List Nat} {a : Addr} (h : consP pa pb q = some a) : (∃ q', q = 0 :: q' ∧ pa q' = some a) ∨ ∃ j q', q = (j + 1) :: q' ∧ pb (j :: q') = some a := by
  cases q with
  | nil => cases h
  | cons j q => cases j with
    | zero => exact .inl ⟨q, rfl, h⟩
    | succ j => exact .inr ⟨j, q, rfl, h⟩
section
variable {K : PySem.W.Frag} {F H F1 H1 F2 H2 : Hp} {p p1 p2 pv pw : Pth} {m : Mode} {d : D} {v : V}
/-- what waits outlives a run -/
theorem Fresh.wait (f : Fresh F H p F1 H1 p1 pv) (s : Step F1 H1 p1 F2 H2 p2) : Fresh F H p F2 H2 p2 pv ∧ ∀ q a o, pv q = some a → H1 a = some o → H2 a = some o := by
  have np : ∀ q a, pv q = some a → ∀ q', p1 q' ≠ some a := fun q a h q' h' => f.apart q q' a h h'
  have kp : ∀ q a o, pv q = some a → H1 a = some o → H2 a = some o := fun q a o h ho => s.keep a o ho (np q a h)
  refine ⟨⟨f.inj, fun q q' a h h' => ?_, fun q a h => ⟨?_, ?_⟩, f.new⟩, kp⟩
  · rcases s.own q' a h' with ⟨q0, e⟩ | e
    · exact f.apart q q0 a h e
    · exact (f.off q a h).2 e
  · cases z : F2 a with
    | none => rfl
    | some o =>
      exfalso
      rcases s.frz a (by rw [z]; simp) with z | ⟨q0, z⟩ | z
      · exact z (f.off q a h).1
      · exact f.apart q q0 a h z
      · exact (f.off q a h).2 z
  · cases ho : H1 a with
    | none => exact ((f.off q a h).2 ho).elim
    | some o => rw [kp q a o h ho]; simp
/-- two that wait -/
theorem Fresh.cons (f : Fresh F H p F1 H1 p1 pv) (s1 : Step F H p F1 H1 p1) (s : Step F1 H1 p1 F2 H2 p2) (g : Fresh F1 H1 p1 F2 H2 p2 pw) : Fresh F H p F2 H2 p2 (consP pv pw) := by
  obtain ⟨f2, kp⟩ := f.wait s
  have g2 := g.step s1
  have sep : ∀ q q' a, pv q = some a → pw q' = some a → False := fun q q' a h h' => by
    rcases g.new q' a h' with ⟨q0, e⟩ | e
    · exact f.apart q q0 a h e
    · exact (f.off q a h).2 e
  refine ⟨fun q q' a h h' => ?_, fun q q' a h h' => ?_, fun q a h => ?_, fun q a h => ?_⟩
  · rcases consP_inv h with ⟨r, rfl, h1⟩ | ⟨j, r, rfl, h1⟩ <;> rcases consP_inv h' with ⟨r', rfl, h2⟩ | ⟨j', r', rfl, h2⟩
    · rw [f.inj _ _ _ h1 h2]
    · exact (sep _ _ _ h1 h2).elim
    · exact (sep _ _ _ h2 h1).elim
    · have := g.inj _ _ _ h1 h2
      injection this with e1 e2
      rw [e1, e2]
  · rcases consP_inv h with ⟨r, rfl, h1⟩ | ⟨j, r, rfl, h1⟩
    · exact f2.apart _ _ _ h1 h'
    · exact g2.apart _ _ _ h1 h'
  · rcases consP_inv h with ⟨r, rfl, h1⟩ | ⟨j, r, rfl, h1⟩
    · exact f2.off _ _ h1
    · exact g2.off _ _ h1
  · rcases consP_inv h with ⟨r, rfl, h1⟩ | ⟨j, r, rfl, h1⟩
    · exact f2.new _ _ h1
    · exact g2.new _ _ h1
theorem Fresh.sub (f : Fresh F H p F1 H1 p1 pv) (j : Nat) : Fresh F H p F1 H1 p1 (fun q => pv (j :: q)) :=
  ⟨fun q q' a h h' => by have := f.inj _ _ _ h h'; injection this, fun q q' a h h' => f.apart _ _ _ h h', fun q a h => f.off _ _ h, fun q a h => f.new _ _ h⟩
/-- one is put, the other waits on -/
theorem Fresh.put2 (f : Fresh F H p F1 H1 p1 pv) {i j l : Nat} (h : j ≠ l) : Fresh F H p F1 H1 (putP i (fun q => pv (j :: q)) p1) (fun q => pv (l :: q)) := by
  refine ⟨(f.sub l).inj, fun q q' a h1 h2 => ?_, (f.sub l).off, (f.sub l).new⟩
  rcases putP_or h2 with ⟨r, _, h3⟩ | ⟨h3, _⟩
  · have := f.inj _ _ _ h1 h3
    injection this with e1 _
    exact h e1.symm
  · exact f.apart _ _ _ h1 h3
theorem Fresh.put3 (f : Fresh F H p F1 H1 p1 pv) {i i2 j l n : Nat} (h : j ≠ n) (h2 : l ≠ n) : Fresh F H p F1 H1 (putP i2 (fun q => pv (l :: q)) (putP i (fun q => pv (j :: q)) p1)) (fun q => pv (n :: q)) := by
  refine ⟨(f.sub n).inj, fun q q' a h1 h3 => ?_, (f.sub n).off, (f.sub n).new⟩
  rcases putP_or h3 with ⟨r, _, h4⟩ | ⟨h4, _⟩
  · have := f.inj _ _ _ h1 h4
    injection this with e1 _
    exact h2 e1.symm
  · exact (f.put2 (i := i) h).apart _ _ _ h1 h4
end
def PostM (K : PySem.W.Frag) (W : WX) (Γx Γ' ms : List Mode) (F H : Hp) (p : Pth) (σ : Sl) (Q : List V → Hp → Prop) : Res (List D) → Prop
  | .ok ds e' => ∀ (vs : List V) (F' H' : Hp) (p' pv : Pth), Step F H p F' H' p' → SOk K Γ' F' H' e' σ p' → RepM K ms F' H' ds vs pv → Fresh F H p F' H' p' pv → Q vs H'
  | .ex x e' => PostX K W Γx F H p σ x e'
  | .bad => False
theorem PostM.step {K : PySem.W.Frag} {W : WX} {Γx Γ' ms : List Mode} {F H F1 H1 : Hp} {p p1 : Pth} {σ : Sl} {Q : List V → Hp → Prop} {r : Res (List D)} (s : Step F H p F1 H1 p1) (h : PostM K W Γx Γ' ms F H p σ Q r) : PostM K W Γx Γ' ms F1 H1 p1 σ Q r := by
  cases r with
  | ok d e => exact fun v F' H' p' pv s' k r f => h v F' H' p' pv (s.trans s') k r (f.step s)
  | ex x e => exact PostX.step s h
  | bad => exact h
theorem wpM {K : PySem.W.Frag} {W : WX} {Γx Γ' ms : List Mode} {σ : Sl} {Q : List V → Hp → Prop} : Wp K W Γx σ (fun F H p r => PostM K W Γx Γ' ms F H p σ Q r) := ⟨PostM.step, fun h => h, fun h => h⟩
/-- expressions from the left, each shared or owned -/
def MLO (X : Cx) (W : WX) (Γx Γ : List Mode) (es : List Expr) (f : M (List D)) (ms : List Mode) (Γ' : List Mode) : Prop :=
  ∃ t, PA X es t ∧ ∀ (σ : Sl) (F H : Hp) (p : Pth) (env : Env) (Q : List V → Hp → Prop), SOk X.K Γ F H env σ p → PostM X.K W Γx Γ' ms F H p σ Q (f env) → t σ H Q
section
variable {X : Cx} {W : WX} {S : SC} {Γx Γ Γ1 Γ2 Γ3 Γ' ms : List Mode} {a b c e : Expr} {es : List Expr} {f g h : M D} {fs : M (List D)} {m m1 m2 m3 : Mode} {pos px py pz pt pt2 : Pos} {kt k2 k : Nat}
theorem mlo_nil : MLO X W Γx Γ [] mNil [] Γ := ⟨_, pa_nil, fun σ F H p env Q s q => q [] F H p noP .refl s ⟨rfl, fun j m d v h _ _ => by simp at h⟩ .no⟩
theorem mlo_consO (ha : MO X W Γx Γ e f m Γ1) (hr : MLO X W Γx Γ1 es fs ms Γ2) (hs : starEach (e :: es) X.env = (false, eval e X.env) :: starEach es X.env := by rfl) : MLO X W Γx Γ (e :: es) (mCons f fs) (m :: ms) Γ2 := by
  obtain ⟨ta, pa, ha⟩ := ha
  obtain ⟨tr, pr, hr⟩ := hr
  refine ⟨_, pa_cons pa pr hs, fun σ F H p env Q s q => ?_⟩
  show ta σ H fun x H1 => tr σ H1 fun xs H2 => Q (x :: xs) H2
  refine ha σ F H p env _ s ?_
  unfold mCons at q
  cases hf : f env with
  | bad => rw [hf] at q; exact q
  | ex x e' => rw [hf] at q; exact q
  | ok d e1 =>
    rw [hf, Res.bind_ok] at q
    intro v F1 H1 p1 pv s1 k1 r1 f1
    refine hr σ F1 H1 p1 e1 _ k1 ?_
    cases hg : fs e1 with
    | bad => rw [hg] at q; exact q
    | ex x e' => rw [hg] at q; exact PostX.step s1 q
    | ok ds e2 =>
      rw [hg, Res.bind_ok] at q
      intro vs F2 H2 p2 pw s2 k2 r2 f2
      obtain ⟨fw, kp⟩ := f1.wait s2
      refine q (v :: vs) F2 H2 p2 (consP pv pw) (s1.trans s2) k2 ⟨by simp [r2.1], fun j m' d' v' h1 h2 h3 => ?_⟩ (Fresh.cons f1 s1 s2 f2)
      cases j with
      | zero =>
        simp at h1 h2 h3
        subst h1; subst h2; subst h3
        have e0 : (fun q => consP pv pw (0 :: q)) = pv := funext fun q => rfl
        rw [e0]
        exact Rep.frame _ r1 s2.same kp
      | succ j =>
        have e0 : (fun q => consP pv pw ((j + 1) :: q)) = fun q => pw (j :: q) := funext fun q => rfl
        rw [e0]
        exact r2.2 j m' d' v' (by simpa using h1) (by simpa using h2) (by simpa using h3)
theorem mlo_cons (ha : MZ X W Γx Γ e f Γ1) (hr : MLO X W Γx Γ1 es fs ms Γ2) (hs : starEach (e :: es) X.env = (false, eval e X.env) :: starEach es X.env := by rfl) : MLO X W Γx Γ (e :: es) (mCons f fs) (.fz :: ms) Γ2 := mlo_consO ha.o hr hs
/-- x, y = a, b -/
def mPar2 (i j : Nat) (fs : M (List D)) : M Fl := fun e => (fs e).bind fun ds e1 => match ds with
  | [a, b] => .ok .next ((e1.set i (some a)).set j (some b))
  | _ => .bad
theorem ms_par2 {x y : Str} (i j : Nat) (ha : MLO X W S.Γx Γ [a, b] fs [m1, m2] Γ1) (hij : i ≠ j := by decide) (hpi : S.pin i = false := by rfl) (hpj : S.pin j = false := by rfl) (hc : X.calm = true := by rfl) (hN : X.N.Nodup := by assumption) (hi : X.N[i]? = some x := by rfl) (hj : X.N[j]? = some y := by rfl)
    (hx : X.env.scope.names.lookup x = some .local := by rfl) (hy : X.env.scope.names.lookup y = some .local := by rfl) (hw : swappedStores [.Tuple [.Name x px, .Name y py] kt pt] (.Tuple [a, b] k2 pt2) X.env = pure (some [x, y]) := by rfl)
    (hs : swapsWithSole [.Tuple [.Name x px, .Name y py] kt pt] (.Tuple [a, b] k2 pt2) pos.line X.env = pure false := by rfl) :
    MS X W S Γ (.Assign [.Tuple [.Name x px, .Name y py] kt pt] (.Tuple [a, b] k2 pt2) pos) (mPar2 i j fs) ((Γ1.set i m1).set j m2) := by
  obtain ⟨t, pt, ha⟩ := ha
  refine ⟨_, ps_par hc hN hi hj hij hx hy pt hw hs, fun D σ F H p env s q => ?_⟩
  show t σ H fun vs H1 => ∃ v w, vs = [v, w] ∧ D.nx ((σ.set i (some v)).set j (some w)) H1
  refine ha σ F H p env _ s ?_
  unfold mPar2 at q
  cases hf : fs env with
  | bad => rw [hf] at q; exact q
  | ex x e' => rw [hf] at q; exact fun cls dd F' H' p' s k r => q σ cls dd F' H' p' .refl s k r
  | ok ds e1 =>
    rw [hf, Res.bind_ok] at q
    intro vs F1 H1 p1 pv s1 k1 r1 f1
    split at q
    · rename_i d1 d2
      obtain ⟨hl, r1⟩ := r1
      match vs, hl, r1 with
      | [v1, v2], _, r1 =>
        have ra := r1 0 m1 d1 v1 rfl rfl rfl
        have rb := r1 1 m2 d2 v2 rfl rfl rfl
        refine ⟨v1, v2, rfl, ?_⟩
        have ka := k1.setO (i := i) ra (f1.sub 0)
        have fb := f1.put2 (i := i) (j := 0) (l := 1) (by decide)
        have kb := ka.setO (i := j) rb fb
        exact q _ F1 H1 _ ((PinOk.set hpi).trans (.set hpj)) ((s1.put (f1.sub 0)).put fb) kb
    · exact q.elim
def mPar3 (i j l : Nat) (fs : M (List D)) : M Fl := fun e => (fs e).bind fun ds e1 => match ds with
  | [a, b, c] => .ok .next (((e1.set i (some a)).set j (some b)).set l (some c))
  | _ => .bad
theorem ms_par3 {x y z : Str} (i j l : Nat) (ha : MLO X W S.Γx Γ [a, b, c] fs [m1, m2, m3] Γ1) (hij : i ≠ j := by decide) (hil : i ≠ l := by decide) (hjl : j ≠ l := by decide) (hpi : S.pin i = false := by rfl) (hpj : S.pin j = false := by rfl) (hpl : S.pin l = false := by rfl) (hc : X.calm = true := by rfl) (hN : X.N.Nodup := by assumption)
    (hi : X.N[i]? = some x := by rfl) (hj : X.N[j]? = some y := by rfl) (hl : X.N[l]? = some z := by rfl)
    (hx : X.env.scope.names.lookup x = some .local := by rfl) (hy : X.env.scope.names.lookup y = some .local := by rfl) (hz : X.env.scope.names.lookup z = some .local := by rfl) (hw : swappedStores [.Tuple [.Name x px, .Name y py, .Name z pz] kt pt] (.Tuple [a, b, c] k2 pt2) X.env = pure (some [x, y, z]) := by rfl)
    (hs : swapsWithSole [.Tuple [.Name x px, .Name y py, .Name z pz] kt pt] (.Tuple [a, b, c] k2 pt2) pos.line X.env = pure false := by rfl) :
    MS X W S Γ (.Assign [.Tuple [.Name x px, .Name y py, .Name z pz] kt pt] (.Tuple [a, b, c] k2 pt2) pos) (mPar3 i j l fs) (((Γ1.set i m1).set j m2).set l m3) := by
  obtain ⟨t, pt, ha⟩ := ha
  refine ⟨_, ps_par3 hc hN hi hj hl hij hil hjl hx hy hz pt hw hs, fun D σ F H p env s q => ?_⟩
  show t σ H fun vs H1 => ∃ v1 v2 v3, vs = [v1, v2, v3] ∧ D.nx (((σ.set i (some v1)).set j (some v2)).set l (some v3)) H1
  refine ha σ F H p env _ s ?_
  unfold mPar3 at q
  cases hf : fs env with
  | bad => rw [hf] at q; exact q
  | ex x e' => rw [hf] at q; exact fun cls dd F' H' p' s k r => q σ cls dd F' H' p' .refl s k r
  | ok ds e1 =>
    rw [hf, Res.bind_ok] at q
    intro vs F1 H1 p1 pv s1 k1 r1 f1
    split at q
    · rename_i d1 d2 d3
      obtain ⟨hl, r1⟩ := r1
      match vs, hl, r1 with
      | [v1, v2, v3], _, r1 =>
        have ra := r1 0 m1 d1 v1 rfl rfl rfl
        have rb := r1 1 m2 d2 v2 rfl rfl rfl
        have rc := r1 2 m3 d3 v3 rfl rfl rfl
        refine ⟨v1, v2, v3, rfl, ?_⟩
        have ka := k1.setO (i := i) ra (f1.sub 0)
        have fb := f1.put2 (i := i) (j := 0) (l := 1) (by decide)
        have kb := ka.setO (i := j) rb fb
        have fc := f1.put3 (i := i) (i2 := j) (j := 0) (l := 1) (n := 2) (by decide) (by decide)
        have kc := kb.setO (i := l) rc fc
        exact q _ F1 H1 _ (((PinOk.set hpi).trans (.set hpj)).trans (.set hpl)) (((s1.put (f1.sub 0)).put fb).put fc) kc
    · exact q.elim
/-! ### new dicts -/
theorem mo_dnewK : MO X W Γx Γ (.Dict [] [] pos) (mC (.dct [])) (.dK .fz) Γ :=
  ⟨_, pe_dnewK, fun σ F H p env Q s q a ha => q (.ref a) F _ p (rootP a) (Step.newO ha) (s.newO ha) ⟨a, [], [], rfl, rfl, rfl, upd_same, rfl, fun j _ _ _ _ h => by simp at h, fun j _ _ _ _ h => by simp at h⟩ (.root s ha)⟩
theorem mo_dnewT : MO X W Γx Γ (.Dict [] [] pos) (mC (.dcT [])) (.dT .fz) Γ :=
  ⟨_, pe_dnewT, fun σ F H p env Q s q a ha => q (.ref a) F _ p (rootP a) (Step.newO ha) (s.newO ha) ⟨a, [], [], rfl, rfl, rfl, upd_same, rfl, fun j _ _ _ _ h => by simp at h, fun j _ _ _ _ h => by simp at h⟩ (.root s ha)⟩
end
/-- {e: e2} with a tuple as its key -/
def tDisp1T (tk tv : TE) : TE := fun σ H Q => ∀ p, H p = none → tk σ (upd H p (.dT [])) fun x H1 => tv σ H1 fun y H2 => H2 p = some (.dT []) ∧ ∃ k b, x = .ref b ∧ H2 b = some (.tup (List.map kV k)) ∧ Q (.ref p) (upd H2 p (.dT [(k, y)]))
theorem pe_disp1T {X : Cx} {pos : Pos} {a b : Expr} {tk tv : TE} (hu : X.A.units + 1 < cLine) (ha : PE X a tk) (hb : PE X b tv) (hshape : (evalEachOpt [some a] X.env).zip ((evalEach [b] X.env).map fun v => do let x ← v; standAt pos; pure x) = (pairTrees [some a] [b] X.env pos).map fun p => (some p.1, p.2) := by rfl)
    (h0 : (pairTrees [some a] [b] X.env pos).length = 1 := by rfl) : PE X (.Dict [some a] [b] pos) (tDisp1T tk tv) := by
  refine ⟨fun pins s σ H Q I q => ?_⟩
  have hn := I.hok.fresh (Nat.le_refl s.heap.objs.size)
  have I1 := I.laid (a := s.heap.objs.size) (o := .dT []) (h' := s.heap.push { cls := .type "dict", data := .dict #[] }) (t' := s.toks) (fun _ _ q => Heap.get?_push_of_some _ q) (Nat.le_refl _) (dt_empty s.heap I.big)
  rw [arm_eval_Dict, hshape, dictDisplay_pairs (pairTrees [some a] [b] X.env pos) (fun z => by rw [z] at h0; cases h0) (by rw [h0]; decide)]
  refine wpAny_bind (wpAny_standAt (wpAny_bind (wpAny_subDictH (knd := tupleKind (mixKind X.prog X.w)) (show X.A.units < cLine by omega) (by rw [h0]; decide) ?_)))
  refine pairTrees_cons_walk (thn (ha.run pins _ σ _ _ I1 (q _ hn)) fun u s1 ⟨x, H1, I2, rx, q1⟩ => thn (hb.run pins s1 σ H1 _ I2 q1) fun w2 s2 ⟨y, H2, I3, ry, hp, k, bb, ex, hbb, q2⟩ => pairTrees_nil_walk ?_)
  subst ex
  cases (show u = Value.ref bb from rx)
  obtain ⟨z, hd, xs, rel, dd⟩ := dt_of I3.hok hp
  cases rel
  refine ⟨[(k, bb, w2)], ⟨rfl, rfl, key_of I3.hok hbb, trivial⟩, dd, fun h' tk dd' hs => wpAny_pure ⟨.ref s.heap.objs.size, _, ?_, rfl, q2⟩⟩
  have he : ∃ q, h'.get? s.heap.objs.size = some q := let ⟨q, _, _, hq, _⟩ := dd'; ⟨q, hq⟩
  have hne : bb ≠ s.heap.objs.size := fun e => by subst e; rw [hp] at hbb; cases hbb
  have es : storedAllH ([] : List (List Key × Addr × Value)) [(k, bb, w2)] = [(k, bb, w2)] := rfl
  rw [es] at dd'
  obtain ⟨o, ents, ep, z1, z2, z3, z4, z5, z6⟩ := dd'
  refine d_write (t' := tk) I3 (by rw [hp]; exact True.intro) hs he ⟨by show 1 ≤ sizeLine; decide, hd, [(k, bb, w2)], .cons ⟨rfl, ?_, ry⟩ .nil, o, ents, ep, z1, z2, z3, z4, z6⟩
  rw [upd_ne hne]; exact hbb
section
variable {X : Cx} {W : WX} {S : SC} {Γx Γ Γ1 Γ2 Γ3 Γ' ms : List Mode} {a b c e : Expr} {es : List Expr} {f g h : M D} {pos : Pos} {k : Nat}
def mDisp1T (f g : M D) : M D := fun e => (f e).bind fun x e1 => (g e1).bind fun y e2 => if (keyT x).isSome then .ok (.dcT [(x, y)]) e2 else .bad
def mDisp1K (f g : M D) : M D := fun e => (f e).bind fun x e1 => (g e1).bind fun y e2 => if (keyK x).isSome then .ok (.dct [(x, y)]) e2 else .bad
theorem keep_new {F1 H1 F2 H2 : Hp} {p1 p2 : Pth} {a : Addr} {o : HO} (t : Step F1 H1 p1 F2 H2 p2) (h : H1 a = some o) (hF : F1 a = none) (hp : ∀ q, p1 q ≠ some a) : H2 a = some o ∧ F2 a = none ∧ ∀ q, p2 q ≠ some a := by
  refine ⟨t.keep _ _ h hp, ?_, fun q hq => ?_⟩
  · cases z : F2 a with
    | none => rfl
    | some o =>
      exfalso
      rcases t.frz a (by rw [z]; simp) with z | ⟨q0, z⟩ | z
      · exact z hF
      · exact hp q0 z
      · rw [h] at z; cases z
  · rcases t.own q _ hq with ⟨q0, z⟩ | z
    · exact hp q0 z
    · rw [h] at z; cases z
theorem Step.putNew {F H F2 H2 : Hp} {p p2 : Pth} {a : Addr} {o : HO} (s : Step F H p F2 H2 p2) (hH : H a = none) : Step F H p F2 (upd H2 a o) p2 :=
  ⟨s.same, fun b u h n => by rw [upd_ne (ne_of_none h hH)]; exact s.keep b u h n, s.own, s.frz⟩
theorem SOk.putNew {K : PySem.W.Frag} {Γ : List Mode} {F H : Hp} {env : Env} {σ : Sl} {p : Pth} {a : Addr} {o : HO} (k : SOk K Γ F H env σ p) (hF : F a = Option.none) (hp : ∀ q, p q ≠ some a) : SOk K Γ F (upd H a o) env σ p := by
  refine ⟨fun b u h => ?_, k.inj, fun q b h => ⟨(k.off q b h).1, ?_⟩, k.len, fun i m d hm hd => ?_⟩
  · rw [upd_ne fun e => by subst e; rw [hF] at h; cases h]; exact k.same _ _ h
  · rw [upd_ne fun e => hp q (by rw [← e]; exact h)]; exact (k.off q b h).2
  · rcases k.slot i m d hm hd with z | ⟨v, z1, z2⟩
    · exact .inl z
    · exact .inr ⟨v, z1, Rep.frame m z2 (fun _ _ h => h) fun q b u hq hu => by rw [upd_ne fun e => hp _ (by rw [← e]; exact hq)]; exact hu⟩
theorem disp_core {α : Type} {tk tv : TE} {σ : Sl} {F H : Hp} {p : Pth} {env : Env} {o0 : HO} {P : D → D → Env → Res D} {Q : V → Hp → Prop} {m : Mode} {R : Addr → V → V → Hp → Prop}
    (hf : ∀ (σ : Sl) (F H : Hp) (p : Pth) (env : Env) (Q : V → Hp → Prop), SOk X.K Γ F H env σ p → PostZ X.K W Γx Γ1 F H p σ Q (f env) → tk σ H Q)
    (hg : ∀ (σ : Sl) (F H : Hp) (p : Pth) (env : Env) (Q : V → Hp → Prop), SOk X.K Γ1 F H env σ p → PostZ X.K W Γx Γ2 F H p σ Q (g env) → tv σ H Q)
    (s : SOk X.K Γ F H env σ p) (q : PostO X.K W Γx Γ2 m F H p σ Q ((f env).bind fun x e1 => (g e1).bind fun y e2 => P x y e2)) {l : Addr} (hl : H l = none)
    (hk : ∀ x y e2 v u F2 H2 p2, Step F H p F2 H2 p2 → SOk X.K Γ2 F2 H2 e2 σ p2 → RepZ X.K F2 x v → RepZ X.K F2 y u → H2 l = some o0 → F2 l = none → (∀ q, p2 q ≠ some l) → PostO X.K W Γx Γ2 m F H p σ Q (P x y e2) → R l v u H2) :
    tk σ (upd H l o0) fun v H1 => tv σ H1 fun u H2 => R l v u H2 := by
  have k0 : SOk X.K Γ F (upd H l o0) env σ p := s.newO hl
  have s0 : Step F H p F (upd H l o0) p := Step.newO hl
  have hF : F l = none := Same.not s.same hl
  have hp : ∀ q, p q ≠ some l := fun q h => (s.off q l h).2 hl
  refine hf σ F _ p env _ k0 ?_
  cases h1 : f env with
  | bad => rw [h1] at q; exact q
  | ex x e' => rw [h1] at q; exact PostX.step s0 q
  | ok x e1 =>
    rw [h1, Res.bind_ok] at q
    intro v F1 H1 p1 s1 k1 r1
    obtain ⟨z1, z2, z3⟩ := keep_new s1 upd_same hF hp
    refine hg σ F1 H1 p1 e1 _ k1 ?_
    cases h2 : g e1 with
    | bad => rw [h2] at q; exact q
    | ex x e' => rw [h2] at q; exact PostX.step (s0.trans s1) q
    | ok y e2 =>
      rw [h2, Res.bind_ok] at q
      intro u F2 H2 p2 s2 k2 r2
      obtain ⟨w1, w2, w3⟩ := keep_new s2 z1 z2 z3
      exact hk x y e2 v u F2 H2 p2 ((s0.trans s1).trans s2) k2 (r1.mono s2.same) r2 w1 w2 w3 q
theorem fresh_root {K : PySem.W.Frag} {F H F2 H2 : Hp} {p p2 : Pth} {l : Addr} {o : HO} (hl : H l = none) (w2 : F2 l = none) (w3 : ∀ q, p2 q ≠ some l) : Fresh F H p F2 (upd H2 l o) p2 (rootP l) := by
  refine ⟨fun q q' b h h' => by rw [(rootP_inv h).1, (rootP_inv h').1], fun q q' b h h' => w3 q' ((rootP_inv h).2 ▸ h'), fun q b h => ?_, fun q b h => .inr ((rootP_inv h).2 ▸ hl)⟩
  rw [(rootP_inv h).2]; exact ⟨w2, by rw [upd_same]; simp⟩
theorem mo_disp1T (hr : Room k X.A) (hf : MZ X W Γx Γ a f Γ1) (hg : MZ X W Γx Γ1 b g Γ2) (hshape : (evalEachOpt [some a] X.env).zip ((evalEach [b] X.env).map fun v => do let x ← v; standAt pos; pure x) = (pairTrees [some a] [b] X.env pos).map fun p => (some p.1, p.2) := by rfl)
    (h0 : (pairTrees [some a] [b] X.env pos).length = 1 := by rfl) : MO X W Γx Γ (.Dict [some a] [b] pos) (mDisp1T f g) (.dT .fz) Γ2 := by
  obtain ⟨tk, pk, hf⟩ := hf
  obtain ⟨tv, pv, hg⟩ := hg
  refine ⟨_, pe_disp1T (by have := hr.units; omega) pk pv hshape h0, fun σ F H p env Q s q l hl => ?_⟩
  refine disp_core (α := Unit) (R := fun l x y H2 => H2 l = some (.dT []) ∧ ∃ k b, x = .ref b ∧ H2 b = some (.tup (List.map kV k)) ∧ Q (.ref l) (upd H2 l (.dT [(k, y)]))) hf hg s q hl fun x y e2 v u F2 H2 p2 s2 k2 r1 r2 w1 w2 w3 q2 => ?_
  split at q2
  · rename_i hk
    obtain ⟨k', hk⟩ := Option.isSome_iff_exists.mp hk
    obtain ⟨b', rfl, hb⟩ := repZ_keyT r1 hk
    have dk : DKs keyT (RepZ X.K F2) [(x, y)] [(k', u)] := ⟨hk, r2, trivial⟩
    exact ⟨w1, k', b', rfl, k2.same _ _ hb, q2 (.ref l) F2 _ p2 (rootP l) (s2.putNew hl) (k2.putNew w2 w3) ⟨l, _, _, rfl, rfl, rfl, upd_same, dk.len, dk.keys, dk.vals⟩ (fresh_root (K := X.K) hl w2 w3)⟩
  · exact q2.elim
theorem mo_disp1K (hf : MZ X W Γx Γ a f Γ1) (hg : MZ X W Γx Γ1 b g Γ2) : MO X W Γx Γ (.Dict [some a] [b] pos) (mDisp1K f g) (.dK .fz) Γ2 := by
  obtain ⟨tk, pk, hf⟩ := hf
  obtain ⟨tv, pv, hg⟩ := hg
  refine ⟨_, pe_disp (pps_cons pk pv pps_nil) rfl rfl (by simp) (by simp), fun σ F H p env Q s q l hl => ?_⟩
  show tk σ (upd H l (.dK [])) fun x H1 => tv σ H1 fun y H2 => H2 l = some (.dK []) ∧ ∃ kvs : List (Key × V), [(x, y)] = kvs.map (fun kv => (kV kv.1, kv.2)) ∧ kvs.length ≤ 15 ∧ Q (.ref l) (upd H2 l (.dK (mergeK [] kvs)))
  refine disp_core (α := Unit) (R := fun l x y H2 => H2 l = some (.dK []) ∧ ∃ kvs : List (Key × V), [(x, y)] = kvs.map (fun kv => (kV kv.1, kv.2)) ∧ kvs.length ≤ 15 ∧ Q (.ref l) (upd H2 l (.dK (mergeK [] kvs)))) hf hg s q hl fun x y e2 v u F2 H2 p2 s2 k2 r1 r2 w1 w2 w3 q2 => ?_
  split at q2
  · rename_i hk
    obtain ⟨k', hk⟩ := Option.isSome_iff_exists.mp hk
    have dk : DKs keyK (RepZ X.K F2) [(x, y)] [(k', u)] := ⟨hk, r2, trivial⟩
    exact ⟨w1, [(k', u)], by rw [repZ_key r1 hk]; rfl, by simp, q2 (.ref l) F2 _ p2 (rootP l) (s2.putNew hl) (k2.putNew w2 w3) ⟨l, _, _, rfl, rfl, rfl, upd_same, dk.len, dk.keys, dk.vals⟩ (fresh_root (K := X.K) hl w2 w3)⟩
  · exact q2.elim
end
end VM
/-! VM, part 16: what is known of the module: defs, constants, exception classes; the Hook. -/
namespace VM
open PySem PySem.Spec PyProof.Rows L2

/-- a def of the module, by its name -/
structure CallM (P : Program) (w : World) (K : PySem.W.Frag) (mg : Str → Option Value) (base : Heap) (k : Nat) (x : Str) (pm : List Mode) (rm : Mode) (Fm : List D → FRes) : Prop where
  ex : ∃ (fa : Addr) (fd : FuncData) (ps : List Str), FnM P w K mg base k fa fd ps pm rm Fm ∧ mg x = some (.ref fa) ∧ PySem.W.keepIn K (.ref fa) = true ∧ Binds K fd ps []
theorem fun_ofD {K : PySem.W.Frag} {x qual : Str} {st : Stmt} {f : Addr} {fd : FuncData} (F : FunD K x qual (defArgs st) (defBody st) (defScope st) [] [] f fd) : Fun K x qual st f fd := by
  obtain ⟨⟨oc, od, dV, kV, doc, pm, an, cdv, ct, osl, h1, h2, h3, h4, h5⟩, kp⟩ := F
  rcases h4 with ⟨_, h4⟩ | ⟨h4, _⟩
  · subst h4; exact ⟨⟨oc, od, kV, doc, pm, an, cdv, ct, osl, h1, h2, h3⟩, kp⟩
  · exact (h4 rfl).elim
section
variable {X : Cx} {W : WX} {Γx Γ Γ1 Γ2 Γ3 Γ' : List Mode} {e : Expr} {es : List Expr} {f g : M D} {args : List Arg} {pos : Pos}
theorem mo_callM {x : Str} {k : Nat} {pm : List Mode} {rm : Mode} {Fm : List D → FRes} {p : Pos} (C : CallM X.prog X.w X.K X.mg X.base k x pm rm Fm) (hr : Room k X.A) (tk : Takes X W) (ha : MA X W Γx Γ (e :: es) args Γ2)
    (hA : ArgsM Γ2 args pm := by repeat (first | exact trivial | refine ⟨rfl, ?_⟩)) (hnd : (slotsOf args).Nodup := by decide) (hle : MLe Γ2 Γx := by repeat (first | exact MLe.nil | apply MLe.drop | apply MLe.same))
    (hg : Gl X x := by rfl) (hdb : (x == ("__debug__" : Str)) = false := by decide) (he : starEach (e :: es) X.env = (false, eval e X.env) :: starEach es X.env := by rfl) (hpl : (backTo pos (starEach es X.env)).any (·.1) = false := by rfl) :
    MO X W Γx Γ (.Call (.Name x p) (e :: es) [] pos) (mCall Fm args) rm Γ2 := by
  obtain ⟨fa, fd, ps, FN, hm, hk, hb⟩ := C.ex
  exact mo_call FN hr tk hm hk hb ha hA hnd hle hg hdb he hpl
end
/-! ### constants -/
mutual
/-- the value stands for this tuple of the module -/
def kRep (K : PySem.W.Frag) : D → Value → Bool
  | .non, u => He.relB .non u
  | .bl b, u => He.relB (.bl b) u
  | .int i, u => He.relB (.int i) u
  | .str x, u => He.relB (.str x) u
  | .ktp ds, u => (match u with
    | .ref a => (match K.lookup a with
      | some ⟨.type c, _, .seq its _, _⟩ => decide (c = "tuple") && (decide (its.size ≤ sizeLine) && kReps K ds its.toList)
      | _ => false)
    | _ => false)
  | _, _ => false
def kReps (K : PySem.W.Frag) : List D → List Value → Bool
  | [], [] => true
  | d :: ds, u :: us => kRep K d u && kReps K ds us
  | _, _ => false
end
mutual
theorem kRep_ok {K : PySem.W.Frag} : ∀ {d : D} {u : Value}, kRep K d u = true → ∃ v, RelV v u ∧ ∀ F, RepZ K F d v
  | .non, u, h => by simp only [kRep] at h; exact ⟨.non, He.relB_ok h, fun _ => .non⟩
  | .bl b, u, h => by simp only [kRep] at h; exact ⟨.bl b, He.relB_ok h, fun _ => .bl b⟩
  | .int b, u, h => by simp only [kRep] at h; exact ⟨.int b, He.relB_ok h, fun _ => .int b⟩
  | .str b, u, h => by simp only [kRep] at h; exact ⟨.str b, He.relB_ok h, fun _ => .str b⟩
  | .ktp ds, u, h => by
    simp only [kRep] at h
    split at h
    · rename_i a
      split at h
      · rename_i c dd its n sl hl
        simp only [Bool.and_eq_true, decide_eq_true_eq] at h
        obtain ⟨h1, h2, h3⟩ := h
        obtain ⟨vs, h4, h5⟩ := kReps_ok h3
        exact ⟨.ref a, rfl, fun F => .ktp (.inr ⟨_, its, n, hl, by rw [h1], rfl, h2, h4⟩) (h5 F).1 (h5 F).2⟩
      · cases h
    · cases h
  | .tup _, u, h => by simp [kRep] at h
  | .lst _, u, h => by simp [kRep] at h
  | .dct _, u, h => by simp [kRep] at h
  | .dcT _, u, h => by simp [kRep] at h
  | .set _, u, h => by simp [kRep] at h
  | .scr _, u, h => by simp [kRep] at h
  | .ins _ _, u, h => by simp [kRep] at h
theorem kReps_ok {K : PySem.W.Frag} : ∀ {ds : List D} {us : List Value}, kReps K ds us = true → ∃ vs, Vals vs us ∧ ∀ F, RepZs K F ds vs
  | [], [], _ => ⟨[], .nil, fun _ => .nil⟩
  | [], _ :: _, h => by simp [kReps] at h
  | _ :: _, [], h => by simp [kReps] at h
  | d :: ds, u :: us, h => by
    simp only [kReps, Bool.and_eq_true] at h
    obtain ⟨v, h1, h2⟩ := kRep_ok h.1
    obtain ⟨vs, h3, h4⟩ := kReps_ok h.2
    exact ⟨v :: vs, .cons h1 h3, fun F => .cons (h2 F) (h4 F)⟩
end
/-- the module's name x is this constant -/
def conK (K : PySem.W.Frag) (x : Str) (d : D) : Bool := match PySem.W.nsIn K mainGlobals x with
  | some (some u) => kRep K d u
  | _ => false
structure ConM (K : PySem.W.Frag) (mg : Str → Option Value) (x : Str) (d : D) : Prop where
  ex : ∃ (u : Value) (v : V), mg x = some u ∧ RelV v u ∧ ∀ F, RepZ K F d v
theorem conK_ok {K : PySem.W.Frag} {h : Heap} {mg : Str → Option Value} (X : K.In h) (G : h.Ns mainGlobals mg) {x : Str} {d : D} (c : conK K x d = true) : ConM K mg x d := by
  unfold conK at c
  split at c
  · rename_i u hu
    obtain ⟨v, h1, h2⟩ := kRep_ok c
    exact ⟨u, v, PySem.W.mg_of X G hu, h1, h2⟩
  · cases c
section
variable {X : Cx} {W : WX} {Γx Γ Γ1 Γ2 Γ3 Γ' : List Mode} {pos : Pos}
theorem mz_con {x : Str} {d : D} (C : ConM X.K X.mg x d) (hg : Gl X x := by rfl) (hd : (x == ("__debug__" : Str)) = false := by decide) : MZ X W Γx Γ (.Name x pos) (mC d) Γ := by
  obtain ⟨u, v, h1, h2, h3⟩ := C.ex
  exact mz_glob h1 h2 h3 hg hd
end
/-! ### exception classes -/
def isSomeS : Option α → Bool
  | some _ => true
  | none => false
def clsCell (K : PySem.W.Frag) (fI : Addr) : Addr := match K.lookup fI with
  | some ⟨_, _, .func fd, _⟩ => (match fd.closure with
    | [(_, c)] => c
    | _ => 0)
  | _ => 0
abbrev ExF : Type := Option (Str × Str × Arguments × FuncBody × Scope × Addr × List Str × Addr)
def exF (K : PySem.W.Frag) (f : Addr) : ExF := match K.lookup f with
  | some ⟨_, _, .func fd, _⟩ => some (fd.name, fd.qualname, fd.params, fd.body, fd.scope, fd.globals, fd.closure.map (·.1), fd.builtins)
  | _ => none
def exFv (st : Stmt) : ExF := some ("__init__", "CellError.__init__", defArgs st, .stmts (defBody st), defScope st, mainGlobals, ["__class__"], builtinsNs)
/-- what is looked at of the class x, whose __init__ the class y has -/
def exCk (prog : Program) (K : PySem.W.Frag) (x y wh : Str) : Bool :=
  PySem.W.excInitIn K (He.ga K x) VM.exB "Exception.__new__" && (PySem.W.hasDictIn K (He.ga K x) && (He.eqO (PySem.W.findIn K (.ref (He.ga K x)) "__init__") (some (some (.ref (He.ma K (He.ga K y) "__init__")))) &&
  (decide (PySem.W.typeIn K (.ref (He.ma K (He.ga K y) "__init__")) = some (.type "function")) && (decide (PySem.W.mroIn K (He.ga K x) (.ref (He.ga K y)) = some true) && (isSomeS (PySem.W.clsIn K (He.ga K y)) &&
  (He.eqO (PySem.W.ks_superIn K (He.ga K x) (He.ga K y) "__init__") (some (some (.builtin "Exception.__init__"))) && (decide (PySem.W.subIn K (.ref (He.ga K x)) (.type "Exception") = some true) && (decide (PySem.W.subIn K (.ref (He.ga K x)) (.type "BaseException") = some true) &&
  (decide (PySem.W.typeIn K (.ref (He.ga K x)) = some (.type "type")) && (PySem.W.keepIn K (.ref (He.ga K x)) && (He.eqO (PySem.W.nsIn K cStatics "thirdparty.any") (some none) && (He.eqO (PySem.W.findIn K (.ref (He.ga K x)) wh) (some none) &&
  (PySem.W.excOver K (He.ga K x) VM.exB && He.eqO (PySem.W.findIn K (.ref (He.ga K x)) "__setattr__") (some (some (.builtin "object.__setattr__"))))))))))))))))
/-- .. of that __init__ -/
def exI (prog : Program) (K : PySem.W.Frag) (y : Str) : Bool :=
  (match K.lookup (He.ma K (He.ga K y) "__init__") with
    | some ⟨_, _, .func fd, _⟩ => PySem.W.codeIn K fd.code "CellError.__init__" && (dvNone fd.defaults && (match fd.code with
      | .ref cda => (match K.lookup cda with
        | some ⟨_, _, .fields vs, _⟩ => (match (vs[2]? : Option Value) with
          | some (Value.str file _) => ((prog.main.file : Str) == file)
          | _ => false)
        | _ => false)
      | _ => false))
    | _ => false) && (match K.lookup (clsCell K (He.ma K (He.ga K y) "__init__")) with
    | some ⟨_, _, .cell (some (.ref D)), _⟩ => decide (D = He.ga K y)
    | _ => false)
where dvNone : Value → Bool
  | .none => true
  | _ => false
theorem ba {a b : Bool} (h : (a && b) = true) : a = true ∧ b = true := by simpa using h
theorem exC_of {K : PySem.W.Frag} {prog : Program} {x y wh : Str} {st : Stmt} (h1 : exCk prog K x y wh = true) (h2 : exI prog K y = true) (h3 : exF K (He.ma K (He.ga K y) "__init__") = exFv st) :
    ExC K prog (He.ga K x) (He.ga K y) (He.ma K (He.ga K y) "__init__") (clsCell K (He.ma K (He.ga K y) "__init__")) st wh := by
  unfold exCk at h1
  obtain ⟨a1, h1⟩ := ba h1; obtain ⟨a2, h1⟩ := ba h1; obtain ⟨a3, h1⟩ := ba h1; obtain ⟨a4, h1⟩ := ba h1; obtain ⟨a5, h1⟩ := ba h1
  obtain ⟨a6, h1⟩ := ba h1; obtain ⟨a7, h1⟩ := ba h1; obtain ⟨a8, h1⟩ := ba h1; obtain ⟨a9, h1⟩ := ba h1; obtain ⟨a10, h1⟩ := ba h1
  obtain ⟨a11, h1⟩ := ba h1; obtain ⟨a12, h1⟩ := ba h1; obtain ⟨a13, h1⟩ := ba h1; obtain ⟨a14, a15⟩ := ba h1
  unfold exI at h2
  obtain ⟨b1, b2⟩ := ba h2
  refine ⟨a1, a2, He.eqO_ok a3, of_decide_eq_true a4, of_decide_eq_true a5, ?_, He.eqO_ok a7, of_decide_eq_true a8, of_decide_eq_true a9, of_decide_eq_true a10, a11, He.eqO_ok a12, He.eqO_ok a13, a14, He.eqO_ok a15, ?_, ?_⟩
  · unfold isSomeS at a6
    split at a6
    · exact ⟨_, by assumption⟩
    · cases a6
  · unfold exF at h3
    have hcc : clsCell K (He.ma K (He.ga K y) "__init__") = clsCell K (He.ma K (He.ga K y) "__init__") := rfl
    unfold clsCell
    cases q : K.lookup (He.ma K (He.ga K y) "__init__") with
    | none => rw [q] at h3; cases h3
    | some o =>
      obtain ⟨oc, od, dt, osl⟩ := o
      rw [q] at h3 b1
      cases dt with
      | func fd =>
        obtain ⟨n1, n2, n3, n4, n5, n6, n7, n8, n9, n10, n11, n12, n13, n14, n15⟩ := fd
        simp only [exFv, Option.some.injEq, Prod.mk.injEq] at h3
        obtain ⟨e1, e2, e3, e4, e5, e6, e7, e8⟩ := h3
        obtain ⟨c1, b3⟩ := ba b1
        obtain ⟨c2, b4⟩ := ba b3
        clear b1 b3
        match n7, e7 with
        | [(s, c)], e7 =>
          simp only [List.map_cons, List.map_nil, List.cons.injEq, and_true] at e7
          subst e7
          subst e1 e2 e3 e4 e5 e6 e8
          cases n8 <;> simp only [exI.dvNone, Bool.false_eq_true] at c2
          refine ⟨oc, od, n9, n10, n11, n12, n13, n14, osl, rfl, c1, ?_⟩
          cases n13 <;> try cases b4
          rename_i cda
          dsimp only at b4
          split at b4
          · rename_i u1 u2 vs u3 hl
            split at b4
            · rename_i file tf hv
              exact ⟨cda, u1, u2, vs, u3, file, tf, rfl, hl, hv, b4⟩
            · cases b4
          · cases b4
      | _ => cases h3
  · split at b2
    · rename_i u1 u2 dd u3 hl
      rw [of_decide_eq_true b2] at hl
      exact ⟨u1, u2, u3, hl⟩
    · cases b2
/-! ### the Hook -/
def asV (g : Addr → Option Obj) : Nat → List Addr
  | 0 => [mainGlobals, cStatics]
  | n + 1 => He.growD g (asV g n)
abbrev AlV : Type := He.AlD × List ExF × Bool
def obsK (fa : List He.Fa) (fn : List He.DefD) (ei : List Str) (ex : PySem.W.Frag → Bool) (K : PySem.W.Frag) : AlV := (He.obsD fa fn K, ei.map fun y => exF K (He.ma K (He.ga K y) "__init__"), ex K)
def valK (fn : List He.DefD) (es : List Stmt) : AlV := (He.valD fn, es.map exFv, true)
def SaysV (fa : List He.Fa) (fn : List He.DefD) (ei : List Str) (es : List Stmt) (ex : PySem.W.Frag → Bool) (K : PySem.W.Frag) : Prop := obsK fa fn ei ex K = valK fn es
def obsVG (n : Nat) (fa : List He.Fa) (fn : List He.DefD) (ei : List Str) (ex : PySem.W.Frag → Bool) (g : Addr → Option Obj) : AlV := obsK fa fn ei ex (He.frG g (asV g n))
def hookV (n : Nat) (fa : List He.Fa) (fn : List He.DefD) (ei : List Str) (es : List Stmt) (ex : PySem.W.Frag → Bool) : PySem.W.Hook where
  α := AlV
  obs := fun s => obsVG n fa fn ei ex s.heap.get?
  val := fun _ => valK fn es
  says := fun _ h => ∃ K : PySem.W.Frag, K.In h ∧ SaysV fa fn ei es ex K
  of := fun _ _ e => ⟨_, He.frG_in, e⟩
  keeps := fun _ _ _ ⟨K, hK, c⟩ k => ⟨K, PySem.W.Frag.In.keeps hK k, c⟩
theorem obsVG_eq {n : Nat} {fa : List He.Fa} {fn : List He.DefD} {ei : List Str} {es : List Stmt} {ex : PySem.W.Frag → Bool} {g : Addr → Option Obj} {s : Shared} (h : ∀ a, g a = s.heap.get? a) : obsVG n fa fn ei ex g = (hookV n fa fn ei es ex).obs s := by
  have : g = s.heap.get? := funext h
  rw [this]; rfl
section
variable {fa : List He.Fa} {fn : List He.DefD} {ei : List Str} {es : List Stmt} {ex : PySem.W.Frag → Bool} {K : PySem.W.Frag}
theorem SaysV.d (c : SaysV fa fn ei es ex K) : He.SaysD fa fn K := congrArg (fun z : AlV => z.1) c
theorem SaysV.more (c : SaysV fa fn ei es ex K) : ex K = true := congrArg (fun z : AlV => z.2.2) c
theorem SaysV.init (c : SaysV fa fn ei es ex K) : (ei.map fun y => exF K (He.ma K (He.ga K y) "__init__")) = es.map exFv := congrArg (fun z : AlV => z.2.1) c
end
end VM
/-! VM, part 17: what the printed walks lean on. -/
namespace VM
open PySem PySem.Spec PyProof.Rows L2
section
variable {P : Program} {w : World} {K : PySem.W.Frag} {mg : Str → Option Value} {base : Heap} {N : List Str} {qual : Str} {scope : Scope} {f : Addr} {cd : Value} {A : Around} {outer : List PySem.Env} {s : Shared} {H : Hp} {E : XK}
theorem tkC : Takes (cxOf (L2.CX P w) P w K mg base N qual scope f cd A outer s H E) (fun cls d _ H => E cls d H) := takes_of rfl rfl rfl rfl
theorem poC : PassesOwn (model P w) (cxOf (L2.CX P w) P w K mg base N qual scope f cd A outer s H E).A (cxOf (L2.CX P w) P w K mg base N qual scope f cd A outer s H E).env (cxOf (L2.CX P w) P w K mg base N qual scope f cd A outer s H E).xe := passes_of rfl
end
section
variable {X : Cx} {W : WX} {S : SC} {Γx Γ Γ1 Γ2 Γ3 Γ' : List Mode} {a b c e : Expr} {f g h : M D} {fg : M Get} {fs : M Fl} {G : List Mode → Prop} {pos p p2 : Pos} {st : Stmt}
/-- a slot is shared behind a statement -/
theorem MS.frzE {m : Mode} (i : Nat) (h : MS X W S Γ st fs Γ1) (hΓ : Γ1[i]? = some m := by rfl) (hg : m.good := by first | trivial | (intro _; trivial)) : MS X W S Γ st fs (Γ1.set i .fz) := by
  obtain ⟨t, pt, h⟩ := h
  refine ⟨t, pt, fun D σ F H p env s q => h D σ F H p env s ?_⟩
  cases hf : fs env with
  | bad => rw [hf] at q; exact q
  | ex x e' => rw [hf] at q; exact q
  | ok fl e' =>
    rw [hf] at q
    cases fl with
    | next => exact fun σ' F' H' p' hp s' k => q σ' _ H' _ hp (s'.trans (Step.frzS k.off)) (k.frz hΓ hg)
    | brk => exact q
    | cont => exact q
    | ret d => exact q
/-- built-ins by their names -/
theorem fz_len (hm : X.mg "len" = none) (ha : MB X W Γx Γ e fg G Γ') (hG : G Γ' := by first | trivial | rfl) (hg : Gl X "len" := by rfl) (he : starEach [e] X.env = (false, eval e X.env) :: starEach [] X.env := by rfl) : MZ X W Γx Γ (.Call (.Name "len" p) [e] [] pos) (mUn oLen fg) Γ' := mz_callB call_len ug_len hg hm rfl ha hG (by decide) (by decide) he
theorem fz_abs (hm : X.mg "abs" = none) (ha : MB X W Γx Γ e fg G Γ') (hG : G Γ' := by first | trivial | rfl) (hg : Gl X "abs" := by rfl) (he : starEach [e] X.env = (false, eval e X.env) :: starEach [] X.env := by rfl) : MZ X W Γx Γ (.Call (.Name "abs" p) [e] [] pos) (mUn oAbs fg) Γ' := mz_callB call_abs ug_abs hg hm rfl ha hG (by decide) (by decide) he
theorem fz_int (hm : X.mg "int" = none) (ha : MB X W Γx Γ e fg G Γ') (hG : G Γ' := by first | trivial | rfl) (hg : Gl X "int" := by rfl) (he : starEach [e] X.env = (false, eval e X.env) :: starEach [] X.env := by rfl) : MZ X W Γx Γ (.Call (.Name "int" p) [e] [] pos) (mUn oInt fg) Γ' := mz_callTy call_int1 ug_int hg hm rfl ha hG (by decide) (by decide) he
theorem fz_bool (hm : X.mg "bool" = none) (ha : MB X W Γx Γ e fg G Γ') (hG : G Γ' := by first | trivial | rfl) (hg : Gl X "bool" := by rfl) (he : starEach [e] X.env = (false, eval e X.env) :: starEach [] X.env := by rfl) : MZ X W Γx Γ (.Call (.Name "bool" p) [e] [] pos) (mUn oBool fg) Γ' := mz_callTy call_bool1 ug_bool hg hm rfl ha hG (by decide) (by decide) he
theorem fz_sum (hm : X.mg "sum" = none) (ha : MB X W Γx Γ e fg G Γ') (hG : G Γ' := by first | trivial | rfl) (hc : X.calm = true := by rfl) (hg : Gl X "sum" := by rfl) (he : starEach [e] X.env = (false, eval e X.env) :: starEach [] X.env := by rfl) : MZ X W Γx Γ (.Call (.Name "sum" p) [e] [] pos) (mUn oSum fg) Γ' := mz_callB (cr_sum hc) ug_sum hg hm rfl ha hG (by decide) (by decide) he
theorem fz_max (hm : X.mg "max" = none) (ha : MB X W Γx Γ e fg G Γ') (hG : G Γ' := by first | trivial | rfl) (hc : X.calm = true := by rfl) (hg : Gl X "max" := by rfl) (he : starEach [e] X.env = (false, eval e X.env) :: starEach [] X.env := by rfl) : MZ X W Γx Γ (.Call (.Name "max" p) [e] [] pos) (mUn oMax fg) Γ' := mz_callB (cr_max hc) ug_max hg hm rfl ha hG (by decide) (by decide) he
theorem fz_min (hm : X.mg "min" = none) (ha : MB X W Γx Γ e fg G Γ') (hG : G Γ' := by first | trivial | rfl) (hc : X.calm = true := by rfl) (hg : Gl X "min" := by rfl) (he : starEach [e] X.env = (false, eval e X.env) :: starEach [] X.env := by rfl) : MZ X W Γx Γ (.Call (.Name "min" p) [e] [] pos) (mUn oMin fg) Γ' := mz_callB (cr_min hc) ug_min hg hm rfl ha hG (by decide) (by decide) he
theorem fo_list (hm : X.mg "list" = none) (ha : MB X W Γx Γ e fg G Γ') (hG : G Γ' := by first | trivial | rfl) (hg : Gl X "list" := by rfl) (he : starEach [e] X.env = (false, eval e X.env) :: starEach [] X.env := by rfl) : MO X W Γx Γ (.Call (.Name "list" p) [e] [] pos) (mUn oList fg) (.lst .fz) Γ' := mo_callTy call_list_of uo_list hg hm rfl ha hG (by decide) (by decide) he
theorem fz_tuple (hm : X.mg "tuple" = none) (ha : MB X W Γx Γ e fg G Γ') (hG : G Γ' := by first | trivial | rfl) (hg : Gl X "tuple" := by rfl) (he : starEach [e] X.env = (false, eval e X.env) :: starEach [] X.env := by rfl) : MZ X W Γx Γ (.Call (.Name "tuple" p) [e] [] pos) (mUn oTuple fg) Γ' := mz_callTy call_tuple_of ug_tuple hg hm rfl ha hG (by decide) (by decide) he
theorem fo_sorted (hm : X.mg "sorted" = none) (ha : MB X W Γx Γ e fg G Γ') (hG : G Γ' := by first | trivial | rfl) (hg : Gl X "sorted" := by rfl) (he : starEach [e] X.env = (false, eval e X.env) :: starEach [] X.env := by rfl) : MO X W Γx Γ (.Call (.Name "sorted" p) [e] [] pos) (mUn oSorted fg) (.lst .fz) Γ' := mo_callB cr_sort2 uo_sorted hg hm rfl ha hG (by decide) (by decide) he
end
end VM
namespace VM
open PySem PySem.Spec PyProof.Rows L2
def mNeg (f : M D) : M D := fun e => (f e).bind fun d e1 => mOpt (oNeg d) e1
def mRetN : M Fl := fun e => .ok (.ret .non) e
def mBreak : M Fl := fun e => .ok .brk e
def mCont : M Fl := fun e => .ok .cont e
def oPop0 (xs ys : List D) : Option (List D × D) := match ys with
  | [] => oPop xs []
  | _ => none
def oPop1 (xs ys : List D) : Option (List D × D) := match ys with
  | [y] => oPop xs [y]
  | _ => none
theorem ml_pop0 {K : PySem.W.Frag} : MtL K rPop oPop0 := ml_pop
theorem ml_pop1 {K : PySem.W.Frag} : MtL K rPopAt oPop1 := ml_popAt
/-- x op= e, whole numbers -/
def mAug (i : Nat) (o : D → D → Option D) (f : M D) : M Fl := fun e => match e[i]? with
  | some (some x) => (f e).bind fun y e1 => (match o x y with
    | some z => .ok .next (e1.set i (some z))
    | none => .bad)
  | _ => .bad
section
variable {X : Cx} {W : WX} {S : SC} {Γx Γ Γ1 Γ2 Γ3 Γ' : List Mode} {e : Expr} {f : M D} {pos p : Pos}
theorem ms_aug {x : Str} {op : Operator} {ti : TIp} {o : D → D → Option D} (i : Nat) (ho : PIp X op ti) (hti : ∀ F H x y z v u Q, RepZ X.K F x v → RepZ X.K F y u → o x y = some z → (∀ w, (∀ F, RepZ X.K F z w) → Q w H) → ti v u H Q) (he : MZ X W S.Γx Γ e f Γ1)
    (hΓ : Γ[i]? = some .fz := by rfl) (hpin : S.pin i = false := by rfl) (hN : X.N.Nodup := by assumption) (hi : X.N[i]? = some x := by rfl) (hx : Loc X.env.scope x := by first | exact .inl rfl | exact .inr rfl) (hf : X.fn x = true ∨ X.env.scope.names.lookup x = some .local := by first | exact .inl rfl | exact .inr rfl) :
    MS X W S Γ (.AugAssign (.Name x p) op e pos) (mAug i o f) (Γ1.set i .fz) := by
  obtain ⟨t, pt, he⟩ := he
  refine ⟨_, ps_aug hN hi hx pt ho hf, fun D σ F H p env s q => ?_⟩
  unfold mAug at q
  split at q
  · rename_i x0 hx0
    rcases s.slot i .fz x0 hΓ hx0 with z | ⟨v, hv, r0⟩
    · cases z
    · refine ⟨v, hv, ?_⟩
      refine zseq wpS he s q fun y e1 u F1 H1 p1 s1 k1 r1 q1 => ?_
      split at q1
      · rename_i z0 hz0
        refine hti F1 H1 x0 y z0 v u _ (r0.mono s1.same) r1 hz0 fun w hw => ?_
        exact q1 _ F1 H1 p1 (.set hpin) .refl (k1.setZ (hw F1))
      · exact q1.elim
  · exact q.elim
theorem hti_int {K : PySem.W.Frag} {g : Int → Int → Int} : ∀ (F H : Hp) (x y z : D) (v u : V) (Q : VK), RepZ K F x v → RepZ K F y u → oI (fun i j => .int (g i j)) x y = some z → (∀ w, (∀ F, RepZ K F z w) → Q w H) → ipI g v u H Q := by
  intro F H x y z v u Q r1 r2 h q
  obtain ⟨i, j, rfl, rfl, rfl⟩ := oI_inv h
  rw [r1.int_inv, r2.int_inv]
  exact ⟨i, j, rfl, rfl, q _ fun _ => .int _⟩
theorem ms_aug_add {x : Str} (i : Nat) (he : MZ X W S.Γx Γ e f Γ1)
    (hΓ : Γ[i]? = some .fz := by rfl) (hpin : S.pin i = false := by rfl) (hN : X.N.Nodup := by assumption) (hi : X.N[i]? = some x := by rfl) (hx : Loc X.env.scope x := by first | exact .inl rfl | exact .inr rfl) (hf : X.fn x = true ∨ X.env.scope.names.lookup x = some .local := by first | exact .inl rfl | exact .inr rfl) :
    MS X W S Γ (.AugAssign (.Name x p) .Add e pos) (mAug i oAdd f) (Γ1.set i .fz) := ms_aug i ip_add hti_int he hΓ hpin hN hi hx hf
theorem ms_aug_sub {x : Str} (i : Nat) (he : MZ X W S.Γx Γ e f Γ1)
    (hΓ : Γ[i]? = some .fz := by rfl) (hpin : S.pin i = false := by rfl) (hN : X.N.Nodup := by assumption) (hi : X.N[i]? = some x := by rfl) (hx : Loc X.env.scope x := by first | exact .inl rfl | exact .inr rfl) (hf : X.fn x = true ∨ X.env.scope.names.lookup x = some .local := by first | exact .inl rfl | exact .inr rfl) :
    MS X W S Γ (.AugAssign (.Name x p) .Sub e pos) (mAug i oSub f) (Γ1.set i .fz) := ms_aug i ip_sub hti_int he hΓ hpin hN hi hx hf
end
/-! ### an except clause: who is caught -/
def exTry (K : PySem.W.Frag) (c wh : Str) (tbl : List (Str × Bool)) : Bool := tbl.all fun q => decide (PySem.W.exmOne K (.ref (He.ga K q.1)) (.ref (He.ga K c)) = some q.2) && (!q.2 || (xfB K (He.ga K q.1) && decide (PySem.W.findIn K (.ref (He.ga K q.1)) wh = some none)))
theorem lookup_mem {α : Type} : ∀ {l : List (Str × α)} {y : Str} {b : α}, l.lookup y = some b → (y, b) ∈ l
  | [], _, _, h => by simp at h
  | (z, c) :: l, y, b, h => by
    rw [List.lookup_cons] at h
    split at h
    · rename_i hb
      cases h
      have : y = z := by simpa using hb
      rw [this]; exact List.mem_cons_self
    · exact List.mem_cons_of_mem _ (lookup_mem h)
theorem exTry_tbl {K : PySem.W.Frag} {c wh : Str} {tbl : List (Str × Bool)} (h : exTry K c wh tbl = true) : ∀ y b, tbl.lookup y = some b → PySem.W.exmOne K (.ref (He.ga K y)) (.ref (He.ga K c)) = some b := by
  intro y b hy
  have := (List.all_eq_true.mp h) _ (lookup_mem hy)
  exact of_decide_eq_true (ba this).1
theorem exTry_xf {K : PySem.W.Frag} {c wh : Str} {tbl : List (Str × Bool)} (h : exTry K c wh tbl = true) : ∀ y, tbl.lookup y = some true → XfC K (He.ga K y) := by
  intro y hy
  have := (ba ((List.all_eq_true.mp h) _ (lookup_mem hy))).2
  simp only [Bool.not_true, Bool.false_or] at this
  exact xfB_ok (ba this).1
theorem exTry_no {K : PySem.W.Frag} {c wh : Str} {tbl : List (Str × Bool)} (h : exTry K c wh tbl = true) : ∀ y, tbl.lookup y = some true → PySem.W.findIn K (.ref (He.ga K y)) wh = some none := by
  intro y hy
  have := (ba ((List.all_eq_true.mp h) _ (lookup_mem hy))).2
  simp only [Bool.not_true, Bool.false_or] at this
  exact of_decide_eq_true (ba this).2
end VM
namespace VM
open PySem PySem.Spec PyProof.Rows L2
theorem fnM_bad {P : Program} {w : World} {K : PySem.W.Frag} {mg : Str → Option Value} {base : Heap} {k : Nat} {f : Addr} {fd : FuncData} {ps : List Str} {pm : List Mode} {rm : Mode} : FnM P w K mg base k f fd ps pm rm (fun _ => .bad) :=
  ⟨fun vs H Q E ⟨_, _, _, _, _, h⟩ => h.elim, fun A outer s H args us vs Q E _ _ _ _ ⟨_, _, _, _, _, h⟩ => h.elim⟩
end VM
namespace VM
def VOk (Γ : List Mode) (v : Nat) : Prop := Γ[v]? = some .fz ∨ Γ[v]? = some .any ∨ Γ[v]? = none
theorem vs_nil {Γ : List Mode} : ∀ v ∈ ([] : List Nat), Γ[v]? = some .fz ∨ Γ[v]? = some .any ∨ Γ[v]? = none := fun _ h => nomatch h
theorem vs_fz {Γ : List Mode} {v : Nat} {vs : List Nat} (h : Γ[v]? = some .fz) (t : ∀ v ∈ vs, Γ[v]? = some .fz ∨ Γ[v]? = some .any ∨ Γ[v]? = none) : ∀ u ∈ v :: vs, Γ[u]? = some .fz ∨ Γ[u]? = some .any ∨ Γ[u]? = none := fun u hu => by
  rcases List.mem_cons.mp hu with e | e
  · subst e; exact .inl h
  · exact t u e
theorem vs_any {Γ : List Mode} {v : Nat} {vs : List Nat} (h : Γ[v]? = some .any) (t : ∀ v ∈ vs, Γ[v]? = some .fz ∨ Γ[v]? = some .any ∨ Γ[v]? = none) : ∀ u ∈ v :: vs, Γ[u]? = some .fz ∨ Γ[u]? = some .any ∨ Γ[u]? = none := fun u hu => by
  rcases List.mem_cons.mp hu with e | e
  · subst e; exact .inr (.inl h)
  · exact t u e
end VM
/-! VM, part 18: the end. -/
namespace VM
open PySem PySem.Spec PyProof.Rows L2
theorem spM_law {K : PySem.W.Frag} {Fm : List D → FRes} {H : Hp} {a : Addr} {ns : List Int} (h : Fm [.scr (ns.map D.int)] = .ok (.bl true) []) (hS : SqL K H a (ns.map V.int)) : spM K [.fz] .fz Fm [.ref a] H (fun v _ => v = .bl true) (fun _ _ _ => False) := by
  refine ⟨[.scr (ns.map D.int)], H, noP, rfl, ⟨fun _ _ h => h, fun _ _ _ h => by simp [noP] at h, fun _ _ h => by simp [noP] at h, rfl, fun i m d hm hd => ?_⟩, ?_⟩
  · cases i with
    | succ i => simp at hm
    | zero =>
      simp at hm hd
      subst hm; subst hd
      have rz : RepZs K H (ns.map D.int) (ns.map V.int) := repZs_of_ints ns
      exact .inr ⟨.ref a, rfl, .scr hS rz.1 rz.2⟩
  · rw [h]
    intro v F' H' p' pv _ _ r _
    exact RepZ.bl_inv r
theorem cx_no {P : Program} {w : World} (H : Hp) (s : Shared) (e : Value) (s' : Shared) (h : L2.CX P w [] H s (fun _ _ _ => False) e s') : False := by
  obtain ⟨a, B, H', cls, d, _, _, _, _, _, _, _, h⟩ := h
  exact h
/-- the walk's end, whatever the world: what is known of the module, what may fly out -/
theorem walk_ofV {l : PySem.W.OpenLaw} {n k : Nat} {q : Program} {loose : List Str} {XP : (Str → Option Value) → Heap → Prop} {YP : World → Heap → Prop} {d : DefRec} {CX : World → CXT} {x : Str}
    (most : l.most = some n) (le : n ≤ sizeLine) (nodef : d.params.defaults = []) (room : Room k callerA)
    (F : ∀ (w : World) (mg : Str → Option Value) (fa : Addr) (h : Heap), YP w h → h.Ns mainGlobals mg → mg d.name = some (.ref fa) → ∃ (K : PySem.W.Frag) (fd : FuncData) (sp : Sp), K.In h ∧ (∀ (s : Shared) (u : Value), BindsTo s fd ⟨[u], []⟩ [(x, u)]) ∧
        (∀ (H : Hp) (a : Addr) (ns : List Int), ns.length ≤ n → Only H → SqL K H a (ns.map V.int) → sp [.ref a] H (fun v _ => v = .bl true) fun _ _ _ => False) ∧ ∀ base : Heap, K.In base → base.Ns mainGlobals mg → FnOk l.prog w K mg base (CX w) k fa fd [x] sp)
    (none : ∀ (w : World) (H : Hp) (s : Shared) (e : Value) (s' : Shared), CX w [] H s (fun _ _ _ => False) e s' → False) : PySem.W.WalkO q loose XP YP l.row.toRowW d [] (fun f vs => PySem.call f vs) := by
  refine Att.attach_call most nodef fun w sA sB mg mb fa o pm cd doc a vs ns G Y _ _ _ named obj whole len gens => ?_
  obtain ⟨K, fd, sp, kin, binds, holds, runs⟩ := F w mg fa _ Y G.T.g named
  exact law_call kin G.T.g G.T.b G.T.builtins G.T.nolimit gens obj whole (Nat.le_trans len le) room runs binds (fun H only sq => holds H a ns len only sq) fun H e s' => none w H sB e s'
end VM
namespace VM
open PySem PySem.Spec PyProof.Rows L2
theorem mBind_ap {α β : Type} (f : M α) (g : α → M β) (e : Env) : mBind f g e = ((f e).bind g) := rfl
theorem mC_ap {α : Type} (d : α) (e : Env) : mC d e = (.ok d e) := rfl
theorem mVar_ap (i : Nat) (e : Env) : mVar i e = (match e[i]? with
  | some (some d) => .ok d e
  | _ => .bad) := rfl
theorem mBin_ap (op : D → D → Option D) (f g : M D) (e : Env) : mBin op f g e = ((f e).bind fun x e1 => (g e1).bind fun y e2 => mOpt (op x y) e2) := rfl
theorem mTst_ap (f : M D) (e : Env) : mTst f e = ((f e).bind fun d e' => match d with
  | .bl b => .ok b e'
  | _ => .bad) := rfl
theorem mNil_ap (e : Env) : mNil  e = (.ok [] e) := rfl
theorem mCons_ap (f : M D) (g : M (List D)) (e : Env) : mCons f g e = ((f e).bind fun d e1 => (g e1).bind fun ds e2 => .ok (d :: ds) e2) := rfl
theorem mTup_ap (fs : M (List D)) (e : Env) : mTup fs e = ((fs e).bind fun ds e1 => if ds.length ≤ sizeLine then .ok (.tup ds) e1 else .bad) := rfl
theorem mLst_ap (fs : M (List D)) (e : Env) : mLst fs e = ((fs e).bind fun ds e1 => if ds.length ≤ sizeLine then .ok (.lst ds) e1 else .bad) := rfl
theorem mAnd_ap (f g : M Bool) (e : Env) : mAnd f g e = ((f e).bind fun b e1 => if b then g e1 else .ok false e1) := rfl
theorem mOr_ap (f g : M Bool) (e : Env) : mOr f g e = ((f e).bind fun b e1 => if b then .ok true e1 else g e1) := rfl
theorem mNot_ap (f : M Bool) (e : Env) : mNot f e = ((f e).bind fun b e1 => .ok (!b) e1) := rfl
theorem mBl_ap (f : M Bool) (e : Env) : mBl f e = ((f e).bind fun b e1 => .ok (.bl b) e1) := rfl
theorem mAndV_ap (f g : M D) (e : Env) : mAndV f g e = ((f e).bind fun d e1 => match d with
  | .bl true => g e1
  | .bl false => .ok (.bl false) e1
  | _ => .bad) := rfl
theorem mOrV_ap (f g : M D) (e : Env) : mOrV f g e = ((f e).bind fun d e1 => match d with
  | .bl true => .ok (.bl true) e1
  | .bl false => g e1
  | _ => .bad) := rfl
theorem mNotV_ap (f : M D) (e : Env) : mNotV f e = ((f e).bind fun d e1 => match d with
  | .bl b => .ok (.bl (!b)) e1
  | _ => .bad) := rfl
theorem mIf_ap {α : Type} (t : M Bool) (f g : M α) (e : Env) : mIf t f g e = ((t e).bind fun b e1 => if b then f e1 else g e1) := rfl
theorem mChain_ap (o o' : D → D → Option D) (f g h : M D) (e : Env) : mChain o o' f g h e = ((f e).bind fun x e1 => (g e1).bind fun y e2 => match o x y with
  | some (.bl true) => (h e2).bind fun z e3 => mOpt (o' y z) e3
  | some (.bl false) => .ok (.bl false) e2
  | _ => .bad) := rfl
theorem mGet_ap (f : M D) (e : Env) : mGet f e = ((f e).bind fun d e1 => .ok (fun _ => some d) e1) := rfl
theorem mGetV_ap (i : Nat) (e : Env) : mGetV i e = (match e[i]? with
  | some (some _) => .ok (fun e2 => (e2[i]?).join) e
  | _ => .bad) := rfl
theorem mUn_ap (o : D → Option D) (f : M Get) (e : Env) : mUn o f e = ((f e).bind fun get e1 => match get e1 with
  | some d => mOpt (o d) e1
  | none => .bad) := rfl
theorem mIx_ap (fg : M Get) (g : M D) (e : Env) : mIx fg g e = ((fg e).bind fun get e1 => (g e1).bind fun y e2 => match get e2 with
  | some d => mOpt (oIx d y) e2
  | none => .bad) := rfl
theorem mBin2_ap (o : D → D → Option D) (fg gg : M Get) (e : Env) : mBin2 o fg gg e = ((fg e).bind fun get e1 => (gg e1).bind fun get2 e2 => match get e2, get2 e2 with
  | some x, some y => mOpt (o x y) e2
  | _, _ => .bad) := rfl
theorem mNext_ap (e : Env) : mNext  e = (.ok .next e) := rfl
theorem mSeq_ap (f g : M Fl) (e : Env) : mSeq f g e = ((f e).bind fun fl e1 => match fl with
  | .next => g e1
  | fl => .ok fl e1) := rfl
theorem mSet_ap (i : Nat) (f : M D) (e : Env) : mSet i f e = ((f e).bind fun d e1 => .ok .next (e1.set i (some d))) := rfl
theorem mExpr_ap (f : M D) (e : Env) : mExpr f e = ((f e).bind fun _ e1 => .ok .next e1) := rfl
theorem mRet_ap (f : M D) (e : Env) : mRet f e = ((f e).bind fun d e1 => .ok (.ret d) e1) := rfl
theorem mAsg_ap (f : M D) (h : Tg) (e : Env) : mAsg f h e = ((f e).bind fun d e1 => match h d e1 with
  | some e2 => .ok .next e2
  | none => .bad) := rfl
theorem mForS_ap (it : M (List D)) (h : Tg) (body : M Fl) (e : Env) : mForS it h body e = ((it e).bind fun ds e1 => mFor h body ds e1) := rfl
theorem mCall_ap (Fm : List D → FRes) (args : List Arg) (e : Env) : mCall Fm args e = ((mArgs args e).bind fun xs e1 => match fillA e1 xs with
  | some ds => (match Fm ds with
    | .ok d as => (match backA xs as e1 with
      | some e2 => .ok d e2
      | none => .bad)
    | .ex x as => (match backA xs as e1 with
      | some e2 => .ex x e2
      | none => .bad)
    | .bad => .bad)
  | none => .bad) := rfl
theorem mItems_ap (f : M D) (e : Env) : mItems f e = ((f e).bind fun d e1 => mOpt (itemsOf d) e1) := rfl
theorem mRange1_ap (f : M D) (e : Env) : mRange1 f e = ((f e).bind fun d e1 => match d with
  | .int j => if cRg j then .ok (rangeD 0 j.toNat) e1 else .bad
  | _ => .bad) := rfl
theorem mRange2_ap (f g : M D) (e : Env) : mRange2 f g e = ((f e).bind fun d e1 => (g e1).bind fun d2 e2 => match d, d2 with
  | .int i, .int j => if cRg i && cRg j then .ok (rangeD i (j - i).toNat) e2 else .bad
  | _, _ => .bad) := rfl
theorem mEnum_ap (f : M D) (e : Env) : mEnum f e = ((f e).bind fun d e1 => match d with
  | .lst ds => .ok (enumD ds) e1
  | _ => .bad) := rfl
theorem mZip_ap (f g : M D) (e : Env) : mZip f g e = ((f e).bind fun d e1 => (g e1).bind fun d2 e2 => match d, d2 with
  | .lst xs, .lst ys => .ok (zipD xs ys) e2
  | .tup xs, .tup ys => .ok (zipD xs ys) e2
  | _, _ => .bad) := rfl
theorem mComp_ap (vs : List Nat) (it : M (List D)) (h : Tg) (tt : M Bool) (te : M D) (e : Env) : mComp vs it h tt te e = ((it e).bind fun ds e1 => match mCompL vs h tt te ds [] e1 with
  | .ok ys e2 => .ok (.lst ys) (backE e1 e2 vs)
  | _ => .bad) := rfl
theorem mYes_ap (e : Env) : mYes  e = (.ok true e) := rfl
theorem mRaise_ap (c wh : Str) (f : M D) (e : Env) : mRaise c wh f e = ((f e).bind fun d e1 => match d with
  | .str z => .ex ⟨c, [(wh, .str z)]⟩ e1
  | _ => .bad) := rfl
theorem mExF_ap (i : Nat) (wh : Str) (e : Env) : mExF i wh e = (match e[i]? with
  | some (some (.ins _ fs)) => mOpt (fs.lookup wh) e
  | _ => .bad) := rfl
theorem mTry_ap (fb : M Fl) (i : Nat) (tbl : List (Str × Bool)) (fs : M Fl) (e : Env) : mTry fb i tbl fs e = (match fb e with
  | .ex x e1 => (match tbl.lookup x.c with
    | some true => (match fs (e1.set i (some (.ins x.c x.fs))) with
      | .ok fl e2 => .ok fl (e2.set i none)
      | _ => .bad)
    | some false => .ex x e1
    | none => .bad)
  | r => r) := rfl
theorem mIsi_ap (cs : List String) (f : M Get) (e : Env) : mIsi cs f e = ((f e).bind fun get e1 => match get e1 with
  | some d => (match tyName d with
    | some t => .ok (isT cs t) e1
    | none => .bad)
  | none => .bad) := rfl
theorem mLM_ap (i : Nat) (o : List D → List D → Option (List D × D)) (fs : M (List D)) (e : Env) : mLM i o fs e = (match e[i]? with
  | some (some (.lst _)) => (fs e).bind fun ys e1 => (match e1[i]? with
    | some (some (.lst xs)) => (match o xs ys with
      | some (xs', d) => .ok d (e1.set i (some (.lst xs')))
      | none => .bad)
    | _ => .bad)
  | _ => .bad) := rfl
theorem mSetSub_ap (i : Nat) (f g : M D) (e : Env) : mSetSub i f g e = ((f e).bind fun d e1 => match e1[i]? with
  | some (some _) => (g e1).bind fun k e2 => (match e2[i]? with
    | some (some c) => (match stSub c k d with
      | some c' => .ok .next (e2.set i (some c'))
      | none => .bad)
    | _ => .bad)
  | _ => .bad) := rfl
theorem mSub2_ap (o : D → D → Option D) (fg : M Get) (g : M D) (e : Env) : mSub2 o fg g e = ((fg e).bind fun get e1 => (g e1).bind fun y e2 => match get e2 with
  | some d => mOpt (o d y) e2
  | none => .bad) := rfl
theorem mBinZB_ap (o : D → D → Option D) (f : M D) (gg : M Get) (e : Env) : mBinZB o f gg e = ((f e).bind fun x e1 => (gg e1).bind fun get e2 => match get e2 with
  | some y => mOpt (o x y) e2
  | none => .bad) := rfl
theorem mPart_ap (f : M D) (e : Env) : mPart f e = ((f e).bind fun d e1 => match d with
  | .int i => .ok (some i) e1
  | _ => .bad) := rfl
theorem mSlice_ap (o : Option Int → Option Int → Option Int → D → Option D) (f : M D) (fl fh ft : M (Option Int)) (e : Env) : mSlice o f fl fh ft e = ((f e).bind fun d e1 => (fl e1).bind fun lo e2 => (fh e2).bind fun hi e3 => (ft e3).bind fun st e4 => mOpt (o lo hi st d) e4) := rfl
theorem mPar2_ap (i j : Nat) (fs : M (List D)) (e : Env) : mPar2 i j fs e = ((fs e).bind fun ds e1 => match ds with
  | [a, b] => .ok .next ((e1.set i (some a)).set j (some b))
  | _ => .bad) := rfl
theorem mPar3_ap (i j l : Nat) (fs : M (List D)) (e : Env) : mPar3 i j l fs e = ((fs e).bind fun ds e1 => match ds with
  | [a, b, c] => .ok .next (((e1.set i (some a)).set j (some b)).set l (some c))
  | _ => .bad) := rfl
theorem mDisp1T_ap (f g : M D) (e : Env) : mDisp1T f g e = ((f e).bind fun x e1 => (g e1).bind fun y e2 => if (keyT x).isSome then .ok (.dcT [(x, y)]) e2 else .bad) := rfl
theorem mDisp1K_ap (f g : M D) (e : Env) : mDisp1K f g e = ((f e).bind fun x e1 => (g e1).bind fun y e2 => if (keyK x).isSome then .ok (.dct [(x, y)]) e2 else .bad) := rfl
theorem mNeg_ap (f : M D) (e : Env) : mNeg f e = ((f e).bind fun d e1 => mOpt (oNeg d) e1) := rfl
theorem mRetN_ap (e : Env) : mRetN  e = (.ok (.ret .non) e) := rfl
theorem mBreak_ap (e : Env) : mBreak  e = (.ok .brk e) := rfl
theorem mCont_ap (e : Env) : mCont  e = (.ok .cont e) := rfl
theorem mAug_ap (i : Nat) (o : D → D → Option D) (f : M D) (e : Env) : mAug i o f e = (match e[i]? with
  | some (some x) => (f e).bind fun y e1 => (match o x y with
    | some z => .ok .next (e1.set i (some z))
    | none => .bad)
  | _ => .bad) := rfl
theorem mOpt_some {α : Type} (a : α) (e : Env) : mOpt (some a) e = .ok a e := rfl
theorem mOpt_none {α : Type} (e : Env) : (mOpt (none : Option α)) e = .bad := rfl
theorem mSub_ap (fg : M Get) (g : M D) (e : Env) : mSub fg g e = mSub2 oIdx fg g e := rfl
theorem mBTst_ap (o : D → D → Option D) (f g : M D) (e : Env) : mBTst o f g e = mTst (mBin o f g) e := rfl
theorem mIn_ap (neg : Bool) (f : M D) (gg : M Get) (e : Env) : mIn neg f gg e = mTst (mBinZB (oInU neg) f gg) e := rfl
theorem szL : PySem.sizeLine = 16777216 := rfl
theorem eqvI (a b : Int) : D.eqv (.int a) (.int b) = decide (a = b) := by
  show (a == b) = decide (a = b)
  by_cases h : a = b <;> simp [h]
theorem eqvB (a b : Bool) : D.eqv (.bl a) (.bl b) = decide (a = b) := by cases a <;> cases b <;> rfl
theorem oEqI (a b : Int) : oEq (.int a) (.int b) = some (.bl (decide (a = b))) := by unfold oEq; rw [eqvI]; rfl
theorem oNeI (a b : Int) : oNe (.int a) (.int b) = some (.bl (!decide (a = b))) := by unfold oNe; rw [eqvI]; rfl
theorem oEqB (a b : Bool) : oEq (.bl a) (.bl b) = some (.bl (decide (a = b))) := by unfold oEq; rw [eqvB]; rfl
theorem oNeB (a b : Bool) : oNe (.bl a) (.bl b) = some (.bl (!decide (a = b))) := by unfold oNe; rw [eqvB]; rfl
theorem oEqN : oEq (.lst []) (.lst []) = some (.bl true) := rfl
end VM
namespace K00
open PySem PySem.Spec PyProof.Rows L2 VM
abbrev P0 : Program := PySem.Challenge.pw_cellsofsix_k00_whole_cells_and_their_hue
def top (i : Nat) : Stmt := P0.main.body.getD i (.Pass ⟨0, 0, 0, 0⟩)
def clsBody : Stmt → List Stmt
  | .ClassDef _ _ _ b _ _ _ _ _ _ _ => b
  | _ => []
abbrev s__law_around : Stmt := top 20
abbrev s__law_draw : Stmt := top 17
abbrev s__law_pick : Stmt := top 19
abbrev s_is_number : Stmt := top 4
abbrev s_is_cell : Stmt := top 8
abbrev s_checked_cell : Stmt := top 9
abbrev s_plain_around : Stmt := top 10
abbrev s_around : Stmt := top 11
abbrev s_plain_far : Stmt := top 13
abbrev s_far : Stmt := top 14
abbrev s_hue : Stmt := top 12
abbrev s__law_refused : Stmt := top 21
abbrev s__law_same : Stmt := top 18
abbrev s_do_meet : Stmt := top 15
abbrev s_law : Stmt := top 22
abbrev sX : Stmt := (clsBody (top 1)).getD 0 (.Pass ⟨0, 0, 0, 0⟩)
def d__law_around : He.DefD := ⟨("_law_around", none), "_law_around", "_law_around", defArgs s__law_around, defBody s__law_around, defScope s__law_around, [], []⟩
def d__law_draw : He.DefD := ⟨("_law_draw", none), "_law_draw", "_law_draw", defArgs s__law_draw, defBody s__law_draw, defScope s__law_draw, [], []⟩
def d__law_pick : He.DefD := ⟨("_law_pick", none), "_law_pick", "_law_pick", defArgs s__law_pick, defBody s__law_pick, defScope s__law_pick, [], []⟩
def d_is_number : He.DefD := ⟨("is_number", none), "is_number", "is_number", defArgs s_is_number, defBody s_is_number, defScope s_is_number, [], []⟩
def d_is_cell : He.DefD := ⟨("is_cell", none), "is_cell", "is_cell", defArgs s_is_cell, defBody s_is_cell, defScope s_is_cell, [], []⟩
def d_checked_cell : He.DefD := ⟨("checked_cell", none), "checked_cell", "checked_cell", defArgs s_checked_cell, defBody s_checked_cell, defScope s_checked_cell, [], []⟩
def d_plain_around : He.DefD := ⟨("plain_around", none), "plain_around", "plain_around", defArgs s_plain_around, defBody s_plain_around, defScope s_plain_around, [], []⟩
def d_around : He.DefD := ⟨("around", none), "around", "around", defArgs s_around, defBody s_around, defScope s_around, [], []⟩
def d_plain_far : He.DefD := ⟨("plain_far", none), "plain_far", "plain_far", defArgs s_plain_far, defBody s_plain_far, defScope s_plain_far, [], []⟩
def d_far : He.DefD := ⟨("far", none), "far", "far", defArgs s_far, defBody s_far, defScope s_far, [], []⟩
def d_hue : He.DefD := ⟨("hue", none), "hue", "hue", defArgs s_hue, defBody s_hue, defScope s_hue, [], []⟩
def d__law_refused : He.DefD := ⟨("_law_refused", none), "_law_refused", "_law_refused", defArgs s__law_refused, defBody s__law_refused, defScope s__law_refused, [], []⟩
def d__law_same : He.DefD := ⟨("_law_same", none), "_law_same", "_law_same", defArgs s__law_same, defBody s__law_same, defScope s__law_same, [], []⟩
def d_do_meet : He.DefD := ⟨("do_meet", none), "do_meet", "do_meet", defArgs s_do_meet, defBody s_do_meet, defScope s_do_meet, [], []⟩
def d_law : He.DefD := ⟨("law", none), "law", "law", defArgs s_law, defBody s_law, defScope s_law, [], []⟩
def fn : List He.DefD := [d__law_around, d__law_draw, d__law_pick, d_is_number, d_is_cell, d_checked_cell, d_plain_around, d_around, d_plain_far, d_far, d_hue, d__law_refused, d__law_same, d_do_meet, d_law]
def fa : List He.Fa := [.glo "_law_around", .glo "_law_draw", .glo "_law_pick", .glo "is_number", .glo "is_cell", .glo "checked_cell", .glo "plain_around", .glo "around", .glo "plain_far", .glo "far", .glo "hue", .glo "_law_refused", .glo "_law_same", .glo "do_meet", .glo "law", .glo "BadLand", .free "abs", .free "bool", .free "int", .free "isinstance", .free "len", .free "list", .free "range", .free "sorted", .free "str", .free "super", .free "tuple", .free "zip"]
def kAROUND : D := (.ktp [(.ktp [(.int 1), (.int 0)]), (.ktp [(.int 0), (.int 1)]), (.ktp [(.int (-1)), (.int 1)]), (.ktp [(.int (-1)), (.int 0)]), (.ktp [(.int 0), (.int (-1))]), (.ktp [(.int 1), (.int (-1))])])
def kMOST_PLACE : D := (.int 99)
def xtbl_BadLand : List (Str × Bool) := [("BadLand", true)]
def ex (K : PySem.W.Frag) : Bool := conK K "AROUND" kAROUND && (conK K "MOST_PLACE" kMOST_PLACE && (exCk P0 K "BadLand" "CellError" "what" && (exTry K "BadLand" "what" xtbl_BadLand && (exI P0 K "CellError"))))
def ei : List Str := ["CellError"]
def es : List Stmt := [sX]
structure Hf (K : PySem.W.Frag) (mg : Str → Option Value) (base : Heap) : Prop where
  kin : K.In base
  ns : base.Ns mainGlobals mg
  says : SaysV fa fn ei es ex K
section
variable {w : World} {K : PySem.W.Frag} {mg : Str → Option Value} {base : Heap}
theorem o__law_around (hf : Hf K mg base) : mg "_law_around" = some (.ref (He.ga K "_law_around")) := He.glo_ok hf.kin hf.ns (hf.says.d.fact 0 rfl)
theorem o__law_draw (hf : Hf K mg base) : mg "_law_draw" = some (.ref (He.ga K "_law_draw")) := He.glo_ok hf.kin hf.ns (hf.says.d.fact 1 rfl)
theorem o__law_pick (hf : Hf K mg base) : mg "_law_pick" = some (.ref (He.ga K "_law_pick")) := He.glo_ok hf.kin hf.ns (hf.says.d.fact 2 rfl)
theorem o_is_number (hf : Hf K mg base) : mg "is_number" = some (.ref (He.ga K "is_number")) := He.glo_ok hf.kin hf.ns (hf.says.d.fact 3 rfl)
theorem o_is_cell (hf : Hf K mg base) : mg "is_cell" = some (.ref (He.ga K "is_cell")) := He.glo_ok hf.kin hf.ns (hf.says.d.fact 4 rfl)
theorem o_checked_cell (hf : Hf K mg base) : mg "checked_cell" = some (.ref (He.ga K "checked_cell")) := He.glo_ok hf.kin hf.ns (hf.says.d.fact 5 rfl)
theorem o_plain_around (hf : Hf K mg base) : mg "plain_around" = some (.ref (He.ga K "plain_around")) := He.glo_ok hf.kin hf.ns (hf.says.d.fact 6 rfl)
theorem o_around (hf : Hf K mg base) : mg "around" = some (.ref (He.ga K "around")) := He.glo_ok hf.kin hf.ns (hf.says.d.fact 7 rfl)
theorem o_plain_far (hf : Hf K mg base) : mg "plain_far" = some (.ref (He.ga K "plain_far")) := He.glo_ok hf.kin hf.ns (hf.says.d.fact 8 rfl)
theorem o_far (hf : Hf K mg base) : mg "far" = some (.ref (He.ga K "far")) := He.glo_ok hf.kin hf.ns (hf.says.d.fact 9 rfl)
theorem o_hue (hf : Hf K mg base) : mg "hue" = some (.ref (He.ga K "hue")) := He.glo_ok hf.kin hf.ns (hf.says.d.fact 10 rfl)
theorem o__law_refused (hf : Hf K mg base) : mg "_law_refused" = some (.ref (He.ga K "_law_refused")) := He.glo_ok hf.kin hf.ns (hf.says.d.fact 11 rfl)
theorem o__law_same (hf : Hf K mg base) : mg "_law_same" = some (.ref (He.ga K "_law_same")) := He.glo_ok hf.kin hf.ns (hf.says.d.fact 12 rfl)
theorem o_do_meet (hf : Hf K mg base) : mg "do_meet" = some (.ref (He.ga K "do_meet")) := He.glo_ok hf.kin hf.ns (hf.says.d.fact 13 rfl)
theorem o_law (hf : Hf K mg base) : mg "law" = some (.ref (He.ga K "law")) := He.glo_ok hf.kin hf.ns (hf.says.d.fact 14 rfl)
theorem o_BadLand (hf : Hf K mg base) : mg "BadLand" = some (.ref (He.ga K "BadLand")) := He.glo_ok hf.kin hf.ns (hf.says.d.fact 15 rfl)
theorem g_abs (hf : Hf K mg base) : mg "abs" = none := He.free_ok hf.kin hf.ns (hf.says.d.fact 16 rfl)
theorem g_bool (hf : Hf K mg base) : mg "bool" = none := He.free_ok hf.kin hf.ns (hf.says.d.fact 17 rfl)
theorem g_int (hf : Hf K mg base) : mg "int" = none := He.free_ok hf.kin hf.ns (hf.says.d.fact 18 rfl)
theorem g_isinstance (hf : Hf K mg base) : mg "isinstance" = none := He.free_ok hf.kin hf.ns (hf.says.d.fact 19 rfl)
theorem g_len (hf : Hf K mg base) : mg "len" = none := He.free_ok hf.kin hf.ns (hf.says.d.fact 20 rfl)
theorem g_list (hf : Hf K mg base) : mg "list" = none := He.free_ok hf.kin hf.ns (hf.says.d.fact 21 rfl)
theorem g_range (hf : Hf K mg base) : mg "range" = none := He.free_ok hf.kin hf.ns (hf.says.d.fact 22 rfl)
theorem g_sorted (hf : Hf K mg base) : mg "sorted" = none := He.free_ok hf.kin hf.ns (hf.says.d.fact 23 rfl)
theorem g_str (hf : Hf K mg base) : mg "str" = none := He.free_ok hf.kin hf.ns (hf.says.d.fact 24 rfl)
theorem g_super (hf : Hf K mg base) : mg "super" = none := He.free_ok hf.kin hf.ns (hf.says.d.fact 25 rfl)
theorem g_tuple (hf : Hf K mg base) : mg "tuple" = none := He.free_ok hf.kin hf.ns (hf.says.d.fact 26 rfl)
theorem g_zip (hf : Hf K mg base) : mg "zip" = none := He.free_ok hf.kin hf.ns (hf.says.d.fact 27 rfl)
theorem e_0 (hf : Hf K mg base) : conK K "AROUND" kAROUND = true := (ba hf.says.more).1
theorem e_1 (hf : Hf K mg base) : conK K "MOST_PLACE" kMOST_PLACE = true := (ba (ba hf.says.more).2).1
theorem e_2 (hf : Hf K mg base) : exCk P0 K "BadLand" "CellError" "what" = true := (ba (ba (ba hf.says.more).2).2).1
theorem e_3 (hf : Hf K mg base) : exTry K "BadLand" "what" xtbl_BadLand = true := (ba (ba (ba (ba hf.says.more).2).2).2).1
theorem e_4 (hf : Hf K mg base) : exI P0 K "CellError" = true := (ba (ba (ba (ba hf.says.more).2).2).2).2
theorem k_AROUND (hf : Hf K mg base) : ConM K mg "AROUND" kAROUND := conK_ok hf.kin hf.ns (e_0 hf)
theorem k_MOST_PLACE (hf : Hf K mg base) : ConM K mg "MOST_PLACE" kMOST_PLACE := conK_ok hf.kin hf.ns (e_1 hf)
theorem x_BadLand (hf : Hf K mg base) : ExC K P0 (He.ga K "BadLand") (He.ga K "CellError") (He.ma K (He.ga K "CellError") "__init__") (clsCell K (He.ma K (He.ga K "CellError") "__init__")) sX "what" := exC_of (e_2 hf) (e_4 hf) (by have := hf.says.init; exact (List.cons.inj this).1)
theorem t_BadLand (hf : Hf K mg base) : exTry K "BadLand" "what" xtbl_BadLand = true := e_3 hf
theorem n_BadLand {X : Cx} (hf : Hf X.K X.mg base) (hg : Gl X "BadLand") : Names X "BadLand" (.ref (He.ga X.K "BadLand")) := ⟨hg, by decide, .inl (o_BadLand hf)⟩
theorem xT : ExT sX "what" := by
  refine ⟨⟨rfl, rfl, rfl, by decide +kernel, rfl, rfl, rfl, rfl, rfl⟩, ⟨_, rfl, rfl⟩, ⟨_, _, _, _, _, _, _, _, _, _, _, _, rfl, fun env => ⟨_, rfl⟩⟩, by decide, by decide, fun _ _ _ _ _ _ _ _ _ => rfl⟩
theorem sc__law_around : FnScope ["cell", "x", "y"] ["cell"] (defScope s__law_around) := ⟨rfl, rfl, rfl, by decide +kernel, rfl, by decide +kernel, by decide +kernel⟩
def mb__law_around : M Fl := mSeq (mAsg (mVar 0) (gTupD (gsCons (gSet 1) (gsCons (gSet 2) gsNil)))) (mRet (mLst (mCons (mTup (mCons (mBin oAdd (mVar 1) (mC (.int 1))) (mCons (mVar 2) mNil))) (mCons (mTup (mCons (mVar 1) (mCons (mBin oAdd (mVar 2) (mC (.int 1))) mNil))) (mCons (mTup (mCons (mBin oSub (mVar 1) (mC (.int 1))) (mCons (mBin oAdd (mVar 2) (mC (.int 1))) mNil))) (mCons (mTup (mCons (mBin oSub (mVar 1) (mC (.int 1))) (mCons (mVar 2) mNil))) (mCons (mTup (mCons (mVar 1) (mCons (mBin oSub (mVar 2) (mC (.int 1))) mNil))) (mCons (mTup (mCons (mBin oAdd (mVar 1) (mC (.int 1))) (mCons (mBin oSub (mVar 2) (mC (.int 1))) mNil))) mNil))))))))
def m__law_around : List D → FRes := mFn 3 [.fz] false mb__law_around
theorem c__law_around (hf : Hf K mg base) : CallM P0 w K mg base 1 "_law_around" [.fz] .fz m__law_around := by
  obtain ⟨fd, F⟩ := hf.says.d.def_ 0 (d := d__law_around) rfl
  refine ⟨_, fd, ["cell"], fnM_of (Γ' := [.fz, .fz, .fz]) (fun_ofD F) sc__law_around rfl (by decide) (fun h => by cases h) (fun cdv A outer s H E hr => ?_), o__law_around hf, F.kp, (F.bindsN fun _ _ _ _ _ _ us hl => match us, hl with | [_], _ => rfl)⟩
  have tk := tkC (P := P0) (w := w) (K := K) (mg := mg) (base := base) (N := ["cell", "x", "y"]) (qual := "_law_around") (scope := defScope s__law_around) (f := He.ga K "_law_around") (cd := cdv) (A := A) (outer := outer) (s := s) (H := H) (E := E)
  have po := poC (P := P0) (w := w) (K := K) (mg := mg) (base := base) (N := ["cell", "x", "y"]) (qual := "_law_around") (scope := defScope s__law_around) (f := He.ga K "_law_around") (cd := cdv) (A := A) (outer := outer) (s := s) (H := H) (E := E)
  have nd := sc__law_around.nd
  exact mss_cons (ms_asg (mz_var 0) (mg_tup (mgs_cons (mg_name 1) (mgs_cons (mg_name 2) mgs_nil)))) (mss_one (ms_ret (MO.z (mo_lst (ml_cons (mz_tup (ml_cons (mz_add (mz_var 1) mz_int) (ml_cons (mz_var 2) ml_nil))) (ml_cons (mz_tup (ml_cons (mz_var 1) (ml_cons (mz_add (mz_var 2) mz_int) ml_nil))) (ml_cons (mz_tup (ml_cons (mz_sub (mz_var 1) mz_int) (ml_cons (mz_add (mz_var 2) mz_int) ml_nil))) (ml_cons (mz_tup (ml_cons (mz_sub (mz_var 1) mz_int) (ml_cons (mz_var 2) ml_nil))) (ml_cons (mz_tup (ml_cons (mz_var 1) (ml_cons (mz_sub (mz_var 2) mz_int) ml_nil))) (ml_cons (mz_tup (ml_cons (mz_add (mz_var 1) mz_int) (ml_cons (mz_sub (mz_var 2) mz_int) ml_nil))) ml_nil))))))))))
theorem sc__law_draw : FnScope ["state", "limit", "digit", "position", "cell", "mixed"] ["state", "limit"] (defScope s__law_draw) := ⟨rfl, rfl, rfl, by decide +kernel, rfl, by decide +kernel, by decide +kernel⟩
def mb__law_draw : M Fl := mSeq (mIf (mBTst oLt (mSub (mGetV 0) (mC (.int 0))) (mVar 1)) (mSeq (mSet 3 (mSub (mGetV 0) (mC (.int 1)))) (mSeq (mSetSub 0 (mBin oAdd (mVar 3) (mC (.int 1))) (mC (.int 1))) (mSeq (mSet 4 (mC (.int 0))) (mSeq (mIf (mBTst oLt (mVar 3) (mUn oLen (mGet (mSub (mGetV 0) (mC (.int 2)))))) (mSet 4 (mSub (mGet (mSub (mGetV 0) (mC (.int 2)))) (mVar 3))) mNext) (mIf (mBTst oGe (mVar 4) (mBin oPow (mC (.int 10)) (mC (.int 18)))) (mSetSub 0 (mVar 4) (mC (.int 0))) (mSeq (mSetSub 0 (mBin oMod (mUn oInt (mGet (mBin oMul (mBin oAdd (mBin oAdd (mBin oAdd (mSub (mGetV 0) (mC (.int 3))) (mBin oMod (mUn oInt (mGet (mVar 4))) (mC (.int 2147483629)))) (mVar 3)) (mC (.int 1))) (mC (.int 48271))))) (mC (.int 2147483647))) (mC (.int 3))) (mSeq (mSet 5 (mBin oMod (mUn oInt (mGet (mBin oAdd (mBin oMul (mSub (mGetV 0) (mC (.int 3))) (mC (.int 69621))) (mC (.int 11))))) (mC (.int 2147483629)))) (mSetSub 0 (mBin oAdd (mBin oMul (mVar 5) (mC (.int 2147483647))) (mBin oMod (mUn oInt (mGet (mBin oAdd (mBin oMul (mVar 5) (mC (.int 30011))) (mSub (mGetV 0) (mC (.int 3)))))) (mC (.int 2147483587)))) (mC (.int 0)))))))))) mNext) (mSeq (mSet 2 (mBin oMod (mUn oInt (mGet (mSub (mGetV 0) (mC (.int 0))))) (mVar 1))) (mSeq (mSetSub 0 (mBin oDiv (mSub (mGetV 0) (mC (.int 0))) (mVar 1)) (mC (.int 0))) (mRet (mVar 2))))
def m__law_draw : List D → FRes := mFn 6 [(.lst .fz), .fz] false mb__law_draw
theorem c__law_draw (hf : Hf K mg base) : CallM P0 w K mg base 1 "_law_draw" [(.lst .fz), .fz] .fz m__law_draw := by
  obtain ⟨fd, F⟩ := hf.says.d.def_ 1 (d := d__law_draw) rfl
  refine ⟨_, fd, ["state", "limit"], fnM_of (Γ' := [(.lst .fz), .fz, .fz, .fz, .fz, .fz]) (fun_ofD F) sc__law_draw rfl (by decide) (fun h => by cases h) (fun cdv A outer s H E hr => ?_), o__law_draw hf, F.kp, (F.bindsN fun _ _ _ _ _ _ us hl => match us, hl with | [_, _], _ => rfl)⟩
  have tk := tkC (P := P0) (w := w) (K := K) (mg := mg) (base := base) (N := ["state", "limit", "digit", "position", "cell", "mixed"]) (qual := "_law_draw") (scope := defScope s__law_draw) (f := He.ga K "_law_draw") (cd := cdv) (A := A) (outer := outer) (s := s) (H := H) (E := E)
  have po := poC (P := P0) (w := w) (K := K) (mg := mg) (base := base) (N := ["state", "limit", "digit", "position", "cell", "mixed"]) (qual := "_law_draw") (scope := defScope s__law_draw) (f := He.ga K "_law_draw") (cd := cdv) (A := A) (outer := outer) (s := s) (H := H) (E := E)
  have nd := sc__law_draw.nd
  exact mss_cons (ms_if (Γ' := [(.lst .fz), .fz, .fz, .fz, .fz, .fz]) (mt_lt (mz_sub' hr (mb_var 0) mz_int) (mz_var 1)) (mss_cons (ms_set 3 (mz_sub' hr (mb_var 0) mz_int)) (mss_cons (ms_setL 0 (mz_add (mz_var 3) mz_int) mz_int) (mss_cons (ms_set 4 mz_int) (mss_cons (ms_if (Γ' := [(.lst .fz), .fz, .fz, .fz, .fz, .fz]) (mt_lt (mz_var 3) (fz_len (g_len hf) (mb_z (mz_sub' hr (mb_var 0) mz_int)))) (mss_one (ms_set 4 (mz_sub' hr (mb_z (mz_sub' hr (mb_var 0) mz_int)) (mz_var 3)))) mss_nil) (mss_one (ms_if (Γ' := [(.lst .fz), .fz, .fz, .fz, .fz, .fz]) (mt_ge (mz_var 4) (mz_pow mz_int mz_int)) (mss_one (ms_setL 0 (mz_var 4) mz_int)) (mss_cons (ms_setL 0 (mz_mod (fz_int (g_int hf) (mb_z (mz_mul (mz_add (mz_add (mz_add (mz_sub' hr (mb_var 0) mz_int) (mz_mod (fz_int (g_int hf) (mb_z (mz_var 4))) mz_int)) (mz_var 3)) mz_int) mz_int))) mz_int) mz_int) (mss_cons (ms_set 5 (mz_mod (fz_int (g_int hf) (mb_z (mz_add (mz_mul (mz_sub' hr (mb_var 0) mz_int) mz_int) mz_int))) mz_int)) (mss_one (ms_setL 0 (mz_add (mz_mul (mz_var 5) mz_int) (mz_mod (fz_int (g_int hf) (mb_z (mz_add (mz_mul (mz_var 5) mz_int) (mz_sub' hr (mb_var 0) mz_int)))) mz_int)) mz_int)))))))))) mss_nil) (mss_cons (ms_set 2 (mz_mod (fz_int (g_int hf) (mb_z (mz_sub' hr (mb_var 0) mz_int))) (mz_var 1))) (mss_cons (ms_setL 0 (mz_fdiv (mz_sub' hr (mb_var 0) mz_int) (mz_var 1)) mz_int) (mss_one (ms_ret (mz_var 2)))))
theorem sc__law_pick : FnScope ["state", "rows"] ["state", "rows"] (defScope s__law_pick) := ⟨rfl, rfl, rfl, by decide +kernel, rfl, by decide +kernel, by decide +kernel⟩
def mb__law_pick : M Fl := mRet (mSub (mGet (mVar 1)) (mCall m__law_draw [.slot 0, .val (mUn oLen (mGet (mVar 1)))]))
def m__law_pick : List D → FRes := mFn 2 [(.lst .fz), .fz] false mb__law_pick
theorem c__law_pick (hf : Hf K mg base) : CallM P0 w K mg base 2 "_law_pick" [(.lst .fz), .fz] .fz m__law_pick := by
  obtain ⟨fd, F⟩ := hf.says.d.def_ 2 (d := d__law_pick) rfl
  refine ⟨_, fd, ["state", "rows"], fnM_of (Γ' := [(.lst .fz), .fz]) (fun_ofD F) sc__law_pick rfl (by decide) (fun h => by cases h) (fun cdv A outer s H E hr => ?_), o__law_pick hf, F.kp, (F.bindsN fun _ _ _ _ _ _ us hl => match us, hl with | [_, _], _ => rfl)⟩
  have tk := tkC (P := P0) (w := w) (K := K) (mg := mg) (base := base) (N := ["state", "rows"]) (qual := "_law_pick") (scope := defScope s__law_pick) (f := He.ga K "_law_pick") (cd := cdv) (A := A) (outer := outer) (s := s) (H := H) (E := E)
  have po := poC (P := P0) (w := w) (K := K) (mg := mg) (base := base) (N := ["state", "rows"]) (qual := "_law_pick") (scope := defScope s__law_pick) (f := He.ga K "_law_pick") (cd := cdv) (A := A) (outer := outer) (s := s) (H := H) (E := E)
  have nd := sc__law_pick.nd
  exact mss_one (ms_ret (mz_sub' hr (mb_z (mz_var 1)) (MO.z (mo_callM (c__law_draw hf) (hr.mono (by decide)) tk (ma_slot 0 (ma_val (fz_len (g_len hf) (mb_z (mz_var 1))) ma_nil))))))
theorem sc_is_number : FnScope ["value", "least", "most"] ["value", "least", "most"] (defScope s_is_number) := ⟨rfl, rfl, rfl, by decide +kernel, rfl, by decide +kernel, by decide +kernel⟩
def mb_is_number : M Fl := mRet (mAndV (mBl (mIsi ["int"] (mGet (mVar 0)))) (mAndV (mNotV (mBl (mIsi ["bool"] (mGet (mVar 0))))) (mChain oLe oLe (mVar 1) (mVar 0) (mVar 2))))
def m_is_number : List D → FRes := mFn 3 [.fz, .fz, .fz] false mb_is_number
theorem c_is_number (hf : Hf K mg base) : CallM P0 w K mg base 1 "is_number" [.fz, .fz, .fz] .fz m_is_number := by
  obtain ⟨fd, F⟩ := hf.says.d.def_ 3 (d := d_is_number) rfl
  refine ⟨_, fd, ["value", "least", "most"], fnM_of (Γ' := [.fz, .fz, .fz]) (fun_ofD F) sc_is_number rfl (by decide) (fun h => by cases h) (fun cdv A outer s H E hr => ?_), o_is_number hf, F.kp, (F.bindsN fun _ _ _ _ _ _ us hl => match us, hl with | [_, _, _], _ => rfl)⟩
  have tk := tkC (P := P0) (w := w) (K := K) (mg := mg) (base := base) (N := ["value", "least", "most"]) (qual := "is_number") (scope := defScope s_is_number) (f := He.ga K "is_number") (cd := cdv) (A := A) (outer := outer) (s := s) (H := H) (E := E)
  have po := poC (P := P0) (w := w) (K := K) (mg := mg) (base := base) (N := ["value", "least", "most"]) (qual := "is_number") (scope := defScope s_is_number) (f := He.ga K "is_number") (cd := cdv) (A := A) (outer := outer) (s := s) (H := H) (E := E)
  have nd := sc_is_number.nd
  exact mss_one (ms_ret (mz_and (mz_isi (g_isinstance hf) (.cons rfl (g_int hf) rfl (by decide) (by decide) (by decide) rfl .nil) (mb_z (mz_var 0))) (mz_and (mz_not (mz_isi (g_isinstance hf) (.cons rfl (g_bool hf) rfl (by decide) (by decide) (by decide) rfl .nil) (mb_z (mz_var 0)))) (mz_one (mz_chain (op_le) (op_le) bn_le bn_le (mz_var 1) (mz_var 0) (mz_var 2))))))
theorem sc_is_cell : FnScope ["value"] ["value"] (defScope s_is_cell) := ⟨rfl, rfl, rfl, by decide +kernel, rfl, by decide +kernel, by decide +kernel⟩
def mb_is_cell : M Fl := mSeq (mIf (mOr (mNot (mIsi ["list", "tuple"] (mGet (mVar 0)))) (mBTst oNe (mUn oLen (mGet (mVar 0))) (mC (.int 2)))) (mRet (mC (.bl false))) mNext) (mRet (mAndV (mCall m_is_number [.val (mSub (mGet (mVar 0)) (mC (.int 0))), .val (mNeg (mC kMOST_PLACE)), .val (mC kMOST_PLACE)]) (mCall m_is_number [.val (mSub (mGet (mVar 0)) (mC (.int 1))), .val (mNeg (mC kMOST_PLACE)), .val (mC kMOST_PLACE)])))
def m_is_cell : List D → FRes := mFn 1 [.fz] false mb_is_cell
theorem c_is_cell (hf : Hf K mg base) : CallM P0 w K mg base 2 "is_cell" [.fz] .fz m_is_cell := by
  obtain ⟨fd, F⟩ := hf.says.d.def_ 4 (d := d_is_cell) rfl
  refine ⟨_, fd, ["value"], fnM_of (Γ' := [.fz]) (fun_ofD F) sc_is_cell rfl (by decide) (fun h => by cases h) (fun cdv A outer s H E hr => ?_), o_is_cell hf, F.kp, (F.bindsN fun _ _ _ _ _ _ us hl => match us, hl with | [_], _ => rfl)⟩
  have tk := tkC (P := P0) (w := w) (K := K) (mg := mg) (base := base) (N := ["value"]) (qual := "is_cell") (scope := defScope s_is_cell) (f := He.ga K "is_cell") (cd := cdv) (A := A) (outer := outer) (s := s) (H := H) (E := E)
  have po := poC (P := P0) (w := w) (K := K) (mg := mg) (base := base) (N := ["value"]) (qual := "is_cell") (scope := defScope s_is_cell) (f := He.ga K "is_cell") (cd := cdv) (A := A) (outer := outer) (s := s) (H := H) (E := E)
  have nd := sc_is_cell.nd
  exact mss_cons (ms_if (Γ' := [.fz]) (MTW.t (mtw_or (mt_not (mt_isiT (g_isinstance hf) (.cons rfl (g_list hf) rfl (by decide) (by decide) (by decide) rfl (.cons rfl (g_tuple hf) rfl (by decide) (by decide) (by decide) rfl .nil)) (mb_z (mz_var 0)))) (mtw_or1 (mt_ne hr (fz_len (g_len hf) (mb_z (mz_var 0))) mz_int)))) (mss_one (ms_ret mz_bl)) mss_nil) (mss_one (ms_ret (mz_and (MO.z (mo_callM (c_is_number hf) (hr.mono (by decide)) tk (ma_val (mz_sub' hr (mb_z (mz_var 0)) mz_int) (ma_val (mz_neg (mz_con (k_MOST_PLACE hf))) (ma_val (mz_con (k_MOST_PLACE hf)) ma_nil))))) (mz_one (MO.z (mo_callM (c_is_number hf) (hr.mono (by decide)) tk (ma_val (mz_sub' hr (mb_z (mz_var 0)) mz_int) (ma_val (mz_neg (mz_con (k_MOST_PLACE hf))) (ma_val (mz_con (k_MOST_PLACE hf)) ma_nil)))))))))
theorem sc_checked_cell : FnScope ["value"] ["value"] (defScope s_checked_cell) := ⟨rfl, rfl, rfl, by decide +kernel, rfl, by decide +kernel, by decide +kernel⟩
def mb_checked_cell : M Fl := mSeq (mIf (mNot (mTst (mCall m_is_cell [.val (mVar 0)]))) (mRaise "BadLand" "what" (mC (.str "cell"))) mNext) (mRet (mUn oTuple (mGet (mVar 0))))
def m_checked_cell : List D → FRes := mFn 1 [.fz] false mb_checked_cell
theorem c_checked_cell (hf : Hf K mg base) : CallM P0 w K mg base 3 "checked_cell" [.fz] .fz m_checked_cell := by
  obtain ⟨fd, F⟩ := hf.says.d.def_ 5 (d := d_checked_cell) rfl
  refine ⟨_, fd, ["value"], fnM_of (Γ' := [.fz]) (fun_ofD F) sc_checked_cell rfl (by decide) (fun h => by cases h) (fun cdv A outer s H E hr => ?_), o_checked_cell hf, F.kp, (F.bindsN fun _ _ _ _ _ _ us hl => match us, hl with | [_], _ => rfl)⟩
  have tk := tkC (P := P0) (w := w) (K := K) (mg := mg) (base := base) (N := ["value"]) (qual := "checked_cell") (scope := defScope s_checked_cell) (f := He.ga K "checked_cell") (cd := cdv) (A := A) (outer := outer) (s := s) (H := H) (E := E)
  have po := poC (P := P0) (w := w) (K := K) (mg := mg) (base := base) (N := ["value"]) (qual := "checked_cell") (scope := defScope s_checked_cell) (f := He.ga K "checked_cell") (cd := cdv) (A := A) (outer := outer) (s := s) (H := H) (E := E)
  have nd := sc_checked_cell.nd
  exact mss_cons (ms_if (Γ' := [.fz]) (mt_not (mt_val (MO.z (mo_callM (c_is_cell hf) (hr.mono (by decide)) tk (ma_val (mz_var 0) ma_nil))))) (mss_one (ms_raise (k := 0) (x_BadLand hf) xT (hr.mono (by decide)) tk rfl (g_super hf) (g_str hf) (o_BadLand hf) mz_str)) mss_nil) (mss_one (ms_ret (fz_tuple (g_tuple hf) (mb_z (mz_var 0)))))
theorem sc_plain_around : FnScope ["cell", "x", "y", "dx", "dy"] ["cell"] (defScope s_plain_around) := ⟨rfl, rfl, rfl, by decide +kernel, rfl, by decide +kernel, by decide +kernel⟩
def mb_plain_around : M Fl := mSeq (mAsg (mVar 0) (gTupD (gsCons (gSet 1) (gsCons (gSet 2) gsNil)))) (mRet (mComp [3, 4] (mItems (mC kAROUND)) (gTupD (gsCons (gSet 3) (gsCons (gSet 4) gsNil))) mYes (mTup (mCons (mBin oAdd (mVar 1) (mVar 3)) (mCons (mBin oAdd (mVar 2) (mVar 4)) mNil)))))
def m_plain_around : List D → FRes := mFn 5 [.fz] false mb_plain_around
theorem c_plain_around (hf : Hf K mg base) : CallM P0 w K mg base 1 "plain_around" [.fz] .fz m_plain_around := by
  obtain ⟨fd, F⟩ := hf.says.d.def_ 6 (d := d_plain_around) rfl
  refine ⟨_, fd, ["cell"], fnM_of (Γ' := [.fz, .fz, .fz, .fz, .fz]) (fun_ofD F) sc_plain_around rfl (by decide) (fun h => by cases h) (fun cdv A outer s H E hr => ?_), o_plain_around hf, F.kp, (F.bindsN fun _ _ _ _ _ _ us hl => match us, hl with | [_], _ => rfl)⟩
  have tk := tkC (P := P0) (w := w) (K := K) (mg := mg) (base := base) (N := ["cell", "x", "y", "dx", "dy"]) (qual := "plain_around") (scope := defScope s_plain_around) (f := He.ga K "plain_around") (cd := cdv) (A := A) (outer := outer) (s := s) (H := H) (E := E)
  have po := poC (P := P0) (w := w) (K := K) (mg := mg) (base := base) (N := ["cell", "x", "y", "dx", "dy"]) (qual := "plain_around") (scope := defScope s_plain_around) (f := He.ga K "plain_around") (cd := cdv) (A := A) (outer := outer) (s := s) (H := H) (E := E)
  have nd := sc_plain_around.nd
  exact mss_cons (ms_asg (mz_var 0) (mg_tup (mgs_cons (mg_name 1) (mgs_cons (mg_name 2) mgs_nil)))) (mss_one (ms_ret (MO.z (mo_lc [3, 4] (mi_z (mz_con (k_AROUND hf))) (blkOk_by (own := [("dx", 3), ("dy", 4)]) (by show blkC ["cell", "x", "y", "dx", "dy"] (defScope s_plain_around) _ _ = true; decide +kernel)) (fun _ _ _ _ _ => mg_tup (mgs_cons (mg_name 3) (mgs_cons (mg_name 4) mgs_nil))) (fun _ _ _ _ _ => mts_nil) (fun _ _ _ _ _ => mz_tup (ml_cons (mz_add (mz_var 1) (mz_var 3)) (ml_cons (mz_add (mz_var 2) (mz_var 4)) ml_nil))) (hv := (vs_fz rfl (vs_fz rfl vs_nil))) (Γb := [.any, .any, .any, .any, .any])))))
theorem sc_around : FnScope ["cell"] ["cell"] (defScope s_around) := ⟨rfl, rfl, rfl, by decide +kernel, rfl, by decide +kernel, by decide +kernel⟩
def mb_around : M Fl := mRet (mUn oTuple (mGet (mCall m_plain_around [.val (mCall m_checked_cell [.val (mVar 0)])])))
def m_around : List D → FRes := mFn 1 [.fz] false mb_around
theorem c_around (hf : Hf K mg base) : CallM P0 w K mg base 4 "around" [.fz] .fz m_around := by
  obtain ⟨fd, F⟩ := hf.says.d.def_ 7 (d := d_around) rfl
  refine ⟨_, fd, ["cell"], fnM_of (Γ' := [.fz]) (fun_ofD F) sc_around rfl (by decide) (fun h => by cases h) (fun cdv A outer s H E hr => ?_), o_around hf, F.kp, (F.bindsN fun _ _ _ _ _ _ us hl => match us, hl with | [_], _ => rfl)⟩
  have tk := tkC (P := P0) (w := w) (K := K) (mg := mg) (base := base) (N := ["cell"]) (qual := "around") (scope := defScope s_around) (f := He.ga K "around") (cd := cdv) (A := A) (outer := outer) (s := s) (H := H) (E := E)
  have po := poC (P := P0) (w := w) (K := K) (mg := mg) (base := base) (N := ["cell"]) (qual := "around") (scope := defScope s_around) (f := He.ga K "around") (cd := cdv) (A := A) (outer := outer) (s := s) (H := H) (E := E)
  have nd := sc_around.nd
  exact mss_one (ms_ret (fz_tuple (g_tuple hf) (mb_z (MO.z (mo_callM (c_plain_around hf) (hr.mono (by decide)) tk (ma_val (MO.z (mo_callM (c_checked_cell hf) (hr.mono (by decide)) tk (ma_val (mz_var 0) ma_nil))) ma_nil))))))
theorem sc_plain_far : FnScope ["one", "two", "dx", "dy"] ["one", "two"] (defScope s_plain_far) := ⟨rfl, rfl, rfl, by decide +kernel, rfl, by decide +kernel, by decide +kernel⟩
def mb_plain_far : M Fl := mSeq (mPar2 2 3 (mCons (mBin oSub (mSub (mGet (mVar 1)) (mC (.int 0))) (mSub (mGet (mVar 0)) (mC (.int 0)))) (mCons (mBin oSub (mSub (mGet (mVar 1)) (mC (.int 1))) (mSub (mGet (mVar 0)) (mC (.int 1)))) mNil))) (mRet (mBin oDiv (mBin oAdd (mBin oAdd (mUn oAbs (mGet (mVar 2))) (mUn oAbs (mGet (mVar 3)))) (mUn oAbs (mGet (mBin oAdd (mVar 2) (mVar 3))))) (mC (.int 2))))
def m_plain_far : List D → FRes := mFn 4 [.fz, .fz] false mb_plain_far
theorem c_plain_far (hf : Hf K mg base) : CallM P0 w K mg base 1 "plain_far" [.fz, .fz] .fz m_plain_far := by
  obtain ⟨fd, F⟩ := hf.says.d.def_ 8 (d := d_plain_far) rfl
  refine ⟨_, fd, ["one", "two"], fnM_of (Γ' := [.fz, .fz, .fz, .fz]) (fun_ofD F) sc_plain_far rfl (by decide) (fun h => by cases h) (fun cdv A outer s H E hr => ?_), o_plain_far hf, F.kp, (F.bindsN fun _ _ _ _ _ _ us hl => match us, hl with | [_, _], _ => rfl)⟩
  have tk := tkC (P := P0) (w := w) (K := K) (mg := mg) (base := base) (N := ["one", "two", "dx", "dy"]) (qual := "plain_far") (scope := defScope s_plain_far) (f := He.ga K "plain_far") (cd := cdv) (A := A) (outer := outer) (s := s) (H := H) (E := E)
  have po := poC (P := P0) (w := w) (K := K) (mg := mg) (base := base) (N := ["one", "two", "dx", "dy"]) (qual := "plain_far") (scope := defScope s_plain_far) (f := He.ga K "plain_far") (cd := cdv) (A := A) (outer := outer) (s := s) (H := H) (E := E)
  have nd := sc_plain_far.nd
  exact mss_cons (ms_par2 2 3 (mlo_cons (mz_sub (mz_sub' hr (mb_z (mz_var 1)) mz_int) (mz_sub' hr (mb_z (mz_var 0)) mz_int)) (mlo_cons (mz_sub (mz_sub' hr (mb_z (mz_var 1)) mz_int) (mz_sub' hr (mb_z (mz_var 0)) mz_int)) mlo_nil))) (mss_one (ms_ret (mz_fdiv (mz_add (mz_add (fz_abs (g_abs hf) (mb_z (mz_var 2))) (fz_abs (g_abs hf) (mb_z (mz_var 3)))) (fz_abs (g_abs hf) (mb_z (mz_add (mz_var 2) (mz_var 3))))) mz_int)))
theorem sc_far : FnScope ["one", "two"] ["one", "two"] (defScope s_far) := ⟨rfl, rfl, rfl, by decide +kernel, rfl, by decide +kernel, by decide +kernel⟩
def mb_far : M Fl := mRet (mCall m_plain_far [.val (mCall m_checked_cell [.val (mVar 0)]), .val (mCall m_checked_cell [.val (mVar 1)])])
def m_far : List D → FRes := mFn 2 [.fz, .fz] false mb_far
theorem c_far (hf : Hf K mg base) : CallM P0 w K mg base 4 "far" [.fz, .fz] .fz m_far := by
  obtain ⟨fd, F⟩ := hf.says.d.def_ 9 (d := d_far) rfl
  refine ⟨_, fd, ["one", "two"], fnM_of (Γ' := [.fz, .fz]) (fun_ofD F) sc_far rfl (by decide) (fun h => by cases h) (fun cdv A outer s H E hr => ?_), o_far hf, F.kp, (F.bindsN fun _ _ _ _ _ _ us hl => match us, hl with | [_, _], _ => rfl)⟩
  have tk := tkC (P := P0) (w := w) (K := K) (mg := mg) (base := base) (N := ["one", "two"]) (qual := "far") (scope := defScope s_far) (f := He.ga K "far") (cd := cdv) (A := A) (outer := outer) (s := s) (H := H) (E := E)
  have po := poC (P := P0) (w := w) (K := K) (mg := mg) (base := base) (N := ["one", "two"]) (qual := "far") (scope := defScope s_far) (f := He.ga K "far") (cd := cdv) (A := A) (outer := outer) (s := s) (H := H) (E := E)
  have nd := sc_far.nd
  exact mss_one (ms_ret (MO.z (mo_callM (c_plain_far hf) (hr.mono (by decide)) tk (ma_val (MO.z (mo_callM (c_checked_cell hf) (hr.mono (by decide)) tk (ma_val (mz_var 0) ma_nil))) (ma_val (MO.z (mo_callM (c_checked_cell hf) (hr.mono (by decide)) tk (ma_val (mz_var 1) ma_nil))) ma_nil)))))
theorem sc_hue : FnScope ["cell", "x", "y"] ["cell"] (defScope s_hue) := ⟨rfl, rfl, rfl, by decide +kernel, rfl, by decide +kernel, by decide +kernel⟩
def mb_hue : M Fl := mSeq (mAsg (mCall m_checked_cell [.val (mVar 0)]) (gTupD (gsCons (gSet 1) (gsCons (gSet 2) gsNil)))) (mRet (mBin oMod (mBin oSub (mVar 1) (mVar 2)) (mC (.int 3))))
def m_hue : List D → FRes := mFn 3 [.fz] false mb_hue
theorem c_hue (hf : Hf K mg base) : CallM P0 w K mg base 4 "hue" [.fz] .fz m_hue := by
  obtain ⟨fd, F⟩ := hf.says.d.def_ 10 (d := d_hue) rfl
  refine ⟨_, fd, ["cell"], fnM_of (Γ' := [.fz, .fz, .fz]) (fun_ofD F) sc_hue rfl (by decide) (fun h => by cases h) (fun cdv A outer s H E hr => ?_), o_hue hf, F.kp, (F.bindsN fun _ _ _ _ _ _ us hl => match us, hl with | [_], _ => rfl)⟩
  have tk := tkC (P := P0) (w := w) (K := K) (mg := mg) (base := base) (N := ["cell", "x", "y"]) (qual := "hue") (scope := defScope s_hue) (f := He.ga K "hue") (cd := cdv) (A := A) (outer := outer) (s := s) (H := H) (E := E)
  have po := poC (P := P0) (w := w) (K := K) (mg := mg) (base := base) (N := ["cell", "x", "y"]) (qual := "hue") (scope := defScope s_hue) (f := He.ga K "hue") (cd := cdv) (A := A) (outer := outer) (s := s) (H := H) (E := E)
  have nd := sc_hue.nd
  exact mss_cons (ms_asg (MO.z (mo_callM (c_checked_cell hf) (hr.mono (by decide)) tk (ma_val (mz_var 0) ma_nil))) (mg_tup (mgs_cons (mg_name 1) (mgs_cons (mg_name 2) mgs_nil)))) (mss_one (ms_ret (mz_mod (mz_sub (mz_var 1) (mz_var 2)) mz_int)))
theorem sc__law_refused : FnScope ["cell", "found", "way", "error"] ["cell"] (defScope s__law_refused) := ⟨rfl, rfl, rfl, by decide +kernel, rfl, by decide +kernel, by decide +kernel⟩
def lb__law_refused_2 : M Fl := mTry (mExpr (mIf (mBTst oEq (mVar 2) (mC (.int 0))) (mCall m_around [.val (mVar 0)]) (mIf (mBTst oEq (mVar 2) (mC (.int 1))) (mCall m_hue [.val (mVar 0)]) (mCall m_far [.val (mTup (mCons (mC (.int 0)) (mCons (mC (.int 0)) mNil))), .val (mVar 0)])))) 3 xtbl_BadLand (mSet 1 (mBin oAdd (mVar 1) (mUn oInt (mGet (mBin oEqS (mExF 3 "what") (mC (.str "cell")))))))
def mb__law_refused : M Fl := mSeq (mSet 1 (mC (.int 0))) (mSeq (mForS (mRange1 (mC (.int 3))) (gSet 2) lb__law_refused_2) (mRet (mBin oEq (mVar 1) (mC (.int 3)))))
def m__law_refused : List D → FRes := mFn 4 [.fz] false mb__law_refused
theorem c__law_refused (hf : Hf K mg base) : CallM P0 w K mg base 5 "_law_refused" [.fz] .fz m__law_refused := by
  obtain ⟨fd, F⟩ := hf.says.d.def_ 11 (d := d__law_refused) rfl
  refine ⟨_, fd, ["cell"], fnM_of (Γ' := [.fz, .fz, .fz, .any]) (fun_ofD F) sc__law_refused rfl (by decide) (fun h => by cases h) (fun cdv A outer s H E hr => ?_), o__law_refused hf, F.kp, (F.bindsN fun _ _ _ _ _ _ us hl => match us, hl with | [_], _ => rfl)⟩
  have tk := tkC (P := P0) (w := w) (K := K) (mg := mg) (base := base) (N := ["cell", "found", "way", "error"]) (qual := "_law_refused") (scope := defScope s__law_refused) (f := He.ga K "_law_refused") (cd := cdv) (A := A) (outer := outer) (s := s) (H := H) (E := E)
  have po := poC (P := P0) (w := w) (K := K) (mg := mg) (base := base) (N := ["cell", "found", "way", "error"]) (qual := "_law_refused") (scope := defScope s__law_refused) (f := He.ga K "_law_refused") (cd := cdv) (A := A) (outer := outer) (s := s) (H := H) (E := E)
  have nd := sc__law_refused.nd
  exact mss_cons (ms_set 1 mz_int) (mss_cons (ms_for (Γh := [.fz, .fz, .fz, .any]) (mi_range1 mz_int (g_range hf)) (by repeat (first | exact MLe.nil | apply MLe.same | apply MLe.drop)) (mg_name 2) (mss_one (ms_try (Γ' := [.fz, .fz, .fz, .any]) (Γt := [.fz, .fz, .fz, .any]) (Γs := fun _ _ => [.fz, .fz, .fz, .any]) 3 xtbl_BadLand (exTry_tbl (t_BadLand hf)) (n_BadLand hf rfl) tk (fun W' pn xe tk po => mss_one (ms_expr (mz_ifExp (mt_eq hr (mz_var 2) mz_int) (MO.z (mo_callM (c_around hf) (hr.mono (by decide)) tk (ma_val (mz_var 0) ma_nil))) (mz_ifExp (mt_eq hr (mz_var 2) mz_int) (MO.z (mo_callM (c_hue hf) (hr.mono (by decide)) tk (ma_val (mz_var 0) ma_nil))) (MO.z (mo_callM (c_far hf) (hr.mono (by decide)) tk (ma_val (mz_tup (ml_cons mz_int (ml_cons mz_int ml_nil))) (ma_val (mz_var 0) ma_nil)))))))) (fun y hy a oe dd pn hz hfd => MSs.le (mss_one (ms_set 1 (mz_add (mz_var 1) (fz_int (g_int hf) (mb_z (mz_eqS (mz_exf 3 (exTry_xf (t_BadLand hf) y hy) (exTry_no (t_BadLand hf) y hy) hz hfd rfl) mz_str)))))) (by repeat (first | exact MLe.nil | apply MLe.same | apply MLe.drop))) (by repeat (first | exact MLe.nil | apply MLe.same | apply MLe.drop)) (fun _ _ => MLe.refl _))) po) (mss_one (ms_ret (mz_eq hr (mz_var 1) mz_int))))
theorem sc__law_same : FnScope ["one", "two", "a", "b"] ["one", "two"] (defScope s__law_same) := ⟨rfl, rfl, rfl, by decide +kernel, rfl, by decide +kernel, by decide +kernel⟩
def mb__law_same (r : List D → FRes) : M Fl := mSeq (mIf (mOr (mAnd (mIsi ["tuple"] (mGet (mVar 0))) (mIsi ["tuple"] (mGet (mVar 1)))) (mAnd (mIsi ["list"] (mGet (mVar 0))) (mIsi ["list"] (mGet (mVar 1))))) (mRet (mAndV (mBin oEq (mUn oLen (mGet (mVar 0))) (mUn oLen (mGet (mVar 1)))) (mBin oEq (mComp [2, 3] (mZip (mVar 0) (mVar 1)) (gTupD (gsCons (gSet 2) (gsCons (gSet 3) gsNil))) (mNot (mTst (mCall r [.val (mVar 2), .val (mVar 3)]))) (mC (.int 1))) (mLst mNil)))) mNext) (mSeq (mIf (mOr (mBTst oNe (mBl (mIsi ["bool"] (mGet (mVar 0)))) (mBl (mIsi ["bool"] (mGet (mVar 1))))) (mBTst oNe (mBl (mIsi ["int"] (mGet (mVar 0)))) (mBl (mIsi ["int"] (mGet (mVar 1)))))) (mRet (mC (.bl false))) mNext) (mRet (mBin oEq (mVar 0) (mVar 1))))
def m__law_same : Nat → List D → FRes
  | 0 => fun _ => .bad
  | n + 1 => mFn 4 [.fz, .fz] false (mb__law_same (m__law_same n))
theorem c__law_same (hf : Hf K mg base) : ∀ n, CallM P0 w K mg base (1 + n) "_law_same" [.fz, .fz] .fz (m__law_same n) := by
  intro n
  obtain ⟨fd, F⟩ := hf.says.d.def_ 12 (d := d__law_same) rfl
  induction n with
  | zero => exact ⟨_, fd, ["one", "two"], fnM_bad, o__law_same hf, F.kp, (F.bindsN fun _ _ _ _ _ _ us hl => match us, hl with | [_, _], _ => rfl)⟩
  | succ n ih =>
    refine ⟨_, fd, ["one", "two"], fnM_of (Γ' := [.fz, .fz, .fz, .fz]) (fun_ofD F) sc__law_same rfl (by decide) (fun h => by cases h) (fun cdv A outer s H E hr => ?_), o__law_same hf, F.kp, (F.bindsN fun _ _ _ _ _ _ us hl => match us, hl with | [_, _], _ => rfl)⟩
    have tk := tkC (P := P0) (w := w) (K := K) (mg := mg) (base := base) (N := ["one", "two", "a", "b"]) (qual := "_law_same") (scope := defScope s__law_same) (f := He.ga K "_law_same") (cd := cdv) (A := A) (outer := outer) (s := s) (H := H) (E := E)
    have po := poC (P := P0) (w := w) (K := K) (mg := mg) (base := base) (N := ["one", "two", "a", "b"]) (qual := "_law_same") (scope := defScope s__law_same) (f := He.ga K "_law_same") (cd := cdv) (A := A) (outer := outer) (s := s) (H := H) (E := E)
    have nd := sc__law_same.nd
    exact mss_cons (ms_if (Γ' := [.fz, .fz, .fz, .fz]) (MTW.t (mtw_or (MTW.t (mtw_and (mt_isi (g_isinstance hf) (.cons rfl (g_tuple hf) rfl (by decide) (by decide) (by decide) rfl .nil) (mb_z (mz_var 0))) (mtw_and1 (mt_isi (g_isinstance hf) (.cons rfl (g_tuple hf) rfl (by decide) (by decide) (by decide) rfl .nil) (mb_z (mz_var 1)))))) (mtw_or1 (MTW.t (mtw_and (mt_isi (g_isinstance hf) (.cons rfl (g_list hf) rfl (by decide) (by decide) (by decide) rfl .nil) (mb_z (mz_var 0))) (mtw_and1 (mt_isi (g_isinstance hf) (.cons rfl (g_list hf) rfl (by decide) (by decide) (by decide) rfl .nil) (mb_z (mz_var 1))))))))) (mss_one (ms_ret (mz_and (mz_eq hr (fz_len (g_len hf) (mb_z (mz_var 0))) (fz_len (g_len hf) (mb_z (mz_var 1)))) (mz_one (mz_eq hr (MO.z (mo_lc [2, 3] (mi_zip (mz_var 0) (mz_var 1) (g_zip hf)) (blkOk_by (own := [("a", 2), ("b", 3)]) (by show blkC ["one", "two", "a", "b"] (defScope s__law_same) _ _ = true; decide +kernel)) (fun _ _ _ _ _ => mg_tup (mgs_cons (mg_name 2) (mgs_cons (mg_name 3) mgs_nil))) (fun _ _ _ _ _ => mts_one (mt_not (mt_val (MO.z (mo_callM ih (hr.mono (Nat.le_refl _)) takes0 (ma_val (mz_var 2) (ma_val (mz_var 3) ma_nil))))))) (fun _ _ _ _ _ => mz_int) (hv := (vs_fz rfl (vs_fz rfl vs_nil))) (Γb := [.any, .any, .any, .any]))) (MO.z (mo_lst ml_nil))))))) mss_nil) (mss_cons (ms_if (Γ' := [.fz, .fz, .fz, .fz]) (MTW.t (mtw_or (mt_ne hr (mz_isi (g_isinstance hf) (.cons rfl (g_bool hf) rfl (by decide) (by decide) (by decide) rfl .nil) (mb_z (mz_var 0))) (mz_isi (g_isinstance hf) (.cons rfl (g_bool hf) rfl (by decide) (by decide) (by decide) rfl .nil) (mb_z (mz_var 1)))) (mtw_or1 (mt_ne hr (mz_isi (g_isinstance hf) (.cons rfl (g_int hf) rfl (by decide) (by decide) (by decide) rfl .nil) (mb_z (mz_var 0))) (mz_isi (g_isinstance hf) (.cons rfl (g_int hf) rfl (by decide) (by decide) (by decide) rfl .nil) (mb_z (mz_var 1))))))) (mss_one (ms_ret mz_bl)) mss_nil) (mss_one (ms_ret (mz_eq hr (mz_var 0) (mz_var 1)))))
theorem sc_do_meet : FnScope ["one", "two"] ["one", "two"] (defScope s_do_meet) := ⟨rfl, rfl, rfl, by decide +kernel, rfl, by decide +kernel, by decide +kernel⟩
def mb_do_meet : M Fl := mRet (mBin oEq (mCall m_far [.val (mVar 0), .val (mVar 1)]) (mC (.int 1)))
def m_do_meet : List D → FRes := mFn 2 [.fz, .fz] false mb_do_meet
theorem c_do_meet (hf : Hf K mg base) : CallM P0 w K mg base 5 "do_meet" [.fz, .fz] .fz m_do_meet := by
  obtain ⟨fd, F⟩ := hf.says.d.def_ 13 (d := d_do_meet) rfl
  refine ⟨_, fd, ["one", "two"], fnM_of (Γ' := [.fz, .fz]) (fun_ofD F) sc_do_meet rfl (by decide) (fun h => by cases h) (fun cdv A outer s H E hr => ?_), o_do_meet hf, F.kp, (F.bindsN fun _ _ _ _ _ _ us hl => match us, hl with | [_, _], _ => rfl)⟩
  have tk := tkC (P := P0) (w := w) (K := K) (mg := mg) (base := base) (N := ["one", "two"]) (qual := "do_meet") (scope := defScope s_do_meet) (f := He.ga K "do_meet") (cd := cdv) (A := A) (outer := outer) (s := s) (H := H) (E := E)
  have po := poC (P := P0) (w := w) (K := K) (mg := mg) (base := base) (N := ["one", "two"]) (qual := "do_meet") (scope := defScope s_do_meet) (f := He.ga K "do_meet") (cd := cdv) (A := A) (outer := outer) (s := s) (H := H) (E := E)
  have nd := sc_do_meet.nd
  exact mss_one (ms_ret (mz_eq hr (MO.z (mo_callM (c_far hf) (hr.mono (by decide)) tk (ma_val (mz_var 0) (ma_val (mz_var 1) ma_nil)))) mz_int))
theorem sc_law : FnScope ["script", "state", "turn", "cell", "home", "hues", "seen", "line", "step", "bent", "x", "y", "more", "one", "goal", "other"] ["script"] (defScope s_law) := ⟨rfl, rfl, rfl, by decide +kernel, rfl, by decide +kernel, by decide +kernel⟩
def lb_law_14 : M Fl := mIf (mIn true (mVar 15) (mGetV 6)) (mSeq (mSetSub 6 (mVar 8) (mVar 15)) (mExpr (mLM 12 oAppend (mCons (mVar 15) mNil)))) mNext
def lb_law_13 : M Fl := mForS (mItems (mCall m__law_around [.val (mVar 13)])) (gSet 15) lb_law_14
def lb_law_11 : M Fl := mSeq (mSet 12 (mLst mNil)) (mSeq (mForS (mItems (mVar 7)) (gSet 13) lb_law_13) (mSeq (mSet 7 (mVar 12)) (mSeq (mSet 14 (mCall m__law_pick [.slot 1, .val (mVar 7)])) (mIf (mOr (mNot (mTst (mCall (m__law_same 6) [.val (mCall m_far [.val (mVar 4), .val (mVar 14)]), .val (mVar 8)]))) (mOr (mBTst oNe (mCall m_far [.val (mVar 14), .val (mVar 4)]) (mVar 8)) (mNot (mTst (mCall (m__law_same 6) [.val (mCall m_do_meet [.val (mVar 4), .val (mVar 14)]), .val (mBin oEq (mVar 8) (mC (.int 1)))]))))) (mRet (mC (.bl false))) mNext))))
def lb_law_24 : M Fl := mIf (mOr (mNot (mTst (mCall m__law_refused [.val (mVar 9)]))) (mBTst oIsNot (mCall m_is_cell [.val (mVar 9)]) (mC (.bl false)))) (mRet (mC (.bl false))) mNext
def lb_law_2 : M Fl := mSeq (mSet 3 (mCall m__law_pick [.slot 1, .val (mLst (mCons (mTup (mCons (mBin oSub (mCall m__law_draw [.slot 1, .val (mC (.int 199))]) (mC (.int 99))) (mCons (mBin oSub (mCall m__law_draw [.slot 1, .val (mC (.int 199))]) (mC (.int 99))) mNil))) (mCons (mTup (mCons (mCall m__law_draw [.slot 1, .val (mC (.int 9))]) (mCons (mCall m__law_draw [.slot 1, .val (mC (.int 9))]) mNil))) (mCons (mTup (mCons (mC (.int 99)) (mCons (mBin oSub (mC (.int 0)) (mC (.int 99))) mNil))) (mCons (mTup (mCons (mBin oSub (mC (.int 0)) (mC (.int 99))) (mCons (mC (.int 99)) mNil))) mNil)))))])) (mSeq (mIf (mOr (mNot (mTst (mCall (m__law_same 6) [.val (mCall m_around [.val (mVar 3)]), .val (mUn oTuple (mGet (mCall m__law_around [.val (mVar 3)])))]))) (mOr (mBTst oNe (mCall m_around [.val (mUn oList (mGet (mVar 3)))]) (mCall m_around [.val (mVar 3)])) (mOr (mBTst oIsNot (mCall m_is_cell [.val (mVar 3)]) (mC (.bl true))) (mNot (mTst (mCall (m__law_same 6) [.val (mCall m_hue [.val (mVar 3)]), .val (mBin oMod (mUn oInt (mGet (mBin oSub (mSub (mGet (mVar 3)) (mC (.int 0))) (mSub (mGet (mVar 3)) (mC (.int 1)))))) (mC (.int 3)))])))))) (mRet (mC (.bl false))) mNext) (mSeq (mSet 4 (mTup (mCons (mBin oSub (mCall m__law_draw [.slot 1, .val (mC (.int 99))]) (mC (.int 49))) (mCons (mBin oSub (mCall m__law_draw [.slot 1, .val (mC (.int 99))]) (mC (.int 49))) mNil)))) (mSeq (mSet 5 (mComp [10, 11] (mItems (mCall m__law_around [.val (mVar 4)])) (gTupD (gsCons (gSet 10) (gsCons (gSet 11) gsNil))) mYes (mBin oMod (mUn oInt (mGet (mBin oSub (mVar 10) (mVar 11)))) (mC (.int 3))))) (mSeq (mIf (mOr (mBTst oNe (mComp [15] (mItems (mCall m_around [.val (mVar 4)])) (gSet 15) mYes (mCall m_hue [.val (mVar 15)])) (mVar 5)) (mOr (mBTst oNe (mUn oSorted (mGet (mSlice oSliceL (mVar 5) (fun e => .ok none e) (fun e => .ok none e) (mPart (mC (.int 2)))))) (mBin oRepL (mLst (mCons (mSub (mGet (mVar 5)) (mC (.int 0))) mNil)) (mC (.int 3)))) (mOr (mBTst oNe (mUn oSorted (mGet (mSlice oSliceL (mVar 5) (mPart (mC (.int 1))) (fun e => .ok none e) (mPart (mC (.int 2)))))) (mBin oRepL (mLst (mCons (mSub (mGet (mVar 5)) (mC (.int 1))) mNil)) (mC (.int 3)))) (mOr (mBTst oEq (mSub (mGet (mVar 5)) (mC (.int 0))) (mSub (mGet (mVar 5)) (mC (.int 1)))) (mIn false (mCall m_hue [.val (mVar 4)]) (mGet (mVar 5))))))) (mRet (mC (.bl false))) mNext) (mSeq (mPar2 6 7 (mCons (mDisp1T (mVar 4) (mC (.int 0))) (mCons (mLst (mCons (mVar 4) mNil)) mNil))) (mSeq (mForS (mRange2 (mC (.int 1)) (mC (.int 7))) (gSet 8) lb_law_11) (mSeq (mIf (mOr (mBTst oIsNot (mCall m_do_meet [.val (mVar 4), .val (mVar 4)]) (mC (.bl false))) (mBTst oNe (mCall m_far [.val (mVar 4), .val (mVar 4)]) (mC (.int 0)))) (mRet (mC (.bl false))) mNext) (mForS (mItems (mTup (mCons (mTup (mCons (mC (.int 100)) (mCons (mC (.int 0)) mNil))) (mCons (mTup (mCons (mC (.int 0)) (mCons (mBin oSub (mC (.int 0)) (mC (.int 100))) mNil))) (mCons (mTup (mCons (mC (.bl true)) (mCons (mC (.int 0)) mNil))) (mCons (mTup (mCons (mC (.int 0)) mNil)) (mCons (mTup (mCons (mC (.int 0)) (mCons (mC (.int 0)) (mCons (mC (.int 0)) mNil)))) (mCons (mTup (mCons (mC (.str "a")) (mCons (mC (.int 0)) mNil))) mNil)))))))) (gSet 9) lb_law_24))))))))
def mb_law : M Fl := mSeq (mSet 1 (mLst (mCons (mC (.int 0)) (mCons (mC (.int 0)) (mCons (mUn oList (mGet (mVar 0))) (mCons (mC (.int 1)) mNil)))))) (mSeq (mForS (mRange1 (mC (.int 5))) (gSet 2) lb_law_2) (mRet (mAndV (mBin oIs (mCall m_is_cell [.val (mC .non)]) (mC (.bl false))) (mAndV (mBin oIs (mCall m_is_cell [.val (mC (.int 5))]) (mC (.bl false))) (mBin oIs (mCall m_is_cell [.val (mLst (mCons (mC (.int 3)) (mCons (mC (.int 4)) mNil)))]) (mC (.bl true)))))))
def m_law : List D → FRes := mFn 16 [.fz] false mb_law
theorem fm_law (hf : Hf K mg base) {fd : FuncData} (F : FunD K d_law.name d_law.qual d_law.params d_law.body d_law.scope (d_law.dvs K) (d_law.kws K) (He.fAd K d_law.at_) fd) : FnM P0 w K mg base 8 (He.ga K "law") fd ["script"] [.fz] .fz m_law := by
  refine fnM_of (Γ' := [.fz, (.lst .fz), .fz, .fz, .fz, .fz, .any, .fz, .fz, .fz, .fz, .fz, .fz, .fz, .fz, .fz]) (fun_ofD F) sc_law rfl (by decide) (fun h => by cases h) (fun cdv A outer s H E hr => ?_)
  have tk := tkC (P := P0) (w := w) (K := K) (mg := mg) (base := base) (N := ["script", "state", "turn", "cell", "home", "hues", "seen", "line", "step", "bent", "x", "y", "more", "one", "goal", "other"]) (qual := "law") (scope := defScope s_law) (f := He.ga K "law") (cd := cdv) (A := A) (outer := outer) (s := s) (H := H) (E := E)
  have po := poC (P := P0) (w := w) (K := K) (mg := mg) (base := base) (N := ["script", "state", "turn", "cell", "home", "hues", "seen", "line", "step", "bent", "x", "y", "more", "one", "goal", "other"]) (qual := "law") (scope := defScope s_law) (f := He.ga K "law") (cd := cdv) (A := A) (outer := outer) (s := s) (H := H) (E := E)
  have nd := sc_law.nd
  exact mss_cons (ms_setO 1 (mo_lst (ml_cons mz_int (ml_cons mz_int (ml_cons (MO.z (fo_list (g_list hf) (mb_z (mz_var 0)))) (ml_cons mz_int ml_nil)))))) (mss_cons (ms_for (Γh := [.fz, (.lst .fz), .fz, .fz, .fz, .fz, .any, .fz, .fz, .fz, .fz, .fz, .fz, .fz, .fz, .fz]) (mi_range1 mz_int (g_range hf)) (by repeat (first | exact MLe.nil | apply MLe.same | apply MLe.drop)) (mg_name 2) (MSs.le (mss_cons (ms_set 3 (MO.z (mo_callM (c__law_pick hf) (hr.mono (by decide)) tk (ma_slot 1 (ma_val (MO.z (mo_lst (ml_cons (mz_tup (ml_cons (mz_sub (MO.z (mo_callM (c__law_draw hf) (hr.mono (by decide)) tk (ma_slot 1 (ma_val mz_int ma_nil)))) mz_int) (ml_cons (mz_sub (MO.z (mo_callM (c__law_draw hf) (hr.mono (by decide)) tk (ma_slot 1 (ma_val mz_int ma_nil)))) mz_int) ml_nil))) (ml_cons (mz_tup (ml_cons (MO.z (mo_callM (c__law_draw hf) (hr.mono (by decide)) tk (ma_slot 1 (ma_val mz_int ma_nil)))) (ml_cons (MO.z (mo_callM (c__law_draw hf) (hr.mono (by decide)) tk (ma_slot 1 (ma_val mz_int ma_nil)))) ml_nil))) (ml_cons (mz_tup (ml_cons mz_int (ml_cons (mz_sub mz_int mz_int) ml_nil))) (ml_cons (mz_tup (ml_cons (mz_sub mz_int mz_int) (ml_cons mz_int ml_nil))) ml_nil)))))) ma_nil))))) (mss_cons (ms_if (Γ' := [.fz, (.lst .fz), .fz, .fz, .fz, .fz, .any, .fz, .fz, .fz, .fz, .fz, .fz, .fz, .fz, .fz]) (MTW.t (mtw_or (mt_not (mt_val (MO.z (mo_callM (c__law_same hf 6) (hr.mono (by decide)) tk (ma_val (MO.z (mo_callM (c_around hf) (hr.mono (by decide)) tk (ma_val (mz_var 3) ma_nil))) (ma_val (fz_tuple (g_tuple hf) (mb_z (MO.z (mo_callM (c__law_around hf) (hr.mono (by decide)) tk (ma_val (mz_var 3) ma_nil))))) ma_nil)))))) (mtw_or (mt_ne hr (MO.z (mo_callM (c_around hf) (hr.mono (by decide)) tk (ma_val (MO.z (fo_list (g_list hf) (mb_z (mz_var 3)))) ma_nil))) (MO.z (mo_callM (c_around hf) (hr.mono (by decide)) tk (ma_val (mz_var 3) ma_nil)))) (mtw_or (mt_isNot (MO.z (mo_callM (c_is_cell hf) (hr.mono (by decide)) tk (ma_val (mz_var 3) ma_nil))) mz_bl) (mtw_or1 (mt_not (mt_val (MO.z (mo_callM (c__law_same hf 6) (hr.mono (by decide)) tk (ma_val (MO.z (mo_callM (c_hue hf) (hr.mono (by decide)) tk (ma_val (mz_var 3) ma_nil))) (ma_val (mz_mod (fz_int (g_int hf) (mb_z (mz_sub (mz_sub' hr (mb_z (mz_var 3)) mz_int) (mz_sub' hr (mb_z (mz_var 3)) mz_int)))) mz_int) ma_nil))))))))))) (mss_one (ms_ret mz_bl)) mss_nil) (mss_cons (ms_set 4 (mz_tup (ml_cons (mz_sub (MO.z (mo_callM (c__law_draw hf) (hr.mono (by decide)) tk (ma_slot 1 (ma_val mz_int ma_nil)))) mz_int) (ml_cons (mz_sub (MO.z (mo_callM (c__law_draw hf) (hr.mono (by decide)) tk (ma_slot 1 (ma_val mz_int ma_nil)))) mz_int) ml_nil)))) (mss_cons (MS.frzE 5 (ms_setLc 5 [10, 11] (mi_z (MO.z (mo_callM (c__law_around hf) (hr.mono (by decide)) tk (ma_val (mz_var 4) ma_nil)))) (blkOk_by (own := [("x", 10), ("y", 11)]) (by show blkC ["script", "state", "turn", "cell", "home", "hues", "seen", "line", "step", "bent", "x", "y", "more", "one", "goal", "other"] (defScope s_law) _ _ = true; decide +kernel)) (fun _ _ _ _ _ => mg_tup (mgs_cons (mg_name 10) (mgs_cons (mg_name 11) mgs_nil))) (fun _ _ _ _ _ => mts_nil) (fun _ _ _ _ _ => mz_mod (fz_int (g_int hf) (mb_z (mz_sub (mz_var 10) (mz_var 11)))) mz_int) (hv := (vs_fz rfl (vs_fz rfl vs_nil))) (Γb := [.any, .any, .any, .any, .any, .any, .any, .any, .any, .any, .any, .any, .any, .any, .any, .any]))) (mss_cons (ms_if (Γ' := [.fz, (.lst .fz), .fz, .fz, .fz, .fz, .any, .fz, .fz, .fz, .fz, .fz, .fz, .fz, .fz, .fz]) (MTW.t (mtw_or (mt_ne hr (MO.z (mo_lc [15] (mi_z (MO.z (mo_callM (c_around hf) (hr.mono (by decide)) tk (ma_val (mz_var 4) ma_nil)))) (blkOk_by (own := [("other", 15)]) (by show blkC ["script", "state", "turn", "cell", "home", "hues", "seen", "line", "step", "bent", "x", "y", "more", "one", "goal", "other"] (defScope s_law) _ _ = true; decide +kernel)) (fun _ _ _ _ _ => mg_name 15) (fun _ _ _ _ _ => mts_nil) (fun _ _ _ _ _ => MO.z (mo_callM (c_hue hf) (hr.mono (by decide)) takes0 (ma_val (mz_var 15) ma_nil))) (hv := (vs_fz rfl vs_nil)) (Γb := [.any, .any, .any, .any, .any, .any, .any, .any, .any, .any, .any, .any, .any, .any, .any, .any]))) (mz_var 5)) (mtw_or (mt_ne hr (MO.z (fo_sorted (g_sorted hf) (mb_z (MO.z (mo_slice (mz_var 5) mp_none mp_none (mp_some mz_int)))))) (MO.z (mo_rep (MO.z (mo_lst (ml_cons (mz_sub' hr (mb_z (mz_var 5)) mz_int) ml_nil))) mz_int))) (mtw_or (mt_ne hr (MO.z (fo_sorted (g_sorted hf) (mb_z (MO.z (mo_slice (mz_var 5) (mp_some mz_int) mp_none (mp_some mz_int)))))) (MO.z (mo_rep (MO.z (mo_lst (ml_cons (mz_sub' hr (mb_z (mz_var 5)) mz_int) ml_nil))) mz_int))) (mtw_or (mt_eq hr (mz_sub' hr (mb_z (mz_var 5)) mz_int) (mz_sub' hr (mb_z (mz_var 5)) mz_int)) (mtw_or1 (mt_in hr (MO.z (mo_callM (c_hue hf) (hr.mono (by decide)) tk (ma_val (mz_var 4) ma_nil))) (mb_z (mz_var 5))))))))) (mss_one (ms_ret mz_bl)) mss_nil) (mss_cons (MS.frzE 7 (ms_par2 6 7 (mlo_consO (mo_disp1T hr (mz_var 4) mz_int) (mlo_consO (mo_lst (ml_cons (mz_var 4) ml_nil)) mlo_nil)))) (mss_cons (ms_for (Γh := [.fz, (.lst .fz), .fz, .fz, .fz, .fz, (.dT .fz), .fz, .fz, .fz, .fz, .fz, .fz, .fz, .fz, .fz]) (mi_range2 mz_int mz_int (g_range hf)) (by repeat (first | exact MLe.nil | apply MLe.same | apply MLe.drop)) (mg_name 8) (mss_cons (ms_setO 12 (mo_lst ml_nil)) (mss_cons (ms_for (Γh := [.fz, (.lst .fz), .fz, .fz, .fz, .fz, (.dT .fz), .fz, .fz, .fz, .fz, .fz, (.lst .fz), .fz, .fz, .fz]) (mi_z (mz_var 7)) (by repeat (first | exact MLe.nil | apply MLe.same | apply MLe.drop)) (mg_name 13) (mss_one (ms_for (Γh := [.fz, (.lst .fz), .fz, .fz, .fz, .fz, (.dT .fz), .fz, .fz, .fz, .fz, .fz, (.lst .fz), .fz, .fz, .fz]) (mi_z (MO.z (mo_callM (c__law_around hf) (hr.mono (by decide)) tk (ma_val (mz_var 13) ma_nil)))) (by repeat (first | exact MLe.nil | apply MLe.same | apply MLe.drop)) (mg_name 15) (mss_one (ms_if (Γ' := [.fz, (.lst .fz), .fz, .fz, .fz, .fz, (.dT .fz), .fz, .fz, .fz, .fz, .fz, (.lst .fz), .fz, .fz, .fz]) (mt_notIn hr (mz_var 15) (mb_var 6)) (mss_cons (ms_setDT 6 hr (mz_var 8) (mz_var 15)) (mss_one (ms_expr (mz_lm 12 ml_append PySem.F.slot_list_append PySem.F.type_list_append mt_append (ml_cons (mz_var 15) ml_nil))))) mss_nil)) po)) po) (MSs.frz 12 rfl trivial <| mss_cons (ms_set 7 (mz_var 12)) (mss_cons (ms_set 14 (MO.z (mo_callM (c__law_pick hf) (hr.mono (by decide)) tk (ma_slot 1 (ma_val (mz_var 7) ma_nil))))) (mss_one (ms_if (Γ' := [.fz, (.lst .fz), .fz, .fz, .fz, .fz, (.dT .fz), .fz, .fz, .fz, .fz, .fz, .fz, .fz, .fz, .fz]) (MTW.t (mtw_or (mt_not (mt_val (MO.z (mo_callM (c__law_same hf 6) (hr.mono (by decide)) tk (ma_val (MO.z (mo_callM (c_far hf) (hr.mono (by decide)) tk (ma_val (mz_var 4) (ma_val (mz_var 14) ma_nil)))) (ma_val (mz_var 8) ma_nil)))))) (mtw_or (mt_ne hr (MO.z (mo_callM (c_far hf) (hr.mono (by decide)) tk (ma_val (mz_var 14) (ma_val (mz_var 4) ma_nil)))) (mz_var 8)) (mtw_or1 (mt_not (mt_val (MO.z (mo_callM (c__law_same hf 6) (hr.mono (by decide)) tk (ma_val (MO.z (mo_callM (c_do_meet hf) (hr.mono (by decide)) tk (ma_val (mz_var 4) (ma_val (mz_var 14) ma_nil)))) (ma_val (mz_eq hr (mz_var 8) mz_int) ma_nil)))))))))) (mss_one (ms_ret mz_bl)) mss_nil)))))) po) (mss_cons (ms_if (Γ' := [.fz, (.lst .fz), .fz, .fz, .fz, .fz, (.dT .fz), .fz, .fz, .fz, .fz, .fz, .fz, .fz, .fz, .fz]) (MTW.t (mtw_or (mt_isNot (MO.z (mo_callM (c_do_meet hf) (hr.mono (by decide)) tk (ma_val (mz_var 4) (ma_val (mz_var 4) ma_nil)))) mz_bl) (mtw_or1 (mt_ne hr (MO.z (mo_callM (c_far hf) (hr.mono (by decide)) tk (ma_val (mz_var 4) (ma_val (mz_var 4) ma_nil)))) mz_int)))) (mss_one (ms_ret mz_bl)) mss_nil) (mss_one (ms_for (Γh := [.fz, (.lst .fz), .fz, .fz, .fz, .fz, (.dT .fz), .fz, .fz, .fz, .fz, .fz, .fz, .fz, .fz, .fz]) (mi_z (mz_tup (ml_cons (mz_tup (ml_cons mz_int (ml_cons mz_int ml_nil))) (ml_cons (mz_tup (ml_cons mz_int (ml_cons (mz_sub mz_int mz_int) ml_nil))) (ml_cons (mz_tup (ml_cons mz_bl (ml_cons mz_int ml_nil))) (ml_cons (mz_tup (ml_cons mz_int ml_nil)) (ml_cons (mz_tup (ml_cons mz_int (ml_cons mz_int (ml_cons mz_int ml_nil)))) (ml_cons (mz_tup (ml_cons mz_str (ml_cons mz_int ml_nil))) ml_nil)))))))) (by repeat (first | exact MLe.nil | apply MLe.same | apply MLe.drop)) (mg_name 9) (mss_one (ms_if (Γ' := [.fz, (.lst .fz), .fz, .fz, .fz, .fz, (.dT .fz), .fz, .fz, .fz, .fz, .fz, .fz, .fz, .fz, .fz]) (MTW.t (mtw_or (mt_not (mt_val (MO.z (mo_callM (c__law_refused hf) (hr.mono (by decide)) tk (ma_val (mz_var 9) ma_nil))))) (mtw_or1 (mt_isNot (MO.z (mo_callM (c_is_cell hf) (hr.mono (by decide)) tk (ma_val (mz_var 9) ma_nil))) mz_bl)))) (mss_one (ms_ret mz_bl)) mss_nil)) po)))))))))) (by repeat (first | exact MLe.nil | apply MLe.same | apply MLe.drop))) po) (mss_one (ms_ret (mz_and (mz_is (MO.z (mo_callM (c_is_cell hf) (hr.mono (by decide)) tk (ma_val mz_non ma_nil))) mz_bl) (mz_and (mz_is (MO.z (mo_callM (c_is_cell hf) (hr.mono (by decide)) tk (ma_val mz_int ma_nil))) mz_bl) (mz_one (mz_is (MO.z (mo_callM (c_is_cell hf) (hr.mono (by decide)) tk (ma_val (MO.z (mo_lst (ml_cons mz_int (ml_cons mz_int ml_nil)))) ma_nil))) mz_bl)))))))
end
end K00
namespace K00
open VM
def st (a : Int) (k : Nat) (cs : List Int) (s : Int) : D := .lst [.int a, .int k, .lst (cs.map D.int), .int s]
theorem atI_nat {α : Type} (xs : List α) (k : Nat) (h : k < xs.length) : L2.atI xs (k : Int) = xs[k]? := by
  unfold L2.atI L2.ixN
  have h1 : 0 ≤ (k : Int) := by omega
  have h2 : (k : Int) < (xs.length : Int) := by omega
  rw [if_pos h1, if_pos h2]
  simp
theorem draw_ok (a : Int) (k : Nat) (cs : List Int) (s limit : Int) (h0 : 0 < limit) (h1 : limit < 1073741824) :
    ∃ x a' s' : Int, ∃ k' : Nat, m__law_draw [st a k cs s, .int limit] = .ok (.int (x % limit)) [st a' k' cs s'] := by
  unfold m__law_draw mb__law_draw st
  by_cases hA : a < limit
  · by_cases hk : k < cs.length
    · by_cases hc : (1000000000000000000 : Int) ≤ cs[k]
      · simp [mC_ap, mVar_ap, mBin_ap, mTst_ap, mNil_ap, mCons_ap, mTup_ap, mLst_ap, mAnd_ap, mOr_ap, mNot_ap, mBl_ap, mAndV_ap, mOrV_ap, mNotV_ap, mIf_ap, mChain_ap, mGet_ap, mGetV_ap, mUn_ap, mNext_ap, mSeq_ap, mSet_ap, mExpr_ap, mRet_ap, mAsg_ap, mCall_ap, mItems_ap, mRange1_ap, mRange2_ap, mEnum_ap, mZip_ap, mYes_ap, mRaise_ap, mExF_ap, mIsi_ap, mLM_ap, mSetSub_ap, mSub2_ap, mBinZB_ap, mPart_ap, mSlice_ap, mPar2_ap, mPar3_ap, mDisp1T_ap, mDisp1K_ap, mNeg_ap, mRetN_ap, mBreak_ap, mCont_ap, mAug_ap, mOpt_some, mOpt_none, mSub_ap, mBTst_ap, mIn_ap, Res.bind_ok, Res.bind_ex, Res.bind_bad, mFn, pickO, Mode.owned, mArgs, fillA, backA, oI, oIC, oIdx, oIx, oLen, oInt, oAbs, oNeg, oTuple, oList, stSub, cMod, cDiv, cPow, cMul, L2.atI, L2.ixN, gTupD, gsCons, gsNil, gSet, itemsOf, tyName, isT, isT1, szL, oEqI, oNeI, oEqB, oNeB, oEqN, L2.atI, L2.ixN, hA, hk, hc, h0, h1, pickO, Mode.owned]
        exact ⟨⟨_, rfl⟩, k + 1, rfl⟩
      · simp [mC_ap, mVar_ap, mBin_ap, mTst_ap, mNil_ap, mCons_ap, mTup_ap, mLst_ap, mAnd_ap, mOr_ap, mNot_ap, mBl_ap, mAndV_ap, mOrV_ap, mNotV_ap, mIf_ap, mChain_ap, mGet_ap, mGetV_ap, mUn_ap, mNext_ap, mSeq_ap, mSet_ap, mExpr_ap, mRet_ap, mAsg_ap, mCall_ap, mItems_ap, mRange1_ap, mRange2_ap, mEnum_ap, mZip_ap, mYes_ap, mRaise_ap, mExF_ap, mIsi_ap, mLM_ap, mSetSub_ap, mSub2_ap, mBinZB_ap, mPart_ap, mSlice_ap, mPar2_ap, mPar3_ap, mDisp1T_ap, mDisp1K_ap, mNeg_ap, mRetN_ap, mBreak_ap, mCont_ap, mAug_ap, mOpt_some, mOpt_none, mSub_ap, mBTst_ap, mIn_ap, Res.bind_ok, Res.bind_ex, Res.bind_bad, mFn, pickO, Mode.owned, mArgs, fillA, backA, oI, oIC, oIdx, oIx, oLen, oInt, oAbs, oNeg, oTuple, oList, stSub, cMod, cDiv, cPow, cMul, L2.atI, L2.ixN, gTupD, gsCons, gsNil, gSet, itemsOf, tyName, isT, isT1, szL, oEqI, oNeI, oEqB, oNeB, oEqN, L2.atI, L2.ixN, hA, hk, hc, h0, h1, pickO, Mode.owned]
        exact ⟨⟨_, rfl⟩, k + 1, rfl⟩
    · simp [mC_ap, mVar_ap, mBin_ap, mTst_ap, mNil_ap, mCons_ap, mTup_ap, mLst_ap, mAnd_ap, mOr_ap, mNot_ap, mBl_ap, mAndV_ap, mOrV_ap, mNotV_ap, mIf_ap, mChain_ap, mGet_ap, mGetV_ap, mUn_ap, mNext_ap, mSeq_ap, mSet_ap, mExpr_ap, mRet_ap, mAsg_ap, mCall_ap, mItems_ap, mRange1_ap, mRange2_ap, mEnum_ap, mZip_ap, mYes_ap, mRaise_ap, mExF_ap, mIsi_ap, mLM_ap, mSetSub_ap, mSub2_ap, mBinZB_ap, mPart_ap, mSlice_ap, mPar2_ap, mPar3_ap, mDisp1T_ap, mDisp1K_ap, mNeg_ap, mRetN_ap, mBreak_ap, mCont_ap, mAug_ap, mOpt_some, mOpt_none, mSub_ap, mBTst_ap, mIn_ap, Res.bind_ok, Res.bind_ex, Res.bind_bad, mFn, pickO, Mode.owned, mArgs, fillA, backA, oI, oIC, oIdx, oIx, oLen, oInt, oAbs, oNeg, oTuple, oList, stSub, cMod, cDiv, cPow, cMul, L2.atI, L2.ixN, gTupD, gsCons, gsNil, gSet, itemsOf, tyName, isT, isT1, szL, oEqI, oNeI, oEqB, oNeB, oEqN, L2.atI, L2.ixN, hA, hk, h0, h1, pickO, Mode.owned]
      exact ⟨⟨_, rfl⟩, k + 1, rfl⟩
  · simp [mC_ap, mVar_ap, mBin_ap, mTst_ap, mNil_ap, mCons_ap, mTup_ap, mLst_ap, mAnd_ap, mOr_ap, mNot_ap, mBl_ap, mAndV_ap, mOrV_ap, mNotV_ap, mIf_ap, mChain_ap, mGet_ap, mGetV_ap, mUn_ap, mNext_ap, mSeq_ap, mSet_ap, mExpr_ap, mRet_ap, mAsg_ap, mCall_ap, mItems_ap, mRange1_ap, mRange2_ap, mEnum_ap, mZip_ap, mYes_ap, mRaise_ap, mExF_ap, mIsi_ap, mLM_ap, mSetSub_ap, mSub2_ap, mBinZB_ap, mPart_ap, mSlice_ap, mPar2_ap, mPar3_ap, mDisp1T_ap, mDisp1K_ap, mNeg_ap, mRetN_ap, mBreak_ap, mCont_ap, mAug_ap, mOpt_some, mOpt_none, mSub_ap, mBTst_ap, mIn_ap, Res.bind_ok, Res.bind_ex, Res.bind_bad, mFn, pickO, Mode.owned, mArgs, fillA, backA, oI, oIC, oIdx, oIx, oLen, oInt, oAbs, oNeg, oTuple, oList, stSub, cMod, cDiv, cPow, cMul, L2.atI, L2.ixN, gTupD, gsCons, gsNil, gSet, itemsOf, tyName, isT, isT1, szL, oEqI, oNeI, oEqB, oNeB, oEqN, L2.atI, L2.ixN, hA, h0, h1, pickO, Mode.owned]
    exact ⟨⟨_, rfl⟩, k, rfl⟩
theorem draw_spec (a : Int) (k : Nat) (cs : List Int) (s limit : Int) (h0 : 0 < limit) (h1 : limit < 1073741824) :
    ∃ d a' s' : Int, ∃ k' : Nat, 0 ≤ d ∧ d < limit ∧ m__law_draw [st a k cs s, .int limit] = .ok (.int d) [st a' k' cs s'] := by
  obtain ⟨x, a', s', k', h⟩ := draw_ok a k cs s limit h0 h1
  exact ⟨x % limit, a', s', k', Int.emod_nonneg _ (by omega), Int.emod_lt_of_pos _ h0, h⟩
theorem is_number_ok (v lo hi : Int) : m_is_number [.int v, .int lo, .int hi] = .ok (.bl (decide (lo ≤ v) && decide (v ≤ hi))) [] := by
  unfold m_is_number mb_is_number
  by_cases h : lo ≤ v
  · simp [mC_ap, mVar_ap, mBin_ap, mTst_ap, mNil_ap, mCons_ap, mTup_ap, mLst_ap, mAnd_ap, mOr_ap, mNot_ap, mBl_ap, mAndV_ap, mOrV_ap, mNotV_ap, mIf_ap, mChain_ap, mGet_ap, mGetV_ap, mUn_ap, mNext_ap, mSeq_ap, mSet_ap, mExpr_ap, mRet_ap, mAsg_ap, mCall_ap, mItems_ap, mRange1_ap, mRange2_ap, mEnum_ap, mZip_ap, mYes_ap, mRaise_ap, mExF_ap, mIsi_ap, mLM_ap, mSetSub_ap, mSub2_ap, mBinZB_ap, mPart_ap, mSlice_ap, mPar2_ap, mPar3_ap, mDisp1T_ap, mDisp1K_ap, mNeg_ap, mRetN_ap, mBreak_ap, mCont_ap, mAug_ap, mOpt_some, mOpt_none, mSub_ap, mBTst_ap, mIn_ap, Res.bind_ok, Res.bind_ex, Res.bind_bad, mFn, pickO, Mode.owned, mArgs, fillA, backA, oI, oIC, oIdx, oIx, oLen, oInt, oAbs, oNeg, oTuple, oList, stSub, cMod, cDiv, cPow, cMul, L2.atI, L2.ixN, gTupD, gsCons, gsNil, gSet, itemsOf, tyName, isT, isT1, szL, oEqI, oNeI, oEqB, oNeB, oEqN, h]
  · simp [mC_ap, mVar_ap, mBin_ap, mTst_ap, mNil_ap, mCons_ap, mTup_ap, mLst_ap, mAnd_ap, mOr_ap, mNot_ap, mBl_ap, mAndV_ap, mOrV_ap, mNotV_ap, mIf_ap, mChain_ap, mGet_ap, mGetV_ap, mUn_ap, mNext_ap, mSeq_ap, mSet_ap, mExpr_ap, mRet_ap, mAsg_ap, mCall_ap, mItems_ap, mRange1_ap, mRange2_ap, mEnum_ap, mZip_ap, mYes_ap, mRaise_ap, mExF_ap, mIsi_ap, mLM_ap, mSetSub_ap, mSub2_ap, mBinZB_ap, mPart_ap, mSlice_ap, mPar2_ap, mPar3_ap, mDisp1T_ap, mDisp1K_ap, mNeg_ap, mRetN_ap, mBreak_ap, mCont_ap, mAug_ap, mOpt_some, mOpt_none, mSub_ap, mBTst_ap, mIn_ap, Res.bind_ok, Res.bind_ex, Res.bind_bad, mFn, pickO, Mode.owned, mArgs, fillA, backA, oI, oIC, oIdx, oIx, oLen, oInt, oAbs, oNeg, oTuple, oList, stSub, cMod, cDiv, cPow, cMul, L2.atI, L2.ixN, gTupD, gsCons, gsNil, gSet, itemsOf, tyName, isT, isT1, szL, oEqI, oNeI, oEqB, oNeB, oEqN, h]
theorem is_cell_ok {x y : Int} (hx : -99 ≤ x ∧ x ≤ 99) (hy : -99 ≤ y ∧ y ≤ 99) : m_is_cell [D.tup [.int x, .int y]] = .ok (.bl true) [] := by
  unfold m_is_cell mb_is_cell kMOST_PLACE
  simp [mC_ap, mVar_ap, mBin_ap, mTst_ap, mNil_ap, mCons_ap, mTup_ap, mLst_ap, mAnd_ap, mOr_ap, mNot_ap, mBl_ap, mAndV_ap, mOrV_ap, mNotV_ap, mIf_ap, mChain_ap, mGet_ap, mGetV_ap, mUn_ap, mNext_ap, mSeq_ap, mSet_ap, mExpr_ap, mRet_ap, mAsg_ap, mCall_ap, mItems_ap, mRange1_ap, mRange2_ap, mEnum_ap, mZip_ap, mYes_ap, mRaise_ap, mExF_ap, mIsi_ap, mLM_ap, mSetSub_ap, mSub2_ap, mBinZB_ap, mPart_ap, mSlice_ap, mPar2_ap, mPar3_ap, mDisp1T_ap, mDisp1K_ap, mNeg_ap, mRetN_ap, mBreak_ap, mCont_ap, mAug_ap, mOpt_some, mOpt_none, mSub_ap, mBTst_ap, mIn_ap, Res.bind_ok, Res.bind_ex, Res.bind_bad, mFn, pickO, Mode.owned, mArgs, fillA, backA, oI, oIC, oIdx, oIx, oLen, oInt, oAbs, oNeg, oTuple, oList, stSub, cMod, cDiv, cPow, cMul, L2.atI, L2.ixN, gTupD, gsCons, gsNil, gSet, itemsOf, tyName, isT, isT1, szL, oEqI, oNeI, oEqB, oNeB, oEqN, is_number_ok, hx, hy]
theorem is_cell_okL {x y : Int} (hx : -99 ≤ x ∧ x ≤ 99) (hy : -99 ≤ y ∧ y ≤ 99) : m_is_cell [.lst [.int x, .int y]] = .ok (.bl true) [] := by
  unfold m_is_cell mb_is_cell kMOST_PLACE
  simp [mC_ap, mVar_ap, mBin_ap, mTst_ap, mNil_ap, mCons_ap, mTup_ap, mLst_ap, mAnd_ap, mOr_ap, mNot_ap, mBl_ap, mAndV_ap, mOrV_ap, mNotV_ap, mIf_ap, mChain_ap, mGet_ap, mGetV_ap, mUn_ap, mNext_ap, mSeq_ap, mSet_ap, mExpr_ap, mRet_ap, mAsg_ap, mCall_ap, mItems_ap, mRange1_ap, mRange2_ap, mEnum_ap, mZip_ap, mYes_ap, mRaise_ap, mExF_ap, mIsi_ap, mLM_ap, mSetSub_ap, mSub2_ap, mBinZB_ap, mPart_ap, mSlice_ap, mPar2_ap, mPar3_ap, mDisp1T_ap, mDisp1K_ap, mNeg_ap, mRetN_ap, mBreak_ap, mCont_ap, mAug_ap, mOpt_some, mOpt_none, mSub_ap, mBTst_ap, mIn_ap, Res.bind_ok, Res.bind_ex, Res.bind_bad, mFn, pickO, Mode.owned, mArgs, fillA, backA, oI, oIC, oIdx, oIx, oLen, oInt, oAbs, oNeg, oTuple, oList, stSub, cMod, cDiv, cPow, cMul, L2.atI, L2.ixN, gTupD, gsCons, gsNil, gSet, itemsOf, tyName, isT, isT1, szL, oEqI, oNeI, oEqB, oNeB, oEqN, is_number_ok, hx, hy]
theorem checked_cell_ok {x y : Int} (hx : -99 ≤ x ∧ x ≤ 99) (hy : -99 ≤ y ∧ y ≤ 99) : m_checked_cell [D.tup [.int x, .int y]] = .ok (D.tup [.int x, .int y]) [] := by
  unfold m_checked_cell mb_checked_cell
  simp [mC_ap, mVar_ap, mBin_ap, mTst_ap, mNil_ap, mCons_ap, mTup_ap, mLst_ap, mAnd_ap, mOr_ap, mNot_ap, mBl_ap, mAndV_ap, mOrV_ap, mNotV_ap, mIf_ap, mChain_ap, mGet_ap, mGetV_ap, mUn_ap, mNext_ap, mSeq_ap, mSet_ap, mExpr_ap, mRet_ap, mAsg_ap, mCall_ap, mItems_ap, mRange1_ap, mRange2_ap, mEnum_ap, mZip_ap, mYes_ap, mRaise_ap, mExF_ap, mIsi_ap, mLM_ap, mSetSub_ap, mSub2_ap, mBinZB_ap, mPart_ap, mSlice_ap, mPar2_ap, mPar3_ap, mDisp1T_ap, mDisp1K_ap, mNeg_ap, mRetN_ap, mBreak_ap, mCont_ap, mAug_ap, mOpt_some, mOpt_none, mSub_ap, mBTst_ap, mIn_ap, Res.bind_ok, Res.bind_ex, Res.bind_bad, mFn, pickO, Mode.owned, mArgs, fillA, backA, oI, oIC, oIdx, oIx, oLen, oInt, oAbs, oNeg, oTuple, oList, stSub, cMod, cDiv, cPow, cMul, L2.atI, L2.ixN, gTupD, gsCons, gsNil, gSet, itemsOf, tyName, isT, isT1, szL, oEqI, oNeI, oEqB, oNeB, oEqN, is_cell_ok hx hy]
theorem plain_around_ok (x y : Int) : m_plain_around [D.tup [.int x, .int y]] = .ok (.lst [D.tup [.int (x + 1), .int y], D.tup [.int x, .int (y + 1)], D.tup [.int (x - 1), .int (y + 1)], D.tup [.int (x - 1), .int y], D.tup [.int x, .int (y - 1)], D.tup [.int (x + 1), .int (y - 1)]]) [] := by
  unfold m_plain_around mb_plain_around kAROUND
  simp [mC_ap, mVar_ap, mBin_ap, mTst_ap, mNil_ap, mCons_ap, mTup_ap, mLst_ap, mAnd_ap, mOr_ap, mNot_ap, mBl_ap, mAndV_ap, mOrV_ap, mNotV_ap, mIf_ap, mChain_ap, mGet_ap, mGetV_ap, mUn_ap, mNext_ap, mSeq_ap, mSet_ap, mExpr_ap, mRet_ap, mAsg_ap, mCall_ap, mItems_ap, mRange1_ap, mRange2_ap, mEnum_ap, mZip_ap, mYes_ap, mRaise_ap, mExF_ap, mIsi_ap, mLM_ap, mSetSub_ap, mSub2_ap, mBinZB_ap, mPart_ap, mSlice_ap, mPar2_ap, mPar3_ap, mDisp1T_ap, mDisp1K_ap, mNeg_ap, mRetN_ap, mBreak_ap, mCont_ap, mAug_ap, mOpt_some, mOpt_none, mSub_ap, mBTst_ap, mIn_ap, Res.bind_ok, Res.bind_ex, Res.bind_bad, mFn, pickO, Mode.owned, mArgs, fillA, backA, oI, oIC, oIdx, oIx, oLen, oInt, oAbs, oNeg, oTuple, oList, stSub, cMod, cDiv, cPow, cMul, L2.atI, L2.ixN, gTupD, gsCons, gsNil, gSet, itemsOf, tyName, isT, isT1, szL, oEqI, oNeI, oEqB, oNeB, oEqN, mComp_ap, mCompL, wipeE, backE]
  omega
theorem law_around_ok (x y : Int) : m__law_around [D.tup [.int x, .int y]] = .ok (.lst [D.tup [.int (x + 1), .int y], D.tup [.int x, .int (y + 1)], D.tup [.int (x - 1), .int (y + 1)], D.tup [.int (x - 1), .int y], D.tup [.int x, .int (y - 1)], D.tup [.int (x + 1), .int (y - 1)]]) [] := by
  unfold m__law_around mb__law_around
  simp [mC_ap, mVar_ap, mBin_ap, mTst_ap, mNil_ap, mCons_ap, mTup_ap, mLst_ap, mAnd_ap, mOr_ap, mNot_ap, mBl_ap, mAndV_ap, mOrV_ap, mNotV_ap, mIf_ap, mChain_ap, mGet_ap, mGetV_ap, mUn_ap, mNext_ap, mSeq_ap, mSet_ap, mExpr_ap, mRet_ap, mAsg_ap, mCall_ap, mItems_ap, mRange1_ap, mRange2_ap, mEnum_ap, mZip_ap, mYes_ap, mRaise_ap, mExF_ap, mIsi_ap, mLM_ap, mSetSub_ap, mSub2_ap, mBinZB_ap, mPart_ap, mSlice_ap, mPar2_ap, mPar3_ap, mDisp1T_ap, mDisp1K_ap, mNeg_ap, mRetN_ap, mBreak_ap, mCont_ap, mAug_ap, mOpt_some, mOpt_none, mSub_ap, mBTst_ap, mIn_ap, Res.bind_ok, Res.bind_ex, Res.bind_bad, mFn, pickO, Mode.owned, mArgs, fillA, backA, oI, oIC, oIdx, oIx, oLen, oInt, oAbs, oNeg, oTuple, oList, stSub, cMod, cDiv, cPow, cMul, L2.atI, L2.ixN, gTupD, gsCons, gsNil, gSet, itemsOf, tyName, isT, isT1, szL, oEqI, oNeI, oEqB, oNeB, oEqN]
theorem checked_cell_okL {x y : Int} (hx : -99 ≤ x ∧ x ≤ 99) (hy : -99 ≤ y ∧ y ≤ 99) : m_checked_cell [D.lst [.int x, .int y]] = .ok (D.tup [.int x, .int y]) [] := by
  unfold m_checked_cell mb_checked_cell
  simp [mC_ap, mVar_ap, mBin_ap, mTst_ap, mNil_ap, mCons_ap, mTup_ap, mLst_ap, mAnd_ap, mOr_ap, mNot_ap, mBl_ap, mAndV_ap, mOrV_ap, mNotV_ap, mIf_ap, mChain_ap, mGet_ap, mGetV_ap, mUn_ap, mNext_ap, mSeq_ap, mSet_ap, mExpr_ap, mRet_ap, mAsg_ap, mCall_ap, mItems_ap, mRange1_ap, mRange2_ap, mEnum_ap, mZip_ap, mYes_ap, mRaise_ap, mExF_ap, mIsi_ap, mLM_ap, mSetSub_ap, mSub2_ap, mBinZB_ap, mPart_ap, mSlice_ap, mPar2_ap, mPar3_ap, mDisp1T_ap, mDisp1K_ap, mNeg_ap, mRetN_ap, mBreak_ap, mCont_ap, mAug_ap, mOpt_some, mOpt_none, mSub_ap, mBTst_ap, mIn_ap, Res.bind_ok, Res.bind_ex, Res.bind_bad, mFn, pickO, Mode.owned, mArgs, fillA, backA, oI, oIC, oIdx, oIx, oLen, oInt, oAbs, oNeg, oTuple, oList, stSub, cMod, cDiv, cPow, cMul, L2.atI, L2.ixN, gTupD, gsCons, gsNil, gSet, itemsOf, tyName, isT, isT1, szL, oEqI, oNeI, oEqB, oNeB, oEqN, is_cell_okL hx hy]
theorem around_ok {x y : Int} (hx : -99 ≤ x ∧ x ≤ 99) (hy : -99 ≤ y ∧ y ≤ 99) : m_around [D.tup [.int x, .int y]] = .ok (.tup [D.tup [.int (x + 1), .int y], D.tup [.int x, .int (y + 1)], D.tup [.int (x - 1), .int (y + 1)], D.tup [.int (x - 1), .int y], D.tup [.int x, .int (y - 1)], D.tup [.int (x + 1), .int (y - 1)]]) [] := by
  unfold m_around mb_around
  simp [mC_ap, mVar_ap, mBin_ap, mTst_ap, mNil_ap, mCons_ap, mTup_ap, mLst_ap, mAnd_ap, mOr_ap, mNot_ap, mBl_ap, mAndV_ap, mOrV_ap, mNotV_ap, mIf_ap, mChain_ap, mGet_ap, mGetV_ap, mUn_ap, mNext_ap, mSeq_ap, mSet_ap, mExpr_ap, mRet_ap, mAsg_ap, mCall_ap, mItems_ap, mRange1_ap, mRange2_ap, mEnum_ap, mZip_ap, mYes_ap, mRaise_ap, mExF_ap, mIsi_ap, mLM_ap, mSetSub_ap, mSub2_ap, mBinZB_ap, mPart_ap, mSlice_ap, mPar2_ap, mPar3_ap, mDisp1T_ap, mDisp1K_ap, mNeg_ap, mRetN_ap, mBreak_ap, mCont_ap, mAug_ap, mOpt_some, mOpt_none, mSub_ap, mBTst_ap, mIn_ap, Res.bind_ok, Res.bind_ex, Res.bind_bad, mFn, pickO, Mode.owned, mArgs, fillA, backA, oI, oIC, oIdx, oIx, oLen, oInt, oAbs, oNeg, oTuple, oList, stSub, cMod, cDiv, cPow, cMul, L2.atI, L2.ixN, gTupD, gsCons, gsNil, gSet, itemsOf, tyName, isT, isT1, szL, oEqI, oNeI, oEqB, oNeB, oEqN, checked_cell_ok hx hy, plain_around_ok]
theorem around_okL {x y : Int} (hx : -99 ≤ x ∧ x ≤ 99) (hy : -99 ≤ y ∧ y ≤ 99) : m_around [D.lst [.int x, .int y]] = .ok (.tup [D.tup [.int (x + 1), .int y], D.tup [.int x, .int (y + 1)], D.tup [.int (x - 1), .int (y + 1)], D.tup [.int (x - 1), .int y], D.tup [.int x, .int (y - 1)], D.tup [.int (x + 1), .int (y - 1)]]) [] := by
  unfold m_around mb_around
  simp [mC_ap, mVar_ap, mBin_ap, mTst_ap, mNil_ap, mCons_ap, mTup_ap, mLst_ap, mAnd_ap, mOr_ap, mNot_ap, mBl_ap, mAndV_ap, mOrV_ap, mNotV_ap, mIf_ap, mChain_ap, mGet_ap, mGetV_ap, mUn_ap, mNext_ap, mSeq_ap, mSet_ap, mExpr_ap, mRet_ap, mAsg_ap, mCall_ap, mItems_ap, mRange1_ap, mRange2_ap, mEnum_ap, mZip_ap, mYes_ap, mRaise_ap, mExF_ap, mIsi_ap, mLM_ap, mSetSub_ap, mSub2_ap, mBinZB_ap, mPart_ap, mSlice_ap, mPar2_ap, mPar3_ap, mDisp1T_ap, mDisp1K_ap, mNeg_ap, mRetN_ap, mBreak_ap, mCont_ap, mAug_ap, mOpt_some, mOpt_none, mSub_ap, mBTst_ap, mIn_ap, Res.bind_ok, Res.bind_ex, Res.bind_bad, mFn, pickO, Mode.owned, mArgs, fillA, backA, oI, oIC, oIdx, oIx, oLen, oInt, oAbs, oNeg, oTuple, oList, stSub, cMod, cDiv, cPow, cMul, L2.atI, L2.ixN, gTupD, gsCons, gsNil, gSet, itemsOf, tyName, isT, isT1, szL, oEqI, oNeI, oEqB, oNeB, oEqN, checked_cell_okL hx hy, plain_around_ok]
theorem hue_ok {x y : Int} (hx : -99 ≤ x ∧ x ≤ 99) (hy : -99 ≤ y ∧ y ≤ 99) : m_hue [D.tup [.int x, .int y]] = .ok (.int ((x - y) % 3)) [] := by
  unfold m_hue mb_hue
  simp [mC_ap, mVar_ap, mBin_ap, mTst_ap, mNil_ap, mCons_ap, mTup_ap, mLst_ap, mAnd_ap, mOr_ap, mNot_ap, mBl_ap, mAndV_ap, mOrV_ap, mNotV_ap, mIf_ap, mChain_ap, mGet_ap, mGetV_ap, mUn_ap, mNext_ap, mSeq_ap, mSet_ap, mExpr_ap, mRet_ap, mAsg_ap, mCall_ap, mItems_ap, mRange1_ap, mRange2_ap, mEnum_ap, mZip_ap, mYes_ap, mRaise_ap, mExF_ap, mIsi_ap, mLM_ap, mSetSub_ap, mSub2_ap, mBinZB_ap, mPart_ap, mSlice_ap, mPar2_ap, mPar3_ap, mDisp1T_ap, mDisp1K_ap, mNeg_ap, mRetN_ap, mBreak_ap, mCont_ap, mAug_ap, mOpt_some, mOpt_none, mSub_ap, mBTst_ap, mIn_ap, Res.bind_ok, Res.bind_ex, Res.bind_bad, mFn, pickO, Mode.owned, mArgs, fillA, backA, oI, oIC, oIdx, oIx, oLen, oInt, oAbs, oNeg, oTuple, oList, stSub, cMod, cDiv, cPow, cMul, L2.atI, L2.ixN, gTupD, gsCons, gsNil, gSet, itemsOf, tyName, isT, isT1, szL, oEqI, oNeI, oEqB, oNeB, oEqN, checked_cell_ok hx hy]
def absI (x : Int) : Int := if x < 0 then -x else x
def dist (a b c d : Int) : Int := (absI (c - a) + absI (d - b) + absI (c - a + (d - b))) / 2
theorem plain_far_ok (a b c d : Int) : m_plain_far [D.tup [.int a, .int b], D.tup [.int c, .int d]] = .ok (.int (dist a b c d)) [] := by
  unfold m_plain_far mb_plain_far dist absI
  simp [mC_ap, mVar_ap, mBin_ap, mTst_ap, mNil_ap, mCons_ap, mTup_ap, mLst_ap, mAnd_ap, mOr_ap, mNot_ap, mBl_ap, mAndV_ap, mOrV_ap, mNotV_ap, mIf_ap, mChain_ap, mGet_ap, mGetV_ap, mUn_ap, mNext_ap, mSeq_ap, mSet_ap, mExpr_ap, mRet_ap, mAsg_ap, mCall_ap, mItems_ap, mRange1_ap, mRange2_ap, mEnum_ap, mZip_ap, mYes_ap, mRaise_ap, mExF_ap, mIsi_ap, mLM_ap, mSetSub_ap, mSub2_ap, mBinZB_ap, mPart_ap, mSlice_ap, mPar2_ap, mPar3_ap, mDisp1T_ap, mDisp1K_ap, mNeg_ap, mRetN_ap, mBreak_ap, mCont_ap, mAug_ap, mOpt_some, mOpt_none, mSub_ap, mBTst_ap, mIn_ap, Res.bind_ok, Res.bind_ex, Res.bind_bad, mFn, pickO, Mode.owned, mArgs, fillA, backA, oI, oIC, oIdx, oIx, oLen, oInt, oAbs, oNeg, oTuple, oList, stSub, cMod, cDiv, cPow, cMul, L2.atI, L2.ixN, gTupD, gsCons, gsNil, gSet, itemsOf, tyName, isT, isT1, szL, oEqI, oNeI, oEqB, oNeB, oEqN]
theorem far_ok {a b c d : Int} (h1 : -99 ≤ a ∧ a ≤ 99) (h2 : -99 ≤ b ∧ b ≤ 99) (h3 : -99 ≤ c ∧ c ≤ 99) (h4 : -99 ≤ d ∧ d ≤ 99) : m_far [D.tup [.int a, .int b], D.tup [.int c, .int d]] = .ok (.int (dist a b c d)) [] := by
  unfold m_far mb_far
  simp [mC_ap, mVar_ap, mBin_ap, mTst_ap, mNil_ap, mCons_ap, mTup_ap, mLst_ap, mAnd_ap, mOr_ap, mNot_ap, mBl_ap, mAndV_ap, mOrV_ap, mNotV_ap, mIf_ap, mChain_ap, mGet_ap, mGetV_ap, mUn_ap, mNext_ap, mSeq_ap, mSet_ap, mExpr_ap, mRet_ap, mAsg_ap, mCall_ap, mItems_ap, mRange1_ap, mRange2_ap, mEnum_ap, mZip_ap, mYes_ap, mRaise_ap, mExF_ap, mIsi_ap, mLM_ap, mSetSub_ap, mSub2_ap, mBinZB_ap, mPart_ap, mSlice_ap, mPar2_ap, mPar3_ap, mDisp1T_ap, mDisp1K_ap, mNeg_ap, mRetN_ap, mBreak_ap, mCont_ap, mAug_ap, mOpt_some, mOpt_none, mSub_ap, mBTst_ap, mIn_ap, Res.bind_ok, Res.bind_ex, Res.bind_bad, mFn, pickO, Mode.owned, mArgs, fillA, backA, oI, oIC, oIdx, oIx, oLen, oInt, oAbs, oNeg, oTuple, oList, stSub, cMod, cDiv, cPow, cMul, L2.atI, L2.ixN, gTupD, gsCons, gsNil, gSet, itemsOf, tyName, isT, isT1, szL, oEqI, oNeI, oEqB, oNeB, oEqN, checked_cell_ok h1 h2, checked_cell_ok h3 h4, plain_far_ok]
theorem do_meet_ok {a b c d : Int} (h1 : -99 ≤ a ∧ a ≤ 99) (h2 : -99 ≤ b ∧ b ≤ 99) (h3 : -99 ≤ c ∧ c ≤ 99) (h4 : -99 ≤ d ∧ d ≤ 99) : m_do_meet [D.tup [.int a, .int b], D.tup [.int c, .int d]] = .ok (.bl (decide (dist a b c d = 1))) [] := by
  unfold m_do_meet mb_do_meet
  simp [mC_ap, mVar_ap, mBin_ap, mTst_ap, mNil_ap, mCons_ap, mTup_ap, mLst_ap, mAnd_ap, mOr_ap, mNot_ap, mBl_ap, mAndV_ap, mOrV_ap, mNotV_ap, mIf_ap, mChain_ap, mGet_ap, mGetV_ap, mUn_ap, mNext_ap, mSeq_ap, mSet_ap, mExpr_ap, mRet_ap, mAsg_ap, mCall_ap, mItems_ap, mRange1_ap, mRange2_ap, mEnum_ap, mZip_ap, mYes_ap, mRaise_ap, mExF_ap, mIsi_ap, mLM_ap, mSetSub_ap, mSub2_ap, mBinZB_ap, mPart_ap, mSlice_ap, mPar2_ap, mPar3_ap, mDisp1T_ap, mDisp1K_ap, mNeg_ap, mRetN_ap, mBreak_ap, mCont_ap, mAug_ap, mOpt_some, mOpt_none, mSub_ap, mBTst_ap, mIn_ap, Res.bind_ok, Res.bind_ex, Res.bind_bad, mFn, pickO, Mode.owned, mArgs, fillA, backA, oI, oIC, oIdx, oIx, oLen, oInt, oAbs, oNeg, oTuple, oList, stSub, cMod, cDiv, cPow, cMul, L2.atI, L2.ixN, gTupD, gsCons, gsNil, gSet, itemsOf, tyName, isT, isT1, szL, oEqI, oNeI, oEqB, oNeB, oEqN, far_ok h1 h2 h3 h4]
/-! ### the same -/
theorem same_int (n : Nat) (a b : Int) : m__law_same (n + 1) [.int a, .int b] = .ok (.bl (decide (a = b))) [] := by
  unfold m__law_same mb__law_same
  simp [mC_ap, mVar_ap, mBin_ap, mTst_ap, mNil_ap, mCons_ap, mTup_ap, mLst_ap, mAnd_ap, mOr_ap, mNot_ap, mBl_ap, mAndV_ap, mOrV_ap, mNotV_ap, mIf_ap, mChain_ap, mGet_ap, mGetV_ap, mUn_ap, mNext_ap, mSeq_ap, mSet_ap, mExpr_ap, mRet_ap, mAsg_ap, mCall_ap, mItems_ap, mRange1_ap, mRange2_ap, mEnum_ap, mZip_ap, mYes_ap, mRaise_ap, mExF_ap, mIsi_ap, mLM_ap, mSetSub_ap, mSub2_ap, mBinZB_ap, mPart_ap, mSlice_ap, mPar2_ap, mPar3_ap, mDisp1T_ap, mDisp1K_ap, mNeg_ap, mRetN_ap, mBreak_ap, mCont_ap, mAug_ap, mOpt_some, mOpt_none, mSub_ap, mBTst_ap, mIn_ap, Res.bind_ok, Res.bind_ex, Res.bind_bad, mFn, pickO, Mode.owned, mArgs, fillA, backA, oI, oIC, oIdx, oIx, oLen, oInt, oAbs, oNeg, oTuple, oList, stSub, cMod, cDiv, cPow, cMul, L2.atI, L2.ixN, gTupD, gsCons, gsNil, gSet, itemsOf, tyName, isT, isT1, szL, oEqI, oNeI, oEqB, oNeB, oEqN]
theorem same_bl (n : Nat) (a b : Bool) : m__law_same (n + 1) [.bl a, .bl b] = .ok (.bl (decide (a = b))) [] := by
  unfold m__law_same mb__law_same
  simp [mC_ap, mVar_ap, mBin_ap, mTst_ap, mNil_ap, mCons_ap, mTup_ap, mLst_ap, mAnd_ap, mOr_ap, mNot_ap, mBl_ap, mAndV_ap, mOrV_ap, mNotV_ap, mIf_ap, mChain_ap, mGet_ap, mGetV_ap, mUn_ap, mNext_ap, mSeq_ap, mSet_ap, mExpr_ap, mRet_ap, mAsg_ap, mCall_ap, mItems_ap, mRange1_ap, mRange2_ap, mEnum_ap, mZip_ap, mYes_ap, mRaise_ap, mExF_ap, mIsi_ap, mLM_ap, mSetSub_ap, mSub2_ap, mBinZB_ap, mPart_ap, mSlice_ap, mPar2_ap, mPar3_ap, mDisp1T_ap, mDisp1K_ap, mNeg_ap, mRetN_ap, mBreak_ap, mCont_ap, mAug_ap, mOpt_some, mOpt_none, mSub_ap, mBTst_ap, mIn_ap, Res.bind_ok, Res.bind_ex, Res.bind_bad, mFn, pickO, Mode.owned, mArgs, fillA, backA, oI, oIC, oIdx, oIx, oLen, oInt, oAbs, oNeg, oTuple, oList, stSub, cMod, cDiv, cPow, cMul, L2.atI, L2.ixN, gTupD, gsCons, gsNil, gSet, itemsOf, tyName, isT, isT1, szL, oEqI, oNeI, oEqB, oNeB, oEqN]
theorem same_comp (r : List D → FRes) (o1 o2 : Option D) : ∀ (xs ys : List D) (o3 o4 : Option D), xs.length = ys.length → (∀ p ∈ xs.zip ys, r [p.1, p.2] = .ok (.bl true) []) →
    ∃ o3' o4', mCompL [2, 3] (gTupD (gsCons (gSet 2) (gsCons (gSet 3) gsNil))) (mNot (mTst (mCall r [.val (mVar 2), .val (mVar 3)]))) (mC (.int 1)) (zipD xs ys) [] [o1, o2, o3, o4] = .ok [] [o1, o2, o3', o4']
  | [], [], o3, o4, _, _ => ⟨o3, o4, rfl⟩
  | [], _ :: _, _, _, h, _ => by simp at h
  | _ :: _, [], _, _, h, _ => by simp at h
  | x :: xs, y :: ys, o3, o4, hl, h => by
    obtain ⟨o3', o4', e⟩ := same_comp r o1 o2 xs ys (some x) (some y) (by simpa using hl) fun p hp => h p (by simp [hp])
    refine ⟨o3', o4', ?_⟩
    rw [← e]
    have h0 := h (x, y) (by simp)
    simp only at h0
    simp [zipD, mCompL, wipeE, h0, mC_ap, mVar_ap, mBin_ap, mTst_ap, mNil_ap, mCons_ap, mTup_ap, mLst_ap, mAnd_ap, mOr_ap, mNot_ap, mBl_ap, mAndV_ap, mOrV_ap, mNotV_ap, mIf_ap, mChain_ap, mGet_ap, mGetV_ap, mUn_ap, mNext_ap, mSeq_ap, mSet_ap, mExpr_ap, mRet_ap, mAsg_ap, mCall_ap, mItems_ap, mRange1_ap, mRange2_ap, mEnum_ap, mZip_ap, mYes_ap, mRaise_ap, mExF_ap, mIsi_ap, mLM_ap, mSetSub_ap, mSub2_ap, mBinZB_ap, mPart_ap, mSlice_ap, mPar2_ap, mPar3_ap, mDisp1T_ap, mDisp1K_ap, mNeg_ap, mRetN_ap, mBreak_ap, mCont_ap, mAug_ap, mOpt_some, mOpt_none, mSub_ap, mBTst_ap, mIn_ap, Res.bind_ok, Res.bind_ex, Res.bind_bad, mFn, pickO, Mode.owned, mArgs, fillA, backA, oI, oIC, oIdx, oIx, oLen, oInt, oAbs, oNeg, oTuple, oList, stSub, cMod, cDiv, cPow, cMul, L2.atI, L2.ixN, gTupD, gsCons, gsNil, gSet, itemsOf, tyName, isT, isT1, szL, oEqI, oNeI, oEqB, oNeB, oEqN]
theorem same_seq (n : Nat) (xs ys : List D) (hl : xs.length = ys.length) (h : ∀ p ∈ xs.zip ys, m__law_same n [p.1, p.2] = .ok (.bl true) []) : m__law_same (n + 1) [.tup xs, .tup ys] = .ok (.bl true) [] := by
  obtain ⟨o3, o4, e⟩ := same_comp (m__law_same n) (some (.tup xs)) (some (.tup ys)) xs ys none none hl h
  unfold m__law_same mb__law_same
  simp [mC_ap, mVar_ap, mBin_ap, mTst_ap, mNil_ap, mCons_ap, mTup_ap, mLst_ap, mAnd_ap, mOr_ap, mNot_ap, mBl_ap, mAndV_ap, mOrV_ap, mNotV_ap, mIf_ap, mChain_ap, mGet_ap, mGetV_ap, mUn_ap, mNext_ap, mSeq_ap, mSet_ap, mExpr_ap, mRet_ap, mAsg_ap, mCall_ap, mItems_ap, mRange1_ap, mRange2_ap, mEnum_ap, mZip_ap, mYes_ap, mRaise_ap, mExF_ap, mIsi_ap, mLM_ap, mSetSub_ap, mSub2_ap, mBinZB_ap, mPart_ap, mSlice_ap, mPar2_ap, mPar3_ap, mDisp1T_ap, mDisp1K_ap, mNeg_ap, mRetN_ap, mBreak_ap, mCont_ap, mAug_ap, mOpt_some, mOpt_none, mSub_ap, mBTst_ap, mIn_ap, Res.bind_ok, Res.bind_ex, Res.bind_bad, mFn, pickO, Mode.owned, mArgs, fillA, backA, oI, oIC, oIdx, oIx, oLen, oInt, oAbs, oNeg, oTuple, oList, stSub, cMod, cDiv, cPow, cMul, L2.atI, L2.ixN, gTupD, gsCons, gsNil, gSet, itemsOf, tyName, isT, isT1, szL, oEqI, oNeI, oEqB, oNeB, oEqN, mComp_ap, e, hl, backE]
theorem same_seqL (n : Nat) (xs ys : List D) (hl : xs.length = ys.length) (h : ∀ p ∈ xs.zip ys, m__law_same n [p.1, p.2] = .ok (.bl true) []) : m__law_same (n + 1) [.lst xs, .lst ys] = .ok (.bl true) [] := by
  obtain ⟨o3, o4, e⟩ := same_comp (m__law_same n) (some (.lst xs)) (some (.lst ys)) xs ys none none hl h
  unfold m__law_same mb__law_same
  simp [mC_ap, mVar_ap, mBin_ap, mTst_ap, mNil_ap, mCons_ap, mTup_ap, mLst_ap, mAnd_ap, mOr_ap, mNot_ap, mBl_ap, mAndV_ap, mOrV_ap, mNotV_ap, mIf_ap, mChain_ap, mGet_ap, mGetV_ap, mUn_ap, mNext_ap, mSeq_ap, mSet_ap, mExpr_ap, mRet_ap, mAsg_ap, mCall_ap, mItems_ap, mRange1_ap, mRange2_ap, mEnum_ap, mZip_ap, mYes_ap, mRaise_ap, mExF_ap, mIsi_ap, mLM_ap, mSetSub_ap, mSub2_ap, mBinZB_ap, mPart_ap, mSlice_ap, mPar2_ap, mPar3_ap, mDisp1T_ap, mDisp1K_ap, mNeg_ap, mRetN_ap, mBreak_ap, mCont_ap, mAug_ap, mOpt_some, mOpt_none, mSub_ap, mBTst_ap, mIn_ap, Res.bind_ok, Res.bind_ex, Res.bind_bad, mFn, pickO, Mode.owned, mArgs, fillA, backA, oI, oIC, oIdx, oIx, oLen, oInt, oAbs, oNeg, oTuple, oList, stSub, cMod, cDiv, cPow, cMul, L2.atI, L2.ixN, gTupD, gsCons, gsNil, gSet, itemsOf, tyName, isT, isT1, szL, oEqI, oNeI, oEqB, oNeB, oEqN, mComp_ap, e, hl, backE]
def gd : Nat → D → Bool
  | 0, _ => false
  | _ + 1, .int _ => true
  | _ + 1, .bl _ => true
  | n + 1, .tup xs => xs.all (gd n)
  | n + 1, .lst xs => xs.all (gd n)
  | _ + 1, _ => false
theorem zip_self {α : Type} : ∀ {xs : List α} {p : α × α}, p ∈ xs.zip xs → p.1 = p.2 ∧ p.1 ∈ xs
  | [], p, h => by simp at h
  | x :: xs, p, h => by
    simp only [List.zip_cons_cons, List.mem_cons] at h
    rcases h with h | h
    · subst h; simp
    · have := zip_self h; exact ⟨this.1, List.mem_cons_of_mem _ this.2⟩
theorem same_refl : ∀ (n : Nat) (d : D), gd n d = true → m__law_same n [d, d] = .ok (.bl true) []
  | 0, d, h => by simp [gd] at h
  | n + 1, d, h => by
    cases d <;> simp only [gd, Bool.false_eq_true] at h
    · rw [same_bl]; simp
    · rw [same_int]; simp
    · refine same_seq n _ _ rfl fun p hp => ?_
      obtain ⟨h1, h2⟩ := zip_self hp
      rw [← h1]
      exact same_refl n _ (List.all_eq_true.mp h _ h2)
    · refine same_seqL n _ _ rfl fun p hp => ?_
      obtain ⟨h1, h2⟩ := zip_self hp
      rw [← h1]
      exact same_refl n _ (List.all_eq_true.mp h _ h2)
mutual
theorem eqvR : ∀ d : D, PySem.PyData.eqv d.py d.py = true
  | .non => rfl
  | .bl b => by cases b <;> rfl
  | .int i => by simp [D.py, PySem.PyData.eqv]
  | .str x => by simp [D.py, PySem.PyData.eqv]
  | .tup xs => by simp only [D.py, PySem.PyData.eqv]; exact eqvRs xs
  | .lst xs => by simp only [D.py, PySem.PyData.eqv]; exact eqvRs xs
  | .ktp xs => by simp only [D.py, PySem.PyData.eqv]; exact eqvRs xs
  | .dct _ => rfl
  | .dcT _ => rfl
  | .set _ => rfl
  | .scr _ => rfl
  | .ins _ _ => rfl
theorem eqvRs : ∀ ds : List D, PySem.PyData.eqvAll (D.pys ds) (D.pys ds) = true
  | [] => rfl
  | d :: ds => by simp only [D.pys, PySem.PyData.eqvAll, eqvR d, eqvRs ds]; rfl
end
theorem oNeR {d : D} (h : d.lv 16 = true) : oNe d d = some (.bl false) := by unfold oNe D.eqv; rw [h, eqvR]; rfl
theorem oEqR {d : D} (h : d.lv 16 = true) : oEq d d = some (.bl true) := by unfold oEq D.eqv; rw [h, eqvR]; rfl
/-! ### picks -/
def St (S : D) : Prop := ∃ a k cs s, S = st a k cs s
theorem draw_st {S : D} (h : St S) (limit : Int) (h0 : 0 < limit) (h1 : limit < 1073741824) : ∃ d S', 0 ≤ d ∧ d < limit ∧ St S' ∧ m__law_draw [S, .int limit] = .ok (.int d) [S'] := by
  obtain ⟨a, k, cs, s, rfl⟩ := h
  obtain ⟨d, a', s', k', h2, h3, h4⟩ := draw_spec a k cs s limit h0 h1
  exact ⟨d, _, h2, h3, ⟨a', k', cs, s', rfl⟩, h4⟩
theorem pick_st {S : D} (h : St S) (rows : List D) (h0 : rows ≠ []) (h1 : rows.length < 1073741824) : ∃ c S', c ∈ rows ∧ St S' ∧ m__law_pick [S, .lst rows] = .ok c [S'] := by
  obtain ⟨d, S', h2, h3, h4, h5⟩ := draw_st h rows.length (by have := List.length_pos_iff.mpr h0; omega) (by omega)
  obtain ⟨j, rfl⟩ : ∃ j : Nat, d = j := ⟨d.toNat, by omega⟩
  have hj : j < rows.length := by omega
  refine ⟨rows[j], S', List.getElem_mem hj, h4, ?_⟩
  unfold m__law_pick mb__law_pick
  simp [mC_ap, mVar_ap, mBin_ap, mTst_ap, mNil_ap, mCons_ap, mTup_ap, mLst_ap, mAnd_ap, mOr_ap, mNot_ap, mBl_ap, mAndV_ap, mOrV_ap, mNotV_ap, mIf_ap, mChain_ap, mGet_ap, mGetV_ap, mUn_ap, mNext_ap, mSeq_ap, mSet_ap, mExpr_ap, mRet_ap, mAsg_ap, mCall_ap, mItems_ap, mRange1_ap, mRange2_ap, mEnum_ap, mZip_ap, mYes_ap, mRaise_ap, mExF_ap, mIsi_ap, mLM_ap, mSetSub_ap, mSub2_ap, mBinZB_ap, mPart_ap, mSlice_ap, mPar2_ap, mPar3_ap, mDisp1T_ap, mDisp1K_ap, mNeg_ap, mRetN_ap, mBreak_ap, mCont_ap, mAug_ap, mOpt_some, mOpt_none, mSub_ap, mBTst_ap, mIn_ap, Res.bind_ok, Res.bind_ex, Res.bind_bad, mFn, pickO, Mode.owned, mArgs, fillA, backA, oI, oIC, oIdx, oIx, oLen, oInt, oAbs, oNeg, oTuple, oList, stSub, cMod, cDiv, cPow, cMul, L2.atI, L2.ixN, gTupD, gsCons, gsNil, gSet, itemsOf, tyName, isT, isT1, szL, oEqI, oNeI, oEqB, oNeB, oEqN, h5, hj]
theorem pick_stT {S : D} (h : St S) (rows : List D) (h0 : rows ≠ []) (h1 : rows.length < 1073741824) : ∃ c S', c ∈ rows ∧ St S' ∧ m__law_pick [S, .tup rows] = .ok c [S'] := by
  obtain ⟨d, S', h2, h3, h4, h5⟩ := draw_st h rows.length (by have := List.length_pos_iff.mpr h0; omega) (by omega)
  obtain ⟨j, rfl⟩ : ∃ j : Nat, d = j := ⟨d.toNat, by omega⟩
  have hj : j < rows.length := by omega
  refine ⟨rows[j], S', List.getElem_mem hj, h4, ?_⟩
  unfold m__law_pick mb__law_pick
  simp [mC_ap, mVar_ap, mBin_ap, mTst_ap, mNil_ap, mCons_ap, mTup_ap, mLst_ap, mAnd_ap, mOr_ap, mNot_ap, mBl_ap, mAndV_ap, mOrV_ap, mNotV_ap, mIf_ap, mChain_ap, mGet_ap, mGetV_ap, mUn_ap, mNext_ap, mSeq_ap, mSet_ap, mExpr_ap, mRet_ap, mAsg_ap, mCall_ap, mItems_ap, mRange1_ap, mRange2_ap, mEnum_ap, mZip_ap, mYes_ap, mRaise_ap, mExF_ap, mIsi_ap, mLM_ap, mSetSub_ap, mSub2_ap, mBinZB_ap, mPart_ap, mSlice_ap, mPar2_ap, mPar3_ap, mDisp1T_ap, mDisp1K_ap, mNeg_ap, mRetN_ap, mBreak_ap, mCont_ap, mAug_ap, mOpt_some, mOpt_none, mSub_ap, mBTst_ap, mIn_ap, Res.bind_ok, Res.bind_ex, Res.bind_bad, mFn, pickO, Mode.owned, mArgs, fillA, backA, oI, oIC, oIdx, oIx, oLen, oInt, oAbs, oNeg, oTuple, oList, stSub, cMod, cDiv, cPow, cMul, L2.atI, L2.ixN, gTupD, gsCons, gsNil, gSet, itemsOf, tyName, isT, isT1, szL, oEqI, oNeI, oEqB, oNeB, oEqN, h5, hj]
end K00
namespace K00
open VM
def Nx (f : M Fl) (e : Env) (Q : Env → Prop) : Prop := ∃ e', f e = .ok .next e' ∧ Q e'
theorem seq_nx {f g : M Fl} {e : Env} {P Q : Env → Prop} (h : Nx f e P) (k : ∀ e', P e' → Nx g e' Q) : Nx (mSeq f g) e Q := by
  obtain ⟨e1, h1, h2⟩ := h
  obtain ⟨e2, h3, h4⟩ := k e1 h2
  exact ⟨e2, by rw [mSeq_ap, h1]; exact h3, h4⟩
theorem for_nx {h : Tg} {body : M Fl} {I : Env → Prop} (hb : ∀ (d : D) (e : Env), I e → ∃ e1, h d e = some e1 ∧ Nx body e1 I) : ∀ (ds : List D) (e : Env), I e → Nx (mFor h body ds) e I
  | [], e, hi => ⟨e, rfl, hi⟩
  | d :: ds, e, hi => by
    obtain ⟨e1, h1, e2, h2, h3⟩ := hb d e hi
    obtain ⟨e3, h4, h5⟩ := for_nx hb ds e2 h3
    exact ⟨e3, by simp only [mFor, h1, h2, Res.bind_ok]; exact h4, h5⟩
/-! ### the rings round a cell -/
abbrev P2 := Int × Int
def c2D (p : P2) : D := .tup [.int p.1, .int p.2]
def seenD (l : List (P2 × Int)) : D := .dcT (l.map fun z => (c2D z.1, .int z.2))
def sc (step : Int) (q : List (P2 × Int) × List P2) (p : P2) : List (P2 × Int) × List P2 := if p ∈ q.1.map (·.1) then q else (q.1 ++ [(p, step)], q.2 ++ [p])
def nbrs (p : P2) : List P2 := [(p.1 + 1, p.2), (p.1, p.2 + 1), (p.1 - 1, p.2 + 1), (p.1 - 1, p.2), (p.1, p.2 - 1), (p.1 + 1, p.2 - 1)]
def ring (step : Int) (seen : List (P2 × Int)) (line : List P2) : List (P2 × Int) × List P2 := (line.flatMap nbrs).foldl (sc step) (seen, [])
theorem c2D_inj {p q : P2} (h : c2D p = c2D q) : p = q := by
  unfold c2D at h
  injection h with h
  injection h with h1 h2
  injection h1 with h1
  injection h2 with h2 _
  injection h2 with h2
  exact Prod.ext h1 h2
theorem get_none (l : List (P2 × Int)) (p : P2) : (dGet (l.map fun z => (c2D z.1, D.int z.2)) (c2D p)).isSome = decide (p ∈ l.map (·.1)) := by
  induction l with
  | nil => rfl
  | cons z l ih =>
    simp only [List.map_cons, dGet]
    by_cases e : c2D z.1 = c2D p
    · rw [if_pos e]
      have := c2D_inj e
      simp [this]
    · rw [if_neg e, ih]
      have : ¬ p = z.1 := fun h => e (by rw [h])
      simp [this]
theorem put_new (l : List (P2 × Int)) (p : P2) (s : Int) (h : p ∉ l.map (·.1)) : dPut (l.map fun z => (c2D z.1, D.int z.2)) (c2D p) (.int s) = (l ++ [(p, s)]).map fun z => (c2D z.1, D.int z.2) := by
  induction l with
  | nil => rfl
  | cons z l ih =>
    simp only [List.map_cons, List.mem_cons, not_or] at h
    have e : ¬ c2D z.1 = c2D p := fun e => h.1 (c2D_inj e).symm
    simp only [List.map_cons, dPut, if_neg e, List.cons_append]
    rw [ih h.2]
theorem nodup_keys (l : List (P2 × Int)) (h : (l.map (·.1)).Nodup) : ((l.map fun z => (c2D z.1, D.int z.2)).map (·.1)).Nodup := by
  rw [List.map_map]
  have : ((fun x : D × D => x.1) ∘ fun z : P2 × Int => (c2D z.1, D.int z.2)) = c2D ∘ (fun z : P2 × Int => z.1) := rfl
  rw [this, ← List.map_map]
  exact List.Pairwise.map c2D (fun a b h e => h (c2D_inj e)) h
theorem keyT_c (p : P2) : (keyT (c2D p)).isSome = true := rfl
section
variable (a0 S a2 a3 a4 a5 a7 a9 a10 a11 a13 a14 a15 : Option D)
def envB (seen : List (P2 × Int)) (step : Int) (more : List P2) : Env := [a0, S, a2, a3, a4, a5, some (seenD seen), a7, some (.int step), a9, a10, a11, some (.lst (more.map c2D)), a13, a14, a15]
theorem cell_ok (seen : List (P2 × Int)) (step : Int) (more : List P2) (p : P2) (hn : (seen.map (·.1)).Nodup) (h1 : seen.length < 10000) (h2 : more.length < 10000) :
    lb_law_14 (envB a0 S a2 a3 a4 a5 a7 a9 a10 a11 a13 a14 (some (c2D p)) seen step more) = .ok .next (envB a0 S a2 a3 a4 a5 a7 a9 a10 a11 a13 a14 (some (c2D p)) (sc step (seen, more) p).1 step (sc step (seen, more) p).2) := by
  unfold lb_law_14 envB
  have hin : oInU true (c2D p) (seenD seen) = some (.bl (!decide (p ∈ seen.map (·.1)))) := by
    simp only [oInU, seenD, oInD, dAsk, keyT_c, if_true, get_none]
  have hl : (seen.map fun z => (c2D z.1, D.int z.2)).length < PySem.sizeLine := by rw [List.length_map, szL]; omega
  have hm : (more.map c2D).length < 16777216 := by rw [List.length_map]; omega
  by_cases hp : p ∈ seen.map (·.1)
  · have e : sc step (seen, more) p = (seen, more) := by unfold sc; rw [if_pos hp]
    rw [e]
    simp only [hp, decide_true, Bool.not_true] at hin
    simp [mC_ap, mVar_ap, mBin_ap, mTst_ap, mNil_ap, mCons_ap, mTup_ap, mLst_ap, mAnd_ap, mOr_ap, mNot_ap, mBl_ap, mAndV_ap, mOrV_ap, mNotV_ap, mIf_ap, mChain_ap, mGet_ap, mGetV_ap, mUn_ap, mNext_ap, mSeq_ap, mSet_ap, mExpr_ap, mRet_ap, mAsg_ap, mCall_ap, mItems_ap, mRange1_ap, mRange2_ap, mEnum_ap, mZip_ap, mYes_ap, mRaise_ap, mExF_ap, mIsi_ap, mLM_ap, mSetSub_ap, mSub2_ap, mBinZB_ap, mPart_ap, mSlice_ap, mPar2_ap, mPar3_ap, mDisp1T_ap, mDisp1K_ap, mNeg_ap, mRetN_ap, mBreak_ap, mCont_ap, mAug_ap, mOpt_some, mOpt_none, mSub_ap, mBTst_ap, mIn_ap, Res.bind_ok, Res.bind_ex, Res.bind_bad, mFn, pickO, Mode.owned, mArgs, fillA, backA, oI, oIC, oIdx, oIx, oLen, oInt, oAbs, oNeg, oTuple, oList, stSub, cMod, cDiv, cPow, cMul, L2.atI, L2.ixN, gTupD, gsCons, gsNil, gSet, itemsOf, tyName, isT, isT1, szL, oEqI, oNeI, oEqB, oNeB, oEqN, hin]
  · have e : sc step (seen, more) p = (seen ++ [(p, step)], more ++ [p]) := by unfold sc; rw [if_neg hp]
    rw [e]
    simp only [hp, decide_false, Bool.not_false] at hin
    have hst : stSub (seenD seen) (c2D p) (.int step) = some (seenD (seen ++ [(p, step)])) := by
      simp only [stSub, seenD]
      rw [if_pos ⟨keyT_c p, hl, nodup_keys seen hn⟩, put_new seen p step hp]
    simp only [mIf_ap, mIn_ap, mTst_ap, mBinZB_ap, mVar_ap, mGetV_ap, List.getElem?_cons_succ, List.getElem?_cons_zero, Res.bind_ok, Option.join_some, hin, mOpt_some, if_true, mSeq_ap, mSetSub_ap, hst, mExpr_ap, mLM_ap, mCons_ap, mNil_ap, List.set_cons_succ, List.set_cons_zero]
    have hm' : more.length < 16777216 := by omega
    simp [oAppend, hm', szL]
theorem sc_len (step : Int) (q : List (P2 × Int) × List P2) (p : P2) : (sc step q p).1.length ≤ q.1.length + 1 ∧ (sc step q p).2.length ≤ q.2.length + 1 := by
  unfold sc; split <;> simp
theorem sc_nodup (step : Int) (q : List (P2 × Int) × List P2) (p : P2) (h : (q.1.map (·.1)).Nodup) : ((sc step q p).1.map (·.1)).Nodup := by
  unfold sc
  split
  · exact h
  · rename_i hp
    simp only [List.map_append, List.map_cons, List.map_nil]
    rw [List.nodup_append]
    refine ⟨h, by simp, fun a ha b hb e => ?_⟩
    simp at hb
    subst hb; subst e
    exact hp ha
theorem cells_ok (step : Int) : ∀ (ps : List P2) (a15 : Option D) (seen : List (P2 × Int)) (more : List P2), (seen.map (·.1)).Nodup → seen.length + ps.length < 10000 → more.length + ps.length < 10000 →
    ∃ b15, mFor (gSet 15) lb_law_14 (ps.map c2D) (envB a0 S a2 a3 a4 a5 a7 a9 a10 a11 a13 a14 a15 seen step more) = .ok .next (envB a0 S a2 a3 a4 a5 a7 a9 a10 a11 a13 a14 b15 (ps.foldl (sc step) (seen, more)).1 step (ps.foldl (sc step) (seen, more)).2) ∧
      ((ps.foldl (sc step) (seen, more)).1.map (·.1)).Nodup ∧ (ps.foldl (sc step) (seen, more)).1.length ≤ seen.length + ps.length ∧ (ps.foldl (sc step) (seen, more)).2.length ≤ more.length + ps.length
  | [], a15, seen, more, hn, _, _ => ⟨a15, by simp only [List.map_nil, mFor, List.foldl_nil], hn, Nat.le_refl _, Nat.le_refl _⟩
  | p :: ps, a15, seen, more, hn, h1, h2 => by
    simp only [List.length_cons] at h1 h2
    have l := sc_len step (seen, more) p
    have n' := sc_nodup step (seen, more) p hn
    obtain ⟨b15, h3, h4, h5, h6⟩ := cells_ok step ps (some (c2D p)) (sc step (seen, more) p).1 (sc step (seen, more) p).2 n' (by have := l.1; simp only at this; omega) (by have := l.2; simp only at this; omega)
    rw [show ((sc step (seen, more) p).1, (sc step (seen, more) p).2) = sc step (seen, more) p from rfl] at h3 h4 h5 h6
    have l1 := l.1
    have l2 := l.2
    simp only at l1 l2
    refine ⟨b15, ?_, h4, ?_, ?_⟩
    rotate_left
    · simp only [List.length_cons, List.foldl_cons]; omega
    · simp only [List.length_cons, List.foldl_cons]; omega
    simp only [List.map_cons, mFor, gSet]
    have e : (envB a0 S a2 a3 a4 a5 a7 a9 a10 a11 a13 a14 a15 seen step more).set 15 (some (c2D p)) = envB a0 S a2 a3 a4 a5 a7 a9 a10 a11 a13 a14 (some (c2D p)) seen step more := rfl
    rw [e, cell_ok (hn := hn) (h1 := by omega) (h2 := by omega), Res.bind_ok]
    exact h3
theorem around_cells (p : P2) : m__law_around [c2D p] = .ok (.lst ((nbrs p).map c2D)) [] := law_around_ok p.1 p.2
theorem one_ok (step : Int) (seen : List (P2 × Int)) (more : List P2) (p : P2) (a15 : Option D) (hn : (seen.map (·.1)).Nodup) (h1 : seen.length + 6 < 10000) (h2 : more.length + 6 < 10000) :
    ∃ b15, lb_law_13 (envB a0 S a2 a3 a4 a5 a7 a9 a10 a11 (some (c2D p)) a14 a15 seen step more) = .ok .next (envB a0 S a2 a3 a4 a5 a7 a9 a10 a11 (some (c2D p)) a14 b15 ((nbrs p).foldl (sc step) (seen, more)).1 step ((nbrs p).foldl (sc step) (seen, more)).2) ∧
      (((nbrs p).foldl (sc step) (seen, more)).1.map (·.1)).Nodup ∧ ((nbrs p).foldl (sc step) (seen, more)).1.length ≤ seen.length + 6 ∧ ((nbrs p).foldl (sc step) (seen, more)).2.length ≤ more.length + 6 := by
  obtain ⟨b15, h3, h4, h5, h6⟩ := cells_ok a0 S a2 a3 a4 a5 a7 a9 a10 a11 (some (c2D p)) a14 step (nbrs p) a15 seen more hn h1 h2
  refine ⟨b15, ?_, h4, h5, h6⟩
  unfold lb_law_13
  have e : mItems (mCall m__law_around [.val (mVar 13)]) (envB a0 S a2 a3 a4 a5 a7 a9 a10 a11 (some (c2D p)) a14 a15 seen step more) = .ok ((nbrs p).map c2D) (envB a0 S a2 a3 a4 a5 a7 a9 a10 a11 (some (c2D p)) a14 a15 seen step more) := by
    unfold envB
    simp [mC_ap, mVar_ap, mBin_ap, mTst_ap, mNil_ap, mCons_ap, mTup_ap, mLst_ap, mAnd_ap, mOr_ap, mNot_ap, mBl_ap, mAndV_ap, mOrV_ap, mNotV_ap, mIf_ap, mChain_ap, mGet_ap, mGetV_ap, mUn_ap, mNext_ap, mSeq_ap, mSet_ap, mExpr_ap, mRet_ap, mAsg_ap, mCall_ap, mItems_ap, mRange1_ap, mRange2_ap, mEnum_ap, mZip_ap, mYes_ap, mRaise_ap, mExF_ap, mIsi_ap, mLM_ap, mSetSub_ap, mSub2_ap, mBinZB_ap, mPart_ap, mSlice_ap, mPar2_ap, mPar3_ap, mDisp1T_ap, mDisp1K_ap, mNeg_ap, mRetN_ap, mBreak_ap, mCont_ap, mAug_ap, mOpt_some, mOpt_none, mSub_ap, mBTst_ap, mIn_ap, Res.bind_ok, Res.bind_ex, Res.bind_bad, mFn, pickO, Mode.owned, mArgs, fillA, backA, oI, oIC, oIdx, oIx, oLen, oInt, oAbs, oNeg, oTuple, oList, stSub, cMod, cDiv, cPow, cMul, L2.atI, L2.ixN, gTupD, gsCons, gsNil, gSet, itemsOf, tyName, isT, isT1, szL, oEqI, oNeI, oEqB, oNeB, oEqN, around_cells]
  rw [mForS_ap, e, Res.bind_ok]
  exact h3
theorem line_ok (step : Int) : ∀ (ls : List P2) (a13 a15 : Option D) (seen : List (P2 × Int)) (more : List P2), (seen.map (·.1)).Nodup → seen.length + 6 * ls.length < 10000 → more.length + 6 * ls.length < 10000 →
    ∃ b13 b15, mFor (gSet 13) lb_law_13 (ls.map c2D) (envB a0 S a2 a3 a4 a5 a7 a9 a10 a11 a13 a14 a15 seen step more) = .ok .next (envB a0 S a2 a3 a4 a5 a7 a9 a10 a11 b13 a14 b15 ((ls.flatMap nbrs).foldl (sc step) (seen, more)).1 step ((ls.flatMap nbrs).foldl (sc step) (seen, more)).2) ∧
      (((ls.flatMap nbrs).foldl (sc step) (seen, more)).1.map (·.1)).Nodup
  | [], a13, a15, seen, more, hn, _, _ => ⟨a13, a15, by simp only [List.map_nil, mFor, List.flatMap_nil, List.foldl_nil], by simpa only [List.flatMap_nil, List.foldl_nil] using hn⟩
  | p :: ls, a13, a15, seen, more, hn, h1, h2 => by
    simp only [List.length_cons] at h1 h2
    obtain ⟨b15, h3, h4, h5, h6⟩ := one_ok a0 S a2 a3 a4 a5 a7 a9 a10 a11 a14 step seen more p a15 hn (by omega) (by omega)
    rw [List.flatMap_cons, List.foldl_append]
    have e : (envB a0 S a2 a3 a4 a5 a7 a9 a10 a11 a13 a14 a15 seen step more).set 13 (some (c2D p)) = envB a0 S a2 a3 a4 a5 a7 a9 a10 a11 (some (c2D p)) a14 a15 seen step more := rfl
    simp only [List.map_cons, mFor, gSet]
    rw [e, h3, Res.bind_ok]
    clear h3 e
    generalize (nbrs p).foldl (sc step) (seen, more) = q at *
    obtain ⟨q1, q2⟩ := q
    simp only at h4 h5 h6 ⊢
    exact line_ok step ls (some (c2D p)) b15 q1 q2 h4 (by omega) (by omega)
end
end K00
namespace K00
open VM
theorem for_ix {h : Tg} {body : M Fl} {I : Nat → Env → Prop} : ∀ (ds : List D) (k : Nat) (e : Env), (∀ (n : Nat) (d : D) (e : Env), ds[n]? = some d → I (k + n) e → ∃ e1, h d e = some e1 ∧ Nx body e1 (I (k + n + 1))) → I k e → Nx (mFor h body ds) e (I (k + ds.length))
  | [], k, e, _, hi => ⟨e, rfl, hi⟩
  | d :: ds, k, e, hb, hi => by
    obtain ⟨e1, h1, e2, h2, h3⟩ := hb 0 d e rfl hi
    obtain ⟨e3, h4, h5⟩ := for_ix ds (k + 1) e2 (fun n d' e' hd hi' => by
      have := hb (n + 1) d' e' (by simpa using hd) (by rw [show k + (n + 1) = k + 1 + n by omega]; exact hi')
      rw [show k + (n + 1) + 1 = k + 1 + n + 1 by omega] at this
      exact this) h3
    refine ⟨e3, by simp only [mFor, h1, h2, Res.bind_ok]; exact h4, ?_⟩
    rw [show k + (d :: ds).length = k + 1 + ds.length by simp; omega]
    exact h5
def tr (h p : P2) : P2 := (p.1 + h.1, p.2 + h.2)
def trS (h : P2) (l : List (P2 × Int)) : List (P2 × Int) := l.map fun z => (tr h z.1, z.2)
theorem tr_inj {h p q : P2} (e : tr h p = tr h q) : p = q := by
  unfold tr at e
  have e1 := congrArg (·.1) e
  have e2 := congrArg (·.2) e
  simp only at e1 e2
  exact Prod.ext (by omega) (by omega)
theorem keys_tr (h : P2) (l : List (P2 × Int)) (p : P2) : tr h p ∈ (trS h l).map (·.1) ↔ p ∈ l.map (·.1) := by
  unfold trS
  rw [List.map_map]
  constructor
  · intro hm
    obtain ⟨z, hz, e⟩ := List.mem_map.mp hm
    have := tr_inj (h := h) (p := z.1) (q := p) e
    exact List.mem_map.mpr ⟨z, hz, this⟩
  · intro hm
    obtain ⟨z, hz, e⟩ := List.mem_map.mp hm
    exact List.mem_map.mpr ⟨z, hz, by simp only [Function.comp]; rw [e]⟩
def trQ (h : P2) (q : List (P2 × Int) × List P2) : List (P2 × Int) × List P2 := (trS h q.1, q.2.map (tr h))
theorem sc_tr (h : P2) (step : Int) (q : List (P2 × Int) × List P2) (p : P2) : sc step (trQ h q) (tr h p) = trQ h (sc step q p) := by
  have k : tr h p ∈ (trQ h q).1.map (·.1) ↔ p ∈ q.1.map (·.1) := keys_tr h q.1 p
  unfold sc
  by_cases hp : p ∈ q.1.map (·.1)
  · rw [if_pos hp, if_pos (k.mpr hp)]
  · rw [if_neg hp, if_neg fun z => hp (k.mp z)]
    simp [trQ, trS]
theorem fold_tr (h : P2) (step : Int) : ∀ (ps : List P2) (q : List (P2 × Int) × List P2), (ps.map (tr h)).foldl (sc step) (trQ h q) = trQ h (ps.foldl (sc step) q)
  | [], _ => rfl
  | p :: ps, q => by simp only [List.map_cons, List.foldl_cons, sc_tr, fold_tr h step ps]
theorem nbrs_tr (h p : P2) : nbrs (tr h p) = (nbrs p).map (tr h) := by
  unfold nbrs tr
  have e1 : p.1 + h.1 + 1 = p.1 + 1 + h.1 := by omega
  have e2 : p.2 + h.2 + 1 = p.2 + 1 + h.2 := by omega
  have e3 : p.1 + h.1 - 1 = p.1 - 1 + h.1 := by omega
  have e4 : p.2 + h.2 - 1 = p.2 - 1 + h.2 := by omega
  simp only [List.map_cons, List.map_nil, e1, e2, e3, e4]
theorem flat_tr (h : P2) : ∀ ls : List P2, (ls.map (tr h)).flatMap nbrs = (ls.flatMap nbrs).map (tr h)
  | [] => rfl
  | p :: ls => by simp only [List.map_cons, List.flatMap_cons, List.map_append, nbrs_tr, flat_tr h ls]
theorem ring_tr (h : P2) (step : Int) (seen : List (P2 × Int)) (line : List P2) : ((line.map (tr h)).flatMap nbrs).foldl (sc step) (trS h seen, []) = trQ h (ring step seen line) := by
  rw [flat_tr]
  exact fold_tr h step _ (seen, [])
def run0 : Nat → List (P2 × Int) × List P2
  | 0 => ([((0, 0), 0)], [(0, 0)])
  | n + 1 => ring (n + 1) (run0 n).1 (run0 n).2
def chk (n : Nat) : Bool := !(run0 (n + 1)).2.isEmpty && (decide ((run0 (n + 1)).2.length < 100) && (decide ((run0 n).1.length + 6 * (run0 n).2.length < 10000) &&
  (run0 (n + 1)).2.all fun p => decide (dist 0 0 p.1 p.2 = n + 1) && (decide (dist p.1 p.2 0 0 = n + 1) && (decide (-6 ≤ p.1 ∧ p.1 ≤ 6) && decide (-6 ≤ p.2 ∧ p.2 ≤ 6)))))
theorem chk_ok : ∀ n, n < 6 → chk n = true := by decide +kernel
theorem dist_tr (h p : P2) : dist h.1 h.2 (tr h p).1 (tr h p).2 = dist 0 0 p.1 p.2 := by
  unfold dist tr
  have e1 : p.1 + h.1 - h.1 = p.1 - 0 := by omega
  have e2 : p.2 + h.2 - h.2 = p.2 - 0 := by omega
  simp only [e1, e2]
theorem dist_tr' (h p : P2) : dist (tr h p).1 (tr h p).2 h.1 h.2 = dist p.1 p.2 0 0 := by
  unfold dist tr
  have e1 : h.1 - (p.1 + h.1) = 0 - p.1 := by omega
  have e2 : h.2 - (p.2 + h.2) = 0 - p.2 := by omega
  simp only [e1, e2]
/-- a step's begin -/
def IS (h : P2) (n : Nat) (e : Env) : Prop := ∃ (a0 a2 a3 a5 a8 a9 a10 a11 a12 a13 a14 a15 : Option D) (S : D), St S ∧ ((trS h (run0 n).1).map (·.1)).Nodup ∧
  e = [a0, some S, a2, a3, some (c2D h), a5, some (seenD (trS h (run0 n).1)), some (.lst (((run0 n).2.map (tr h)).map c2D)), a8, a9, a10, a11, a12, a13, a14, a15]
theorem step_ok (h : P2) (h1 : -49 ≤ h.1 ∧ h.1 ≤ 49) (h2 : -49 ≤ h.2 ∧ h.2 ≤ 49) (n : Nat) (hn : n < 6) (e : Env) (hi : IS h n e) : Nx lb_law_11 (e.set 8 (some (.int (1 + (n : Int))))) (IS h (n + 1)) := by
  obtain ⟨a0, a2, a3, a5, a8, a9, a10, a11, a12, a13, a14, a15, S, hS, hnd, rfl⟩ := hi
  have hc := chk_ok n hn
  unfold chk at hc
  simp only [Bool.and_eq_true, decide_eq_true_eq, Bool.not_eq_true', List.isEmpty_eq_false_iff, List.all_eq_true] at hc
  obtain ⟨c1, c2, c3, c4⟩ := hc
  unfold lb_law_11
  -- more = []
  refine seq_nx (P := fun e => e = envB a0 (some S) a2 a3 (some (c2D h)) a5 (some (.lst (((run0 n).2.map (tr h)).map c2D))) a9 a10 a11 a13 a14 a15 (trS h (run0 n).1) (1 + (n : Int)) []) ⟨_, by simp [mC_ap, mVar_ap, mBin_ap, mTst_ap, mNil_ap, mCons_ap, mTup_ap, mLst_ap, mAnd_ap, mOr_ap, mNot_ap, mBl_ap, mAndV_ap, mOrV_ap, mNotV_ap, mIf_ap, mChain_ap, mGet_ap, mGetV_ap, mUn_ap, mNext_ap, mSeq_ap, mSet_ap, mExpr_ap, mRet_ap, mAsg_ap, mCall_ap, mItems_ap, mRange1_ap, mRange2_ap, mEnum_ap, mZip_ap, mYes_ap, mRaise_ap, mExF_ap, mIsi_ap, mLM_ap, mSetSub_ap, mSub2_ap, mBinZB_ap, mPart_ap, mSlice_ap, mPar2_ap, mPar3_ap, mDisp1T_ap, mDisp1K_ap, mNeg_ap, mRetN_ap, mBreak_ap, mCont_ap, mAug_ap, mOpt_some, mOpt_none, mSub_ap, mBTst_ap, mIn_ap, Res.bind_ok, Res.bind_ex, Res.bind_bad, mFn, pickO, Mode.owned, mArgs, fillA, backA, oI, oIC, oIdx, oIx, oLen, oInt, oAbs, oNeg, oTuple, oList, stSub, cMod, cDiv, cPow, cMul, L2.atI, L2.ixN, gTupD, gsCons, gsNil, gSet, itemsOf, tyName, isT, isT1, szL, oEqI, oNeI, oEqB, oNeB, oEqN]; rfl, rfl⟩ fun e he => ?_
  subst he
  obtain ⟨b13, b15, l1, l2⟩ := line_ok a0 (some S) a2 a3 (some (c2D h)) a5 (some (.lst (((run0 n).2.map (tr h)).map c2D))) a9 a10 a11 a14 (1 + (n : Int)) ((run0 n).2.map (tr h)) a13 a15 (trS h (run0 n).1) [] hnd (by simp only [trS, List.length_map]; omega) (by simp only [List.length_map, List.length_nil]; omega)
  rw [ring_tr, show (1 + (n : Int)) = ((n : Int) + 1) by omega] at l1 l2
  rw [show (1 + (n : Int)) = ((n : Int) + 1) by omega]
  have er : ring ((n : Int) + 1) (run0 n).1 (run0 n).2 = run0 (n + 1) := rfl
  rw [er] at l1 l2
  simp only [trQ] at l1 l2
  refine seq_nx (P := fun e => e = envB a0 (some S) a2 a3 (some (c2D h)) a5 (some (.lst (((run0 n).2.map (tr h)).map c2D))) a9 a10 a11 b13 a14 b15 (trS h (run0 (n + 1)).1) ((n : Int) + 1) ((run0 (n + 1)).2.map (tr h))) ⟨_, ?_, rfl⟩ fun e he => ?_
  · rw [mForS_ap]
    have em : mItems (mVar 7) (envB a0 (some S) a2 a3 (some (c2D h)) a5 (some (.lst (((run0 n).2.map (tr h)).map c2D))) a9 a10 a11 a13 a14 a15 (trS h (run0 n).1) ((n : Int) + 1) []) = .ok (((run0 n).2.map (tr h)).map c2D) (envB a0 (some S) a2 a3 (some (c2D h)) a5 (some (.lst (((run0 n).2.map (tr h)).map c2D))) a9 a10 a11 a13 a14 a15 (trS h (run0 n).1) ((n : Int) + 1) []) := rfl
    rw [em, Res.bind_ok]
    exact l1
  · subst he
    generalize hL : ((run0 (n + 1)).2.map (tr h)).map c2D = L
    obtain ⟨c, S', hcm, hS', hpk⟩ := pick_st hS L (by rw [← hL]; simpa using c1) (by rw [← hL]; simp only [List.length_map]; omega)
    rw [← hL] at hcm
    obtain ⟨p', hp', rfl⟩ := List.mem_map.mp hcm
    obtain ⟨p, hp, rfl⟩ := List.mem_map.mp hp'
    have hf := c4 p hp
    obtain ⟨d1, d2, d3, d4⟩ := hf
    have t1 : -99 ≤ (tr h p).1 ∧ (tr h p).1 ≤ 99 := by unfold tr; simp only; omega
    have t2 : -99 ≤ (tr h p).2 ∧ (tr h p).2 ≤ 99 := by unfold tr; simp only; omega
    have u1 : -99 ≤ h.1 ∧ h.1 ≤ 99 := by omega
    have u2 : -99 ≤ h.2 ∧ h.2 ≤ 99 := by omega
    have f1 : m_far [c2D h, c2D (tr h p)] = .ok (.int ((n : Int) + 1)) [] := by rw [c2D, c2D, far_ok u1 u2 t1 t2, dist_tr, d1]
    have f2 : m_far [c2D (tr h p), c2D h] = .ok (.int ((n : Int) + 1)) [] := by rw [c2D, c2D, far_ok t1 t2 u1 u2, dist_tr', d2]
    have f3 : m_do_meet [c2D h, c2D (tr h p)] = .ok (.bl (decide ((n : Int) + 1 = 1))) [] := by rw [c2D, c2D, do_meet_ok u1 u2 t1 t2, dist_tr, d1]
    have s1 : m__law_same 6 [.int ((n : Int) + 1), .int ((n : Int) + 1)] = .ok (.bl true) [] := same_refl 6 _ rfl
    have s2 : m__law_same 6 [.bl (decide ((n : Int) + 1 = 1)), .bl (decide ((n : Int) + 1 = 1))] = .ok (.bl true) [] := same_refl 6 _ rfl
    unfold envB
    rw [hL]
    refine ⟨[a0, some S', a2, a3, some (c2D h), a5, some (seenD (trS h (run0 (n + 1)).1)), some (.lst L), some (.int ((n : Int) + 1)), a9, a10, a11, some (.lst L), b13, some (c2D (tr h p)), b15], ?_, a0, a2, a3, a5, some (.int ((n : Int) + 1)), a9, a10, a11, some (.lst L), b13, some (c2D (tr h p)), b15, S', hS', l2, ?_⟩
    · have hdec : (decide ((n : Int) + 1 = 1)) = decide ((n : Int) + 1 = 1) := rfl
      generalize hb : decide ((n : Int) + 1 = 1) = b at *
      simp only [mC_ap, mVar_ap, mBin_ap, mTst_ap, mNil_ap, mCons_ap, mTup_ap, mLst_ap, mAnd_ap, mOr_ap, mNot_ap, mBl_ap, mAndV_ap, mOrV_ap, mNotV_ap, mIf_ap, mChain_ap, mGet_ap, mGetV_ap, mUn_ap, mNext_ap, mSeq_ap, mSet_ap, mExpr_ap, mRet_ap, mAsg_ap, mCall_ap, mItems_ap, mRange1_ap, mRange2_ap, mEnum_ap, mZip_ap, mYes_ap, mRaise_ap, mExF_ap, mIsi_ap, mLM_ap, mSetSub_ap, mSub2_ap, mBinZB_ap, mPart_ap, mSlice_ap, mPar2_ap, mPar3_ap, mDisp1T_ap, mDisp1K_ap, mNeg_ap, mRetN_ap, mBreak_ap, mCont_ap, mAug_ap, mOpt_some, mOpt_none, mSub_ap, mBTst_ap, mIn_ap, Res.bind_ok, Res.bind_ex, Res.bind_bad, mFn, pickO, Mode.owned, mArgs, fillA, backA, oI, oIC, oIdx, oIx, oLen, oInt, oAbs, oNeg, oTuple, oList, stSub, cMod, cDiv, cPow, cMul, L2.atI, L2.ixN, gTupD, gsCons, gsNil, gSet, itemsOf, tyName, isT, isT1, szL, oEqI, oNeI, oEqB, oNeB, oEqN, List.getElem?_cons_succ, List.getElem?_cons_zero, Option.join_some, List.set_cons_succ, List.set_cons_zero, Option.map_some, hpk, f1, f2, f3, s1, s2, hb, decide_true, Bool.not_true, Bool.false_eq_true, if_false, if_true]
    · rw [hL]
end K00
namespace K00
open VM
theorem sortI_id {ns : List Int} (h : ns.Pairwise (· ≤ ·)) : sortI ns = ns := (sortI_eq (List.Perm.refl ns) h).symm
theorem sorted3 (p : Int) : oSorted (.lst [.int p, .int p, .int p]) = some (.lst [.int p, .int p, .int p]) := by
  have e : intsD [.int p, .int p, .int p] = some [p, p, p] := rfl
  simp only [oSorted, e]
  rw [sortI_id (by simp)]
  rfl
theorem pick_even (a b c d e f : D) : pickD [a, b, c, d, e, f] none none (some 2) = [a, c, e] := by
  have z : PySem.sliceRange (PySem.sliceBounds none none (some 2) 6).1 (PySem.sliceBounds none none (some 2) 6).2.1 (PySem.sliceBounds none none (some 2) 6).2.2 = [0, 2, 4] := by decide +kernel
  show (PySem.sliceRange (PySem.sliceBounds none none (some 2) 6).1 (PySem.sliceBounds none none (some 2) 6).2.1 (PySem.sliceBounds none none (some 2) 6).2.2).filterMap _ = _
  rw [z]; rfl
theorem pick_odd (a b c d e f : D) : pickD [a, b, c, d, e, f] (some 1) none (some 2) = [b, d, f] := by
  have z : PySem.sliceRange (PySem.sliceBounds (some 1) none (some 2) 6).1 (PySem.sliceBounds (some 1) none (some 2) 6).2.1 (PySem.sliceBounds (some 1) none (some 2) 6).2.2 = [1, 3, 5] := by decide +kernel
  show (PySem.sliceRange (PySem.sliceBounds (some 1) none (some 2) 6).1 (PySem.sliceBounds (some 1) none (some 2) 6).2.1 (PySem.sliceBounds (some 1) none (some 2) 6).2.2).filterMap _ = _
  rw [z]; rfl
theorem rep3 (p : D) : repD 3 [p] = [p, p, p] := rfl
def bents : List D := [.tup [.int 100, .int 0], .tup [.int 0, .int (-100)], .tup [.bl true, .int 0], .tup [.int 0], .tup [.int 0, .int 0, .int 0], .tup [.str "a", .int 0]]
def resB : FRes → Option Bool
  | .ok (.bl b) [] => some b
  | _ => none
theorem resB_ok {r : FRes} {b : Bool} (h : resB r = some b) : r = .ok (.bl b) [] := by
  cases r with
  | bad => cases h
  | ex x as => cases h
  | ok d as =>
    cases d <;> cases as <;> simp [resB] at h
    subst h; rfl
theorem bents_ok : ∀ d ∈ bents, resB (m__law_refused [d]) = some true ∧ resB (m_is_cell [d]) = some false := by decide +kernel
def IT (e : Env) : Prop := ∃ (a0 a2 a3 a4 a5 a6 a7 a8 a9 a10 a11 a12 a13 a14 a15 : Option D) (S : D), St S ∧ e = [a0, some S, a2, a3, a4, a5, a6, a7, a8, a9, a10, a11, a12, a13, a14, a15]
theorem bent_ok (d : D) (hd : d ∈ bents) (e : Env) (hi : IT e) : ∃ e1, gSet 9 d e = some e1 ∧ Nx lb_law_24 e1 IT := by
  obtain ⟨a0, a2, a3, a4, a5, a6, a7, a8, a9, a10, a11, a12, a13, a14, a15, S, hS, rfl⟩ := hi
  obtain ⟨h1, h2⟩ := bents_ok d hd
  have h1 := resB_ok h1
  have h2 := resB_ok h2
  refine ⟨_, rfl, [a0, some S, a2, a3, a4, a5, a6, a7, a8, some d, a10, a11, a12, a13, a14, a15], ?_, a0, a2, a3, a4, a5, a6, a7, a8, some d, a10, a11, a12, a13, a14, a15, S, hS, rfl⟩
  unfold lb_law_24
  simp [mC_ap, mVar_ap, mBin_ap, mTst_ap, mNil_ap, mCons_ap, mTup_ap, mLst_ap, mAnd_ap, mOr_ap, mNot_ap, mBl_ap, mAndV_ap, mOrV_ap, mNotV_ap, mIf_ap, mChain_ap, mGet_ap, mGetV_ap, mUn_ap, mNext_ap, mSeq_ap, mSet_ap, mExpr_ap, mRet_ap, mAsg_ap, mCall_ap, mItems_ap, mRange1_ap, mRange2_ap, mEnum_ap, mZip_ap, mYes_ap, mRaise_ap, mExF_ap, mIsi_ap, mLM_ap, mSetSub_ap, mSub2_ap, mBinZB_ap, mPart_ap, mSlice_ap, mPar2_ap, mPar3_ap, mDisp1T_ap, mDisp1K_ap, mNeg_ap, mRetN_ap, mBreak_ap, mCont_ap, mAug_ap, mOpt_some, mOpt_none, mSub_ap, mBTst_ap, mIn_ap, Res.bind_ok, Res.bind_ex, Res.bind_bad, mFn, pickO, Mode.owned, mArgs, fillA, backA, oI, oIC, oIdx, oIx, oLen, oInt, oAbs, oNeg, oTuple, oList, stSub, cMod, cDiv, cPow, cMul, L2.atI, L2.ixN, gTupD, gsCons, gsNil, gSet, itemsOf, tyName, isT, isT1, szL, oEqI, oNeI, oEqB, oNeB, oEqN, h1, h2, oIsNot]
theorem turn_ok (e : Env) (hi : IT e) (d : D) : ∃ e1, gSet 2 d e = some e1 ∧ Nx lb_law_2 e1 IT := by
  obtain ⟨a0, a2, a3, a4, a5, a6, a7, a8, a9, a10, a11, a12, a13, a14, a15, S, hS, rfl⟩ := hi
  refine ⟨_, rfl, ?_⟩
  unfold lb_law_2
  -- the cell
  refine seq_nx (P := fun e => ∃ (x y : Int) (S : D), (-99 ≤ x ∧ x ≤ 99) ∧ (-99 ≤ y ∧ y ≤ 99) ∧ St S ∧ e = [a0, some S, some d, some (.tup [.int x, .int y]), a4, a5, a6, a7, a8, a9, a10, a11, a12, a13, a14, a15]) ?_ fun e he => ?_
  · obtain ⟨d1, S1, b1, c1, hS1, q1⟩ := draw_st hS 199 (by omega) (by omega)
    obtain ⟨d2, S2, b2, c2, hS2, q2⟩ := draw_st hS1 199 (by omega) (by omega)
    obtain ⟨d3, S3, b3, c3, hS3, q3⟩ := draw_st hS2 9 (by omega) (by omega)
    obtain ⟨d4, S4, b4, c4, hS4, q4⟩ := draw_st hS3 9 (by omega) (by omega)
    obtain ⟨c, S5, hc, hS5, q5⟩ := pick_st hS4 [.tup [.int (d1 - 99), .int (d2 - 99)], .tup [.int d3, .int d4], .tup [.int 99, .int (-99)], .tup [.int (-99), .int 99]] (by simp) (by simp)
    have hcc : ∃ x y : Int, (-99 ≤ x ∧ x ≤ 99) ∧ (-99 ≤ y ∧ y ≤ 99) ∧ c = .tup [.int x, .int y] := by
      simp only [List.mem_cons, List.not_mem_nil, or_false] at hc
      rcases hc with rfl | rfl | rfl | rfl
      · exact ⟨_, _, by omega, by omega, rfl⟩
      · exact ⟨_, _, by omega, by omega, rfl⟩
      · exact ⟨_, _, by omega, by omega, rfl⟩
      · exact ⟨_, _, by omega, by omega, rfl⟩
    obtain ⟨x, y, hx, hy, rfl⟩ := hcc
    exact ⟨_, by simp [mC_ap, mVar_ap, mBin_ap, mTst_ap, mNil_ap, mCons_ap, mTup_ap, mLst_ap, mAnd_ap, mOr_ap, mNot_ap, mBl_ap, mAndV_ap, mOrV_ap, mNotV_ap, mIf_ap, mChain_ap, mGet_ap, mGetV_ap, mUn_ap, mNext_ap, mSeq_ap, mSet_ap, mExpr_ap, mRet_ap, mAsg_ap, mCall_ap, mItems_ap, mRange1_ap, mRange2_ap, mEnum_ap, mZip_ap, mYes_ap, mRaise_ap, mExF_ap, mIsi_ap, mLM_ap, mSetSub_ap, mSub2_ap, mBinZB_ap, mPart_ap, mSlice_ap, mPar2_ap, mPar3_ap, mDisp1T_ap, mDisp1K_ap, mNeg_ap, mRetN_ap, mBreak_ap, mCont_ap, mAug_ap, mOpt_some, mOpt_none, mSub_ap, mBTst_ap, mIn_ap, Res.bind_ok, Res.bind_ex, Res.bind_bad, mFn, pickO, Mode.owned, mArgs, fillA, backA, oI, oIC, oIdx, oIx, oLen, oInt, oAbs, oNeg, oTuple, oList, stSub, cMod, cDiv, cPow, cMul, L2.atI, L2.ixN, gTupD, gsCons, gsNil, gSet, itemsOf, tyName, isT, isT1, szL, oEqI, oNeI, oEqB, oNeB, oEqN, q1, q2, q3, q4, q5], x, y, S5, hx, hy, hS5, rfl⟩
  obtain ⟨x, y, S, hx, hy, hS, rfl⟩ := he
  -- what is near it
  refine seq_nx (P := fun e => e = [a0, some S, some d, some (.tup [.int x, .int y]), a4, a5, a6, a7, a8, a9, a10, a11, a12, a13, a14, a15]) ⟨_, ?_, rfl⟩ fun e he => ?_
  · have s1 := same_refl 6 (.tup [D.tup [.int (x + 1), .int y], D.tup [.int x, .int (y + 1)], D.tup [.int (x - 1), .int (y + 1)], D.tup [.int (x - 1), .int y], D.tup [.int x, .int (y - 1)], D.tup [.int (x + 1), .int (y - 1)]]) rfl
    have s2 := same_refl 6 (.int ((x - y) % 3)) rfl
    have n1 := oNeR (d := .tup [D.tup [.int (x + 1), .int y], D.tup [.int x, .int (y + 1)], D.tup [.int (x - 1), .int (y + 1)], D.tup [.int (x - 1), .int y], D.tup [.int x, .int (y - 1)], D.tup [.int (x + 1), .int (y - 1)]]) rfl
    simp [mC_ap, mVar_ap, mBin_ap, mTst_ap, mNil_ap, mCons_ap, mTup_ap, mLst_ap, mAnd_ap, mOr_ap, mNot_ap, mBl_ap, mAndV_ap, mOrV_ap, mNotV_ap, mIf_ap, mChain_ap, mGet_ap, mGetV_ap, mUn_ap, mNext_ap, mSeq_ap, mSet_ap, mExpr_ap, mRet_ap, mAsg_ap, mCall_ap, mItems_ap, mRange1_ap, mRange2_ap, mEnum_ap, mZip_ap, mYes_ap, mRaise_ap, mExF_ap, mIsi_ap, mLM_ap, mSetSub_ap, mSub2_ap, mBinZB_ap, mPart_ap, mSlice_ap, mPar2_ap, mPar3_ap, mDisp1T_ap, mDisp1K_ap, mNeg_ap, mRetN_ap, mBreak_ap, mCont_ap, mAug_ap, mOpt_some, mOpt_none, mSub_ap, mBTst_ap, mIn_ap, Res.bind_ok, Res.bind_ex, Res.bind_bad, mFn, pickO, Mode.owned, mArgs, fillA, backA, oI, oIC, oIdx, oIx, oLen, oInt, oAbs, oNeg, oTuple, oList, stSub, cMod, cDiv, cPow, cMul, L2.atI, L2.ixN, gTupD, gsCons, gsNil, gSet, itemsOf, tyName, isT, isT1, szL, oEqI, oNeI, oEqB, oNeB, oEqN, around_ok hx hy, around_okL hx hy, law_around_ok, s1, s2, n1, is_cell_ok hx hy, hue_ok hx hy, oIsNot]
  subst he
  -- home
  refine seq_nx (P := fun e => ∃ (h : P2) (S : D), (-49 ≤ h.1 ∧ h.1 ≤ 49) ∧ (-49 ≤ h.2 ∧ h.2 ≤ 49) ∧ St S ∧ e = [a0, some S, some d, some (.tup [.int x, .int y]), some (.tup [.int h.1, .int h.2]), a5, a6, a7, a8, a9, a10, a11, a12, a13, a14, a15]) ?_ fun e he => ?_
  · obtain ⟨d1, S1, b1, c1, hS1, q1⟩ := draw_st hS 99 (by omega) (by omega)
    obtain ⟨d2, S2, b2, c2, hS2, q2⟩ := draw_st hS1 99 (by omega) (by omega)
    exact ⟨_, by simp [mC_ap, mVar_ap, mBin_ap, mTst_ap, mNil_ap, mCons_ap, mTup_ap, mLst_ap, mAnd_ap, mOr_ap, mNot_ap, mBl_ap, mAndV_ap, mOrV_ap, mNotV_ap, mIf_ap, mChain_ap, mGet_ap, mGetV_ap, mUn_ap, mNext_ap, mSeq_ap, mSet_ap, mExpr_ap, mRet_ap, mAsg_ap, mCall_ap, mItems_ap, mRange1_ap, mRange2_ap, mEnum_ap, mZip_ap, mYes_ap, mRaise_ap, mExF_ap, mIsi_ap, mLM_ap, mSetSub_ap, mSub2_ap, mBinZB_ap, mPart_ap, mSlice_ap, mPar2_ap, mPar3_ap, mDisp1T_ap, mDisp1K_ap, mNeg_ap, mRetN_ap, mBreak_ap, mCont_ap, mAug_ap, mOpt_some, mOpt_none, mSub_ap, mBTst_ap, mIn_ap, Res.bind_ok, Res.bind_ex, Res.bind_bad, mFn, pickO, Mode.owned, mArgs, fillA, backA, oI, oIC, oIdx, oIx, oLen, oInt, oAbs, oNeg, oTuple, oList, stSub, cMod, cDiv, cPow, cMul, L2.atI, L2.ixN, gTupD, gsCons, gsNil, gSet, itemsOf, tyName, isT, isT1, szL, oEqI, oNeI, oEqB, oNeB, oEqN, q1, q2], (d1 - 49, d2 - 49), S2, by simp only; omega, by simp only; omega, hS2, rfl⟩
  obtain ⟨h, S, hx2, hy2, hS, rfl⟩ := he
  -- the hues near it
  obtain ⟨p, hp⟩ : ∃ p, p = (h.1 - h.2 + 1) % 3 := ⟨_, rfl⟩
  obtain ⟨r, hr⟩ : ∃ r, r = (h.1 - h.2 + 2) % 3 := ⟨_, rfl⟩
  have e1 : (h.1 + 1 - h.2) % 3 = p := by omega
  have e2 : (h.1 - (h.2 + 1)) % 3 = r := by omega
  have e3 : (h.1 - 1 - (h.2 + 1)) % 3 = p := by omega
  have e4 : (h.1 - 1 - h.2) % 3 = r := by omega
  have e5 : (h.1 - (h.2 - 1)) % 3 = p := by omega
  have e6 : (h.1 + 1 - (h.2 - 1)) % 3 = r := by omega
  have npr : p ≠ r := by omega
  have nh1 : p ≠ (h.1 - h.2) % 3 := by omega
  have nh2 : r ≠ (h.1 - h.2) % 3 := by omega
  refine seq_nx (P := fun e => e = [a0, some S, some d, some (.tup [.int x, .int y]), some (.tup [.int h.1, .int h.2]), some (.lst [.int p, .int r, .int p, .int r, .int p, .int r]), a6, a7, a8, a9, a10, a11, a12, a13, a14, a15]) ⟨_, ?_, rfl⟩ fun e he => ?_
  · simp [mC_ap, mVar_ap, mBin_ap, mTst_ap, mNil_ap, mCons_ap, mTup_ap, mLst_ap, mAnd_ap, mOr_ap, mNot_ap, mBl_ap, mAndV_ap, mOrV_ap, mNotV_ap, mIf_ap, mChain_ap, mGet_ap, mGetV_ap, mUn_ap, mNext_ap, mSeq_ap, mSet_ap, mExpr_ap, mRet_ap, mAsg_ap, mCall_ap, mItems_ap, mRange1_ap, mRange2_ap, mEnum_ap, mZip_ap, mYes_ap, mRaise_ap, mExF_ap, mIsi_ap, mLM_ap, mSetSub_ap, mSub2_ap, mBinZB_ap, mPart_ap, mSlice_ap, mPar2_ap, mPar3_ap, mDisp1T_ap, mDisp1K_ap, mNeg_ap, mRetN_ap, mBreak_ap, mCont_ap, mAug_ap, mOpt_some, mOpt_none, mSub_ap, mBTst_ap, mIn_ap, Res.bind_ok, Res.bind_ex, Res.bind_bad, mFn, pickO, Mode.owned, mArgs, fillA, backA, oI, oIC, oIdx, oIx, oLen, oInt, oAbs, oNeg, oTuple, oList, stSub, cMod, cDiv, cPow, cMul, L2.atI, L2.ixN, gTupD, gsCons, gsNil, gSet, itemsOf, tyName, isT, isT1, szL, oEqI, oNeI, oEqB, oNeB, oEqN, mComp_ap, mCompL, wipeE, backE, law_around_ok, e1, e2, e3, e4, e5, e6]
  subst he
  have u1 : -99 ≤ h.1 ∧ h.1 ≤ 99 := by omega
  have u2 : -99 ≤ h.2 ∧ h.2 ≤ 99 := by omega
  refine seq_nx (P := fun e => e = [a0, some S, some d, some (.tup [.int x, .int y]), some (.tup [.int h.1, .int h.2]), some (.lst [.int p, .int r, .int p, .int r, .int p, .int r]), a6, a7, a8, a9, a10, a11, a12, a13, a14, a15]) ⟨_, ?_, rfl⟩ fun e he => ?_
  · have g1 := hue_ok (x := h.1 + 1) (y := h.2) (by omega) u2
    have g2 := hue_ok (x := h.1) (y := h.2 + 1) u1 (by omega)
    have g3 := hue_ok (x := h.1 - 1) (y := h.2 + 1) (by omega) (by omega)
    have g4 := hue_ok (x := h.1 - 1) (y := h.2) (by omega) u2
    have g5 := hue_ok (x := h.1) (y := h.2 - 1) u1 (by omega)
    have g6 := hue_ok (x := h.1 + 1) (y := h.2 - 1) (by omega) (by omega)
    have g7 := hue_ok u1 u2
    rw [e1] at g1; rw [e2] at g2; rw [e3] at g3; rw [e4] at g4; rw [e5] at g5; rw [e6] at g6
    have n1 := oNeR (d := .lst [.int p, .int r, .int p, .int r, .int p, .int r]) rfl
    have n2 := oNeR (d := .lst [.int p, .int p, .int p]) rfl
    have n3 := oNeR (d := .lst [.int r, .int r, .int r]) rfl
    have n4 : oInU false (.int ((h.1 - h.2) % 3)) (.lst [.int p, .int r, .int p, .int r, .int p, .int r]) = some (.bl false) := by
      have z : ((D.int ((h.1 - h.2) % 3)).lv 15 && [D.int p, .int r, .int p, .int r, .int p, .int r].all (D.lv 15)) = true := rfl
      simp only [oInU, oIn]
      rw [if_pos z]
      simp [eqvI, nh1, nh2]
    simp [mC_ap, mVar_ap, mBin_ap, mTst_ap, mNil_ap, mCons_ap, mTup_ap, mLst_ap, mAnd_ap, mOr_ap, mNot_ap, mBl_ap, mAndV_ap, mOrV_ap, mNotV_ap, mIf_ap, mChain_ap, mGet_ap, mGetV_ap, mUn_ap, mNext_ap, mSeq_ap, mSet_ap, mExpr_ap, mRet_ap, mAsg_ap, mCall_ap, mItems_ap, mRange1_ap, mRange2_ap, mEnum_ap, mZip_ap, mYes_ap, mRaise_ap, mExF_ap, mIsi_ap, mLM_ap, mSetSub_ap, mSub2_ap, mBinZB_ap, mPart_ap, mSlice_ap, mPar2_ap, mPar3_ap, mDisp1T_ap, mDisp1K_ap, mNeg_ap, mRetN_ap, mBreak_ap, mCont_ap, mAug_ap, mOpt_some, mOpt_none, mSub_ap, mBTst_ap, mIn_ap, Res.bind_ok, Res.bind_ex, Res.bind_bad, mFn, pickO, Mode.owned, mArgs, fillA, backA, oI, oIC, oIdx, oIx, oLen, oInt, oAbs, oNeg, oTuple, oList, stSub, cMod, cDiv, cPow, cMul, L2.atI, L2.ixN, gTupD, gsCons, gsNil, gSet, itemsOf, tyName, isT, isT1, szL, oEqI, oNeI, oEqB, oNeB, oEqN, mComp_ap, mCompL, wipeE, backE, around_ok u1 u2, g1, g2, g3, g4, g5, g6, g7, n1, n2, n3, n4, oSliceL, pick_even, pick_odd, sorted3, oRepL, rep3, npr]
  subst he
  -- the rings
  refine seq_nx (P := IS h 0) ⟨_, ?_, a0, some d, some (.tup [.int x, .int y]), some (.lst [.int p, .int r, .int p, .int r, .int p, .int r]), a8, a9, a10, a11, a12, a13, a14, a15, S, hS, ?_, rfl⟩ fun e he => ?_
  · simp [mC_ap, mVar_ap, mBin_ap, mTst_ap, mNil_ap, mCons_ap, mTup_ap, mLst_ap, mAnd_ap, mOr_ap, mNot_ap, mBl_ap, mAndV_ap, mOrV_ap, mNotV_ap, mIf_ap, mChain_ap, mGet_ap, mGetV_ap, mUn_ap, mNext_ap, mSeq_ap, mSet_ap, mExpr_ap, mRet_ap, mAsg_ap, mCall_ap, mItems_ap, mRange1_ap, mRange2_ap, mEnum_ap, mZip_ap, mYes_ap, mRaise_ap, mExF_ap, mIsi_ap, mLM_ap, mSetSub_ap, mSub2_ap, mBinZB_ap, mPart_ap, mSlice_ap, mPar2_ap, mPar3_ap, mDisp1T_ap, mDisp1K_ap, mNeg_ap, mRetN_ap, mBreak_ap, mCont_ap, mAug_ap, mOpt_some, mOpt_none, mSub_ap, mBTst_ap, mIn_ap, Res.bind_ok, Res.bind_ex, Res.bind_bad, mFn, pickO, Mode.owned, mArgs, fillA, backA, oI, oIC, oIdx, oIx, oLen, oInt, oAbs, oNeg, oTuple, oList, stSub, cMod, cDiv, cPow, cMul, L2.atI, L2.ixN, gTupD, gsCons, gsNil, gSet, itemsOf, tyName, isT, isT1, szL, oEqI, oNeI, oEqB, oNeB, oEqN, keyT, keysK, keyK, trS, tr, run0, seenD, c2D]
  · simp [trS, run0]
  refine seq_nx (P := IS h 6) ?_ fun e he => ?_
  · have := for_ix (h := gSet 8) (body := lb_law_11) (I := IS h) (rangeD 1 6) 0 e (fun n d2 e2 hd hi => ?_) he
    · obtain ⟨e2, h1, h2⟩ := this
      refine ⟨e2, ?_, h2⟩
      rw [mForS_ap, mRange2_ap]
      simp only [mC_ap, Res.bind_ok]
      exact h1
    · have hn : n < 6 := by
        have := (List.getElem?_eq_some_iff.mp hd).1
        simpa [rangeD] using this
      have hd2 : d2 = .int (1 + (n : Int)) := by
        unfold rangeD at hd
        rw [List.getElem?_map, List.getElem?_range hn] at hd
        simpa using hd.symm
      subst hd2
      rw [Nat.zero_add] at hi ⊢
      exact ⟨_, rfl, step_ok h hx2 hy2 n hn e2 hi⟩
  obtain ⟨a0, a2, a3, a5, a8, a9, a10, a11, a12, a13, a14, a15, S, hS, _, rfl⟩ := he
  -- home itself, what is bent
  have f1 : m_far [c2D h, c2D h] = .ok (.int 0) [] := by
    rw [c2D, far_ok u1 u2 u1 u2]
    have : dist h.1 h.2 h.1 h.2 = 0 := by unfold dist absI; simp
    rw [this]
  have f2 : m_do_meet [c2D h, c2D h] = .ok (.bl false) [] := by
    rw [c2D, do_meet_ok u1 u2 u1 u2]
    have : dist h.1 h.2 h.1 h.2 = 0 := by unfold dist absI; simp
    rw [this]; rfl
  refine seq_nx (P := IT) ⟨_, ?_, a0, a2, a3, some (c2D h), a5, some (seenD (trS h (run0 6).1)), some (.lst (((run0 6).2.map (tr h)).map c2D)), a8, a9, a10, a11, a12, a13, a14, a15, S, hS, rfl⟩ fun e he => ?_
  · simp only [mC_ap, mVar_ap, mBin_ap, mTst_ap, mNil_ap, mCons_ap, mTup_ap, mLst_ap, mAnd_ap, mOr_ap, mNot_ap, mBl_ap, mAndV_ap, mOrV_ap, mNotV_ap, mIf_ap, mChain_ap, mGet_ap, mGetV_ap, mUn_ap, mNext_ap, mSeq_ap, mSet_ap, mExpr_ap, mRet_ap, mAsg_ap, mCall_ap, mItems_ap, mRange1_ap, mRange2_ap, mEnum_ap, mZip_ap, mYes_ap, mRaise_ap, mExF_ap, mIsi_ap, mLM_ap, mSetSub_ap, mSub2_ap, mBinZB_ap, mPart_ap, mSlice_ap, mPar2_ap, mPar3_ap, mDisp1T_ap, mDisp1K_ap, mNeg_ap, mRetN_ap, mBreak_ap, mCont_ap, mAug_ap, mOpt_some, mOpt_none, mSub_ap, mBTst_ap, mIn_ap, Res.bind_ok, Res.bind_ex, Res.bind_bad, mFn, pickO, Mode.owned, mArgs, fillA, backA, oI, oIC, oIdx, oIx, oLen, oInt, oAbs, oNeg, oTuple, oList, stSub, cMod, cDiv, cPow, cMul, L2.atI, L2.ixN, gTupD, gsCons, gsNil, gSet, itemsOf, tyName, isT, isT1, szL, oEqI, oNeI, oEqB, oNeB, oEqN, List.getElem?_cons_succ, List.getElem?_cons_zero, Option.join_some, List.set_cons_succ, List.set_cons_zero, Option.map_some, f1, f2, oIsNot, decide_true, Bool.not_true, Bool.false_eq_true, if_false, if_true]
  have hI : mItems (mTup (mCons (mTup (mCons (mC (.int 100)) (mCons (mC (.int 0)) mNil))) (mCons (mTup (mCons (mC (.int 0)) (mCons (mBin oSub (mC (.int 0)) (mC (.int 100))) mNil))) (mCons (mTup (mCons (mC (.bl true)) (mCons (mC (.int 0)) mNil))) (mCons (mTup (mCons (mC (.int 0)) mNil)) (mCons (mTup (mCons (mC (.int 0)) (mCons (mC (.int 0)) (mCons (mC (.int 0)) mNil)))) (mCons (mTup (mCons (mC (.str "a")) (mCons (mC (.int 0)) mNil))) mNil))))))) e = .ok bents e := by
    simp [mC_ap, mVar_ap, mBin_ap, mTst_ap, mNil_ap, mCons_ap, mTup_ap, mLst_ap, mAnd_ap, mOr_ap, mNot_ap, mBl_ap, mAndV_ap, mOrV_ap, mNotV_ap, mIf_ap, mChain_ap, mGet_ap, mGetV_ap, mUn_ap, mNext_ap, mSeq_ap, mSet_ap, mExpr_ap, mRet_ap, mAsg_ap, mCall_ap, mItems_ap, mRange1_ap, mRange2_ap, mEnum_ap, mZip_ap, mYes_ap, mRaise_ap, mExF_ap, mIsi_ap, mLM_ap, mSetSub_ap, mSub2_ap, mBinZB_ap, mPart_ap, mSlice_ap, mPar2_ap, mPar3_ap, mDisp1T_ap, mDisp1K_ap, mNeg_ap, mRetN_ap, mBreak_ap, mCont_ap, mAug_ap, mOpt_some, mOpt_none, mSub_ap, mBTst_ap, mIn_ap, Res.bind_ok, Res.bind_ex, Res.bind_bad, mFn, pickO, Mode.owned, mArgs, fillA, backA, oI, oIC, oIdx, oIx, oLen, oInt, oAbs, oNeg, oTuple, oList, stSub, cMod, cDiv, cPow, cMul, L2.atI, L2.ixN, gTupD, gsCons, gsNil, gSet, itemsOf, tyName, isT, isT1, szL, oEqI, oNeI, oEqB, oNeB, oEqN, bents]
  have go : ∀ (ds : List D) (e : Env), (∀ d ∈ ds, d ∈ bents) → IT e → Nx (mFor (gSet 9) lb_law_24 ds) e IT := by
    intro ds
    induction ds with
    | nil => intro e _ hi; exact ⟨e, rfl, hi⟩
    | cons d ds ih =>
      intro e hd hi
      obtain ⟨e1, h1, e2, h2, h3⟩ := bent_ok d (hd d List.mem_cons_self) e hi
      obtain ⟨e3, h4, h5⟩ := ih e2 (fun d' h' => hd d' (List.mem_cons_of_mem _ h')) h3
      exact ⟨e3, by simp only [mFor, h1, h2, Res.bind_ok]; exact h4, h5⟩
  obtain ⟨e3, h4, h5⟩ := go bents e (fun _ h => h) he
  refine ⟨e3, ?_, h5⟩
  rw [mForS_ap, hI, Res.bind_ok]
  exact h4
theorem fins : resB (m_is_cell [.non]) = some false ∧ resB (m_is_cell [.int 5]) = some false ∧ resB (m_is_cell [.lst [.int 3, .int 4]]) = some true := by decide +kernel
theorem pure (ns : List Int) (h : ns.length ≤ 63) : m_law [.scr (ns.map VM.D.int)] = .ok (.bl true) [] := by
  obtain ⟨f1, f2, f3⟩ := fins
  have f1 := resB_ok f1
  have f2 := resB_ok f2
  have f3 := resB_ok f3
  have hi : IT [some (.scr (ns.map D.int)), some (st 0 0 ns 1), none, none, none, none, none, none, none, none, none, none, none, none, none, none] := ⟨_, _, _, _, _, _, _, _, _, _, _, _, _, _, _, _, ⟨0, 0, ns, 1, rfl⟩, rfl⟩
  obtain ⟨e, h1, a0, a2, a3, a4, a5, a6, a7, a8, a9, a10, a11, a12, a13, a14, a15, S, hS, rfl⟩ := for_nx (h := gSet 2) (body := lb_law_2) (I := IT) (fun d e hi => turn_ok e hi d) (rangeD 0 5) _ hi
  have h0 : mSet 1 (mLst (mCons (mC (.int 0)) (mCons (mC (.int 0)) (mCons (mUn oList (mGet (mVar 0))) (mCons (mC (.int 1)) mNil))))) [some (.scr (ns.map D.int)), none, none, none, none, none, none, none, none, none, none, none, none, none, none, none] = .ok .next [some (.scr (ns.map D.int)), some (st 0 0 ns 1), none, none, none, none, none, none, none, none, none, none, none, none, none, none] := by
    simp [mC_ap, mVar_ap, mBin_ap, mTst_ap, mNil_ap, mCons_ap, mTup_ap, mLst_ap, mAnd_ap, mOr_ap, mNot_ap, mBl_ap, mAndV_ap, mOrV_ap, mNotV_ap, mIf_ap, mChain_ap, mGet_ap, mGetV_ap, mUn_ap, mNext_ap, mSeq_ap, mSet_ap, mExpr_ap, mRet_ap, mAsg_ap, mCall_ap, mItems_ap, mRange1_ap, mRange2_ap, mEnum_ap, mZip_ap, mYes_ap, mRaise_ap, mExF_ap, mIsi_ap, mLM_ap, mSetSub_ap, mSub2_ap, mBinZB_ap, mPart_ap, mSlice_ap, mPar2_ap, mPar3_ap, mDisp1T_ap, mDisp1K_ap, mNeg_ap, mRetN_ap, mBreak_ap, mCont_ap, mAug_ap, mOpt_some, mOpt_none, mSub_ap, mBTst_ap, mIn_ap, Res.bind_ok, Res.bind_ex, Res.bind_bad, mFn, pickO, Mode.owned, mArgs, fillA, backA, oI, oIC, oIdx, oIx, oLen, oInt, oAbs, oNeg, oTuple, oList, stSub, cMod, cDiv, cPow, cMul, L2.atI, L2.ixN, gTupD, gsCons, gsNil, gSet, itemsOf, tyName, isT, isT1, szL, oEqI, oNeI, oEqB, oNeB, oEqN, st]
  have h2 : mForS (mRange1 (mC (.int 5))) (gSet 2) lb_law_2 [some (.scr (ns.map D.int)), some (st 0 0 ns 1), none, none, none, none, none, none, none, none, none, none, none, none, none, none] = .ok .next [a0, some S, a2, a3, a4, a5, a6, a7, a8, a9, a10, a11, a12, a13, a14, a15] := by
    rw [mForS_ap, mRange1_ap]
    simp only [mC_ap, Res.bind_ok]
    exact h1
  unfold m_law mb_law
  show (match (mSeq _ (mSeq _ _) : M Fl) [some (.scr (ns.map D.int)), none, none, none, none, none, none, none, none, none, none, none, none, none, none, none] with | .ok fl e => _ | .ex x e => _ | .bad => _) = _
  rw [mSeq_ap, h0]
  simp only [Res.bind_ok]
  rw [mSeq_ap, h2]
  simp [mC_ap, mVar_ap, mBin_ap, mTst_ap, mNil_ap, mCons_ap, mTup_ap, mLst_ap, mAnd_ap, mOr_ap, mNot_ap, mBl_ap, mAndV_ap, mOrV_ap, mNotV_ap, mIf_ap, mChain_ap, mGet_ap, mGetV_ap, mUn_ap, mNext_ap, mSeq_ap, mSet_ap, mExpr_ap, mRet_ap, mAsg_ap, mCall_ap, mItems_ap, mRange1_ap, mRange2_ap, mEnum_ap, mZip_ap, mYes_ap, mRaise_ap, mExF_ap, mIsi_ap, mLM_ap, mSetSub_ap, mSub2_ap, mBinZB_ap, mPart_ap, mSlice_ap, mPar2_ap, mPar3_ap, mDisp1T_ap, mDisp1K_ap, mNeg_ap, mRetN_ap, mBreak_ap, mCont_ap, mAug_ap, mOpt_some, mOpt_none, mSub_ap, mBTst_ap, mIn_ap, Res.bind_ok, Res.bind_ex, Res.bind_bad, mFn, pickO, Mode.owned, mArgs, fillA, backA, oI, oIC, oIdx, oIx, oLen, oInt, oAbs, oNeg, oTuple, oList, stSub, cMod, cDiv, cPow, cMul, L2.atI, L2.ixN, gTupD, gsCons, gsNil, gSet, itemsOf, tyName, isT, isT1, szL, oEqI, oNeI, oEqB, oNeB, oEqN, f1, f2, f3, oIs]
end K00
namespace K00
open PySem PySem.Spec PyProof.Rows L2 VM
abbrev R0 : PySem.W.OpenRow := PySem.W.OpenLaw.row PySem.Challenge.rw_cellsofsix_k00_whole_cells_and_their_hue
abbrev hk : PySem.W.Hook := hookV 5 fa fn ei es ex
def ob (s : PySem.W.SharedT) : AlV := obsVG 5 fa fn ei ex (HandSHeadRun.getT s)
theorem ob_eq (s : PySem.W.SharedT) : ob s = hk.obs s.abs := obsVG_eq (HandSHeadRun.getT_eq s)
def loose : List PySem.Str := ((["CellError", "BadLand", "is_number", "MOST_PLACE", "AROUND", "is_cell", "checked_cell", "plain_around", "around", "hue", "plain_far", "far", "do_meet", "_law_draw", "_law_same", "_law_pick", "_law_around", "_law_refused"]) : List PySem.Str)
theorem run (w : World) : HandSHeadRun.RunEq R0 (PySem.W.view R0.prog [22]) hk ob 4000 loose w := by
  intro os
  kernel_rfl
theorem ends (w : World) {K : PySem.W.Frag} {h : Heap} {mg : Str → Option Value} {f : Addr} (X : K.In h) (G : h.Ns mainGlobals mg) (hfa : mg ("law" : Str) = some (.ref f)) (c : SaysV fa fn ei es ex K) :
    ∃ fd : FuncData, (∀ (s : Shared) (v : Value), BindsTo s fd ⟨[v], []⟩ [("script", v)]) ∧ ∀ base : Heap, K.In base → base.Ns mainGlobals mg → FnOk P0 w K mg base (L2.CX P0 w) 8 f fd ["script"] (spM K [.fz] .fz m_law) := by
  obtain ⟨fd, F⟩ := c.d.def_ 14 (d := d_law) rfl
  have e := hfa.symm.trans (o_law (base := h) ⟨X, G, c⟩)
  cases e
  have b := FunD.bindsA (ps := ["script"]) F fun _ _ _ _ _ _ us hl => match us, hl with | [_], _ => rfl
  exact ⟨fd, fun s v => b s [v] rfl, fun base k g => fm_law (w := w) ⟨k, g, c⟩ F⟩
end K00
open PySem PySem.W PySem.Calls PyProof.Rows

theorem PySem.Challenge.cw_cellsofsix_k00_whole_cells_and_their_hue_holds : PySem.Challenge.rw_cellsofsix_k00_whole_cells_and_their_hue.Holds := by
  w_on; o_law
  refine HandSHeadRun.head_any (r := OpenLaw.row PySem.Challenge.rw_cellsofsix_k00_whole_cells_and_their_hue) (q := view (OpenLaw.row PySem.Challenge.rw_cellsofsix_k00_whole_cells_and_their_hue).prog [22]) (H := K00.hk) (ob := K00.ob) (M := 4000) (loose := K00.loose) (d := HandSHeadRun.topDef (OpenLaw.row PySem.Challenge.rw_cellsofsix_k00_whole_cells_and_their_hue).prog 22) (kwd := []) K00.ob_eq (by kernel_rfl) (fun s => by kernel_rfl) K00.run (by kernel_rfl) (by kernel_rfl) (by kernel_rfl) (by rfl) (by first | assumption | decide +kernel) (by decide +kernel) ⟨rfl, rfl, rfl, rfl, rfl, by decide +kernel⟩ ?hw ?hc
  case hw => w_witness2
  case hc =>
    refine VM.walk_ofV (l := PySem.Challenge.rw_cellsofsix_k00_whole_cells_and_their_hue) (n := 63) (k := 8) (x := "script") (CX := fun w => L2.CX K00.P0 w) rfl (by decide) (by kernel_rfl) ⟨rfl, by decide, by decide⟩ ?F (fun _ => VM.cx_no)
    intro w mg fa h Y G hmg0
    obtain ⟨K, KX, c⟩ := Y
    have hmg : mg ("law" : PySem.Str) = some (.ref fa) := by
      have e : (HandSHeadRun.topDef (OpenLaw.row PySem.Challenge.rw_cellsofsix_k00_whole_cells_and_their_hue).prog 22).name = ("law" : PySem.Str) := by kernel_rfl
      rw [← e]
      exact hmg0
    obtain ⟨fd, hb, hF⟩ := K00.ends w KX G hmg c
    exact ⟨K, fd, _, KX, hb, fun H a ns hl _ hS => VM.spM_law (K00.pure ns hl) hS, hF⟩

