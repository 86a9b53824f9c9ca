import PyProof.Rows.All
import Wide.All
import OpenK.AllK
import Wide.FinOn
import HandS.ForMost
import HandS.Exc
import HandS.TryOnly
import HandS.ExcOwn
import HandS.WordsExc
import HandS.Defaults
import HandS.Style
import HandS.MakeKwOnly
import HandS.IsInst
import HandS.Codes
import HandS.Text
import HandS.ExcInit
import HandS.ExcField
import HandS.ExcIs
import HandS.TryMany
import PyProof.ReprRoads
import HandS.Dict
import HandS.RaiseMore
import PyProof.StrBlock2
import KE.KExcIs
import HandS.Iter
import PyProof.ReprLen
import PyProof.Rows.StrClose
import PyProof.Rows.StrJoinRep
import PyProof.Rows.ReprOcc
import Lean
import HandS.Ends
import HandS.Head0
import HandS.Head1
import HandS.Head2
import HandS.HeadEnd
import HandS.HeadHook1
import HandS.HeadHook2
import PySem.Challenge.RW_allalong_k05_disks
set_option Elab.async false
set_option linter.all false
set_option maxRecDepth 100000
set_option maxHeartbeats 2000000
namespace Ty
open PySem PySem.Spec PyProof.Rows L2

/-! ### growth of the abstract heap -/
def Ex (H H' : Hp) : Prop := ∀ a o, H a = some o → H' a = some o
theorem Ex.refl (H : Hp) : Ex H H := fun _ _ h => h
theorem Ex.trans {H H1 H2 : Hp} (a : Ex H H1) (b : Ex H1 H2) : Ex H H2 := fun x o h => b x o (a x o h)
theorem Ex.new {H : Hp} {p : Addr} {o : HO} (h : H p = none) : Ex H (upd H p o) := fun a u e => by
  rw [upd_ne (ne_of_none e h)]
  exact e
theorem Ex.nil {H H' : Hp} {p : Addr} (e : Ex H H') (h : H' p = none) : H p = none := by
  cases q : H p with
  | none => rfl
  | some o => rw [e p o q] at h; cases h
theorem Ex.both {B H : Hp} {p : Addr} {o : HO} (e : Ex B H) (h : H p = none) : Ex (upd B p o) (upd H p o) := fun a u q => by
  by_cases ha : a = p
  · subst ha; rw [upd_same] at q ⊢; exact q
  · rw [upd_ne ha] at q ⊢; exact e a u q
theorem Ex.off {B H : Hp} {p : Addr} {o : HO} (e : Ex B H) (h : B p = none) : Ex B (upd H p o) := fun a u q => by
  rw [upd_ne (ne_of_none q h)]; exact e a u q
theorem Ex.seqL {K : PySem.W.Frag} {H H' : Hp} {a : Addr} {xs : List V} (e : Ex H H') (h : SqL K H a xs) : SqL K H' a xs := by
  rcases h with (h | ⟨o, h⟩) | h
  · exact .inl (.inl (e _ _ h))
  · exact .inl (.inr ⟨o, e _ _ h⟩)
  · exact .inr h
theorem Ex.seqT {K : PySem.W.Frag} {H H' : Hp} {a : Addr} {xs : List V} (e : Ex H H') (h : SqT K H a xs) : SqT K H' a xs := by
  rcases h with (h | ⟨o, h⟩) | h
  · exact .inl (.inl (e _ _ h))
  · exact .inl (.inr ⟨o, e _ _ h⟩)
  · exact .inr h

/-! ### what a value stands for -/
class Rep (α : Type) where
  rep : PySem.W.Frag → Hp → V → α → Prop
  mono : ∀ {K : PySem.W.Frag} {B B' : Hp} {v : V} {x : α}, Ex B B' → rep K B v x → rep K B' v x
structure TV where
  α : Type
  inst : Rep α
  x : α
abbrev tv {α : Type} [i : Rep α] (x : α) : TV := ⟨α, i, x⟩
def TV.rep (K : PySem.W.Frag) (B : Hp) (v : V) (t : TV) : Prop := t.inst.rep K B v t.x
theorem TV.mono {K : PySem.W.Frag} {B B' : Hp} {v : V} {t : TV} (e : Ex B B') (h : t.rep K B v) : t.rep K B' v := t.inst.mono e h
inductive Reps (K : PySem.W.Frag) (B : Hp) : List V → List TV → Prop
  | nil : Reps K B [] []
  | cons {v : V} {vs : List V} {x : TV} {xs : List TV} : x.rep K B v → Reps K B vs xs → Reps K B (v :: vs) (x :: xs)
theorem Reps.mono {K : PySem.W.Frag} {B B' : Hp} (e : Ex B B') : ∀ {vs : List V} {xs : List TV}, Reps K B vs xs → Reps K B' vs xs
  | _, _, .nil => .nil
  | _, _, .cons a b => .cons (TV.mono e a) (Reps.mono e b)
theorem Reps.length {K : PySem.W.Frag} {B : Hp} : ∀ {vs : List V} {xs : List TV}, Reps K B vs xs → vs.length = xs.length
  | _, _, .nil => rfl
  | _, _, .cons _ b => congrArg Nat.succ (Reps.length b)
theorem Reps.append {K : PySem.W.Frag} {B : Hp} : ∀ {vs ws : List V} {xs ys : List TV}, Reps K B vs xs → Reps K B ws ys → Reps K B (vs ++ ws) (xs ++ ys)
  | _, _, _, _, .nil, h => h
  | _, _, _, _, .cons a b, h => .cons a (Reps.append b h)
/-- what stands at an address that may change -/
structure MV where
  ok : PySem.W.Frag → Hp → HO → Prop
  mono : ∀ {K : PySem.W.Frag} {B B' : Hp} {o : HO}, Ex B B' → ok K B o → ok K B' o
abbrev Mu := List (Addr × MV)
abbrev TEnv := List (Option TV)
def keys (m : Mu) : List Addr := m.map (·.1)

structure Go (B H : Hp) (m : Mu) (B' H' : Hp) (m' : Mu) : Prop where
  ext : Ex B B'
  keep : ∀ a o, H a = some o → a ∉ keys m → H' a = some o
  dom : ∀ a, H a ≠ none → H' a ≠ none
  nw : ∀ a, B' a ≠ none → B a ≠ none ∨ H a = none ∨ a ∈ keys m
  ks : ∀ p, p ∈ keys m' → p ∈ keys m ∨ H p = none
theorem Go.refl {B H : Hp} {m : Mu} : Go B H m B H m := ⟨Ex.refl _, fun _ _ h _ => h, fun _ h => h, fun _ h => .inl h, fun _ h => .inl h⟩
theorem Go.trans {B H B1 H1 B2 H2 : Hp} {m m1 m2 : Mu} (a : Go B H m B1 H1 m1) (b : Go B1 H1 m1 B2 H2 m2) : Go B H m B2 H2 m2 where
  ext := a.ext.trans b.ext
  keep := fun x o h hx => b.keep x o (a.keep x o h hx) fun z => by
    rcases a.ks x z with q | q
    · exact hx q
    · rw [h] at q; cases q
  dom := fun x h => b.dom x (a.dom x h)
  nw := fun x h => by
    have back : H1 x = none → H x = none := fun z => by
      cases q : H x with
      | none => rfl
      | some o => exact absurd z (a.dom x (by rw [q]; exact fun w => nomatch w))
    rcases b.nw x h with q | q | q
    · exact a.nw x q
    · exact .inr (.inl (back q))
    · rcases a.ks x q with z | z
      · exact .inr (.inr z)
      · exact .inr (.inl z)
  ks := fun p h => by
    have back : H1 p = none → H p = none := fun z => by
      cases q : H p with
      | none => rfl
      | some o => exact absurd z (a.dom p (by rw [q]; exact fun w => nomatch w))
    rcases b.ks p h with q | q
    · exact a.ks p q
    · exact .inr (back q)
structure HpOk (K : PySem.W.Frag) (B H : Hp) (m : Mu) : Prop where
  ex : Ex B H
  nd : (keys m).Nodup
  at_ : ∀ (i : Nat) p c, m[i]? = some (p, c) → B p = none ∧ ∃ o, H p = some o ∧ c.ok K B o
structure EnvOk (K : PySem.W.Frag) (B : Hp) (σ : L2.St) (ρ : TEnv) : Prop where
  len : σ.length = ρ.length
  sl : ∀ (i : Nat) (t : TV), ρ[i]? = some (some t) → ∃ v, σ[i]? = some (some v) ∧ t.rep K B v
theorem EnvOk.mono {K : PySem.W.Frag} {B B' : Hp} {σ : L2.St} {ρ : TEnv} (h : EnvOk K B σ ρ) (e : Ex B B') : EnvOk K B' σ ρ :=
  ⟨h.len, fun i t q => let ⟨v, a, b⟩ := h.sl i t q; ⟨v, a, TV.mono e b⟩⟩
theorem EnvOk.set {K : PySem.W.Frag} {B : Hp} {σ : L2.St} {ρ : TEnv} {v : V} {t : TV} (h : EnvOk K B σ ρ) (i : Nat) (r : t.rep K B v) : EnvOk K B (σ.set i (some v)) (ρ.set i (some t)) := by
  refine ⟨by rw [List.length_set, List.length_set]; exact h.len, fun j u q => ?_⟩
  by_cases e : i = j
  · subst e
    by_cases hi : i < ρ.length
    · rw [List.getElem?_set_self hi] at q
      cases q
      exact ⟨v, List.getElem?_set_self (by rw [h.len]; exact hi), r⟩
    · rw [List.getElem?_eq_none (by rw [List.length_set]; omega)] at q
      cases q
  · rw [List.getElem?_set_ne e] at q ⊢
    exact h.sl j u q
structure Zs where
  K : PySem.W.Frag
  B0 : Hp
  H0 : Hp
  m0 : Mu
structure Sta (Z : Zs) (B H : Hp) (m : Mu) : Prop where
  hp : HpOk Z.K B H m
  go : Go Z.B0 Z.H0 Z.m0 B H m
section
variable {Z : Zs} {B H : Hp} {m : Mu} {p : Addr} {o : HO}
theorem Sta.ex (S : Sta Z B H m) : Ex B H := S.hp.ex
theorem Sta.noneB (S : Sta Z B H m) (h : H p = none) : B p = none := S.ex.nil h
theorem HpOk.mem {K : PySem.W.Frag} (S : HpOk K B H m) (h : p ∈ keys m) : B p = none ∧ H p ≠ none := by
  obtain ⟨q, hq, e⟩ := List.mem_map.mp h
  obtain ⟨i, hi⟩ := List.getElem?_of_mem hq
  obtain ⟨q1, c⟩ := q
  obtain ⟨a, o, b, _⟩ := S.at_ i q1 c hi
  have e' : q1 = p := e
  subst e'
  exact ⟨a, by rw [b]; exact fun z => nomatch z⟩
/-- a new thing that never changes -/
theorem Sta.newB (S : Sta Z B H m) (hp : H p = none) : Sta Z (upd B p o) (upd H p o) m := by
  have hb := S.noneB hp
  refine ⟨⟨S.ex.both hp, S.hp.nd, fun i q c h => ?_⟩, ⟨S.go.ext.trans (Ex.new hb), fun a u q hq => ?_, fun a q => ?_, fun a q => ?_, S.go.ks⟩⟩
  · obtain ⟨h1, u, h2, h3⟩ := S.hp.at_ i q c h
    have ne : q ≠ p := fun z => by subst z; rw [hp] at h2; cases h2
    exact ⟨by rw [upd_ne ne]; exact h1, u, by rw [upd_ne ne]; exact h2, c.mono (Ex.new hb) h3⟩
  · have := S.go.keep a u q hq
    rw [upd_ne (ne_of_none this hp)]; exact this
  · by_cases e : a = p
    · subst e; rw [upd_same]; exact fun z => nomatch z
    · rw [upd_ne e]; exact S.go.dom a q
  · by_cases e : a = p
    · subst e
      refine .inr (.inl ?_)
      cases q' : Z.H0 a with
      | none => rfl
      | some u => exact absurd hp (S.go.dom a (by rw [q']; exact fun z => nomatch z))
    · rw [upd_ne e] at q; exact S.go.nw a q
/-- a new thing that may change -/
theorem Sta.newM (S : Sta Z B H m) (hp : H p = none) {c : MV} (hc : c.ok Z.K B o) : Sta Z B (upd H p o) (m ++ [(p, c)]) := by
  have hb := S.noneB hp
  have nk : p ∉ keys m := fun z => (S.hp.mem z).2 hp
  have H0 : Z.H0 p = none := by
    cases q' : Z.H0 p with
    | none => rfl
    | some u => exact absurd hp (S.go.dom p (by rw [q']; exact fun z => nomatch z))
  refine ⟨⟨S.ex.off hb, ?_, fun i q d h => ?_⟩, ⟨S.go.ext, fun a u q hq => ?_, fun a q => ?_, S.go.nw, fun q h => ?_⟩⟩
  · unfold keys
    rw [List.map_append]
    refine List.nodup_append.mpr ⟨S.hp.nd, by simp, fun a ha b hb => ?_⟩
    simp at hb
    subst hb
    rintro rfl
    exact nk ha
  · by_cases hi : i < m.length
    · rw [List.getElem?_append_left hi] at h
      obtain ⟨h1, u, h2, h3⟩ := S.hp.at_ i q d h
      exact ⟨h1, u, by rw [upd_ne (ne_of_none h2 hp)]; exact h2, h3⟩
    · rw [List.getElem?_append_right (by omega)] at h
      have e : i - m.length = 0 := by
        by_cases z : i - m.length = 0
        · exact z
        · rw [List.getElem?_eq_none (by simp; omega)] at h; cases h
      rw [e] at h
      simp at h
      obtain ⟨rfl, rfl⟩ := h
      exact ⟨hb, o, upd_same, hc⟩
  · have := S.go.keep a u q hq
    rw [upd_ne (ne_of_none this hp)]; exact this
  · by_cases e : a = p
    · subst e; rw [upd_same]; exact fun z => nomatch z
    · rw [upd_ne e]; exact S.go.dom a q
  · unfold keys at h
    rw [List.map_append] at h
    rcases List.mem_append.mp h with h | h
    · exact S.go.ks q h
    · simp at h; subst h; exact .inr H0
theorem keys_set {m : Mu} {i : Nat} {p : Addr} {c d : MV} (h : m[i]? = some (p, c)) : keys (m.set i (p, d)) = keys m := by
  unfold keys
  rw [List.map_set]
  refine List.ext_getElem? fun j => ?_
  by_cases e : i = j
  · subst e
    have hi : i < m.length := (List.getElem?_eq_some_iff.mp h).1
    rw [List.getElem?_set_self (by simpa using hi), List.getElem?_map, h]
    rfl
  · rw [List.getElem?_set_ne e]
theorem keys_inj {m : Mu} (nd : (keys m).Nodup) {i j : Nat} {p : Addr} {c d : MV} (h : m[i]? = some (p, c)) (h' : m[j]? = some (p, d)) : i = j := by
  have e1 : (keys m)[i]? = some p := by unfold keys; rw [List.getElem?_map, h]; rfl
  have e2 : (keys m)[j]? = some p := by unfold keys; rw [List.getElem?_map, h']; rfl
  exact nd_ix nd e1 e2
/-- what may change changes -/
theorem Sta.write (S : Sta Z B H m) {i : Nat} {c d : MV} (h : m[i]? = some (p, c)) (hd : d.ok Z.K B o) : Sta Z B (upd H p o) (m.set i (p, d)) := by
  obtain ⟨hb, u, hu, _⟩ := S.hp.at_ i p c h
  have pk : p ∈ keys m := List.mem_map.mpr ⟨(p, c), List.mem_of_getElem? h, rfl⟩
  refine ⟨⟨S.ex.off hb, by rw [keys_set h]; exact S.hp.nd, fun j q e hj => ?_⟩, ⟨S.go.ext, fun a w q hq => ?_, fun a q => ?_, S.go.nw, fun q hq => ?_⟩⟩
  · by_cases z : i = j
    · subst z
      have hi : i < m.length := (List.getElem?_eq_some_iff.mp h).1
      rw [List.getElem?_set_self hi] at hj
      cases hj
      exact ⟨hb, o, upd_same, hd⟩
    · rw [List.getElem?_set_ne z] at hj
      obtain ⟨h1, w, h2, h3⟩ := S.hp.at_ j q e hj
      have ne : q ≠ p := fun y => by subst y; exact z (keys_inj S.hp.nd h hj)
      exact ⟨h1, w, by rw [upd_ne ne]; exact h2, h3⟩
  · have k := S.go.keep a w q hq
    have ne : a ≠ p := fun y => by
      subst y
      rcases S.go.ks a pk with z | z
      · exact hq z
      · rw [q] at z; cases z
    rw [upd_ne ne]; exact k
  · by_cases e : a = p
    · subst e; rw [upd_same]; exact fun z => nomatch z
    · rw [upd_ne e]; exact S.go.dom a q
  · rw [keys_set h] at hq; exact S.go.ks q hq
/-- what may change is kept for good: it becomes data -/
theorem Sta.freeze (S : Sta Z B H m) {i : Nat} {c : MV} (h : m[i]? = some (p, c)) (ho : H p = some o) : Sta Z (upd B p o) H (m.eraseIdx i) := by
  obtain ⟨hb, _⟩ := S.hp.at_ i p c h
  have pk : p ∈ keys m := List.mem_map.mpr ⟨(p, c), List.mem_of_getElem? h, rfl⟩
  have sub : ∀ q, q ∈ keys (m.eraseIdx i) → q ∈ keys m := fun q hq => by
    obtain ⟨x, hx, e⟩ := List.mem_map.mp hq
    exact List.mem_map.mpr ⟨x, List.mem_of_mem_eraseIdx hx, e⟩
  refine ⟨⟨fun a u q => ?_, ?_, fun j q e hj => ?_⟩, ⟨S.go.ext.trans (Ex.new hb), S.go.keep, S.go.dom, fun a q => ?_, fun q hq => S.go.ks q (sub q hq)⟩⟩
  · by_cases z : a = p
    · subst z; rw [upd_same] at q; cases q; exact ho
    · rw [upd_ne z] at q; exact S.ex a u q
  · unfold keys
    exact S.hp.nd.sublist (List.Sublist.map _ (List.eraseIdx_sublist _ _))
  · have hj' : ∃ k, k ≠ i ∧ m[k]? = some (q, e) := by
      by_cases z : j < i
      · rw [List.getElem?_eraseIdx_of_lt z] at hj
        exact ⟨j, by omega, hj⟩
      · rw [List.getElem?_eraseIdx_of_ge (by omega)] at hj
        exact ⟨j + 1, by omega, hj⟩
    obtain ⟨k, hk, hq⟩ := hj'
    obtain ⟨h1, w, h2, h3⟩ := S.hp.at_ k q e hq
    have ne : q ≠ p := fun y => by subst y; exact hk (keys_inj S.hp.nd hq h)
    exact ⟨by rw [upd_ne ne]; exact h1, w, h2, e.mono (Ex.new hb) h3⟩
  · by_cases e : a = p
    · subst e
      rcases S.go.ks a pk with z | z
      · exact .inr (.inr z)
      · exact .inr (.inl z)
    · rw [upd_ne e] at q; exact S.go.nw a q
end

/-! ### the judgements, over readings -/
def Wp (Z : Zs) (t : TE) (ρ : TEnv) (m : Mu) (P : TV → Mu → Prop) : Prop :=
  ∀ (σ : L2.St) (B H : Hp) (Q : VK), EnvOk Z.K B σ ρ → Sta Z B H m →
    (∀ v B' H' m' x, Ex B B' → Sta Z B' H' m' → TV.rep Z.K B' v x → P x m' → Q v H') → t σ H Q
def WpT (Z : Zs) (t : TT) (ρ : TEnv) (m : Mu) (P : Bool → Mu → Prop) : Prop :=
  ∀ (σ : L2.St) (B H : Hp) (Q : Bool → Hp → Prop), EnvOk Z.K B σ ρ → Sta Z B H m →
    (∀ b B' H' m', Ex B B' → Sta Z B' H' m' → P b m' → Q b H') → t σ H Q
def WpA (Z : Zs) (t : TA) (ρ : TEnv) (m : Mu) (P : List TV → Mu → Prop) : Prop :=
  ∀ (σ : L2.St) (B H : Hp) (Q : List V → Hp → Prop), EnvOk Z.K B σ ρ → Sta Z B H m →
    (∀ vs B' H' m' xs, Ex B B' → Sta Z B' H' m' → Reps Z.K B' vs xs → P xs m' → Q vs H') → t σ H Q
structure DE where
  nx : TEnv → Mu → Prop
  rt : TV → Mu → Prop
  bk : TEnv → Mu → Prop := fun _ _ => False
  ct : TEnv → Mu → Prop := fun _ _ => False
structure EOk (Z : Zs) (B : Hp) (D : DE) (E : Ends) : Prop where
  nx : ∀ σ' B' H' ρ' m', Ex B B' → EnvOk Z.K B' σ' ρ' → Sta Z B' H' m' → D.nx ρ' m' → E.nx σ' H'
  rt : ∀ v B' H' m' x, Ex B B' → Sta Z B' H' m' → TV.rep Z.K B' v x → D.rt x m' → E.rt v H'
  bk : ∀ σ' B' H' ρ' m', Ex B B' → EnvOk Z.K B' σ' ρ' → Sta Z B' H' m' → D.bk ρ' m' → E.bk σ' H'
  ct : ∀ σ' B' H' ρ' m', Ex B B' → EnvOk Z.K B' σ' ρ' → Sta Z B' H' m' → D.ct ρ' m' → E.ct σ' H'
theorem EOk.mono {Z : Zs} {B B1 : Hp} {D : DE} {E : Ends} (h : EOk Z B D E) (e : Ex B B1) : EOk Z B1 D E :=
  ⟨fun s B' H' r m' a => h.nx s B' H' r m' (e.trans a), fun v B' H' m' x a => h.rt v B' H' m' x (e.trans a), fun s B' H' r m' a => h.bk s B' H' r m' (e.trans a), fun s B' H' r m' a => h.ct s B' H' r m' (e.trans a)⟩
def WpS (Z : Zs) (t : TS) (ρ : TEnv) (m : Mu) (D : DE) : Prop :=
  ∀ (σ : L2.St) (B H : Hp) (E : Ends), EnvOk Z.K B σ ρ → Sta Z B H m → EOk Z B D E → t E σ H
theorem Wp.imp {Z : Zs} {t : TE} {ρ : TEnv} {m : Mu} {P P' : TV → Mu → Prop} (h : Wp Z t ρ m P) (k : ∀ x m', P x m' → P' x m') : Wp Z t ρ m P' :=
  fun σ B H Q e s q => h σ B H Q e s fun v B' H' m' x a b c d => q v B' H' m' x a b c (k _ _ d)
theorem WpT.imp {Z : Zs} {t : TT} {ρ : TEnv} {m : Mu} {P P' : Bool → Mu → Prop} (h : WpT Z t ρ m P) (k : ∀ x m', P x m' → P' x m') : WpT Z t ρ m P' :=
  fun σ B H Q e s q => h σ B H Q e s fun b B' H' m' a c d => q b B' H' m' a c (k _ _ d)
theorem WpS.imp {Z : Zs} {t : TS} {ρ : TEnv} {m : Mu} {D D' : DE} (h : WpS Z t ρ m D) (k1 : ∀ r m', D.nx r m' → D'.nx r m') (k2 : ∀ x m', D.rt x m' → D'.rt x m')
    (k3 : ∀ r m', D.bk r m' → D'.bk r m') (k4 : ∀ r m', D.ct r m' → D'.ct r m') : WpS Z t ρ m D' :=
  fun σ B H E e s q => h σ B H E e s ⟨fun a b c d f g i j l => q.nx a b c d f g i j (k1 _ _ l), fun a b c d f g i j l => q.rt a b c d f g i j (k2 _ _ l), fun a b c d f g i j l => q.bk a b c d f g i j (k3 _ _ l), fun a b c d f g i j l => q.ct a b c d f g i j (k4 _ _ l)⟩

/-! ### over the syntax -/
def teS (X : Cx) (e : Expr) : TE := fun σ H Q => ∀ (pins : List (Addr × Obj)) (s : Shared), Inv X pins σ H s → wpAny (model X.prog X.w) X.A (eval e X.env) (EP X pins σ Q) X.xe s
def ttS (X : Cx) (e : Expr) : TT := fun σ H Q => ∀ (pins : List (Addr × Obj)) (s : Shared), Inv X pins σ H s → wpAny (model X.prog X.w) X.A (isTrue e X.env (eval e X.env)) (TP X pins σ Q) X.xe s
def twS (X : Cx) (e : Expr) : TT := fun σ H Q => ∀ (whole : Sem Value) (pins : List (Addr × Obj)) (s : Shared), Inv X pins σ H s → wpAny (model X.prog X.w) X.A (isTrue e X.env whole) (TP X pins σ Q) X.xe s
def taS (X : Cx) (es : List Expr) : TA := fun σ H Q => ∀ (pos : Pos) (pins : List (Addr × Obj)) (s : Shared), Inv X pins σ H s → wpAny (model X.prog X.w) X.A (spliced (backTo pos (starEach es X.env))) (AP X pins σ Q) X.xe s
def tsS (X : Cx) (st : Stmt) : TS := fun D σ H => ∀ (pins : List (Addr × Obj)) (s : Shared), Inv X pins σ H s → wpAny (model X.prog X.w) X.A (exec st X.env) (SP X pins D) X.xe s
def tssS (X : Cx) (st : List Stmt) : TS := fun D σ H => ∀ (pins : List (Addr × Obj)) (s : Shared), Inv X pins σ H s → wpAny (model X.prog X.w) X.A (execs st X.env) (SP X pins D) X.xe s
section
variable {X : Cx}
theorem pe_sem {e : Expr} : PE X e (teS X e) := ⟨fun pins s _ _ _ I h => h pins s I⟩
theorem pt_sem {e : Expr} : PT X e (ttS X e) := ⟨fun pins s _ _ _ I h => h pins s I⟩
theorem pw_sem {e : Expr} : PW X e (twS X e) := ⟨fun w pins s _ _ _ I h => h w pins s I⟩
theorem pa_sem {es : List Expr} : PA X es (taS X es) := ⟨fun pos pins s _ _ _ I h => h pos pins s I⟩
theorem ps_sem {st : Stmt} : PS X st (tsS X st) := ⟨fun pins s _ _ _ I h => h pins s I⟩
theorem pss_sem {st : List Stmt} : PSs X st (tssS X st) := ⟨fun pins s _ _ _ I h => h pins s I⟩
/-- expressions, tests, arguments, statements: the judgements -/
abbrev We (X : Cx) (Z : Zs) (e : Expr) (ρ : TEnv) (m : Mu) (P : TV → Mu → Prop) : Prop := Wp Z (teS X e) ρ m P
abbrev Wt (X : Cx) (Z : Zs) (e : Expr) (ρ : TEnv) (m : Mu) (P : Bool → Mu → Prop) : Prop := WpT Z (ttS X e) ρ m P
abbrev Ww (X : Cx) (Z : Zs) (e : Expr) (ρ : TEnv) (m : Mu) (P : Bool → Mu → Prop) : Prop := WpT Z (twS X e) ρ m P
abbrev Wa (X : Cx) (Z : Zs) (es : List Expr) (ρ : TEnv) (m : Mu) (P : List TV → Mu → Prop) : Prop := WpA Z (taS X es) ρ m P
abbrev Ws (X : Cx) (Z : Zs) (st : Stmt) (ρ : TEnv) (m : Mu) (D : DE) : Prop := WpS Z (tsS X st) ρ m D
abbrev Wss (X : Cx) (Z : Zs) (st : List Stmt) (ρ : TEnv) (m : Mu) (D : DE) : Prop := WpS Z (tssS X st) ρ m D
theorem We.of {Z : Zs} {e : Expr} {ρ : TEnv} {m : Mu} {P : TV → Mu → Prop} {t : TE} (h : PE X e t) (w : Wp Z t ρ m P) : We X Z e ρ m P :=
  fun σ B H Q a b c pins s I => h.run pins s σ H Q I (w σ B H Q a b c)
theorem Wt.of {Z : Zs} {e : Expr} {ρ : TEnv} {m : Mu} {P : Bool → Mu → Prop} {t : TT} (h : PT X e t) (w : WpT Z t ρ m P) : Wt X Z e ρ m P :=
  fun σ B H Q a b c pins s I => h.run pins s σ H Q I (w σ B H Q a b c)
theorem Ww.of {Z : Zs} {e : Expr} {ρ : TEnv} {m : Mu} {P : Bool → Mu → Prop} {t : TT} (h : PW X e t) (w : WpT Z t ρ m P) : Ww X Z e ρ m P :=
  fun σ B H Q a b c wh pins s I => h.run wh pins s σ H Q I (w σ B H Q a b c)
theorem Wa.of {Z : Zs} {es : List Expr} {ρ : TEnv} {m : Mu} {P : List TV → Mu → Prop} {t : TA} (h : PA X es t) (w : WpA Z t ρ m P) : Wa X Z es ρ m P :=
  fun σ B H Q a b c pos pins s I => h.run pos pins s σ H Q I (w σ B H Q a b c)
theorem Ws.of {Z : Zs} {st : Stmt} {ρ : TEnv} {m : Mu} {D : DE} {t : TS} (h : PS X st t) (w : WpS Z t ρ m D) : Ws X Z st ρ m D :=
  fun σ B H E a b c pins s I => h.run pins s σ H E I (w σ B H E a b c)
theorem Wss.of {Z : Zs} {st : List Stmt} {ρ : TEnv} {m : Mu} {D : DE} {t : TS} (h : PSs X st t) (w : WpS Z t ρ m D) : Wss X Z st ρ m D :=
  fun σ B H E a b c pins s I => h.run pins s σ H E I (w σ B H E a b c)
end
end Ty

set_option Elab.async false
set_option linter.all false
set_option maxRecDepth 100000
set_option maxHeartbeats 2000000
namespace Ty
open PySem PySem.Spec PyProof.Rows L2

/-! ### values -/
instance : Rep Unit := ⟨fun _ _ v _ => v = .non, fun _ h => h⟩
instance : Rep Int := ⟨fun _ _ v i => v = .int i, fun _ h => h⟩
instance : Rep Bool := ⟨fun _ _ v b => v = .bl b, fun _ h => h⟩
instance : Rep Str := ⟨fun _ _ v x => v = .str x, fun _ h => h⟩
/-- an object, by its address -/
structure Ref where
  a : Addr
instance : Rep Ref := ⟨fun _ _ v r => v = .ref r.a, fun _ h => h⟩
/-- a value as it is -/
structure Raw where
  v : V
instance : Rep Raw := ⟨fun _ _ v r => v = r.v, fun _ h => h⟩
theorem Paired.monoR {α : Type} [Rep α] {K : PySem.W.Frag} {B B' : Hp} (e : Ex B B') : ∀ {vs : List V} {xs : List α}, Paired (Rep.rep K B) vs xs → Paired (Rep.rep K B') vs xs
  | _, _, .nil => .nil
  | _, _, .cons a b => .cons (Rep.mono e a) (Paired.monoR e b)
instance {α : Type} [Rep α] : Rep (List α) := ⟨fun K B v xs => ∃ a vs, v = .ref a ∧ B a = some (.lst vs) ∧ Paired (Rep.rep K B) vs xs, fun e ⟨a, vs, h1, h2, h3⟩ => ⟨a, vs, h1, e _ _ h2, Paired.monoR e h3⟩⟩
/-- a tuple of things of one kind -/
structure Tup (α : Type) where
  l : List α
instance {α : Type} [Rep α] : Rep (Tup α) := ⟨fun K B v xs => ∃ a vs, v = .ref a ∧ SqT K B a vs ∧ Paired (Rep.rep K B) vs xs.l, fun e ⟨a, vs, h1, h2, h3⟩ => ⟨a, vs, h1, e.seqT h2, Paired.monoR e h3⟩⟩
instance {α β : Type} [Rep α] [Rep β] : Rep (α × β) := ⟨fun K B v p => ∃ a x y, v = .ref a ∧ SqT K B a [x, y] ∧ Rep.rep K B x p.1 ∧ Rep.rep K B y p.2, fun e ⟨a, x, y, h1, h2, h3, h4⟩ => ⟨a, x, y, h1, e.seqT h2, Rep.mono e h3, Rep.mono e h4⟩⟩
structure P3 (α β γ : Type) where
  a : α
  b : β
  c : γ
instance {α β γ : Type} [Rep α] [Rep β] [Rep γ] : Rep (P3 α β γ) := ⟨fun K B v p => ∃ a x y z, v = .ref a ∧ SqT K B a [x, y, z] ∧ Rep.rep K B x p.a ∧ Rep.rep K B y p.b ∧ Rep.rep K B z p.c,
  fun e ⟨a, x, y, z, h1, h2, h3, h4, h5⟩ => ⟨a, x, y, z, h1, e.seqT h2, Rep.mono e h3, Rep.mono e h4, Rep.mono e h5⟩⟩
structure P4 (α β γ δ : Type) where
  a : α
  b : β
  c : γ
  d : δ
instance {α β γ δ : Type} [Rep α] [Rep β] [Rep γ] [Rep δ] : Rep (P4 α β γ δ) := ⟨fun K B v p => ∃ a x y z w, v = .ref a ∧ SqT K B a [x, y, z, w] ∧ Rep.rep K B x p.a ∧ Rep.rep K B y p.b ∧ Rep.rep K B z p.c ∧ Rep.rep K B w p.d,
  fun e ⟨a, x, y, z, w, h1, h2, h3, h4, h5, h6⟩ => ⟨a, x, y, z, w, h1, e.seqT h2, Rep.mono e h3, Rep.mono e h4, Rep.mono e h5, Rep.mono e h6⟩⟩
/-- None or a thing -/
instance {α : Type} [Rep α] : Rep (Option α) := ⟨fun K B v o => match o with
  | none => v = .non
  | some x => Rep.rep K B v x, fun {K B B' v o} e h => by
    cases o with
    | none => exact h
    | some x => exact Rep.mono e h⟩
/-- one of two kinds -/
instance {α β : Type} [Rep α] [Rep β] : Rep (α ⊕ β) := ⟨fun K B v o => match o with
  | .inl x => Rep.rep K B v x
  | .inr y => Rep.rep K B v y, fun {K B B' v o} e h => by
    cases o with
    | inl x => exact Rep.mono e h
    | inr x => exact Rep.mono e h⟩
theorem rep_ints {K : PySem.W.Frag} {B : Hp} : ∀ {vs : List V} {xs : List Int}, Paired (Rep.rep K B) vs xs → vs = xs.map V.int
  | _, _, .nil => rfl
  | _, _, .cons a b => by rw [List.map_cons, ← rep_ints b]; exact congrArg (· :: _) a
theorem rep_strs {K : PySem.W.Frag} {B : Hp} : ∀ {vs : List V} {xs : List Str}, Paired (Rep.rep K B) vs xs → vs = xs.map V.str
  | _, _, .nil => rfl
  | _, _, .cons a b => by rw [List.map_cons, ← rep_strs b]; exact congrArg (· :: _) a
theorem rep_bls {K : PySem.W.Frag} {B : Hp} : ∀ {vs : List V} {xs : List Bool}, Paired (Rep.rep K B) vs xs → vs = xs.map V.bl
  | _, _, .nil => rfl
  | _, _, .cons a b => by rw [List.map_cons, ← rep_bls b]; exact congrArg (· :: _) a
theorem of_ints {K : PySem.W.Frag} {B : Hp} : ∀ {xs : List Int}, Paired (Rep.rep K B) (xs.map V.int) xs
  | [] => .nil
  | _ :: _ => .cons rfl of_ints
theorem of_strs {K : PySem.W.Frag} {B : Hp} : ∀ {xs : List Str}, Paired (Rep.rep K B) (xs.map V.str) xs
  | [] => .nil
  | _ :: _ => .cons rfl of_strs
theorem of_bls {K : PySem.W.Frag} {B : Hp} : ∀ {xs : List Bool}, Paired (Rep.rep K B) (xs.map V.bl) xs
  | [] => .nil
  | _ :: _ => .cons rfl of_bls
theorem Paired.at' {α β : Type} {F : α → β → Prop} : ∀ {l₁ : List α} {l₂ : List β} {i : Nat} {y : β}, Paired F l₁ l₂ → l₂[i]? = some y → ∃ x, l₁[i]? = some x ∧ F x y
  | _, _, _, _, .nil, e => by simp at e
  | _, _, 0, _, .cons r _, e => by simp at e; subst e; exact ⟨_, rfl, r⟩
  | _, _, i + 1, y, .cons _ t, e => by
    obtain ⟨u, h1, h2⟩ := Paired.at' (i := i) t (by simpa using e)
    exact ⟨u, by simpa using h1, h2⟩
theorem Reps.at' {K : PySem.W.Frag} {B : Hp} : ∀ {vs : List V} {xs : List TV} {i : Nat} {y : TV}, Reps K B vs xs → xs[i]? = some y → ∃ x, vs[i]? = some x ∧ y.rep K B x
  | _, _, _, _, .nil, e => by simp at e
  | _, _, 0, _, .cons r _, e => by simp at e; subst e; exact ⟨_, rfl, r⟩
  | _, _, i + 1, y, .cons _ t, e => by
    obtain ⟨u, h1, h2⟩ := Reps.at' (i := i) t (by simpa using e)
    exact ⟨u, by simpa using h1, h2⟩
theorem Reps.set {K : PySem.W.Frag} {B : Hp} {v : V} {x : TV} (r : x.rep K B v) : ∀ {vs : List V} {xs : List TV} (i : Nat), Reps K B vs xs → Reps K B (vs.set i v) (xs.set i x)
  | _, _, _, .nil => .nil
  | _, _, 0, .cons _ t => .cons r t
  | _, _, i + 1, .cons q t => .cons q (Reps.set r i t)
theorem Reps.of_paired {α : Type} [Rep α] {K : PySem.W.Frag} {B : Hp} : ∀ {vs : List V} {xs : List α}, Paired (Rep.rep K B) vs xs → Reps K B vs (xs.map fun x => tv x)
  | _, _, .nil => .nil
  | _, _, .cons a b => .cons a (Reps.of_paired b)
theorem Reps.to_paired {α : Type} [Rep α] {K : PySem.W.Frag} {B : Hp} : ∀ {vs : List V} {xs : List α}, Reps K B vs (xs.map fun x => tv x) → Paired (Rep.rep K B) vs xs
  | [], [], _ => .nil
  | _ :: _, _ :: _, .cons a b => .cons a (Reps.to_paired b)
theorem Paired.len {α β : Type} {F : α → β → Prop} {l₁ : List α} {l₂ : List β} (h : Paired F l₁ l₂) : l₁.length = l₂.length := Paired.length h

/-! ### what may change: a list, an instance -/
def mL (ts : List TV) : MV := ⟨fun K B o => ∃ vs, o = .lst vs ∧ Reps K B vs ts, fun e ⟨vs, h1, h2⟩ => ⟨vs, h1, h2.mono e⟩⟩
inductive FRep (K : PySem.W.Frag) (B : Hp) : List (Str × V) → List (Str × TV) → Prop
  | nil : FRep K B [] []
  | cons {f : Str} {v : V} {t : TV} {vs : List (Str × V)} {ts : List (Str × TV)} : t.rep K B v → FRep K B vs ts → FRep K B ((f, v) :: vs) ((f, t) :: ts)
theorem FRep.mono {K : PySem.W.Frag} {B B' : Hp} (e : Ex B B') : ∀ {vs : List (Str × V)} {ts : List (Str × TV)}, FRep K B vs ts → FRep K B' vs ts
  | _, _, .nil => .nil
  | _, _, .cons a b => .cons (TV.mono e a) (FRep.mono e b)
theorem FRep.look {K : PySem.W.Frag} {B : Hp} {f : Str} {t : TV} : ∀ {vs : List (Str × V)} {ts : List (Str × TV)}, FRep K B vs ts → ts.lookup f = some t → ∃ v, vs.lookup f = some v ∧ t.rep K B v
  | _, _, .nil, h => by cases h
  | _, _, .cons (f := g) a b, h => by
    unfold List.lookup at h ⊢
    split at h
    · rename_i e
      cases h
      exact ⟨_, rfl, a⟩
    · rename_i e
      exact FRep.look b h
def putT (f : Str) (t : TV) : List (Str × TV) → List (Str × TV)
  | [] => [(f, t)]
  | (g, x) :: r => if g = f then (g, t) :: r else (g, x) :: putT f t r
theorem FRep.put {K : PySem.W.Frag} {B : Hp} {f : Str} {t : TV} {v : V} (r : t.rep K B v) : ∀ {vs : List (Str × V)} {ts : List (Str × TV)}, FRep K B vs ts → FRep K B (putF f v vs) (putT f t ts)
  | _, _, .nil => .cons r .nil
  | _, _, .cons (f := g) a b => by
    unfold putF putT
    by_cases e : g = f
    · rw [if_pos e, if_pos e]; exact .cons r b
    · rw [if_neg e, if_neg e]; exact .cons a (FRep.put r b)
theorem FRep.length {K : PySem.W.Frag} {B : Hp} : ∀ {vs : List (Str × V)} {ts : List (Str × TV)}, FRep K B vs ts → vs.length = ts.length
  | _, _, .nil => rfl
  | _, _, .cons _ b => congrArg Nat.succ (FRep.length b)
def mI (C : Addr) (fs : List (Str × TV)) : MV := ⟨fun K B o => ∃ dx vs, o = .ins C dx vs ∧ FRep K B vs fs, fun e ⟨dx, vs, h1, h2⟩ => ⟨dx, vs, h1, h2.mono e⟩⟩

/-! ### expressions -/
section
variable {X : Cx} {Z : Zs} {ρ : TEnv} {m : Mu} {P : TV → Mu → Prop}
theorem we_sub {e : Expr} {R : TV → Mu → Prop} (h : We X Z e ρ m R) {σ : L2.St} {B H : Hp} {Q : VK} (he : EnvOk Z.K B σ ρ) (hs : Sta Z B H m)
    (k : ∀ v B' H' m' x, Ex B B' → EnvOk Z.K B' σ ρ → Sta Z B' H' m' → TV.rep Z.K B' v x → R x m' → Q v H') : teS X e σ H Q :=
  h σ B H Q he hs fun v B' H' m' x a b c d => k v B' H' m' x a (he.mono a) b c d
theorem we_name (i : Nat) {x : Str} {pos : Pos} {t : TV} (h : P t m) (hρ : ρ[i]? = some (some t) := by rfl) (hN : X.N[i]? = some x := by rfl) (hv : Vis X.env.scope x := by first | exact Or.inl rfl | exact Or.inr (Or.inl rfl) | exact Or.inr (Or.inr rfl))
    (hd : (x == ("__debug__" : Str)) = false := by decide) (hcd : (x == ("__classdict__" : Str)) = false := by decide) : We X Z (.Name x pos) ρ m P :=
  .of (pv i hN hv hd hcd) fun σ B H Q he hs k => let ⟨v, a, b⟩ := he.sl i t hρ; ⟨v, a, k v B H m t (Ex.refl _) hs b h⟩
theorem we_int {i : Int} {j : Nat} {pos : Pos} (h : P (tv i) m) : We X Z (.Constant (.int i) j pos) ρ m P := .of pe_int fun σ B H Q he hs k => k _ B H m (tv i) (Ex.refl _) hs (show V.int i = .int i from rfl) h
theorem we_bool {i : Bool} {j : Nat} {pos : Pos} (h : P (tv i) m) : We X Z (.Constant (.bool i) j pos) ρ m P := .of pe_bl fun σ B H Q he hs k => k _ B H m (tv i) (Ex.refl _) hs (show V.bl i = .bl i from rfl) h
theorem we_str {i : Str} {j : Nat} {pos : Pos} (h : P (tv i) m) : We X Z (.Constant (.str i) j pos) ρ m P := .of pe_str fun σ B H Q he hs k => k _ B H m (tv i) (Ex.refl _) hs (show V.str i = .str i from rfl) h
theorem we_none {j : Nat} {pos : Pos} (h : P (tv ()) m) : We X Z (.Constant .none j pos) ρ m P := .of pe_non fun σ B H Q he hs k => k _ B H m (tv ()) (Ex.refl _) hs (show V.non = .non from rfl) h
/-- a module's constant -/
theorem we_globI {x : Str} {pos : Pos} {i : Int} (hm : ∃ t, X.mg x = some (.int i t)) (h : P (tv i) m) (hg : Gl X x := by rfl) (hd : (x == ("__debug__" : Str)) = false := by decide) : We X Z (.Name x pos) ρ m P := by
  obtain ⟨t, hm⟩ := hm
  exact .of (pe_glob hg hm (v := .int i) ⟨t, rfl⟩ hd) fun σ B H Q he hs k => k _ B H m (tv i) (Ex.refl _) hs (show V.int i = .int i from rfl) h
theorem we_globS {x : Str} {pos : Pos} {i : Str} (hm : ∃ t, X.mg x = some (.str i t)) (h : P (tv i) m) (hg : Gl X x := by rfl) (hd : (x == ("__debug__" : Str)) = false := by decide) : We X Z (.Name x pos) ρ m P := by
  obtain ⟨t, hm⟩ := hm
  exact .of (pe_glob hg hm (v := .str i) ⟨t, rfl⟩ hd) fun σ B H Q he hs k => k _ B H m (tv i) (Ex.refl _) hs (show V.str i = .str i from rfl) h
theorem we_globR {x : Str} {pos : Pos} {a : Addr} (hm : X.mg x = some (.ref a)) (h : P (tv (Ref.mk a)) m) (hg : Gl X x := by rfl) (hd : (x == ("__debug__" : Str)) = false := by decide) : We X Z (.Name x pos) ρ m P :=
  .of (pe_glob hg hm (v := .ref a) rfl hd) fun σ B H Q he hs k => k _ B H m (tv (Ref.mk a)) (Ex.refl _) hs (show V.ref a = .ref a from rfl) h
/-- a built-in type as a value -/
structure Typ where
  n : String
instance : Rep Typ := ⟨fun _ _ v t => v = .ty t.n, fun _ h => h⟩
theorem we_type {x : Str} {pos : Pos} {T : String} (hm : X.mg x = none) (h : P (tv (Typ.mk T)) m) (hv : bootBuiltins x = some (.type T) := by decide +kernel) (hg : Gl X x := by rfl) (hn : x ≠ "__name__" := by decide) (hd : (x == ("__debug__" : Str)) = false := by decide) : We X Z (.Name x pos) ρ m P :=
  .of (pe_bltn hg hm hv (v := .ty T) rfl hn hd) fun σ B H Q he hs k => k _ B H m (tv (Typ.mk T)) (Ex.refl _) hs (show V.ty T = .ty T from rfl) h

/-! operations on values -/
def rSem (X : Cx) (f : Value → Value → Sem Value) : R2 := fun v u H Q => ∀ (pins : List (Addr × Obj)) (s : Shared) (σ : L2.St) (vv uu : Value), Inv X pins σ H s → RelV v vv → RelV u uu → wpAny (model X.prog X.w) X.A (f vv uu) (EP X pins σ Q) X.xe s
theorem op_sem {f : Value → Value → Sem Value} : OpR X f (rSem X f) := fun pins s σ _ _ _ v u _ I rx ry h => h pins s σ v u I rx ry
def R2P (Z : Zs) (r : R2) (x y : TV) (m : Mu) (P : TV → Mu → Prop) : Prop :=
  ∀ (B H : Hp) (Q : VK) (v u : V), Sta Z B H m → x.rep Z.K B v → y.rep Z.K B u → (∀ v' B' H' m' z, Ex B B' → Sta Z B' H' m' → TV.rep Z.K B' v' z → P z m' → Q v' H') → r v u H Q
def OpP (X : Cx) (Z : Zs) (f : Value → Value → Sem Value) (x y : TV) (m : Mu) (P : TV → Mu → Prop) : Prop := R2P Z (rSem X f) x y m P
theorem OpP.of {f : Value → Value → Sem Value} {x y : TV} {r : R2} (ho : OpR X f r) (h : R2P Z r x y m P) : OpP X Z f x y m P :=
  fun B H Q v u hs hv hu k pins s σ vv uu I rv ru => ho pins s σ H v u vv uu Q I rv ru (h B H Q v u hs hv hu k)
theorem wp_op {ta tb : TE} {r : R2} (h : Wp Z ta ρ m fun x m1 => Wp Z tb ρ m1 fun y m2 => R2P Z r x y m2 P) : Wp Z (tOp r ta tb) ρ m P := fun σ B H Q he hs k =>
  h σ B H _ he hs fun v B1 H1 m1 x e1 s1 r1 w1 => w1 σ B1 H1 _ (he.mono e1) s1 fun u B2 H2 m2 y e2 s2 r2 p2 =>
    p2 B2 H2 Q v u s2 (TV.mono e2 r1) r2 fun v' B' H' m' z e3 s3 r3 p3 => k v' B' H' m' z ((e1.trans e2).trans e3) s3 r3 p3
theorem we_bin {a b : Expr} {op : Operator} {pos : Pos} (h : We X Z a ρ m fun x m1 => We X Z b ρ m1 fun y m2 => OpP X Z (binaryOp op) x y m2 P) : We X Z (.BinOp a op b pos) ρ m P := .of (pe_op op_sem pe_sem pe_sem) (wp_op h)
theorem we_cmp {a b : Expr} {op : CmpOp} {pos : Pos} (h : We X Z a ρ m fun x m1 => We X Z b ρ m1 fun y m2 => OpP X Z (compareOp op) x y m2 P) (hm : behindInMarks op b = false := by first | exact nomark _ | rfl) : We X Z (.Compare a [op] [b] pos) ρ m P := .of (pe_cmpR op_sem pe_sem pe_sem hm) (wp_op h)
/-- a value that is True or False -/
def BoolP (P : Bool → Mu → Prop) : TV → Mu → Prop := fun t m => ∃ b : Bool, t = tv b ∧ P b m
theorem BoolP.of {P : Bool → Mu → Prop} {b : Bool} (h : P b m) : BoolP P (tv b) m := ⟨b, rfl, h⟩
variable {PB : Bool → Mu → Prop}
theorem wpt_bool {t : TE} (h : Wp Z t ρ m (BoolP PB)) : WpT Z (fun σ H Q => t σ H fun x H1 => ∃ c, x = .bl c ∧ Q c H1) ρ m PB := fun σ B H Q he hs k =>
  h σ B H _ he hs fun v B' H' m' x a b c d => by
    obtain ⟨q, rfl, p⟩ := d
    exact ⟨q, c, k q B' H' m' a b p⟩
/-- a test whose value is True or False (any expression but and, or, not, a comparison) -/
theorem wt_val {e : Expr} (h : We X Z e ρ m (BoolP PB)) (he : ∀ whole, isTrue e X.env whole = (do let v ← whole; standAt e.pos; holding [v] (truthy v)) := by intro _; rfl) : Wt X Z e ρ m PB := .of (pt_val pe_sem he) (wpt_bool h)
theorem wt_cmp {a b : Expr} {op : CmpOp} {pos : Pos} (h : We X Z a ρ m fun x m1 => We X Z b ρ m1 fun y m2 => OpP X Z (compareOp op) x y m2 (BoolP PB)) (hm : behindInMarks op b = false := by first | exact nomark _ | rfl) : Wt X Z (.Compare a [op] [b] pos) ρ m PB :=
  .of (pt_cmpR op_sem pe_sem pe_sem hm) (wpt_bool (wp_op h))
theorem wp_chain {ta tb tc : TE} {r r' : R2} (h : Wp Z ta ρ m fun x m1 => Wp Z tb ρ m1 fun y m2 => R2P Z r x y m2 (BoolP fun d m3 => (d = true → Wp Z tc ρ m3 fun z m4 => R2P Z r' y z m4 P) ∧ (d = false → P (tv false) m3))) : Wp Z (tChain r r' ta tb tc) ρ m P := fun σ B H Q he hs k =>
  h σ B H _ he hs fun v B1 H1 m1 x e1 s1 r1 w1 => w1 σ B1 H1 _ (he.mono e1) s1 fun u B2 H2 m2 y e2 s2 r2 p2 => p2 B2 H2 _ v u s2 (TV.mono e2 r1) r2 fun v' B3 H3 m3 z e3 s3 r3 p3 => by
    obtain ⟨d, rfl, q1, q2⟩ := p3
    refine ⟨d, r3, ?_⟩
    have e13 : Ex B B3 := (e1.trans e2).trans e3
    cases d with
    | false => exact iteF (k (.bl false) B3 H3 m3 (tv false) e13 s3 (show V.bl false = .bl false from rfl) (q2 rfl))
    | true => exact iteT (q1 rfl σ B3 H3 _ (he.mono e13) s3 fun w B4 H4 m4 z4 e4 s4 r4 p4 => p4 B4 H4 Q u w s4 (TV.mono (e3.trans e4) r2) r4 fun v5 B5 H5 m5 z5 e5 s5 r5 p5 => k v5 B5 H5 m5 z5 ((e13.trans e4).trans e5) s5 r5 p5)
theorem we_chain {a b c : Expr} {op op' : CmpOp} {pos : Pos} (h : We X Z a ρ m fun x m1 => We X Z b ρ m1 fun y m2 => OpP X Z (compareOp op) x y m2 (BoolP fun d m3 =>
      (d = true → We X Z c ρ m3 fun z m4 => OpP X Z (compareOp op') y z m4 P) ∧ (d = false → P (tv false) m3)))
    (hm : lastMarks [op, op'] [b, c] = false := by with_unfolding_all rfl) : We X Z (.Compare a [op, op'] [b, c] pos) ρ m P := .of (pe_chain op_sem op_sem pe_sem pe_sem pe_sem hm) (wp_chain h)
theorem wt_chain {a b c : Expr} {op op' : CmpOp} {pos : Pos} (h : We X Z a ρ m fun x m1 => We X Z b ρ m1 fun y m2 => OpP X Z (compareOp op) x y m2 (BoolP fun d m3 =>
      (d = true → We X Z c ρ m3 fun z m4 => OpP X Z (compareOp op') y z m4 (BoolP PB)) ∧ (d = false → PB false m3)))
    (hm : lastMarks [op, op'] [b, c] = false := by with_unfolding_all rfl) : Wt X Z (.Compare a [op, op'] [b, c] pos) ρ m PB :=
  .of (pt_chain op_sem op_sem pe_sem pe_sem pe_sem hm) (wpt_bool (wp_chain (h.imp fun x m1 h => h.imp fun y m2 h => fun B H Q v u a b c d => h B H Q v u a b c fun v' B' H' m' z a b c ⟨q, e, f1, f2⟩ => d v' B' H' m' z a b c ⟨q, e, f1, fun g => ⟨false, rfl, f2 g⟩⟩)))
/-! and, or, not, if -/
theorem ww_and1 {a : Expr} {pos : Pos} (h : Wt X Z a ρ m PB) : Ww X Z (.BoolOp .And [a] pos) ρ m PB := .of (pw_and1 pt_sem) h
theorem ww_or1 {a : Expr} {pos : Pos} (h : Wt X Z a ρ m PB) : Ww X Z (.BoolOp .Or [a] pos) ρ m PB := .of (pw_or1 pt_sem) h
theorem ww_and {a b : Expr} {rest : List Expr} {pos : Pos} (h : Wt X Z a ρ m fun c m1 => (c = true → Ww X Z (.BoolOp .And (b :: rest) pos) ρ m1 PB) ∧ (c = false → PB false m1)) : Ww X Z (.BoolOp .And (a :: b :: rest) pos) ρ m PB :=
  .of (pw_and pt_sem pw_sem) fun σ B H Q he hs k => h σ B H _ he hs fun c B1 H1 m1 e1 s1 p1 => by
    cases c with
    | true => exact iteT (p1.1 rfl σ B1 H1 Q (he.mono e1) s1 fun d B2 H2 m2 e2 s2 p2 => k d B2 H2 m2 (e1.trans e2) s2 p2)
    | false => exact iteF (k false B1 H1 m1 e1 s1 (p1.2 rfl))
theorem ww_or {a b : Expr} {rest : List Expr} {pos : Pos} (h : Wt X Z a ρ m fun c m1 => (c = true → PB true m1) ∧ (c = false → Ww X Z (.BoolOp .Or (b :: rest) pos) ρ m1 PB)) : Ww X Z (.BoolOp .Or (a :: b :: rest) pos) ρ m PB :=
  .of (pw_or pt_sem pw_sem) fun σ B H Q he hs k => h σ B H _ he hs fun c B1 H1 m1 e1 s1 p1 => by
    cases c with
    | true => exact iteT (k true B1 H1 m1 e1 s1 (p1.1 rfl))
    | false => exact iteF (p1.2 rfl σ B1 H1 Q (he.mono e1) s1 fun d B2 H2 m2 e2 s2 p2 => k d B2 H2 m2 (e1.trans e2) s2 p2)
theorem wt_bool {e : Expr} (h : Ww X Z e ρ m PB) : Wt X Z e ρ m PB := .of (PW.pt pw_sem) h
theorem wt_not {a : Expr} {pos : Pos} (h : Wt X Z a ρ m fun c m1 => PB (!c) m1) : Wt X Z (.UnaryOp .Not a pos) ρ m PB :=
  .of (pt_not pt_sem) fun σ B H Q he hs k => h σ B H _ he hs fun c B1 H1 m1 e1 s1 p1 => k (!c) B1 H1 m1 e1 s1 p1
theorem we_one {a : Expr} {op : BoolOp} {pos : Pos} (h : We X Z a ρ m P) : We X Z (.BoolOp op [a] pos) ρ m P := .of (pe_one pe_sem) h
theorem we_and {a b : Expr} {rest : List Expr} {pos : Pos} (h : We X Z a ρ m (BoolP fun c m1 => (c = true → We X Z (.BoolOp .And (b :: rest) pos) ρ m1 P) ∧ (c = false → P (tv false) m1))) : We X Z (.BoolOp .And (a :: b :: rest) pos) ρ m P :=
  .of (pe_and pe_sem pe_sem) fun σ B H Q he hs k => h σ B H _ he hs fun v B1 H1 m1 x e1 s1 r1 p1 => by
    obtain ⟨c, rfl, q1, q2⟩ := p1
    refine ⟨c, r1, ?_⟩
    cases c with
    | true => exact iteT (q1 rfl σ B1 H1 Q (he.mono e1) s1 fun d B2 H2 m2 y e2 s2 r2 p2 => k d B2 H2 m2 y (e1.trans e2) s2 r2 p2)
    | false => exact iteF (k (.bl false) B1 H1 m1 (tv false) e1 s1 (show V.bl false = .bl false from rfl) (q2 rfl))
theorem we_or {a b : Expr} {rest : List Expr} {pos : Pos} (h : We X Z a ρ m (BoolP fun c m1 => (c = true → P (tv true) m1) ∧ (c = false → We X Z (.BoolOp .Or (b :: rest) pos) ρ m1 P))) : We X Z (.BoolOp .Or (a :: b :: rest) pos) ρ m P :=
  .of (pe_or pe_sem pe_sem) fun σ B H Q he hs k => h σ B H _ he hs fun v B1 H1 m1 x e1 s1 r1 p1 => by
    obtain ⟨c, rfl, q1, q2⟩ := p1
    refine ⟨c, r1, ?_⟩
    cases c with
    | true => exact iteT (k (.bl true) B1 H1 m1 (tv true) e1 s1 (show V.bl true = .bl true from rfl) (q1 rfl))
    | false => exact iteF (q2 rfl σ B1 H1 Q (he.mono e1) s1 fun d B2 H2 m2 y e2 s2 r2 p2 => k d B2 H2 m2 y (e1.trans e2) s2 r2 p2)
theorem we_not {a : Expr} {pos : Pos} (h : We X Z a ρ m (BoolP fun c m1 => P (tv (!c)) m1)) : We X Z (.UnaryOp .Not a pos) ρ m P :=
  .of (pe_not pe_sem) fun σ B H Q he hs k => h σ B H _ he hs fun v B1 H1 m1 x e1 s1 r1 p1 => by
    obtain ⟨c, rfl, q1⟩ := p1
    exact ⟨c, r1, k (.bl (!c)) B1 H1 m1 (tv (!c)) e1 s1 (show V.bl (!c) = .bl (!c) from rfl) q1⟩
theorem we_if {c a b : Expr} {pos : Pos} (h : Wt X Z c ρ m fun d m1 => (d = true → We X Z a ρ m1 P) ∧ (d = false → We X Z b ρ m1 P)) : We X Z (.IfExp c a b pos) ρ m P :=
  .of (pe_ifExp pt_sem pe_sem pe_sem) fun σ B H Q he hs k => h σ B H _ he hs fun d B1 H1 m1 e1 s1 p1 => by
    cases d with
    | true => exact iteT (p1.1 rfl σ B1 H1 Q (he.mono e1) s1 fun d B2 H2 m2 y e2 s2 r2 p2 => k d B2 H2 m2 y (e1.trans e2) s2 r2 p2)
    | false => exact iteF (p1.2 rfl σ B1 H1 Q (he.mono e1) s1 fun d B2 H2 m2 y e2 s2 r2 p2 => k d B2 H2 m2 y (e1.trans e2) s2 r2 p2)
def rUSem (X : Cx) (f : Value → Sem Value) : V → Hp → VK → Prop := fun v H Q => ∀ (pins : List (Addr × Obj)) (s : Shared) (σ : L2.St) (vv : Value), Inv X pins σ H s → RelV v vv → wpAny (model X.prog X.w) X.A (f vv) (EP X pins σ Q) X.xe s
theorem we_neg {a : Expr} {pos : Pos} (h : We X Z a ρ m fun x m1 => ∃ i : Int, x = tv i ∧ P (tv (-i)) m1) : We X Z (.UnaryOp .USub a pos) ρ m P :=
  .of (pe_un un_neg pe_sem) fun σ B H Q he hs k => h σ B H _ he hs fun v B1 H1 m1 x e1 s1 r1 p1 => by
    obtain ⟨i, rfl, q⟩ := p1
    exact ⟨i, r1, k _ B1 H1 m1 (tv (-i)) e1 s1 (show V.int (-i) = .int (-i) from rfl) q⟩

/-! ### arguments, displays -/
theorem wa_nil {PA : List TV → Mu → Prop} (h : PA [] m) : Wa X Z [] ρ m PA := .of pa_nil fun σ B H Q he hs k => k [] B H m [] (Ex.refl _) hs .nil h
theorem wa_cons {PA : List TV → Mu → Prop} {e : Expr} {es : List Expr} (h : We X Z e ρ m fun x m1 => Wa X Z es ρ m1 fun xs m2 => PA (x :: xs) m2) (hs : starEach (e :: es) X.env = (false, eval e X.env) :: starEach es X.env := by rfl) : Wa X Z (e :: es) ρ m PA :=
  .of (pa_cons pe_sem pa_sem hs) fun σ B H Q he hS k => h σ B H _ he hS fun v B1 H1 m1 x e1 s1 r1 w1 => w1 σ B1 H1 _ (he.mono e1) s1 fun vs B2 H2 m2 xs e2 s2 r2 p2 =>
    k (v :: vs) B2 H2 m2 (x :: xs) (e1.trans e2) s2 (.cons (TV.mono e2 r1) r2) p2
/-- a list of things of many kinds -/
inductive HL (ts : List TV) : Type where
  | mk : HL ts
instance {ts : List TV} : Rep (HL ts) := ⟨fun K B v _ => ∃ a vs, v = .ref a ∧ B a = some (.lst vs) ∧ Reps K B vs ts, fun e ⟨a, vs, h1, h2, h3⟩ => ⟨a, vs, h1, e _ _ h2, h3.mono e⟩⟩
abbrev hl (ts : List TV) : TV := tv (HL.mk : HL ts)
/-- what a display of items is: a thing that never changes, or one that may -/
inductive LstP (P : TV → Mu → Prop) (xs : List TV) (m : Mu) : Prop
  | data {α : Type} [Rep α] {ys : List α} : xs = (ys.map fun y => tv y) → P (tv ys) m → LstP P xs m
  | het : P (hl xs) m → LstP P xs m
  | own : (∀ p, P (tv (Ref.mk p)) (m ++ [(p, mL xs)])) → LstP P xs m
theorem we_list {es : List Expr} {pos : Pos} (h : Wa X Z es ρ m fun xs m1 => xs.length ≤ 1000000 ∧ LstP P xs m1) : We X Z (.List es pos) ρ m P :=
  .of (pe_lst pa_sem) fun σ B H Q he hs k => h σ B H _ he hs fun vs B1 H1 m1 xs e1 s1 r1 p1 => by
    refine ⟨by rw [r1.length]; exact Nat.le_trans p1.1 (by decide), fun p hp => ?_⟩
    rcases p1.2 with @⟨α, ri, ys, ex, q⟩ | q | q
    · subst ex
      have hb := s1.noneB hp
      have hr : TV.rep Z.K (upd B1 p (.lst vs)) (.ref p) (tv ys) := ⟨p, vs, rfl, upd_same, Paired.monoR (Ex.new hb) (Reps.to_paired r1)⟩
      exact k (.ref p) _ _ m1 (tv ys) (e1.trans (Ex.new hb)) (s1.newB hp) hr q
    · have hb := s1.noneB hp
      exact k (.ref p) _ _ m1 (hl xs) (e1.trans (Ex.new hb)) (s1.newB hp) (show TV.rep Z.K (upd B1 p (.lst vs)) (.ref p) (hl xs) from ⟨p, vs, rfl, upd_same, r1.mono (Ex.new hb)⟩) q
    · exact k (.ref p) B1 _ _ (tv (Ref.mk p)) e1 (s1.newM hp (c := mL xs) ⟨vs, rfl, r1⟩) (show V.ref p = .ref p from rfl) (q p)
/-- what a tuple of items is -/
def TupP (P : TV → Mu → Prop) (xs : List TV) (m : Mu) : Prop := ∃ t : TV, (∀ K B a vs, SqT K B a vs → Reps K B vs xs → t.rep K B (.ref a)) ∧ P t m
theorem we_tuple {es : List Expr} {x1 : Nat} {pos : Pos} (h : Wa X Z es ρ m fun xs m1 => xs.length ≤ 1000000 ∧ TupP P xs m1) : We X Z (.Tuple es x1 pos) ρ m P :=
  .of (pe_tup pa_sem) fun σ B H Q he hs k => h σ B H _ he hs fun vs B1 H1 m1 xs e1 s1 r1 p1 => by
    refine ⟨by rw [r1.length]; exact Nat.le_trans p1.1 (by decide), fun p hp => ?_⟩
    obtain ⟨t, ht, q⟩ := p1.2
    have hb := s1.noneB hp
    exact k (.ref p) _ _ m1 t (e1.trans (Ex.new hb)) (s1.newB hp) (ht Z.K _ p vs (.inl (.inl upd_same)) (r1.mono (Ex.new hb))) q
theorem tup2 {α β : Type} [Rep α] [Rep β] {x : α} {y : β} (h : P (tv (x, y)) m) : TupP P [tv x, tv y] m := ⟨tv (x, y), fun K B a vs hs r => by
  cases r with
  | cons r1 r => cases r with
    | cons r2 r => cases r; exact ⟨a, _, _, rfl, hs, r1, r2⟩, h⟩
theorem tup3 {α β γ : Type} [Rep α] [Rep β] [Rep γ] {x : α} {y : β} {z : γ} (h : P (tv (P3.mk x y z)) m) : TupP P [tv x, tv y, tv z] m := ⟨tv (P3.mk x y z), fun K B a vs hs r => by
  cases r with
  | cons r1 r => cases r with
    | cons r2 r => cases r with
      | cons r3 r => cases r; exact ⟨a, _, _, _, rfl, hs, r1, r2, r3⟩, h⟩
theorem tup4 {α β γ δ : Type} [Rep α] [Rep β] [Rep γ] [Rep δ] {x : α} {y : β} {z : γ} {w : δ} (h : P (tv (P4.mk x y z w)) m) : TupP P [tv x, tv y, tv z, tv w] m := ⟨tv (P4.mk x y z w), fun K B a vs hs r => by
  cases r with
  | cons r1 r => cases r with
    | cons r2 r => cases r with
      | cons r3 r => cases r with
        | cons r4 r => cases r; exact ⟨a, _, _, _, _, rfl, hs, r1, r2, r3, r4⟩, h⟩
theorem tupN {α : Type} [Rep α] {xs : List α} (h : P (tv (Tup.mk xs)) m) : TupP P (xs.map fun x => tv x) m := ⟨tv (Tup.mk xs), fun K B a vs hs r => ⟨a, vs, rfl, hs, Reps.to_paired r⟩, h⟩
end
end Ty

set_option Elab.async false
set_option linter.all false
set_option maxRecDepth 100000
set_option maxHeartbeats 2000000
namespace Ty
open PySem PySem.Spec PyProof.Rows L2

/-! ### statements -/
section
variable {X : Cx} {Z : Zs} {ρ : TEnv} {m : Mu} {D : DE}
theorem wss_nil (h : D.nx ρ m) : Wss X Z [] ρ m D := .of pss_nil fun σ B H E he hs k => k.nx σ B H ρ m (Ex.refl _) he hs h
theorem wss_cons {st : Stmt} {rest : List Stmt} (h : Ws X Z st ρ m { D with nx := fun ρ' m' => Wss X Z rest ρ' m' D }) : Wss X Z (st :: rest) ρ m D :=
  .of (pss_cons ps_sem pss_sem) fun σ B H E he hs k => h σ B H _ he hs ⟨fun s' B' H' r' m' a b c d => d s' B' H' E b c (k.mono a), k.rt, k.bk, k.ct⟩
theorem wss_one {st : Stmt} (h : Ws X Z st ρ m D) : Wss X Z [st] ρ m D := .of (pss_one ps_sem) h
theorem ws_pass {pos : Pos} (h : D.nx ρ m) : Ws X Z (.Pass pos) ρ m D := .of ps_pass fun σ B H E he hs k => k.nx σ B H ρ m (Ex.refl _) he hs h
theorem ws_break {pos : Pos} (h : D.bk ρ m) : Ws X Z (.Break pos) ρ m D := .of ps_break fun σ B H E he hs k => k.bk σ B H ρ m (Ex.refl _) he hs h
theorem ws_continue {pos : Pos} (h : D.ct ρ m) : Ws X Z (.Continue pos) ρ m D := .of ps_continue fun σ B H E he hs k => k.ct σ B H ρ m (Ex.refl _) he hs h
theorem ws_expr {e : Expr} {pos : Pos} (h : We X Z e ρ m fun _ m' => D.nx ρ m') (hs : swapsWith e none pos.line X.env = pure false := by rfl) : Ws X Z (.Expr e pos) ρ m D :=
  .of (ps_expr pe_sem hs) fun σ B H E he hS k => we_sub h he hS fun v B' H' m' x a b c d e => k.nx σ B' H' ρ m' a b c e
theorem ws_ret {e : Expr} {pos : Pos} (h : We X Z e ρ m D.rt) : Ws X Z (.Return (some e) pos) ρ m D :=
  .of (ps_ret pe_sem) fun σ B H E he hS k => h σ B H _ he hS fun v B' H' m' x a b c d => k.rt v B' H' m' x a b c d
theorem ws_retN {pos : Pos} (h : D.rt (tv ()) m) : Ws X Z (.Return none pos) ρ m D := .of ps_retN fun σ B H E he hS k => k.rt .non B H m (tv ()) (Ex.refl _) hS (show V.non = .non from rfl) h
theorem ws_if {c : Expr} {a b : List Stmt} {pos : Pos} (h : Wt X Z c ρ m fun d m1 => (d = true → Wss X Z a ρ m1 D) ∧ (d = false → Wss X Z b ρ m1 D)) : Ws X Z (.If c a b pos) ρ m D :=
  .of (ps_if pt_sem pss_sem pss_sem) fun σ B H E he hs k => h σ B H _ he hs fun d B1 H1 m1 e1 s1 p1 => by
    cases d with
    | true => exact iteT (p1.1 rfl σ B1 H1 E (he.mono e1) s1 (k.mono e1))
    | false => exact iteF (p1.2 rfl σ B1 H1 E (he.mono e1) s1 (k.mono e1))
/-- a cut: what holds behind a statement -/
theorem ws_cut {st : Stmt} (I : TEnv → Mu → Prop) (h : Ws X Z st ρ m { D with nx := I }) (k : ∀ ρ' m', I ρ' m' → D.nx ρ' m') : Ws X Z st ρ m D := h.imp k (fun _ _ h => h) (fun _ _ h => h) fun _ _ h => h
theorem wss_cut {st : List Stmt} (I : TEnv → Mu → Prop) (h : Wss X Z st ρ m { D with nx := I }) (k : ∀ ρ' m', I ρ' m' → D.nx ρ' m') : Wss X Z st ρ m D := h.imp k (fun _ _ h => h) (fun _ _ h => h) fun _ _ h => h
theorem ws_set (i : Nat) {x : Str} {e : Expr} {pos pos' : Pos} (h : We X Z e ρ m fun t m' => D.nx (ρ.set i (some t)) m') (hN : X.N.Nodup) (hi : X.N[i]? = some x := by rfl) (hx : Loc X.env.scope x := by first | exact Or.inl rfl | exact Or.inr rfl)
    (hs : swapsWith e (some (.Name x pos')) pos.line X.env = pure false := by rfl) (hf : X.fn x = true ∨ X.env.scope.names.lookup x = some .local := by first | exact .inl rfl | exact .inr rfl) : Ws X Z (.Assign [.Name x pos'] e pos) ρ m D :=
  .of (ps_set hN hi hx pe_sem hs hf) fun σ B H E he hS k => we_sub h he hS fun v B' H' m' t a b c d e => k.nx _ B' H' _ m' a (b.set i d) c e

/-! ### targets -/
def WpG (Z : Zs) (g : TG) (t : TV) (ρ : TEnv) (m : Mu) (R : TEnv → Mu → Prop) : Prop := ∀ (σ : L2.St) (B H : Hp) (v : V) (Q : L2.St → Hp → Prop), EnvOk Z.K B σ ρ → Sta Z B H m → t.rep Z.K B v →
  (∀ σ' B' H' ρ' m', Ex B B' → EnvOk Z.K B' σ' ρ' → Sta Z B' H' m' → R ρ' m' → Q σ' H') → g v σ H Q
def WpGs (Z : Zs) (g : TGs) (ts : List TV) (ρ : TEnv) (m : Mu) (R : TEnv → Mu → Prop) : Prop := ∀ (σ : L2.St) (B H : Hp) (vs : List V) (Q : L2.St → Hp → Prop), EnvOk Z.K B σ ρ → Sta Z B H m → Reps Z.K B vs ts →
  (∀ σ' B' H' ρ' m', Ex B B' → EnvOk Z.K B' σ' ρ' → Sta Z B' H' m' → R ρ' m' → Q σ' H') → g vs σ H Q
def tgS (X : Cx) (target : Expr) : TG := fun v σ H Q => ∀ (pins : List (Addr × Obj)) (s : Shared) (u : Value), Inv X pins σ H s → RelV v u → wpAny (model X.prog X.w) X.A (assign target X.env u) (fun _ s' => ∃ σ' H', Inv X pins σ' H' s' ∧ Q σ' H') X.xe s
def tgsS (X : Cx) (ts : List Expr) : TGs := fun vs σ H Q => ∀ (pins : List (Addr × Obj)) (s : Shared) (us : List Value), Inv X pins σ H s → Vals vs us → wpAny (model X.prog X.w) X.A (assignInOrder ((assignEach ts X.env).map (·.2)) us) (fun _ s' => ∃ σ' H', Inv X pins σ' H' s' ∧ Q σ' H') X.xe s
theorem pg_sem {t : Expr} : PG X t (tgS X t) := ⟨fun pins s _ _ _ u _ I r h => h pins s u I r⟩
theorem pgs_sem {ts : List Expr} : PGs X ts (tgsS X ts) := ⟨fun pins s _ _ _ us _ I r h => h pins s us I r⟩
abbrev Wg (X : Cx) (Z : Zs) (target : Expr) (t : TV) (ρ : TEnv) (m : Mu) (R : TEnv → Mu → Prop) : Prop := WpG Z (tgS X target) t ρ m R
abbrev Wgs (X : Cx) (Z : Zs) (ts : List Expr) (xs : List TV) (ρ : TEnv) (m : Mu) (R : TEnv → Mu → Prop) : Prop := WpGs Z (tgsS X ts) xs ρ m R
theorem Wg.of {e : Expr} {g : TG} {t : TV} {R : TEnv → Mu → Prop} (h : PG X e g) (w : WpG Z g t ρ m R) : Wg X Z e t ρ m R := fun σ B H v Q a b c d pins s u I r => h.run pins s σ H v u Q I r (w σ B H v Q a b c d)
theorem Wgs.of {e : List Expr} {g : TGs} {t : List TV} {R : TEnv → Mu → Prop} (h : PGs X e g) (w : WpGs Z g t ρ m R) : Wgs X Z e t ρ m R := fun σ B H v Q a b c d pins s u I r => h.run pins s σ H v u Q I r (w σ B H v Q a b c d)
variable {R : TEnv → Mu → Prop}
theorem wg_name (i : Nat) {x : Str} {pos : Pos} {t : TV} (h : R (ρ.set i (some t)) m) (hN : X.N.Nodup) (hi : X.N[i]? = some x := by rfl) (hx : Loc X.env.scope x := by first | exact Or.inl rfl | exact Or.inr rfl)
    (hf : X.fn x = true ∨ X.env.scope.names.lookup x = some .local := by first | exact .inl rfl | exact .inr rfl) : Wg X Z (.Name x pos) t ρ m R :=
  .of (pg_name hN hi hx hf) fun σ B H v Q he hs r k => k _ B H _ m (Ex.refl _) (he.set i r) hs h
theorem wgs_nil (h : R ρ m) : Wgs X Z [] [] ρ m R := .of pgs_nil fun σ B H vs Q he hs r k => by
  cases r
  exact ⟨rfl, k σ B H ρ m (Ex.refl _) he hs h⟩
theorem wgs_cons {e : Expr} {es : List Expr} {t : TV} {ts : List TV} (h : Wg X Z e t ρ m fun ρ' m' => Wgs X Z es ts ρ' m' R) (hs : (assignEach (e :: es) X.env).map (·.2) = assign e X.env :: (assignEach es X.env).map (·.2) := by rfl) : Wgs X Z (e :: es) (t :: ts) ρ m R :=
  .of (pgs_cons pg_sem pgs_sem hs) fun σ B H vs Q he hS r k => by
    cases r with
    | cons r1 r2 => exact ⟨_, _, rfl, h σ B H _ _ he hS r1 fun s' B' H' p' m' a b c d => d s' B' H' _ Q b c (r2.mono a) fun s2 B2 H2 p2 m2 a2 => k s2 B2 H2 p2 m2 (a.trans a2)⟩
/-- a thing that is a tuple of such items -/
def TupU (t : TV) (ts : List TV) : Prop := ∀ K B v, t.rep K B v → ∃ a vs, v = .ref a ∧ SqT K B a vs ∧ Reps K B vs ts
theorem wg_tup {es : List Expr} {n : Nat} {pos : Pos} {t : TV} {ts : List TV} (ht : TupU t ts) (h : Wgs X Z es ts ρ m R) (hc : X.calm = true) (hn : (assignEach es X.env).length = ts.length := by rfl) (hst : (assignEach es X.env).findIdx? (·.1) = none := by rfl) (hK : X.K = Z.K := by rfl) : Wg X Z (.Tuple es n pos) t ρ m R :=
  .of (pg_tup (n := ts.length) hc pgs_sem hn hst) fun σ B H v Q he hs r k => by
    rw [hK]
    obtain ⟨a, vs, e, q, rr⟩ := ht _ _ _ r
    exact ⟨a, vs, e, hs.ex.seqT q, rr.length, h σ B H vs Q he hs rr k⟩
theorem tupU2 {α β : Type} [Rep α] [Rep β] {x : α} {y : β} : TupU (tv (x, y)) [tv x, tv y] := fun K B v ⟨a, u, w, h1, h2, h3, h4⟩ => ⟨a, _, h1, h2, .cons h3 (.cons h4 .nil)⟩
theorem tupU3 {α β γ : Type} [Rep α] [Rep β] [Rep γ] {x : α} {y : β} {z : γ} : TupU (tv (P3.mk x y z)) [tv x, tv y, tv z] := fun K B v ⟨a, u, w, w2, h1, h2, h3, h4, h5⟩ => ⟨a, _, h1, h2, .cons h3 (.cons h4 (.cons h5 .nil))⟩
theorem tupU4 {α β γ δ : Type} [Rep α] [Rep β] [Rep γ] [Rep δ] {x : α} {y : β} {z : γ} {w : δ} : TupU (tv (P4.mk x y z w)) [tv x, tv y, tv z, tv w] := fun K B v ⟨a, u, w, w2, w3, h1, h2, h3, h4, h5, h6⟩ => ⟨a, _, h1, h2, .cons h3 (.cons h4 (.cons h5 (.cons h6 .nil)))⟩
theorem ws_asg {tg e : Expr} {pos : Pos} (h : We X Z e ρ m fun t m' => Wg X Z tg t ρ m' D.nx) (hs : swapsWithSole [tg] e pos.line X.env = pure false := by rfl) (hw : swappedStores [tg] e X.env = pure none := by rfl)
    (h1 : (assignEach [tg] X.env).map (·.2) = [assign tg X.env] := by rfl) : Ws X Z (.Assign [tg] e pos) ρ m D :=
  .of (ps_asg pe_sem pg_sem hs hw h1) fun σ B H E he hS k => we_sub h he hS fun v B' H' m' t a b c d e => e σ B' H' v _ b c d fun s2 B2 H2 p2 m2 a2 b2 c2 d2 => k.nx s2 B2 H2 p2 m2 (a.trans a2) b2 c2 d2
/-- a, b = x, y -/
theorem ws_par (i j : Nat) {x y : Str} {a b : Expr} {px py pt pos pt2 : Pos} {kt k2 : Nat} (h : Wa X Z [a, b] ρ m fun ts m' => ∃ t u, ts = [t, u] ∧ D.nx ((ρ.set i (some t)).set j (some u)) m') (hc : X.calm = true) (hN : X.N.Nodup) (hi : X.N[i]? = some x := by rfl) (hj : X.N[j]? = some y := by rfl) (hij : i ≠ j := by decide)
    (hx : X.env.scope.names.lookup x = some .local := by rfl) (hy : X.env.scope.names.lookup y = some .local := by rfl)
    (hw : swappedStores [.Tuple [.Name x px, .Name y py] kt pt] (.Tuple [a, b] k2 pt2) X.env = pure (some [x, y]) := by rfl)
    (hs : swapsWithSole [.Tuple [.Name x px, .Name y py] kt pt] (.Tuple [a, b] k2 pt2) pos.line X.env = pure false := by rfl) : Ws X Z (.Assign [.Tuple [.Name x px, .Name y py] kt pt] (.Tuple [a, b] k2 pt2) pos) ρ m D :=
  .of (ps_par hc hN hi hj hij hx hy pa_sem hw hs) fun σ B H E he hS k => h σ B H _ he hS fun vs B' H' m' ts a b c d => by
    obtain ⟨t, u, rfl, q⟩ := d
    cases c with
    | cons r1 c => cases c with
      | cons r2 c =>
        cases c
        exact ⟨_, _, rfl, k.nx _ B' H' _ m' a (((he.mono a).set i r1).set j r2) b q⟩
theorem ws_par3 (i j l : Nat) {x y z : Str} {a b c : Expr} {px py pz pt pos pt2 : Pos} {kt k2 : Nat} (h : Wa X Z [a, b, c] ρ m fun ts m' => ∃ t u w, ts = [t, u, w] ∧ D.nx (((ρ.set i (some t)).set j (some u)).set l (some w)) m') (hc : X.calm = true) (hN : X.N.Nodup)
    (hi : X.N[i]? = some x := by rfl) (hj : X.N[j]? = some y := by rfl) (hl : X.N[l]? = some z := by rfl) (hij : i ≠ j := by decide) (hil : i ≠ l := by decide) (hjl : j ≠ l := by decide)
    (hx : X.env.scope.names.lookup x = some .local := by rfl) (hy : X.env.scope.names.lookup y = some .local := by rfl) (hz : X.env.scope.names.lookup z = some .local := by rfl)
    (hw : swappedStores [.Tuple [.Name x px, .Name y py, .Name z pz] kt pt] (.Tuple [a, b, c] k2 pt2) X.env = pure (some [x, y, z]) := by rfl)
    (hs : swapsWithSole [.Tuple [.Name x px, .Name y py, .Name z pz] kt pt] (.Tuple [a, b, c] k2 pt2) pos.line X.env = pure false := by rfl) : Ws X Z (.Assign [.Tuple [.Name x px, .Name y py, .Name z pz] kt pt] (.Tuple [a, b, c] k2 pt2) pos) ρ m D :=
  .of (ps_par3 hc hN hi hj hl hij hil hjl hx hy hz pa_sem hw hs) fun σ B H E he hS k => h σ B H _ he hS fun vs B' H' m' ts a b c d => by
    obtain ⟨t, u, w, rfl, q⟩ := d
    cases c with
    | cons r1 c => cases c with
      | cons r2 c => cases c with
        | cons r3 c =>
          cases c
          exact ⟨_, _, _, rfl, k.nx _ B' H' _ m' a ((((he.mono a).set i r1).set j r2).set l r3) b q⟩

/-! ### subscripts -/
def ixSem (X : Cx) : R2 := fun v u H Q => ∀ (value slice : Expr) (pins : List (Addr × Obj)) (s : Shared) (σ : L2.St) (vv uu : Value), Inv X pins σ H s → RelV v vv → RelV u uu →
  subscripted slice false vv uu = operate [vv, uu] (getItem vv uu) → wpAny (model X.prog X.w) X.A (subscriptTail value slice vv uu) (EP X pins σ Q) X.xe s
theorem ix_sem : IxR X (ixSem X) := fun value slice pins s σ H x y v u Q I rx ry h e => h value slice pins s σ v u I rx ry e
def IxP (X : Cx) (Z : Zs) (x y : TV) (m : Mu) (P : TV → Mu → Prop) : Prop := R2P Z (ixSem X) x y m P
variable {P : TV → Mu → Prop}
theorem IxP.of {x y : TV} {r : R2} (ho : IxR X r) (h : R2P Z r x y m P) : IxP X Z x y m P :=
  fun B H Q v u hs hv hu k value slice pins s σ vv uu I rv ru e => ho value slice pins s σ H v u vv uu Q I rv ru (h B H Q v u hs hv hu k) e
theorem we_ix {a b : Expr} {pos : Pos} (h : We X Z a ρ m fun x m1 => We X Z b ρ m1 fun y m2 => IxP X Z x y m2 P) (hs : PlainIx b := by exact fun _ _ => rfl) : We X Z (.Subscript a b pos) ρ m P := .of (pe_ix ix_sem pe_sem pe_sem hs) (wp_op h)
/-- slices: two ends, each written or not -/
def WpO (Z : Zs) (t : TO) (ρ : TEnv) (m : Mu) (R : Option Int → Mu → Prop) : Prop := ∀ (σ : L2.St) (B H : Hp) (Q : Option Int → Hp → Prop), EnvOk Z.K B σ ρ → Sta Z B H m → (∀ o B' H' m', Ex B B' → Sta Z B' H' m' → R o m' → Q o H') → t σ H Q
def toS (X : Cx) (e : Option Expr) : TO := match e with
  | none => tNoPart
  | some e => tPart (teS X e)
theorem po_sem {e : Option Expr} : PO X e (toS X e) := by
  cases e with
  | none => exact po_none
  | some e => exact po_some pe_sem
abbrev Wo (X : Cx) (Z : Zs) (e : Option Expr) (ρ : TEnv) (m : Mu) (R : Option Int → Mu → Prop) : Prop := WpO Z (toS X e) ρ m R
variable {RO : Option Int → Mu → Prop}
theorem wo_none (h : RO none m) : Wo X Z none ρ m RO := fun σ B H Q he hs k => k none B H m (Ex.refl _) hs h
theorem wo_some {e : Expr} (h : We X Z e ρ m fun t m' => ∃ i : Int, t = tv i ∧ RO (some i) m') : Wo X Z (some e) ρ m RO := fun σ B H Q he hs k => we_sub h he hs fun v B' H' m' x a b c d e => by
  obtain ⟨i, rfl, q⟩ := e
  exact ⟨i, d, k (some i) B' H' m' a c q⟩
def slSem (X : Cx) : V → Option Int → Option Int → Hp → VK → Prop := fun x lo hi H Q => ∀ (pins : List (Addr × Obj)) (s : Shared) (σ : L2.St) (v vl vu : Value) (sl : Addr), Inv X pins σ H s → RelV x v → s.heap.IsSliceOf sl vl vu .none → IsPart vl lo → IsPart vu hi →
    ∃ T id, typeLookup (.type T) "__getitem__" = pure (some (.builtin id)) ∧ s.TypeIs v T ∧ wpAny (model X.prog X.w) X.A (getItem v (.ref sl)) (EP X pins σ Q) X.xe s
theorem sl_sem : SlR X (slSem X) := fun pins s σ H x v vl vu lo hi sl Q I rx a b c h => h pins s σ v vl vu sl I rx a b c
def SlP (X : Cx) (Z : Zs) (x : TV) (lo hi : Option Int) (m : Mu) (P : TV → Mu → Prop) : Prop := ∀ (B H : Hp) (Q : VK) (v : V), Sta Z B H m → x.rep Z.K B v → (∀ v' B' H' m' z, Ex B B' → Sta Z B' H' m' → TV.rep Z.K B' v' z → P z m' → Q v' H') → slSem X v lo hi H Q
theorem SlP.of {x : TV} {lo hi : Option Int} {r : V → Option Int → Option Int → Hp → VK → Prop} (ho : SlR X r)
    (h : ∀ (B H : Hp) (Q : VK) (v : V), Sta Z B H m → x.rep Z.K B v → (∀ v' B' H' m' z, Ex B B' → Sta Z B' H' m' → TV.rep Z.K B' v' z → P z m' → Q v' H') → r v lo hi H Q) : SlP X Z x lo hi m P :=
  fun B H Q v hs hv k pins s σ vv vl vu sl I rv a b c => ho pins s σ H v vv vl vu lo hi sl Q I rv a b c (h B H Q v hs hv k)
theorem we_slice {e : Expr} {lo hi : Option Expr} {pos p2 : Pos} (h : We X Z e ρ m fun x m1 => Wo X Z lo ρ m1 fun l m2 => Wo X Z hi ρ m2 fun u m3 => SlP X Z x l u m3 P) : We X Z (.Subscript e (.Slice lo hi none p2) pos) ρ m P :=
  .of (pe_slice sl_sem pe_sem po_sem po_sem) fun σ B H Q he hs k => we_sub h he hs fun v B1 H1 m1 x a1 b1 c1 d1 e1 => e1 σ B1 H1 _ b1 c1 fun l B2 H2 m2 a2 c2 e2 => e2 σ B2 H2 _ (b1.mono a2) c2 fun u B3 H3 m3 a3 c3 e3 =>
    e3 B3 H3 Q v c3 (TV.mono (a2.trans a3) d1) fun v' B4 H4 m4 z a4 c4 d4 e4 => k v' B4 H4 m4 z (((a1.trans a2).trans a3).trans a4) c4 d4 e4

/-! ### calls of built-ins -/
def ccSem (X : Cx) (f : Value) : List V → Hp → VK → Prop := fun vs H Q => ∀ (pins : List (Addr × Obj)) (s : Shared) (σ : L2.St) (us : List Value), Inv X pins σ H s → Vals vs us → wpAny (model X.prog X.w) X.A (call f us) (EP X pins σ Q) X.xe s
theorem cc_sem {f : Value} : CallR X f (ccSem X f) := fun pins s σ H xs us Q I r h => h pins s σ us I r
def RcP (Z : Zs) (r : List V → Hp → VK → Prop) (xs : List TV) (m : Mu) (P : TV → Mu → Prop) : Prop :=
  ∀ (B H : Hp) (Q : VK) (vs : List V), Sta Z B H m → Reps Z.K B vs xs → (∀ v' B' H' m' z, Ex B B' → Sta Z B' H' m' → TV.rep Z.K B' v' z → P z m' → Q v' H') → r vs H Q
def CallP (X : Cx) (Z : Zs) (f : Value) (xs : List TV) (m : Mu) (P : TV → Mu → Prop) : Prop := RcP Z (ccSem X f) xs m P
theorem CallP.of {f : Value} {xs : List TV} {r : List V → Hp → VK → Prop} (ho : CallR X f r) (h : RcP Z r xs m P) : CallP X Z f xs m P :=
  fun B H Q vs hs hv k pins s σ us I rv => ho pins s σ H vs us Q I rv (h B H Q vs hs hv k)
theorem wp_cb {ta : TA} {r : List V → Hp → VK → Prop} (h : WpA Z ta ρ m fun xs m1 => RcP Z r xs m1 P) : Wp Z (tCB r ta) ρ m P := fun σ B H Q he hs k =>
  h σ B H _ he hs fun vs B1 H1 m1 xs e1 s1 r1 w1 => w1 B1 H1 Q vs s1 r1 fun v' B' H' m' z e3 s3 r3 p3 => k v' B' H' m' z (e1.trans e3) s3 r3 p3
/-- f(e, ..), f a built-in function; a built-in class -/
theorem we_callB {x : Str} {p pos : Pos} {e : Expr} {es : List Expr} {id : String} (hm : X.mg x = none) (h : Wa X Z (e :: es) ρ m fun xs m1 => CallP X Z (.builtin id) xs m1 P) (hv : bootBuiltins x = some (.builtin id) := by decide +kernel) (hg : Gl X x := by rfl) (hn : x ≠ "__name__" := by decide)
    (hdb : (x == ("__debug__" : Str)) = false := by decide) (he : starEach (e :: es) X.env = (false, eval e X.env) :: starEach es X.env := by rfl) (hpl : (backTo pos (starEach es X.env)).any (·.1) = false := by rfl) : We X Z (.Call (.Name x p) (e :: es) [] pos) ρ m P :=
  .of (pe_callB cc_sem hg hm hv pa_sem hn hdb he hpl) (wp_cb h)
theorem we_callT {x : Str} {p pos : Pos} {e : Expr} {es : List Expr} {T : String} (hm : X.mg x = none) (h : Wa X Z (e :: es) ρ m fun xs m1 => CallP X Z (.type T) xs m1 P) (hv : bootBuiltins x = some (.type T) := by decide +kernel) (hg : Gl X x := by rfl) (hn : x ≠ "__name__" := by decide)
    (hdb : (x == ("__debug__" : Str)) = false := by decide) (he : starEach (e :: es) X.env = (false, eval e X.env) :: starEach es X.env := by rfl) (hpl : (backTo pos (starEach es X.env)).any (·.1) = false := by rfl) : We X Z (.Call (.Name x p) (e :: es) [] pos) ρ m P :=
  .of (pe_callTy cc_sem hg hm hv pa_sem hn hdb he hpl) (wp_cb h)
/-- methods of built-in types, with arguments and without -/
def rbSem (X : Cx) (id : String) : V → List V → Hp → VK → Prop := fun x xs H Q => ∀ (pins : List (Addr × Obj)) (s : Shared) (σ : L2.St) (v : Value) (us : List Value), Inv X pins σ H s → RelV x v → Vals xs us → wpAny (model X.prog X.w) X.A (call (.builtin id) (v :: us)) (EP X pins σ Q) X.xe s
theorem rb_sem {id : String} : MtR X id (rbSem X id) := fun pins s σ H x xs v us Q I rx r h => h pins s σ v us I rx r
def MetP (X : Cx) (Z : Zs) (id : String) (t : TV) (xs : List TV) (m : Mu) (P : TV → Mu → Prop) : Prop :=
  ∀ (B H : Hp) (Q : VK) (v : V) (vs : List V), Sta Z B H m → t.rep Z.K B v → Reps Z.K B vs xs → (∀ v' B' H' m' z, Ex B B' → Sta Z B' H' m' → TV.rep Z.K B' v' z → P z m' → Q v' H') → rbSem X id v vs H Q
theorem MetP.of {id : String} {t : TV} {xs : List TV} {r : V → List V → Hp → VK → Prop} (ho : MtR X id r)
    (h : ∀ (B H : Hp) (Q : VK) (v : V) (vs : List V), Sta Z B H m → t.rep Z.K B v → Reps Z.K B vs xs → (∀ v' B' H' m' z, Ex B B' → Sta Z B' H' m' → TV.rep Z.K B' v' z → P z m' → Q v' H') → r v vs H Q) : MetP X Z id t xs m P :=
  fun B H Q v vs hs hv hx k pins s σ vv us I rv r => ho pins s σ H v vs vv us Q I rv r (h B H Q v vs hs hv hx k)
/-- a thing of that built-in type -/
def TyP (Z : Zs) (T : String) (t : TV) (m : Mu) : Prop := ∀ B H v, Sta Z B H m → t.rep Z.K B v → tyV Z.K T v H
theorem we_bm {o e : Expr} {es : List Expr} {name : Str} {apos cpos : Pos} {T id : String} (pa : PlainAttrs T) (slot : Slot T name id) (h : We X Z o ρ m fun t m1 => TyP Z T t m1 ∧ Wa X Z (e :: es) ρ m1 fun xs m2 => MetP X Z id t xs m2 P) (hty : typeOf (.builtin id) = pure (.type "method_descriptor") := by rfl)
    (hK : X.K = Z.K := by rfl) (hbase : attributeBase o name X.env (eval o X.env) = eval o X.env := by rfl)
    (hfew : ((backTo cpos (starEach (e :: es) X.env)).all (fun x => !x.1) && (backToKw cpos (keywordEach [] X.env)).all (fun x => x.1.isSome)
      && decide ((e :: es).length + ([] : List Keyword).length + (if ([] : List Keyword).isEmpty then 0 else 1) < 30)) = true := by rfl)
    (hline : (apos.endLine == cpos.line) = true := by rfl) (hs : starEach (e :: es) X.env = (false, eval e X.env) :: starEach es X.env := by rfl) (hplain : (backTo cpos (starEach es X.env)).any (·.1) = false := by rfl) :
    We X Z (.Call (.Attribute o name apos) (e :: es) [] cpos) ρ m P :=
  .of (pe_bm pa slot hty rb_sem pe_sem pa_sem hbase hfew hline hs hplain) fun σ B H Q he hS k => we_sub h he hS fun v B1 H1 m1 x a1 b1 c1 d1 e1 => by
    rw [hK]
    refine ⟨e1.1 B1 H1 v c1 d1, e1.2 σ B1 H1 _ b1 c1 fun vs B2 H2 m2 xs a2 c2 r2 e2 => ?_⟩
    exact e2 B2 H2 Q v vs c2 (TV.mono a2 d1) r2 fun v' B3 H3 m3 z a3 c3 d3 e3 => k v' B3 H3 m3 z ((a1.trans a2).trans a3) c3 d3 e3
theorem we_bm0 {o : Expr} {name : Str} {apos cpos : Pos} {T id : String} (pa : PlainAttrs T) (slot : Slot T name id) (h : We X Z o ρ m fun t m1 => TyP Z T t m1 ∧ MetP X Z id t [] m1 P) (hty : typeOf (.builtin id) = pure (.type "method_descriptor") := by rfl)
    (hK : X.K = Z.K := by rfl) (hbase : attributeBase o name X.env (eval o X.env) = eval o X.env := by rfl) (hline : (apos.endLine == cpos.line) = true := by rfl) : We X Z (.Call (.Attribute o name apos) [] [] cpos) ρ m P :=
  .of (pe_bm0 pa slot hty rb_sem pe_sem hbase hline) fun σ B H Q he hS k => we_sub h he hS fun v B1 H1 m1 x a1 b1 c1 d1 e1 => by
    rw [hK]
    exact ⟨e1.1 B1 H1 v c1 d1, e1.2 B1 H1 Q v [] c1 d1 .nil fun v' B3 H3 m3 z a3 c3 d3 e3 => k v' B3 H3 m3 z (a1.trans a3) c3 d3 e3⟩
end
end Ty

set_option Elab.async false
set_option linter.all false
set_option maxRecDepth 100000
set_option maxHeartbeats 2000000
namespace Ty
open PySem PySem.Spec PyProof.Rows L2

/-! ### what a def promises -/
/-- an exception: its class, its own attributes -/
structure XV where
  cls : Value
  fs : List (Str × TV)
def XV.rep (K : PySem.W.Frag) (B : Hp) (y : XV) (c : Value) (d : Option Addr) : Prop := c = y.cls ∧ ∃ dd vs, d = some dd ∧ B dd = some (.xd vs) ∧ FRep K B vs y.fs
abbrev TSpec := List TV → Mu → (TV → Mu → Prop) → (XV → Mu → Prop) → Prop
def spOf (K : PySem.W.Frag) (T : TSpec) : Sp := fun vs H Q E => ∃ (B : Hp) (m : Mu) (xs : List TV) (post : TV → Mu → Prop) (xpost : XV → Mu → Prop), HpOk K B H m ∧ Reps K B vs xs ∧ T xs m post xpost ∧
  (∀ v B' H' m' x, Go B H m B' H' m' → HpOk K B' H' m' → TV.rep K B' v x → post x m' → Q v H') ∧ (∀ c d B' H' m' y, Go B H m B' H' m' → HpOk K B' H' m' → XV.rep K B' y c d → xpost y m' → E c d H')
/-- what exceptions are taken here -/
def xk (Z : Zs) (ρ : TEnv) (xp : XV → TEnv → Mu → Prop) (σ : L2.St) : XK := fun c d H => ∃ B m y, EnvOk Z.K B σ ρ ∧ Sta Z B H m ∧ XV.rep Z.K B y c d ∧ xp y ρ m
def XT (X : Cx) (Z : Zs) (xp : XV → TEnv → Mu → Prop) : Prop := Takes X (fun c d σ H => ∃ ρ, xk Z ρ xp σ c d H)
def noX : XV → TEnv → Mu → Prop := fun _ _ _ => False
theorem xt0 {X : Cx} {Z : Zs} : XT X Z noX := fun _ _ x => by
  obtain ⟨_, _, _, _, _, _, _, _, _, _, _, _, _, _, _, _, _, _, _, _, _, _, _, z⟩ := x
  exact z.elim
theorem keys_app (a b : Mu) : keys (a ++ b) = keys a ++ keys b := List.map_append
theorem HpOk.part {K : PySem.W.Frag} {B H : Hp} {l1 mf l2 : Mu} (S : HpOk K B H (l1 ++ mf ++ l2)) : HpOk K B H mf := by
  refine ⟨S.ex, ?_, fun i p c h => S.at_ (l1.length + i) p c ?_⟩
  · have := S.nd
    rw [keys_app, keys_app] at this
    exact (List.nodup_append.mp (List.nodup_append.mp this).1).2.1
  · have hi : i < mf.length := (List.getElem?_eq_some_iff.mp h).1
    rw [List.append_assoc, List.getElem?_append_right (by omega), Nat.add_sub_cancel_left, List.getElem?_append_left hi]
    exact h
theorem HpOk.frame {K : PySem.W.Frag} {B H B' H' : Hp} {l1 mf l2 mf' : Mu} (S : HpOk K B H (l1 ++ mf ++ l2)) (g : Go B H mf B' H' mf') (h : HpOk K B' H' mf') : HpOk K B' H' (l1 ++ mf' ++ l2) := by
  have nd := S.nd
  rw [keys_app, keys_app] at nd
  obtain ⟨n12, n3, d3⟩ := List.nodup_append.mp nd
  obtain ⟨n1, n2, d2⟩ := List.nodup_append.mp n12
  have out : ∀ p, p ∈ keys l1 ∨ p ∈ keys l2 → p ∉ keys mf := fun p hp hm => by
    rcases hp with hp | hp
    · exact d2 p hp p hm rfl
    · exact d3 p (List.mem_append_right _ hm) p hp rfl
  have there : ∀ p, p ∈ keys l1 ∨ p ∈ keys l2 → B p = none ∧ H p ≠ none := fun p hp => S.mem (by
    rw [keys_app, keys_app]
    rcases hp with hp | hp
    · exact List.mem_append_left _ (List.mem_append_left _ hp)
    · exact List.mem_append_right _ hp)
  have out' : ∀ p, p ∈ keys l1 ∨ p ∈ keys l2 → p ∉ keys mf' := fun p hp hm => by
    rcases g.ks p hm with z | z
    · exact out p hp z
    · exact (there p hp).2 z
  have keep : ∀ p c, ((p, c) ∈ l1 ∨ (p, c) ∈ l2) → B' p = none ∧ ∃ o, H' p = some o ∧ c.ok K B' o := fun p c hp => by
    have hk : p ∈ keys l1 ∨ p ∈ keys l2 := hp.imp (fun z => List.mem_map.mpr ⟨_, z, rfl⟩) fun z => List.mem_map.mpr ⟨_, z, rfl⟩
    have hm : (p, c) ∈ l1 ++ mf ++ l2 := by
      rcases hp with z | z
      · exact List.mem_append_left _ (List.mem_append_left _ z)
      · exact List.mem_append_right _ z
    obtain ⟨i, hi⟩ := List.getElem?_of_mem hm
    obtain ⟨b0, o, ho, hc⟩ := S.at_ i p c hi
    refine ⟨?_, o, g.keep p o ho (out p hk), c.mono g.ext hc⟩
    cases q : B' p with
    | none => rfl
    | some u =>
      rcases g.nw p (by rw [q]; exact fun z => nomatch z) with z | z | z
      · exact absurd b0 z
      · rw [ho] at z; cases z
      · exact absurd z (out p hk)
  refine ⟨h.ex, ?_, fun i p c hi => ?_⟩
  · rw [keys_app, keys_app]
    refine List.nodup_append.mpr ⟨List.nodup_append.mpr ⟨n1, h.nd, fun a ha b hb e => ?_⟩, n3, fun a ha b hb e => ?_⟩
    · subst e; exact out' a (.inl ha) hb
    · subst e
      rcases List.mem_append.mp ha with z | z
      · exact d3 a (List.mem_append_left _ z) a hb rfl
      · exact out' a (.inr hb) z
  · have hm := List.mem_of_getElem? hi
    rcases List.mem_append.mp hm with hm | hm
    · rcases List.mem_append.mp hm with hm | hm
      · exact keep p c (.inl hm)
      · obtain ⟨j, hj⟩ := List.getElem?_of_mem hm
        exact h.at_ j p c hj
    · exact keep p c (.inr hm)
theorem Go.frame {B H B' H' : Hp} {l1 mf l2 mf' : Mu} (g : Go B H mf B' H' mf') (hn : ∀ p, p ∈ keys l1 ∨ p ∈ keys l2 → H p ≠ none) : Go B H (l1 ++ mf ++ l2) B' H' (l1 ++ mf' ++ l2) := by
  have sub : ∀ p, p ∈ keys mf → p ∈ keys (l1 ++ mf ++ l2) := fun p h => by
    rw [keys_app, keys_app]; exact List.mem_append_left _ (List.mem_append_right _ h)
  refine ⟨g.ext, fun a o h n => g.keep a o h fun z => n (sub a z), g.dom, fun a h => ?_, fun p h => ?_⟩
  · rcases g.nw a h with z | z | z
    · exact .inl z
    · exact .inr (.inl z)
    · exact .inr (.inr (sub a z))
  · rw [keys_app, keys_app] at h ⊢
    rcases List.mem_append.mp h with h | h
    · rcases List.mem_append.mp h with h | h
      · exact .inl (List.mem_append_left _ (List.mem_append_left _ h))
      · rcases g.ks p h with z | z
        · exact .inl (List.mem_append_left _ (List.mem_append_right _ z))
        · exact .inr z
    · exact .inl (List.mem_append_right _ h)
theorem Sta.call {Z : Zs} {B H B' H' : Hp} {l1 mf l2 mf' : Mu} (S : Sta Z B H (l1 ++ mf ++ l2)) (g : Go B H mf B' H' mf') (h : HpOk Z.K B' H' mf') : Sta Z B' H' (l1 ++ mf' ++ l2) :=
  ⟨S.hp.frame g h, S.go.trans (g.frame fun p hp => (S.hp.mem (by
    rw [keys_app, keys_app]
    rcases hp with hp | hp
    · exact List.mem_append_left _ (List.mem_append_left _ hp)
    · exact List.mem_append_right _ hp)).2)⟩
theorem HpOk.perm {K : PySem.W.Frag} {B H : Hp} {m m' : Mu} (S : HpOk K B H m) (h : m.Perm m') : HpOk K B H m' :=
  ⟨S.ex, (h.map _).nodup_iff.mp S.nd, fun i p c hi => by
    obtain ⟨j, hj⟩ := List.getElem?_of_mem (h.symm.subset (List.mem_of_getElem? hi))
    exact S.at_ j p c hj⟩
theorem Sta.perm {Z : Zs} {B H : Hp} {m m' : Mu} (S : Sta Z B H m) (h : m.Perm m') : Sta Z B H m' :=
  ⟨S.hp.perm h, ⟨S.go.ext, S.go.keep, S.go.dom, S.go.nw, fun p hp => S.go.ks p ((h.symm.map _).subset hp)⟩⟩
/-- a callee's promise, used where more may change -/
inductive FrP (T : TSpec) (xs : List TV) (m : Mu) (P : TV → Mu → Prop) (xp : XV → Mu → Prop) : Prop
  | part {l1 mf l2 : Mu} : m = l1 ++ mf ++ l2 → T xs mf (fun x mf' => P x (l1 ++ mf' ++ l2)) (fun y mf' => xp y (l1 ++ mf' ++ l2)) → FrP T xs m P xp
  | perm {mf r : Mu} : m.Perm (mf ++ r) → T xs mf (fun x mf' => ∃ m', (mf' ++ r).Perm m' ∧ P x m') (fun y mf' => ∃ m', (mf' ++ r).Perm m' ∧ xp y m') → FrP T xs m P xp
theorem FrP.all {T : TSpec} {xs : List TV} {m : Mu} {P : TV → Mu → Prop} {xp : XV → Mu → Prop} (h : T xs m P xp) : FrP T xs m P xp := .part (l1 := []) (mf := m) (l2 := []) (by simp) (by simpa using h)
/-- nothing is changed -/
theorem FrP.none {T : TSpec} {xs : List TV} {m : Mu} {P : TV → Mu → Prop} {xp : XV → Mu → Prop} (h : T xs [] (fun x mf' => P x (m ++ mf')) fun y mf' => xp y (m ++ mf')) : FrP T xs m P xp := .part (l1 := m) (mf := []) (l2 := []) (by simp) (by simpa using h)
theorem FrP.one {T : TSpec} {xs : List TV} {p : Addr} {c : MV} {m : Mu} {P : TV → Mu → Prop} {xp : XV → Mu → Prop} (h : T xs [(p, c)] (fun x mf' => P x (mf' ++ m)) fun y mf' => xp y (mf' ++ m)) : FrP T xs ((p, c) :: m) P xp := .part (l1 := []) (mf := [(p, c)]) (l2 := m) (by simp) (by simpa using h)
section
variable {X : Cx} {Z : Zs} {ρ : TEnv} {m : Mu} {D : DE} {P : TV → Mu → Prop} {xp : XV → TEnv → Mu → Prop} {T : TSpec}
theorem FrP.sp {xs : List TV} {vs : List V} {B H : Hp} {Q : VK} {σ : L2.St} (h : FrP T xs m P fun y m' => xp y ρ m') (he : EnvOk Z.K B σ ρ) (S : Sta Z B H m) (r : Reps Z.K B vs xs) (k : ∀ v B' H' m' x, Ex B B' → Sta Z B' H' m' → TV.rep Z.K B' v x → P x m' → Q v H') :
    spOf Z.K T vs H Q (xk Z ρ xp σ) := by
  rcases h with @⟨l1, mf, l2, e, t⟩ | @⟨mf, l, hp, t⟩
  · subst e
    exact ⟨B, mf, xs, _, _, S.hp.part, r, t, fun v B' H' m' x g ok rv p => k v B' H' _ x g.ext (S.call g ok) rv p, fun c d B' H' m' y g ok ry p => ⟨B', _, y, he.mono g.ext, S.call g ok, ry, p⟩⟩
  · have S2 : Sta Z B H ([] ++ mf ++ l) := S.perm hp
    exact ⟨B, mf, xs, _, _, S2.hp.part, r, t, fun v B' H' m' x g ok rv ⟨m2, q, p⟩ => k v B' H' m2 x g.ext ((S2.call g ok).perm q) rv p, fun c d B' H' m' y g ok ry ⟨m2, q, p⟩ => ⟨B', m2, y, he.mono g.ext, (S2.call g ok).perm q, ry, p⟩⟩
theorem spOf_imp {K : PySem.W.Frag} {vs : List V} {H : Hp} {Q : VK} {E E' : XK} (h : spOf K T vs H Q E) (k : ∀ c d H', E c d H' → E' c d H') : spOf K T vs H Q E' := by
  obtain ⟨B, m, xs, post, xpost, a, b, c, d, e⟩ := h
  exact ⟨B, m, xs, post, xpost, a, b, c, d, fun c d B' H' m' y g ok ry p => k c d H' (e c d B' H' m' y g ok ry p)⟩
variable {k n : Nat} {f C : Addr} {fd : FuncData} {ps : List Str} {x mname : Str} {p pos apos : Pos} {e o : Expr} {es : List Expr} {dvs : List V} {ds : List Value} {dts : List TV} {ks : List Str} {kws : List Keyword}
/-- a def keeps its promise wherever no guard is up around it -/
structure FnG (P : Program) (w : World) (K : PySem.W.Frag) (mg : Str → Option Value) (base : Heap) (k : Nat) (f : Addr) (fd : FuncData) (ps : List Str) (T : TSpec) : Prop where
  len : ∀ xs m post xp, T xs m post xp → xs.length = ps.length
  run : ∀ (A : Around) (outer : List Env) (s : Shared) (H : Hp) (args : Args) (us : List Value) (vs : List V) (Q : VK) (E : XK), A.guards = some [] → Room k A → Env0 P w K mg base A outer s H → BindsTo s fd args (ps.zip us) → Vals vs us →
    spOf K T vs H Q E → codeAny (model P w) A (.call (.ref f) args) (CR (L2.CX P w) outer P w H s Q E) s
theorem FnG.mono {P : Program} {w : World} {K : PySem.W.Frag} {mg : Str → Option Value} {base : Heap} {j k : Nat} (F : FnG P w K mg base j f fd ps T) (h : j ≤ k) : FnG P w K mg base k f fd ps T :=
  ⟨F.len, fun A outer s H args us vs Q E hg hr => F.run A outer s H args us vs Q E hg (hr.mono h)⟩
theorem spOf_len {K : PySem.W.Frag} {n : Nat} (len : ∀ xs m post xp, T xs m post xp → xs.length = n) {vs : List V} {H : Hp} {Q : VK} {E : XK} (h : spOf K T vs H Q E) : vs.length = n := by
  obtain ⟨B, m, xs, post, xp, _, r, t, _⟩ := h
  rw [r.length]; exact len _ _ _ _ t
/-- the defaults that fill up are flat values -/
def Flat (K : PySem.W.Frag) (dvs : List V) (dts : List TV) : Prop := ∀ B, Reps K B dvs dts
theorem flat0 {K : PySem.W.Frag} : Flat K [] [] := fun _ => .nil
theorem xt_passes (hx : XT X Z xp) (σ : L2.St) : PassesAt (L2.CX X.prog X.w) X σ (xk Z ρ xp σ) := fun pins H s e s' I c => hx e s' (XE.of_call I (fun _ _ _ h => ⟨ρ, h⟩) c)
def tCallX (sp : Sp) (dvs : List V) (E : L2.St → XK) (t : TA) : TE := fun σ H Q => t σ H fun vs H1 => sp (vs ++ dvs) H1 Q (E σ)
/-- how a def's parameters are bound by positional values and by values with names -/
structure BindsK (K : PySem.W.Frag) (fd : FuncData) (ps : List Str) (n : Nat) (ks : List Str) (g : List Value → List Value → List Value) (gV : List V → List V → List V) (gT : List TV → List TV → List TV) : Prop where
  to : ∀ (s : Shared) (us ws : List Value), K.In s.heap → us.length = n → ws.length = ks.length → BindsTo s fd ⟨us, ks.zip ws⟩ (ps.zip (g us ws))
  rel : ∀ {vs : List V} {us : List Value} {zs : List V} {ws : List Value}, Vals vs us → Vals zs ws → Vals (gV vs zs) (g us ws)
  rep : ∀ {B : Hp} {vs zs : List V} {xs ys : List TV}, Reps K B vs xs → Reps K B zs ys → Reps K B (gV vs zs) (gT xs ys)
/-- behind the call -/
theorem g_after {pins : List (Addr × Obj)} {σ : L2.St} {H : Hp} {s : Shared} {Q : VK} {E : XK} {c : Code} (hx : PassesAt (L2.CX X.prog X.w) X σ E) (I : Inv X pins σ H s) {r : Result} {s' : Shared} (h : CR (L2.CX X.prog X.w) X.stack X.prog X.w H s Q E r s') :
    match r with
    | .ok (.ret u) => EP X pins σ Q u s'
    | .ok _ => False
    | .error er => X.xe er s' := by
  match r, h with
  | .error er, h => exact hx pins H s er s' I h
  | .ok (.ret u), h => exact I.after h
  | .ok .next, h => exact h
  | .ok .brk, h => exact h
  | .ok .cont, h => exact h
theorem g_run {pins : List (Addr × Obj)} {σ : L2.St} {H : Hp} {s : Shared} {Q : VK} {E : XK} {us : List Value} {vs : List V} {args : Args} (F : FnG X.prog X.w X.K X.mg X.base k f fd ps T) (hg : X.A.guards = some []) (hr : Room k X.A) (hx : PassesAt (L2.CX X.prog X.w) X σ E)
    (I : Inv X pins σ H s) (hb : BindsTo s fd args (ps.zip us)) (r : Vals vs us) (h : spOf X.K T vs H Q E) : wpAny (model X.prog X.w) X.A (call (.ref f) args.pos args.kw) (EP X pins σ Q) X.xe s := by
  obtain ⟨pa, kw⟩ := args
  refine wpAny_call (codeAny_mono (F.run X.A X.stack s H ⟨pa, kw⟩ us vs Q E hg hr I.env0 hb r h) fun r s' q => ?_)
  have q2 := g_after (c := .call (.ref f) ⟨pa, kw⟩) hx I q
  revert q2
  cases r with
  | error er => exact fun q => q
  | ok fl => cases fl <;> exact fun q => q
theorem g_run0 {pins : List (Addr × Obj)} {σ : L2.St} {H : Hp} {s : Shared} {Q : VK} {E : XK} {us : List Value} {vs : List V} (F : FnG X.prog X.w X.K X.mg X.base k f fd ps T) (hg : X.A.guards = some []) (hr : Room k X.A) (hb : Binds X.K fd ps ds) (hd : Vals dvs ds)
    (hx : PassesAt (L2.CX X.prog X.w) X σ E) (I : Inv X pins σ H s) (r : Vals vs us) (h : spOf X.K T (vs ++ dvs) H Q E) : wpAny (model X.prog X.w) X.A (call (.ref f) us) (EP X pins σ Q) X.xe s := by
  have e := r.append hd
  exact g_run (args := ⟨us, []⟩) F hg hr hx I (hb s us I.kIn (e.length.symm.trans (spOf_len F.len h))) e h
theorem pg_call {E : L2.St → XK} {t : TA} (F : FnG X.prog X.w X.K X.mg X.base k f fd ps T) (hgd : X.A.guards = some []) (hr : Room k X.A) (hg : Gl X x) (hm : X.mg x = some (.ref f)) (hk : PySem.W.keepIn X.K (.ref f) = true) (hb : Binds X.K fd ps ds) (hd : Vals dvs ds)
    (hx : ∀ σ, PassesAt (L2.CX X.prog X.w) X σ (E σ)) (ha : PA X (e :: es) t) (hdb : (x == ("__debug__" : Str)) = false) (he : starEach (e :: es) X.env = (false, eval e X.env) :: starEach es X.env) (hpl : (backTo pos (starEach es X.env)).any (·.1) = false) :
    PE X (.Call (.Name x p) (e :: es) [] pos) (tCallX (spOf X.K T) dvs E t) := ⟨fun pins s σ H Q I h =>
  wpAny_Call_Name_kw (ld_glob I hg hm (PySem.W.callWith_K (h₀ := X.base) I.ok.mod.kin hk (thn (ha.run pos pins s σ H _ I h) fun us s1 ⟨vs, H1, I1, r, q⟩ => ⟨I1.kIn, g_run0 F hgd hr hb hd (hx σ) I1 r q⟩) he hpl) hdb)⟩
theorem pg_call0 {E : L2.St → XK} (F : FnG X.prog X.w X.K X.mg X.base k f fd ps T) (hgd : X.A.guards = some []) (hr : Room k X.A) (hg : Gl X x) (hm : X.mg x = some (.ref f)) (hk : PySem.W.keepIn X.K (.ref f) = true) (hb : Binds X.K fd ps ds) (hd : Vals dvs ds)
    (hx : ∀ σ, PassesAt (L2.CX X.prog X.w) X σ (E σ)) (hdb : (x == ("__debug__" : Str)) = false) : PE X (.Call (.Name x p) [] [] pos) (tCallX (spOf X.K T) dvs E tNil) := ⟨fun pins s σ H Q I h =>
  wpAny_Call_Name_kw (ld_glob I hg hm (PySem.W.callWith_K0 I.kIn hk (g_run0 (us := []) F hgd hr hb hd (hx σ) I .nil h)) hdb)⟩
/-- f(e, .., k = v, ..), f(k = v, ..) -/
def tCallKw (sp : Sp) (n m : Nat) (gV : List V → List V → List V) (E : L2.St → XK) (t tk : TA) : TE := fun σ H Q => t σ H fun vs H1 => tk σ H1 fun zs H2 => vs.length = n ∧ zs.length = m ∧ sp (gV vs zs) H2 Q (E σ)
theorem pg_callK {E : L2.St → XK} {t tk : TA} {n : Nat} {g : List Value → List Value → List Value} {gV : List V → List V → List V} {gT : List TV → List TV → List TV} (F : FnG X.prog X.w X.K X.mg X.base k f fd ps T) (hgd : X.A.guards = some []) (hr : Room k X.A) (hg : Gl X x) (hm : X.mg x = some (.ref f))
    (hk : PySem.W.keepIn X.K (.ref f) = true) (hb : BindsK X.K fd ps n ks g gV gT) (hx : ∀ σ, PassesAt (L2.CX X.prog X.w) X σ (E σ)) (ha : PA X (e :: es) t) (hkw : PK X kws tk) (hall : (backToKw pos (keywordEach kws X.env)).all (·.1.isSome) = true) (hks : (backToKw pos (keywordEach kws X.env)).filterMap (·.1) = ks)
    (hdb : (x == ("__debug__" : Str)) = false) (he : starEach (e :: es) X.env = (false, eval e X.env) :: starEach es X.env) (hpl : ((backTo pos (starEach (e :: es) X.env)).any (·.1) || (backToKw pos (keywordEach kws X.env)).any (·.1.isNone)) = false) :
    PE X (.Call (.Name x p) (e :: es) kws pos) (tCallKw (spOf X.K T) n ks.length gV E t tk) := ⟨fun pins s σ H Q I h => wpAny_Call_Name_kw (ld_glob I hg hm (PySem.W.callWith_KW (h₀ := X.base) I.ok.mod.kin hk hall
    (thn (ha.run pos pins s σ H _ I h) fun us s1 ⟨vs, H1, I1, r, q⟩ => thn (hkw.run pos pins s1 σ H1 _ I1 q) fun ws s2 ⟨zs, H2, I2, rz, l1, l2, q2⟩ => ⟨I2.kIn, by
      rw [hks]
      exact g_run (args := ⟨us, ks.zip ws⟩) F hgd hr (hx σ) I2 (hb.to s2 us ws I2.kIn (r.length.symm.trans l1) (rz.length.symm.trans l2)) (hb.rel r rz) q2⟩) hpl he) hdb)⟩
theorem pg_callK0 {E : L2.St → XK} {tk : TA} {g : List Value → List Value → List Value} {gV : List V → List V → List V} {gT : List TV → List TV → List TV} (F : FnG X.prog X.w X.K X.mg X.base k f fd ps T) (hgd : X.A.guards = some []) (hr : Room k X.A) (hg : Gl X x) (hm : X.mg x = some (.ref f))
    (hk : PySem.W.keepIn X.K (.ref f) = true) (hb : BindsK X.K fd ps 0 ks g gV gT) (hx : ∀ σ, PassesAt (L2.CX X.prog X.w) X σ (E σ)) (hkw : PK X kws tk) (hall : (backToKw pos (keywordEach kws X.env)).all (·.1.isSome) = true) (hks : (backToKw pos (keywordEach kws X.env)).filterMap (·.1) = ks)
    (hdb : (x == ("__debug__" : Str)) = false) (hpl : ((backTo pos (starEach [] X.env)).any (·.1) || (backToKw pos (keywordEach kws X.env)).any (·.1.isNone)) = false) :
    PE X (.Call (.Name x p) [] kws pos) (tCallKw (spOf X.K T) 0 ks.length gV E tNil tk) := ⟨fun pins s σ H Q I h => wpAny_Call_Name_kw (ld_glob I hg hm (PySem.W.callWith_KW0 (h₀ := X.base) I.ok.mod.kin hk hall
    (thn (hkw.run pos pins s σ H _ I h) fun ws s2 ⟨zs, H2, I2, rz, l1, l2, q2⟩ => ⟨I2.kIn, by
      rw [hks]
      exact g_run (args := ⟨[], ks.zip ws⟩) F hgd hr (hx σ) I2 (hb.to s2 [] ws I2.kIn rfl (rz.length.symm.trans l2)) (hb.rel .nil rz) q2⟩) hpl) hdb)⟩
/-- o.m(e, ..), o.m(), o.m(k = v, ..) -/
def tMethX (C : Addr) (mname : Str) (sp : Sp) (dvs : List V) (E : L2.St → XK) (ta : TE) (t : TA) : TE := fun σ H Q => ta σ H fun x H1 => ∃ a dx fs, x = .ref a ∧ H1 a = some (.ins C dx fs) ∧ fs.lookup mname = none ∧ t σ H1 fun vs H2 => sp (x :: (vs ++ dvs)) H2 Q (E σ)
theorem pg_meth {E : L2.St → XK} {pl : Sem Bool} {ta : TE} {t : TA} (he : PE X o ta) (c : Cls X.K C) (hM : Meth X.K C mname f) (F : FnG X.prog X.w X.K X.mg X.base k f fd ps T) (hgd : X.A.guards = some []) (hr : Room k X.A) (hb : Binds X.K fd ps ds) (hd : Vals dvs ds) (hx : ∀ σ, PassesAt (L2.CX X.prog X.w) X σ (E σ)) (ha : PA X (e :: es) t)
    (hst : starEach (e :: es) X.env = (false, eval e X.env) :: starEach es X.env) (hpl : (backTo pos (starEach es X.env)).any (·.1) = false)
    (ht : eval (.Call (.Attribute o mname apos) (e :: es) [] pos) X.env = (do
      let ov ← eval o X.env
      standAt apos.atName
      let (f, first) ← holding [ov] (getMethod ov mname pl)
      callWith pos f first (backTo pos (starEach (e :: es) X.env)) (backToKw pos (keywordEach [] X.env)))) :
    PE X (.Call (.Attribute o mname apos) (e :: es) [] pos) (tMethX C mname (spOf X.K T) dvs E ta t) := ⟨fun pins s σ H Q I h => by
  refine PySem.W.methodCall_KW (pl := pl) (thn (he.run pins s σ H _ I h) fun u s1 ⟨v, H1, I1, rx, a, dx, fs, ex, ea, l, q⟩ => ?_) ht
  subst ex
  cases (show u = Value.ref a from rx)
  exact getmeth_ok I1 ea c hM l (PySem.W.callWith_K (first := [.ref a]) (h₀ := X.base) I.ok.mod.kin hM.kp (thn (ha.run pos pins s1 σ H1 _ I1 q) fun us s2 ⟨vs, H2, I2, r, q2⟩ => ⟨I2.kIn, g_run0 (us := .ref a :: us) (vs := .ref a :: vs) F hgd hr hb hd (hx σ) I2 (.cons rfl r) q2⟩) hst hpl)⟩
theorem pg_meth0 {E : L2.St → XK} {pl : Sem Bool} {ta : TE} (he : PE X o ta) (c : Cls X.K C) (hM : Meth X.K C mname f) (F : FnG X.prog X.w X.K X.mg X.base k f fd ps T) (hgd : X.A.guards = some []) (hr : Room k X.A) (hb : Binds X.K fd ps ds) (hd : Vals dvs ds) (hx : ∀ σ, PassesAt (L2.CX X.prog X.w) X σ (E σ))
    (ht : eval (.Call (.Attribute o mname apos) [] [] pos) X.env = (do
      let ov ← eval o X.env
      standAt apos.atName
      let (f, first) ← holding [ov] (getMethod ov mname pl)
      callWith pos f first (backTo pos (starEach [] X.env)) (backToKw pos (keywordEach [] X.env)))) :
    PE X (.Call (.Attribute o mname apos) [] [] pos) (tMethX C mname (spOf X.K T) dvs E ta tNil) := ⟨fun pins s σ H Q I h => by
  refine PySem.W.methodCall_KW (pl := pl) (thn (he.run pins s σ H _ I h) fun u s1 ⟨v, H1, I1, rx, a, dx, fs, ex, ea, l, q⟩ => ?_) ht
  subst ex
  cases (show u = Value.ref a from rx)
  exact getmeth_ok I1 ea c hM l (PySem.W.callWith_K0 (first := [.ref a]) I1.kIn hM.kp (g_run0 (us := [.ref a]) (vs := [.ref a]) F hgd hr hb hd (hx σ) I1 (.cons rfl .nil) q))⟩
def tMethKw (C : Addr) (mname : Str) (sp : Sp) (m : Nat) (gV : List V → List V → List V) (E : L2.St → XK) (ta : TE) (tk : TA) : TE := fun σ H Q => ta σ H fun x H1 => ∃ a dx fs, x = .ref a ∧ H1 a = some (.ins C dx fs) ∧ fs.lookup mname = none ∧
  tk σ H1 fun zs H2 => zs.length = m ∧ sp (gV [x] zs) H2 Q (E σ)
theorem pg_methK0 {E : L2.St → XK} {pl : Sem Bool} {ta : TE} {tk : TA} {g : List Value → List Value → List Value} {gV : List V → List V → List V} {gT : List TV → List TV → List TV} (he : PE X o ta) (c : Cls X.K C) (hM : Meth X.K C mname f) (F : FnG X.prog X.w X.K X.mg X.base k f fd ps T) (hgd : X.A.guards = some []) (hr : Room k X.A)
    (hb : BindsK X.K fd ps 1 ks g gV gT) (hx : ∀ σ, PassesAt (L2.CX X.prog X.w) X σ (E σ)) (hkw : PK X kws tk) (hall : (backToKw pos (keywordEach kws X.env)).all (·.1.isSome) = true) (hks : (backToKw pos (keywordEach kws X.env)).filterMap (·.1) = ks)
    (hpl : ((backTo pos (starEach [] X.env)).any (·.1) || (backToKw pos (keywordEach kws X.env)).any (·.1.isNone)) = false)
    (ht : eval (.Call (.Attribute o mname apos) [] kws pos) X.env = (do
      let ov ← eval o X.env
      standAt apos.atName
      let (f, first) ← holding [ov] (getMethod ov mname pl)
      callWith pos f first (backTo pos (starEach [] X.env)) (backToKw pos (keywordEach kws X.env)))) :
    PE X (.Call (.Attribute o mname apos) [] kws pos) (tMethKw C mname (spOf X.K T) ks.length gV E ta tk) := ⟨fun pins s σ H Q I h => by
  refine PySem.W.methodCall_KW (pl := pl) (thn (he.run pins s σ H _ I h) fun u s1 ⟨v, H1, I1, rx, a, dx, fs, ex, ea, l, q⟩ => ?_) ht
  subst ex
  cases (show u = Value.ref a from rx)
  refine getmeth_ok I1 ea c hM l (PySem.W.callWith_KW0 (first := [.ref a]) (h₀ := X.base) I.ok.mod.kin hM.kp hall (thn (hkw.run pos pins s1 σ H1 _ I1 q) fun ws s2 ⟨zs, H2, I2, rz, l2, q2⟩ => ⟨I2.kIn, ?_⟩) hpl)
  rw [hks]
  exact g_run (args := ⟨[.ref a], ks.zip ws⟩) F hgd hr (hx σ) I2 (hb.to s2 [.ref a] ws I2.kIn rfl (rz.length.symm.trans l2)) (hb.rel (.cons (show RelV (V.ref a) (Value.ref a) from rfl) .nil) rz) q2⟩
/-! the same over the typed judgements -/
theorem wp_call {t : TA} (hx : XT X Z xp) (hf : Flat Z.K dvs dts) (h : WpA Z t ρ m fun xs m1 => FrP T (xs ++ dts) m1 P (fun y m' => xp y ρ m')) : Wp Z (tCallX (spOf Z.K T) dvs (xk Z ρ xp) t) ρ m P := fun σ B H Q he hs k =>
  h σ B H _ he hs fun vs B1 H1 m1 xs e1 s1 r1 w1 => w1.sp (he.mono e1) s1 (r1.append (hf B1)) fun v B' H' m' x e2 s2 r2 p2 => k v B' H' m' x (e1.trans e2) s2 r2 p2
/-- what stands of a def: its promise, its place, how its parameters are bound when n values are written and the defaults dts fill up -/
def DefK (P : Program) (w : World) (K : PySem.W.Frag) (mg : Str → Option Value) (base : Heap) (x : Str) (k : Nat) (T : TSpec) (dts : List TV) : Prop :=
  ∃ (f : Addr) (fd : FuncData) (ps : List Str) (dvs : List V) (ds : List Value), FnG P w K mg base k f fd ps T ∧ mg x = some (.ref f) ∧ PySem.W.keepIn K (.ref f) = true ∧ Binds K fd ps ds ∧ Vals dvs ds ∧ Flat K dvs dts
variable {k' : Nat}
theorem we_call (F : DefK X.prog X.w X.K X.mg X.base x k T dts) (hgd : X.A.guards = some []) (hr : Room k' X.A) (hx : XT X Z xp) (h : Wa X Z (e :: es) ρ m fun xs m1 => FrP T (xs ++ dts) m1 P (fun y m' => xp y ρ m')) (hkk : k ≤ k' := by decide) (hK : X.K = Z.K := by rfl) (hg : Gl X x := by rfl) (hdb : (x == ("__debug__" : Str)) = false := by decide)
    (he : starEach (e :: es) X.env = (false, eval e X.env) :: starEach es X.env := by rfl) (hpl : (backTo pos (starEach es X.env)).any (·.1) = false := by rfl) : We X Z (.Call (.Name x p) (e :: es) [] pos) ρ m P := by
  obtain ⟨f, fd, ps, dvs, ds, G, hm, hk, hb, hd, hf⟩ := F
  have W := wp_call hx (hK ▸ hf) h
  rw [← hK] at W
  exact .of (pg_call G hgd (hr.mono hkk) hg hm hk hb hd (xt_passes hx) pa_sem hdb he hpl) W
theorem we_call0 (F : DefK X.prog X.w X.K X.mg X.base x k T dts) (hgd : X.A.guards = some []) (hr : Room k' X.A) (hx : XT X Z xp) (h : FrP T dts m P (fun y m' => xp y ρ m')) (hkk : k ≤ k' := by decide) (hK : X.K = Z.K := by rfl) (hg : Gl X x := by rfl) (hdb : (x == ("__debug__" : Str)) = false := by decide) : We X Z (.Call (.Name x p) [] [] pos) ρ m P := by
  obtain ⟨f, fd, ps, dvs, ds, G, hm, hk, hb, hd, hf⟩ := F
  have W : Wp Z (tCallX (spOf Z.K T) dvs (xk Z ρ xp) tNil) ρ m P := wp_call hx (hK ▸ hf) fun σ B H Q he hs k => k [] B H m [] (Ex.refl _) hs .nil h
  rw [← hK] at W
  exact .of (pg_call0 G hgd (hr.mono hkk) hg hm hk hb hd (xt_passes hx) hdb) W
/-- values with names -/
def WpK (Z : Zs) (t : TA) (ρ : TEnv) (m : Mu) (R : List TV → Mu → Prop) : Prop := WpA Z t ρ m R
def tkS (X : Cx) (kws : List Keyword) : TA := fun σ H Q => ∀ (pos : Pos) (pins : List (Addr × Obj)) (s : Shared), Inv X pins σ H s → wpAny (model X.prog X.w) X.A (evalAll ((backToKw pos (keywordEach kws X.env)).map (·.2))) (AP X pins σ Q) X.xe s
theorem pk_sem : PK X kws (tkS X kws) := ⟨fun pos pins s _ _ _ I h => h pos pins s I⟩
abbrev Wk (X : Cx) (Z : Zs) (kws : List Keyword) (ρ : TEnv) (m : Mu) (R : List TV → Mu → Prop) : Prop := WpA Z (tkS X kws) ρ m R
theorem wk_nil {PA : List TV → Mu → Prop} (h : PA [] m) : Wk X Z [] ρ m PA := fun σ B H Q he hs k pos pins s I => pk_nil.run pos pins s σ H Q I (k [] B H m [] (Ex.refl _) hs .nil h)
theorem wk_cons {PA : List TV → Mu → Prop} {nm : Option Str} {kpos : Pos} (h : We X Z e ρ m fun x m1 => Wk X Z kws ρ m1 fun xs m2 => PA (x :: xs) m2) : Wk X Z (⟨nm, e, kpos⟩ :: kws) ρ m PA :=
  fun σ B H Q he hs k pos pins s I => (pk_cons pe_sem pk_sem).run pos pins s σ H Q I (h σ B H _ he hs fun v B1 H1 m1 x e1 s1 r1 w1 => w1 σ B1 H1 _ (he.mono e1) s1 fun vs B2 H2 m2 xs e2 s2 r2 p2 =>
    k (v :: vs) B2 H2 m2 (x :: xs) (e1.trans e2) s2 (.cons (TV.mono e2 r1) r2) p2)
/-- .. with names for the last parameters -/
def DefN (P : Program) (w : World) (K : PySem.W.Frag) (mg : Str → Option Value) (base : Heap) (x : Str) (k : Nat) (T : TSpec) (n : Nat) (ks : List Str) (gT : List TV → List TV → List TV) : Prop :=
  ∃ (f : Addr) (fd : FuncData) (ps : List Str) (g : List Value → List Value → List Value) (gV : List V → List V → List V), FnG P w K mg base k f fd ps T ∧ mg x = some (.ref f) ∧ PySem.W.keepIn K (.ref f) = true ∧ BindsK K fd ps n ks g gV gT
variable {gT : List TV → List TV → List TV}
theorem we_callK (F : DefN X.prog X.w X.K X.mg X.base x k T n ks gT) (hgd : X.A.guards = some []) (hr : Room k' X.A) (hx : XT X Z xp) (h : Wa X Z (e :: es) ρ m fun xs m1 => Wk X Z kws ρ m1 fun ys m2 => xs.length = n ∧ ys.length = ks.length ∧ FrP T (gT xs ys) m2 P (fun y m' => xp y ρ m')) (hkk : k ≤ k' := by decide) (hK : X.K = Z.K := by rfl) (hg : Gl X x := by rfl) (hdb : (x == ("__debug__" : Str)) = false := by decide)
    (hall : (backToKw pos (keywordEach kws X.env)).all (·.1.isSome) = true := by rfl) (hks : (backToKw pos (keywordEach kws X.env)).filterMap (·.1) = ks := by rfl) (he : starEach (e :: es) X.env = (false, eval e X.env) :: starEach es X.env := by rfl)
    (hpl : ((backTo pos (starEach (e :: es) X.env)).any (·.1) || (backToKw pos (keywordEach kws X.env)).any (·.1.isNone)) = false := by rfl) : We X Z (.Call (.Name x p) (e :: es) kws pos) ρ m P := by
  obtain ⟨f, fd, ps, g, gV, G, hm, hk, hb⟩ := F
  have W : Wp Z (tCallKw (spOf Z.K T) n ks.length gV (xk Z ρ xp) (taS X (e :: es)) (tkS X kws)) ρ m P := fun σ B H Q hE hs k => h σ B H _ hE hs fun vs B1 H1 m1 xs e1 s1 r1 w1 =>
    w1 σ B1 H1 _ (hE.mono e1) s1 fun zs B2 H2 m2 ys e2 s2 r2 ⟨l1, l2, p2⟩ => ⟨r1.length.trans l1, r2.length.trans l2, p2.sp (hE.mono (e1.trans e2)) s2 ((hK ▸ hb).rep (r1.mono e2) r2) fun v' B' H' m' x e3 s3 r3 p3 => k v' B' H' m' x ((e1.trans e2).trans e3) s3 r3 p3⟩
  rw [← hK] at W
  exact .of (pg_callK G hgd (hr.mono hkk) hg hm hk hb (xt_passes hx) pa_sem pk_sem hall hks hdb he hpl) W
theorem we_callK0 (F : DefN X.prog X.w X.K X.mg X.base x k T 0 ks gT) (hgd : X.A.guards = some []) (hr : Room k' X.A) (hx : XT X Z xp) (h : Wk X Z kws ρ m fun ys m2 => ys.length = ks.length ∧ FrP T (gT [] ys) m2 P (fun y m' => xp y ρ m')) (hkk : k ≤ k' := by decide) (hK : X.K = Z.K := by rfl) (hg : Gl X x := by rfl) (hdb : (x == ("__debug__" : Str)) = false := by decide)
    (hall : (backToKw pos (keywordEach kws X.env)).all (·.1.isSome) = true := by rfl) (hks : (backToKw pos (keywordEach kws X.env)).filterMap (·.1) = ks := by rfl)
    (hpl : ((backTo pos (starEach [] X.env)).any (·.1) || (backToKw pos (keywordEach kws X.env)).any (·.1.isNone)) = false := by rfl) : We X Z (.Call (.Name x p) [] kws pos) ρ m P := by
  obtain ⟨f, fd, ps, g, gV, G, hm, hk, hb⟩ := F
  have W : Wp Z (tCallKw (spOf Z.K T) 0 ks.length gV (xk Z ρ xp) tNil (tkS X kws)) ρ m P := fun σ B H Q hE hs k => h σ B H _ hE hs fun zs B2 H2 m2 ys e2 s2 r2 ⟨l2, p2⟩ =>
    ⟨rfl, r2.length.trans l2, p2.sp (hE.mono e2) s2 ((hK ▸ hb).rep .nil r2) fun v' B' H' m' x e3 s3 r3 p3 => k v' B' H' m' x (e2.trans e3) s3 r3 p3⟩
  rw [← hK] at W
  exact .of (pg_callK0 G hgd (hr.mono hkk) hg hm hk hb (xt_passes hx) pk_sem hall hks hdb hpl) W
/-- o.m(..): o an instance of the class at C -/
def InsP (Z : Zs) (C : Addr) (mname : Str) (t : TV) (m : Mu) : Prop := ∀ B H v, Sta Z B H m → t.rep Z.K B v → ∃ a dx fs, v = .ref a ∧ H a = some (.ins C dx fs) ∧ fs.lookup mname = none
def MetK (P : Program) (w : World) (K : PySem.W.Frag) (mg : Str → Option Value) (base : Heap) (C : Addr) (mname : Str) (k : Nat) (T : TSpec) (dts : List TV) : Prop :=
  Cls K C ∧ ∃ (f : Addr) (fd : FuncData) (ps : List Str) (dvs : List V) (ds : List Value), Meth K C mname f ∧ FnG P w K mg base k f fd ps T ∧ Binds K fd ps ds ∧ Vals dvs ds ∧ Flat K dvs dts
def MetN (P : Program) (w : World) (K : PySem.W.Frag) (mg : Str → Option Value) (base : Heap) (C : Addr) (mname : Str) (k : Nat) (T : TSpec) (ks : List Str) (gT : List TV → List TV → List TV) : Prop :=
  Cls K C ∧ ∃ (f : Addr) (fd : FuncData) (ps : List Str) (g : List Value → List Value → List Value) (gV : List V → List V → List V), Meth K C mname f ∧ FnG P w K mg base k f fd ps T ∧ BindsK K fd ps 1 ks g gV gT
theorem we_meth {pl : Sem Bool} (F : MetK X.prog X.w X.K X.mg X.base C mname k T dts) (hgd : X.A.guards = some []) (hr : Room k' X.A) (hx : XT X Z xp) (h : We X Z o ρ m fun t m1 => InsP Z C mname t m1 ∧ Wa X Z (e :: es) ρ m1 fun xs m2 => FrP T (t :: (xs ++ dts)) m2 P (fun y m' => xp y ρ m')) (hkk : k ≤ k' := by decide) (hK : X.K = Z.K := by rfl)
    (hst : starEach (e :: es) X.env = (false, eval e X.env) :: starEach es X.env := by rfl) (hpl : (backTo pos (starEach es X.env)).any (·.1) = false := by rfl)
    (ht : eval (.Call (.Attribute o mname apos) (e :: es) [] pos) X.env = (do
      let ov ← eval o X.env
      standAt apos.atName
      let (f, first) ← holding [ov] (getMethod ov mname pl)
      callWith pos f first (backTo pos (starEach (e :: es) X.env)) (backToKw pos (keywordEach [] X.env))) := by rfl) : We X Z (.Call (.Attribute o mname apos) (e :: es) [] pos) ρ m P := by
  obtain ⟨c, f, fd, ps, dvs, ds, hM, G, hb, hd, hf⟩ := F
  have W : Wp Z (tMethX C mname (spOf Z.K T) dvs (xk Z ρ xp) (teS X o) (taS X (e :: es))) ρ m P := fun σ B H Q he hs k => we_sub h he hs fun v B1 H1 m1 t a1 b1 c1 d1 e1 => by
    obtain ⟨a, dx, fs, ev, ha, hl⟩ := e1.1 B1 H1 v c1 d1
    refine ⟨a, dx, fs, ev, ha, hl, e1.2 σ B1 H1 _ b1 c1 fun vs B2 H2 m2 xs a2 c2 r2 w2 => ?_⟩
    exact w2.sp (b1.mono a2) c2 (.cons (TV.mono a2 d1) (r2.append ((hK ▸ hf) B2))) fun v' B' H' m' x e3 s3 r3 p3 => k v' B' H' m' x ((a1.trans a2).trans e3) s3 r3 p3
  rw [← hK] at W
  exact .of (pg_meth pe_sem c hM G hgd (hr.mono hkk) hb hd (xt_passes hx) pa_sem hst hpl ht) W
theorem we_meth0 {pl : Sem Bool} (F : MetK X.prog X.w X.K X.mg X.base C mname k T dts) (hgd : X.A.guards = some []) (hr : Room k' X.A) (hx : XT X Z xp) (h : We X Z o ρ m fun t m1 => InsP Z C mname t m1 ∧ FrP T (t :: dts) m1 P (fun y m' => xp y ρ m')) (hkk : k ≤ k' := by decide) (hK : X.K = Z.K := by rfl)
    (ht : eval (.Call (.Attribute o mname apos) [] [] pos) X.env = (do
      let ov ← eval o X.env
      standAt apos.atName
      let (f, first) ← holding [ov] (getMethod ov mname pl)
      callWith pos f first (backTo pos (starEach [] X.env)) (backToKw pos (keywordEach [] X.env))) := by rfl) : We X Z (.Call (.Attribute o mname apos) [] [] pos) ρ m P := by
  obtain ⟨c, f, fd, ps, dvs, ds, hM, G, hb, hd, hf⟩ := F
  have W : Wp Z (tMethX C mname (spOf Z.K T) dvs (xk Z ρ xp) (teS X o) tNil) ρ m P := fun σ B H Q he hs k => we_sub h he hs fun v B1 H1 m1 t a1 b1 c1 d1 e1 => by
    obtain ⟨a, dx, fs, ev, ha, hl⟩ := e1.1 B1 H1 v c1 d1
    exact ⟨a, dx, fs, ev, ha, hl, (e1.2.sp b1 c1 (.cons d1 ((hK ▸ hf) B1)) fun v' B' H' m' x e3 s3 r3 p3 => k v' B' H' m' x (a1.trans e3) s3 r3 p3 : spOf Z.K T (v :: ([] ++ dvs)) H1 Q (xk Z ρ xp σ))⟩
  rw [← hK] at W
  exact .of (pg_meth0 pe_sem c hM G hgd (hr.mono hkk) hb hd (xt_passes hx) ht) W
theorem we_methK0 {pl : Sem Bool} (F : MetN X.prog X.w X.K X.mg X.base C mname k T ks gT) (hgd : X.A.guards = some []) (hr : Room k' X.A) (hx : XT X Z xp) (h : We X Z o ρ m fun t m1 => InsP Z C mname t m1 ∧ Wk X Z kws ρ m1 fun ys m2 => ys.length = ks.length ∧ FrP T (gT [t] ys) m2 P (fun y m' => xp y ρ m')) (hkk : k ≤ k' := by decide) (hK : X.K = Z.K := by rfl)
    (hall : (backToKw pos (keywordEach kws X.env)).all (·.1.isSome) = true := by rfl) (hks : (backToKw pos (keywordEach kws X.env)).filterMap (·.1) = ks := by rfl) (hpl : ((backTo pos (starEach [] X.env)).any (·.1) || (backToKw pos (keywordEach kws X.env)).any (·.1.isNone)) = false := by rfl)
    (ht : eval (.Call (.Attribute o mname apos) [] kws pos) X.env = (do
      let ov ← eval o X.env
      standAt apos.atName
      let (f, first) ← holding [ov] (getMethod ov mname pl)
      callWith pos f first (backTo pos (starEach [] X.env)) (backToKw pos (keywordEach kws X.env))) := by rfl) : We X Z (.Call (.Attribute o mname apos) [] kws pos) ρ m P := by
  obtain ⟨c, f, fd, ps, g, gV, hM, G, hb⟩ := F
  have W : Wp Z (tMethKw C mname (spOf Z.K T) ks.length gV (xk Z ρ xp) (teS X o) (tkS X kws)) ρ m P := fun σ B H Q he hs k => we_sub h he hs fun v B1 H1 m1 t a1 b1 c1 d1 e1 => by
    obtain ⟨a, dx, fs, ev, ha, hl⟩ := e1.1 B1 H1 v c1 d1
    subst ev
    refine ⟨a, dx, fs, rfl, ha, hl, e1.2 σ B1 H1 _ b1 c1 fun zs B2 H2 m2 ys a2 c2 r2 ⟨l2, w2⟩ => ⟨r2.length.trans l2, ?_⟩⟩
    exact w2.sp (b1.mono a2) c2 ((hK ▸ hb).rep (.cons (TV.mono a2 d1) .nil) r2) fun v' B' H' m' x e3 s3 r3 p3 => k v' B' H' m' x ((a1.trans a2).trans e3) s3 r3 p3
  rw [← hK] at W
  exact .of (pg_methK0 pe_sem c hM G hgd (hr.mono hkk) hb (xt_passes hx) pk_sem hall hks hpl ht) W
/-! C(..) -/
theorem FrP.last {xs : List TV} {p : Addr} {c : MV} {xp : XV → Mu → Prop} (h : T xs [(p, c)] (fun x mf' => P x (m ++ mf')) fun y mf' => xp y (m ++ mf')) : FrP T xs (m ++ [(p, c)]) P xp := .part (l1 := m) (mf := [(p, c)]) (l2 := []) (by simp) (by simpa using h)
theorem Sta.extra {B H : Hp} {q : Addr} {u : HO} (S : Sta Z B H m) (hq : H q = Option.none) : Sta Z B (upd H q u) m := by
  have hb := S.noneB hq
  refine ⟨⟨S.ex.off hb, S.hp.nd, fun i a c h => ?_⟩, ⟨S.go.ext, fun a v h n => ?_, fun a h => ?_, S.go.nw, S.go.ks⟩⟩
  · obtain ⟨h1, v, h2, h3⟩ := S.hp.at_ i a c h
    exact ⟨h1, v, by rw [upd_ne (ne_of_none h2 hq)]; exact h2, h3⟩
  · have := S.go.keep a v h n
    rw [upd_ne (ne_of_none this hq)]; exact this
  · by_cases e : a = q
    · subst e; rw [upd_same]; exact fun z => nomatch z
    · rw [upd_ne e]; exact S.go.dom a h
theorem under_guards {A : Around} {C : Addr} {us : List Value} {kw : List (Str × Value)} : (A.under (.builtin "type.__call__" ⟨.ref C :: us, kw⟩)).guards = A.guards := by
  first | rfl | simp [Around.under, Code.guards, Code.isGuard, guardIds, pushGuards]
/-- what stands of a class that is made: its __init__'s promise -/
def MakK (P : Program) (w : World) (K : PySem.W.Frag) (mg : Str → Option Value) (base : Heap) (x : Str) (C : Addr) (k : Nat) (T : TSpec) (dts : List TV) : Prop :=
  mg x = some (.ref C) ∧ ∃ (f : Addr) (fd : FuncData) (ps : List Str) (dvs : List V) (ds : List Value), Mk K C f ∧ FnG P w K mg base k f fd ps T ∧ Binds K fd ps ds ∧ Vals dvs ds ∧ Flat K dvs dts
theorem g_make {pins : List (Addr × Obj)} {σ : L2.St} {H : Hp} {s : Shared} {Q : VK} {E : XK} {us : List Value} {vs : List V} (M : Mk X.K C f) (F : FnG X.prog X.w X.K X.mg X.base k f fd ps T) (hg : X.A.guards = some []) (hr : Room (k + 1) X.A) (hb : Binds X.K fd ps ds) (hd : Vals dvs ds)
    (hx : PassesAt (L2.CX X.prog X.w) X σ E) (I : Inv X pins σ H s) (r : Vals vs us)
    (h : ∀ a dx, H a = Option.none → H dx = Option.none → dx ≠ a → spOf X.K T (.ref a :: (vs ++ dvs)) (upd (upd H dx (.own a)) a (.ins C dx [])) (fun v H2 => v = .non ∧ Q (.ref a) H2) E) :
    wpAny (model X.prog X.w) X.A (call (.ref C) us) (EP X pins σ Q) X.xe s := by
  have hq := h (s.heap.objs.size + 1) s.heap.objs.size (I.hok.fresh (Nat.le_succ _)) (I.hok.fresh (Nat.le_refl _)) (Nat.ne_of_lt (Nat.lt_succ_self _))
  have J := Inv.made (C := C) I
  have rv : Vals (V.ref (s.heap.objs.size + 1) :: (vs ++ dvs)) (Value.ref (s.heap.objs.size + 1) :: (us ++ ds)) := .cons (show RelV (V.ref _) (Value.ref _) from rfl) (r.append hd)
  have ln : (Value.ref (s.heap.objs.size + 1) :: (us ++ ds)).length = ps.length := rv.length.symm.trans (spOf_len F.len hq)
  have go := F.run _ X.stack _ _ ⟨Value.ref (s.heap.objs.size + 1) :: us, []⟩ (Value.ref (s.heap.objs.size + 1) :: (us ++ ds)) _ _ E (under_guards.trans hg) (hr.make C us []) (J.env0.make C us []) (hb _ (Value.ref (s.heap.objs.size + 1) :: us) J.kIn ln) rv hq
  refine wpAny_call (make_map (f := f) I.kIn M.makes M.init (beq_iff_eq.mp M.fn) (codeAny_mono go fun r s' q => ?_))
  match r, q with
  | .error er, q => exact hx pins _ _ er s' J q
  | .ok (.ret u), q =>
    obtain ⟨v, H', I3, rv, ev, q3⟩ := J.after q
    subst ev
    exact ⟨rv, ⟨V.ref (s.heap.objs.size + 1), H', I3, rfl, q3⟩⟩
  | .ok .next, q => exact q.elim
  | .ok .brk, q => exact q.elim
  | .ok .cont, q => exact q.elim
theorem make_sp {xs : List TV} {vs : List V} {B H : Hp} {Q : VK} (hf : Flat Z.K dvs dts) (h : ∀ a, FrP T (tv (Ref.mk a) :: (xs ++ dts)) (m ++ [(a, mI C [])]) (fun t m2 => t = tv () ∧ P (tv (Ref.mk a)) m2) fun y m' => xp y ρ m') {σ : L2.St} (he : EnvOk Z.K B σ ρ) (S : Sta Z B H m) (r : Reps Z.K B vs xs)
    (k : ∀ v B' H' m' x, Ex B B' → Sta Z B' H' m' → TV.rep Z.K B' v x → P x m' → Q v H') : ∀ a dx, H a = Option.none → H dx = Option.none → dx ≠ a →
      spOf Z.K T (.ref a :: (vs ++ dvs)) (upd (upd H dx (.own a)) a (.ins C dx [])) (fun v H2 => v = .non ∧ Q (.ref a) H2) (xk Z ρ xp σ) := fun a dx ha hdx ne => by
  have s1 : Sta Z B (upd H dx (.own a)) m := S.extra hdx
  have h1 : upd H dx (.own a) a = Option.none := by rw [upd_ne (Ne.symm ne)]; exact ha
  have s2 := s1.newM (o := .ins C dx []) h1 (c := mI C []) ⟨dx, [], rfl, .nil⟩
  refine (h a).sp he s2 (.cons (show V.ref a = .ref a from rfl) (r.append (hf B))) fun v B' H' m' x e s3 r3 ⟨e1, p⟩ => ?_
  subst e1
  exact ⟨r3, k (.ref a) B' H' m' (tv (Ref.mk a)) e s3 (show V.ref a = .ref a from rfl) p⟩
theorem we_make (F : MakK X.prog X.w X.K X.mg X.base x C k T dts) (hgd : X.A.guards = some []) (hr : Room k' X.A) (hx : XT X Z xp) (h : Wa X Z (e :: es) ρ m fun xs m1 => ∀ a, FrP T (tv (Ref.mk a) :: (xs ++ dts)) (m1 ++ [(a, mI C [])]) (fun t m2 => t = tv () ∧ P (tv (Ref.mk a)) m2) fun y m' => xp y ρ m') (hkk : k + 1 ≤ k' := by decide) (hK : X.K = Z.K := by rfl) (hg : Gl X x := by rfl) (hdb : (x == ("__debug__" : Str)) = false := by decide)
    (he : starEach (e :: es) X.env = (false, eval e X.env) :: starEach es X.env := by rfl) (hpl : (backTo pos (starEach es X.env)).any (·.1) = false := by rfl) : We X Z (.Call (.Name x p) (e :: es) [] pos) ρ m P := by
  obtain ⟨hm, f, fd, ps, dvs, ds, M, G, hb, hd, hf⟩ := F
  refine fun σ B H Q hE hs k pins s I => wpAny_Call_Name_kw (ld_glob I hg hm ?_ hdb)
  refine PySem.W.callWith_K (h₀ := X.base) I.ok.mod.kin M.kp (h σ B H (fun vs H1 => ∀ a dx, H1 a = Option.none → H1 dx = Option.none → dx ≠ a → spOf Z.K T (.ref a :: (vs ++ dvs)) (upd (upd H1 dx (.own a)) a (.ins C dx [])) (fun v H2 => v = .non ∧ Q (.ref a) H2) (xk Z ρ xp σ))
    hE hs (fun vs B1 H1 m1 xs e1 s1 r1 w1 => make_sp (hK ▸ hf) w1 (hE.mono e1) s1 r1 fun v' B' H' m' x e3 s3 r3 p3 => k v' B' H' m' x (e1.trans e3) s3 r3 p3) pos pins s I |> fun w => thn w fun us s1 ⟨vs, H1, I1, r, q⟩ => ⟨I1.kIn, ?_⟩) he hpl
  exact g_make M G hgd (hr.mono hkk) hb hd (xt_passes hx σ) I1 r (hK ▸ q)
theorem we_make0 (F : MakK X.prog X.w X.K X.mg X.base x C k T dts) (hgd : X.A.guards = some []) (hr : Room k' X.A) (hx : XT X Z xp) (h : ∀ a, FrP T (tv (Ref.mk a) :: dts) (m ++ [(a, mI C [])]) (fun t m2 => t = tv () ∧ P (tv (Ref.mk a)) m2) fun y m' => xp y ρ m') (hkk : k + 1 ≤ k' := by decide) (hK : X.K = Z.K := by rfl) (hg : Gl X x := by rfl) (hdb : (x == ("__debug__" : Str)) = false := by decide) :
    We X Z (.Call (.Name x p) [] [] pos) ρ m P := by
  obtain ⟨hm, f, fd, ps, dvs, ds, M, G, hb, hd, hf⟩ := F
  refine fun σ B H Q hE hs k pins s I => wpAny_Call_Name_kw (ld_glob I hg hm (PySem.W.callWith_K0 I.kIn M.kp ?_) hdb)
  have q := make_sp (xs := []) (hK ▸ hf) h hE hs .nil fun v' B' H' m' x e3 s3 r3 p3 => k v' B' H' m' x e3 s3 r3 p3
  exact g_make (us := []) (vs := []) M G hgd (hr.mono hkk) hb hd (xt_passes hx σ) I .nil (hK ▸ q)
end
/-! ### a def's body -/
theorem envOk_start {K : PySem.W.Frag} {B : Hp} {N : List Str} {vs : List V} {xs : List TV} (r : Reps K B vs xs) : EnvOk K B (start N vs) (xs.map some ++ List.replicate (N.length - xs.length) none) := by
  refine ⟨by simp [L2.start, r.length], fun i t h => ?_⟩
  by_cases hi : i < xs.length
  · rw [List.getElem?_append_left (by simpa using hi), List.getElem?_map] at h
    cases e : xs[i]? with
    | none => rw [e] at h; cases h
    | some y =>
      rw [e] at h
      cases h
      obtain ⟨v, hv, q⟩ := r.at' e
      refine ⟨v, ?_, q⟩
      unfold L2.start
      rw [List.getElem?_append_left (by rw [List.length_map, r.length]; exact hi), List.getElem?_map, hv]
      rfl
  · rw [List.getElem?_append_right (by simpa using hi), List.getElem?_replicate] at h
    split at h <;> cases h
section
variable {P : Program} {w : World} {K : PySem.W.Frag} {mg : Str → Option Value} {base : Heap} {x qual : Str} {params : Arguments} {body : List Stmt} {scope : Scope} {dvs : List V} {kws : List (Str × V)} {f : Addr} {fd : FuncData}
/-- the context of a def's body -/
abbrev bodyX (P : Program) (w : World) (K : PySem.W.Frag) (mg : Str → Option Value) (base : Heap) (N : List Str) (qual : Str) (scope : Scope) (f : Addr) (cdv : Value) (A : Around) (outer : List Env) (s : Shared) (H : Hp) (E : XK) : Cx :=
  cxOf (L2.CX P w) P w K mg base N qual scope f cdv A outer s H E
theorem fn_ok {N ps : List Str} {k : Nat} {T : TSpec} (F : FunD K x qual params body scope dvs kws f fd) (S : FnScope N ps scope) (len : ∀ xs m post xpost, T xs m post xpost → xs.length = ps.length)
    (hbody : ∀ (cdv : Value) (A : Around) (outer : List Env) (s : Shared) (H : Hp) (E : XK) (B0 H0 : Hp) (xs : List TV) (m : Mu) (post : TV → Mu → Prop) (xpost : XV → Mu → Prop), (bodyX P w K mg base N qual scope f cdv A outer s H E).A.guards = some [] → Room k (bodyX P w K mg base N qual scope f cdv A outer s H E).A → T xs m post xpost →
      XT (bodyX P w K mg base N qual scope f cdv A outer s H E) ⟨K, B0, H0, m⟩ (fun y _ m' => xpost y m') →
      Wss (bodyX P w K mg base N qual scope f cdv A outer s H E) ⟨K, B0, H0, m⟩ body (xs.map some ++ List.replicate (N.length - xs.length) none) m { nx := fun _ m' => post (tv ()) m', rt := post }) :
    FnG P w K mg base (k + 1) f fd ps T := by
  obtain ⟨oc, od, dV, kV, doc, pm, an, cdv, ct, osl, rfl, lk, hcd, _, _⟩ := F.ex
  refine ⟨len, fun A outer s H args us vs Q E hg hr e0 hb r hsp => ?_⟩
  obtain ⟨B, m, xs, post, xpost, ok, rr, t, k1, k2⟩ := id hsp
  have hl := spOf_len len hsp
  have KX : K.In s.heap := e0.mod.kin.keeps fun b o e => (e0.bs b o e).1
  refine codeAny_call_function hr.depth (KX _ _ lk) rfl S.co S.gen rfl (PySem.W.codeRec_of KX hcd) (hb _ _ _ _ ?_)
  refine wpAny_newFunctionEnv_cells S.kind (fun y hy => ?_) fun env he s1 x1 => ?_
  · rcases S.par y.1 (List.of_mem_zip (a := y.1) (b := y.2) hy).1 with q | q
    · exact .inl q
    · exact .inr ⟨q, PySem.W.cellsFrom_some _ _ _ (.inl q)⟩
  subst he
  refine ⟨(e0.mod.nolimit.keeps fun b o e => (e0.bs b o e).1).keeps x1.toInCall.keep, codeAny_func ?_⟩
  have I : Inv (bodyX P w K mg base N qual scope f cdv A outer s H E) [] (L2.start N vs) H s1 := inv_start S hr.hd e0 hl r x1
  have W := hbody cdv A outer s H E B H xs m post xpost hg (hr.deeper _) t ((takes_of (E := E) rfl rfl rfl rfl).imp fun c d σ H' ⟨_, B', m', y, _, s', ry, p⟩ => k2 c d B' H' m' y s'.go s'.hp ry p)
  have go := W (L2.start N vs) B H { nx := fun _ H' => Q .non H', rt := Q } (envOk_start rr) ⟨ok, .refl⟩ ⟨fun s' B' H' r' m' a b c d => k1 .non B' H' m' (tv ()) c.go c.hp (show V.non = .non from rfl) d,
    fun v B' H' m' x a b c d => k1 v B' H' m' x b.go b.hp c d, fun _ _ _ _ _ _ _ _ z => z.elim, fun _ _ _ _ _ _ _ _ z => z.elim⟩ [] s1 I
  refine wpAny_mono go (fun fl s' hs => ?_) fun e s' hs => hs
  match fl, hs with
  | .ret u, ⟨v, σ', H', J, rv, q⟩ => exact ⟨v, H', J.os, J.bare, J.base, J.hok, rv, q⟩
  | .next, ⟨σ', H', J, q⟩ => exact ⟨.non, H', J.os, J.bare, J.base, J.hok, rfl, q⟩
  | .brk, ⟨σ', H', J, q⟩ => exact q.elim
  | .cont, ⟨σ', H', J, q⟩ => exact q.elim
/-- every parameter is given -/
theorem defK_mk {k : Nat} {T : TSpec} {ps : List Str} {params : Arguments} {body : List Stmt} {scope : Scope} {kws : List (Str × V)} (F : FunD K x qual params body scope [] kws f fd) (G : FnG P w K mg base k f fd ps T) (hm : mg x = some (.ref f))
    (h : ∀ (kV doc pm : Value) (an : Option Addr) (cdv ct : Value) (us : List Value), us.length = ps.length → bindArgs (PySem.W.fnOf x qual params body scope .none kV doc pm an cdv ct) ⟨us, []⟩ = pure (ps.zip us)) : DefK P w K mg base x k T [] :=
  ⟨f, fd, ps, [], [], G, hm, F.kp, F.bindsN h, .nil, flat0⟩
end
end Ty

set_option Elab.async false
set_option linter.all false
set_option maxRecDepth 100000
set_option maxHeartbeats 2000000
namespace Ty
open PySem PySem.Spec PyProof.Rows L2

/-! ### what is walked -/
def TIt (Z : Zs) (J : It) (items : List TV) (Gd : Mu → Prop) (B : Hp) : Prop := ∀ B' H' m', Ex B B' → Sta Z B' H' m' → Gd m' →
  (∀ i t, items[i]? = some t → J.go i H' ∧ ∀ x H'', J.yld i H' x H'' → ∃ B'', Ex B' B'' ∧ Sta Z B'' H'' m' ∧ t.rep Z.K B'' x) ∧ J.stop items.length H'
def WpI (Z : Zs) (wi : TI) (ρ : TEnv) (m : Mu) (R : List TV → (Mu → Prop) → Mu → Prop) : Prop := ∀ (σ : L2.St) (B H : Hp) (Q : It → Hp → Prop), EnvOk Z.K B σ ρ → Sta Z B H m →
  (∀ J B' H' m' items Gd, Ex B B' → Sta Z B' H' m' → TIt Z J items Gd B' → R items Gd m' → Q J H') → wi σ H Q
def tiS (X : Cx) (tg iter : Expr) : TI := fun σ H R => ∀ (pins : List (Addr × Obj)) (s : Shared), Inv X pins σ H s → wpAny (model X.prog X.w) X.A (eval iter X.env) (fun v s1 => wpAny (model X.prog X.w) X.A (pyIter v) (PIE X pins σ tg R) X.xe s1) X.xe s
theorem pi_sem {X : Cx} {tg iter : Expr} : PI X tg iter (tiS X tg iter) := ⟨fun pins s _ _ _ I h => h pins s I⟩
abbrev Wi (X : Cx) (Z : Zs) (tg iter : Expr) (ρ : TEnv) (m : Mu) (R : List TV → (Mu → Prop) → Mu → Prop) : Prop := WpI Z (tiS X tg iter) ρ m R
section
variable {X : Cx} {Z : Zs} {ρ : TEnv} {m : Mu} {D : DE} {P : TV → Mu → Prop} {R : List TV → (Mu → Prop) → Mu → Prop} {tg iter : Expr}
theorem Wi.of {wi : TI} (h : PI X tg iter wi) (w : WpI Z wi ρ m R) : Wi X Z tg iter ρ m R := fun σ B H Q a b c pins s I => h.run pins s σ H Q I (w σ B H Q a b c)
def gd0 : Mu → Prop := fun _ => True
/-- a list, by what it holds -/
inductive IterL (Z : Zs) (R : List TV → (Mu → Prop) → Mu → Prop) (t : TV) (m : Mu) : Prop
  | data {α : Type} [Rep α] {xs : List α} : t = tv xs → R (xs.map fun x => tv x) gd0 m → IterL Z R t m
  | own {p : Addr} {i : Nat} {ts : List TV} : t = tv (Ref.mk p) → m[i]? = some (p, mL ts) → R ts (fun (m' : Mu) => ∃ j : Nat, m'[j]? = some (p, mL ts)) m → IterL Z R t m
theorem get_map {α β : Type _} {f : α → β} {xs : List α} {i : Nat} {t : β} (h : (xs.map f)[i]? = some t) : ∃ x, xs[i]? = some x ∧ t = f x := by
  rw [List.getElem?_map] at h
  cases e : xs[i]? with
  | none => rw [e] at h; cases h
  | some x => rw [e] at h; cases h; exact ⟨x, rfl, rfl⟩
theorem mL_at {B H : Hp} {p : Addr} {i : Nat} {ts : List TV} (S : Sta Z B H m) (h : m[i]? = some (p, mL ts)) : ∃ vs, H p = some (.lst vs) ∧ Reps Z.K B vs ts := by
  obtain ⟨_, o, ho, vs, e, r⟩ := S.hp.at_ i p _ h
  subst e
  exact ⟨vs, ho, r⟩
theorem wi_list (h : We X Z iter ρ m fun t m1 => IterL Z R t m1) (hK : X.K = Z.K := by rfl) : Wi X Z tg iter ρ m R := by
  refine .of (pi_list pe_sem) fun σ B H Q he hs k => we_sub h he hs fun v B1 H1 m1 t a1 b1 c1 d1 e1 => ?_
  rw [hK]
  rcases e1 with @⟨α, ri, xs, et, r⟩ | @⟨p, i, ts, et, hi, r⟩
  · subst et
    obtain ⟨a, vs, ev, hb, pr⟩ : ∃ a vs, v = .ref a ∧ B1 a = some (.lst vs) ∧ Paired (Rep.rep Z.K B1) vs xs := d1
    refine ⟨a, ev, ⟨vs, .of (c1.ex _ _ hb)⟩, k _ B1 H1 m1 _ gd0 a1 c1 (fun B' H' m' e s _ => ⟨fun i t ht => ?_, ?_⟩) r⟩
    · obtain ⟨x, hx, rfl⟩ := get_map ht
      obtain ⟨u, hu, ru⟩ := Paired.at' pr hx
      have hl : SqL Z.K H' a vs := .of (s.ex _ _ (e _ _ hb))
      refine ⟨⟨vs, u, hl, hu⟩, fun y H'' hy => ?_⟩
      obtain ⟨rfl, hy⟩ := hy
      have := hy vs hl
      rw [hu] at this
      cases this
      exact ⟨B', Ex.refl _, s, Rep.mono e ru⟩
    · exact ⟨vs, .of (s.ex _ _ (e _ _ hb)), by rw [List.length_map, pr.length]; exact Nat.le_refl _⟩
  · subst et
    have ev : v = .ref p := d1
    obtain ⟨vs, hv, rv⟩ := mL_at c1 hi
    refine ⟨p, ev, ⟨vs, .of hv⟩, k _ B1 H1 m1 ts _ a1 c1 (fun B' H' m' e s ⟨j, hj⟩ => ?_) r⟩
    obtain ⟨ws, hw, rw'⟩ := mL_at s hj
    refine ⟨fun i t ht => ?_, ⟨ws, .of hw, by rw [rw'.length]; exact Nat.le_refl _⟩⟩
    obtain ⟨u, hu, ru⟩ := rw'.at' ht
    refine ⟨⟨ws, u, .of hw, hu⟩, fun y H'' hy => ?_⟩
    obtain ⟨rfl, hy⟩ := hy
    have := hy ws (.of hw)
    rw [hu] at this
    cases this
    exact ⟨B', Ex.refl _, s, ru⟩
/-- a tuple -/
theorem wi_tup (h : We X Z iter ρ m fun t m1 => ∃ ts, TupU t ts ∧ R ts gd0 m1) (hK : X.K = Z.K := by rfl) : Wi X Z tg iter ρ m R := by
  refine .of (pi_tup pe_sem) fun σ B H Q he hs k => we_sub h he hs fun v B1 H1 m1 t a1 b1 c1 d1 e1 => ?_
  rw [hK]
  obtain ⟨ts, hu, r⟩ := e1
  obtain ⟨a, vs, ev, hq, rr⟩ := hu _ _ _ d1
  refine ⟨a, ev, ⟨vs, c1.ex.seqT hq⟩, k _ B1 H1 m1 ts gd0 a1 c1 (fun B' H' m' e s _ => ⟨fun i t ht => ?_, ?_⟩) r⟩
  · obtain ⟨u, hu, ru⟩ := rr.at' ht
    have hl : SqT Z.K H' a vs := (e.trans s.ex).seqT hq
    refine ⟨⟨vs, u, hl, hu⟩, fun y H'' hy => ?_⟩
    obtain ⟨rfl, hy⟩ := hy
    have := hy vs hl
    rw [hu] at this
    cases this
    exact ⟨B', Ex.refl _, s, TV.mono e ru⟩
  · exact ⟨vs, (e.trans s.ex).seqT hq, by rw [rr.length]; exact Nat.le_refl _⟩
theorem tupUN {α : Type} [Rep α] {xs : List α} : TupU (tv (Tup.mk xs)) (xs.map fun x => tv x) := fun K B v ⟨a, vs, h1, h2, h3⟩ => ⟨a, vs, h1, h2, Reps.of_paired h3⟩
/-- lo, lo + 1, .., n of them -/
def rngT (lo : Int) (n : Nat) : List TV := (List.range n).map fun (k : Nat) => tv (lo + (k : Int))
theorem rng_len (lo : Int) (n : Nat) : (rngT lo n).length = n := by simp [rngT]
theorem rng_at {lo : Int} {n i : Nat} {t : TV} (h : (rngT lo n)[i]? = some t) : i < n ∧ t = tv (lo + (i : Int)) := by
  have hi : i < n := by
    have := (List.getElem?_eq_some_iff.mp h).1
    rw [rng_len] at this; exact this
  unfold rngT at h
  rw [List.getElem?_map, List.getElem?_range hi] at h
  cases h
  exact ⟨hi, rfl⟩
theorem tit_range {B : Hp} {lo : Int} {n : Nat} : TIt Z (Itr lo n) (rngT lo n) gd0 B := fun B' H' m' e s _ => by
  refine ⟨fun i t ht => ?_, by rw [rng_len]; exact Nat.le_refl _⟩
  obtain ⟨hi, rfl⟩ := rng_at ht
  exact ⟨hi, fun x H'' ⟨e1, e2⟩ => ⟨B', Ex.refl _, e1 ▸ s, e2⟩⟩
theorem wi_range1 {a : Expr} {p pos : Pos} (hm : X.mg "range" = none) (h : We X Z a ρ m fun t m1 => ∃ n : Int, t = tv n ∧ -(2 ^ 62) ≤ n ∧ n < 2 ^ 62 ∧ R (rngT 0 n.toNat) gd0 m1) (hg : Gl X "range" := by rfl) (hs : starEach [a] X.env = [(false, eval a X.env)] := by rfl) :
    Wi X Z tg (.Call (.Name "range" p) [a] [] pos) ρ m R :=
  .of (pi_range1 hg hm (pa_cons pe_sem pa_nil hs) hs) fun σ B H Q he hs k => we_sub h he hs fun v B1 H1 m1 t a1 b1 c1 d1 ⟨n, et, h1, h2, r⟩ => by
    subst et
    have ev : v = .int n := d1
    subst ev
    exact ⟨n, rfl, h1, h2, k _ B1 H1 m1 _ gd0 a1 c1 tit_range r⟩
theorem wi_range2 {a b : Expr} {p pos : Pos} (hm : X.mg "range" = none) (h : We X Z a ρ m fun t m1 => We X Z b ρ m1 fun u m2 => ∃ i j : Int, t = tv i ∧ u = tv j ∧ (-(2 ^ 62) ≤ i ∧ i < 2 ^ 62 ∧ -(2 ^ 62) ≤ j ∧ j < 2 ^ 62) ∧ R (rngT i (j - i).toNat) gd0 m2)
    (hg : Gl X "range" := by rfl) (hs : starEach [a, b] X.env = [(false, eval a X.env), (false, eval b X.env)] := by rfl) (hs2 : starEach [b] X.env = [(false, eval b X.env)] := by rfl) :
    Wi X Z tg (.Call (.Name "range" p) [a, b] [] pos) ρ m R :=
  .of (pi_range2 hg hm (pa_cons pe_sem (pa_cons pe_sem pa_nil hs2) (by rw [hs, hs2])) hs hs2) fun σ B H Q he hs k => we_sub h he hs fun v B1 H1 m1 t a1 b1 c1 d1 e1 => we_sub e1 b1 c1 fun u B2 H2 m2 t2 a2 b2 c2 d2 ⟨i, j, et, eu, hb, r⟩ => by
    subst et; subst eu
    have ev : v = .int i := d1
    have ev2 : u = .int j := d2
    subst ev; subst ev2
    exact ⟨i, j, rfl, hb, k _ B2 H2 m2 _ gd0 (a1.trans a2) c2 tit_range r⟩

/-! ### for -/
def ForP (X : Cx) (Z : Zs) (tg : Expr) (body : List Stmt) (ρ : TEnv) (D : DE) (items : List TV) (Gd : Mu → Prop) (m : Mu) : Prop := ∃ I : Nat → TEnv → Mu → Prop, I 0 ρ m ∧ (∀ i ρ' m', I i ρ' m' → Gd m') ∧
  (∀ i t ρ' m', items[i]? = some t → I i ρ' m' → Wg X Z tg t ρ' m' fun ρ2 m2 => Wss X Z body ρ2 m2 { nx := I (i + 1), rt := D.rt, bk := D.nx, ct := I (i + 1) }) ∧ ∀ ρ' m', I items.length ρ' m' → D.nx ρ' m'
theorem ws_for {body : List Stmt} {pos : Pos} (h : Wi X Z tg iter ρ m (ForP X Z tg body ρ D)) (hp : PassesOwn (model X.prog X.w) X.A X.env X.xe) (hc : X.calm = true) (hs : ∀ x, foldedSetIterable iter X.env x = pure x := by intro _; rfl) : Ws X Z (.For tg iter body [] pos) ρ m D :=
  .of (ps_for hp hc pi_sem pg_sem pss_sem hs) fun σ B H E he hS k => h σ B H _ he hS fun J B1 H1 m1 items Gd a1 c1 ti ⟨I, h0, hG, hstep, hd⟩ => by
    refine ⟨fun i μ σ' H' => μ = items.length - i ∧ i ≤ items.length ∧ ∃ B' ρ' m', Ex B1 B' ∧ EnvOk Z.K B' σ' ρ' ∧ Sta Z B' H' m' ∧ I i ρ' m', ⟨items.length, by simp, Nat.zero_le _, B1, ρ, m1, Ex.refl _, he.mono a1, c1, h0⟩, ?_⟩
    rintro i μ σ' H' ⟨rfl, hi, B', ρ', m', e', E', s', hI⟩
    obtain ⟨tgo, tst⟩ := ti B' H' m' e' s' (hG i ρ' m' hI)
    by_cases hlt : i < items.length
    · obtain ⟨t, ht⟩ : ∃ t, items[i]? = some t := ⟨items[i], by simp [hlt]⟩
      obtain ⟨go, yl⟩ := tgo i t ht
      refine .inr ⟨go, fun σ2 H2 => ∃ B2 ρ2 m2, Ex B1 B2 ∧ EnvOk Z.K B2 σ2 ρ2 ∧ Sta Z B2 H2 m2 ∧ I (i + 1) ρ2 m2, fun σ2 H2 q => ⟨items.length - (i + 1), by omega, rfl, hlt, q⟩, fun x H2 hy => ?_⟩
      obtain ⟨B2, e2, s2, r2⟩ := yl x H2 hy
      refine hstep i t ρ' m' ht hI σ' B2 H2 x _ (E'.mono e2) s2 r2 fun σ3 B3 H3 ρ3 m3 e3 E3 s3 w3 => ?_
      have e13 : Ex B1 B3 := (e'.trans e2).trans e3
      refine w3 σ3 B3 H3 _ E3 s3 ⟨fun σ4 B4 H4 ρ4 m4 e4 E4 s4 p4 => ⟨B4, ρ4, m4, e13.trans e4, E4, s4, p4⟩, fun v B4 H4 m4 y e4 s4 r4 p4 => k.rt v B4 H4 m4 y ((a1.trans e13).trans e4) s4 r4 p4, fun σ4 B4 H4 ρ4 m4 e4 E4 s4 p4 => k.nx σ4 B4 H4 ρ4 m4 ((a1.trans e13).trans e4) E4 s4 p4, fun σ4 B4 H4 ρ4 m4 e4 E4 s4 p4 => ⟨B4, ρ4, m4, e13.trans e4, E4, s4, p4⟩⟩
    · have ei : i = items.length := by omega
      subst ei
      exact .inl ⟨tst, k.nx σ' B' H' ρ' m' (a1.trans e') E' s' (hd ρ' m' hI)⟩
theorem own_passes {P : Program} {w : World} {K : PySem.W.Frag} {mg : Str → Option Value} {base : Heap} {N : List Str} {qual : Str} {scope : Scope} {f : Addr} {cdv : Value} {A : Around} {outer : List Env} {s : Shared} {H : Hp} {E : XK} :
    PassesOwn (model P w) (bodyX P w K mg base N qual scope f cdv A outer s H E).A (bodyX P w K mg base N qual scope f cdv A outer s H E).env (bodyX P w K mg base N qual scope f cdv A outer s H E).xe := passes_of (X := bodyX P w K mg base N qual scope f cdv A outer s H E) rfl
/-- for over things of one kind -/
theorem forp_map {α : Type} [Rep α] {xs : List α} {body : List Stmt} {Gd : Mu → Prop} (I : Nat → TEnv → Mu → Prop) (h0 : I 0 ρ m) (hG : ∀ i ρ' m', I i ρ' m' → Gd m')
    (hs : ∀ i x ρ' m', xs[i]? = some x → I i ρ' m' → Wg X Z tg (tv x) ρ' m' fun ρ2 m2 => Wss X Z body ρ2 m2 { nx := I (i + 1), rt := D.rt, bk := D.nx, ct := I (i + 1) }) (hd : ∀ ρ' m', I xs.length ρ' m' → D.nx ρ' m') :
    ForP X Z tg body ρ D (xs.map fun x => tv x) Gd m := ⟨I, h0, hG, fun i t ρ' m' ht hI => by obtain ⟨x, hx, rfl⟩ := get_map ht; exact hs i x ρ' m' hx hI, fun ρ' m' hI => hd ρ' m' (by simpa using hI)⟩
theorem forp_rng {lo : Int} {n : Nat} {body : List Stmt} (I : Nat → TEnv → Mu → Prop) (h0 : I 0 ρ m)
    (hs : ∀ (i : Nat) ρ' m', i < n → I i ρ' m' → Wg X Z tg (tv (lo + (i : Int))) ρ' m' fun ρ2 m2 => Wss X Z body ρ2 m2 { nx := I (i + 1), rt := D.rt, bk := D.nx, ct := I (i + 1) }) (hd : ∀ ρ' m', I n ρ' m' → D.nx ρ' m') :
    ForP X Z tg body ρ D (rngT lo n) gd0 m := ⟨I, h0, fun _ _ _ _ => trivial, fun i t ρ' m' ht hI => by obtain ⟨hi, rfl⟩ := rng_at ht; exact hs i ρ' m' hi hI, fun ρ' m' hI => hd ρ' m' (by rw [rng_len] at hI; exact hI)⟩
/-- while: an invariant and a number that falls -/
theorem ws_while {c : Expr} {body : List Stmt} {pos : Pos} (I : Nat → TEnv → Mu → Prop) (n : Nat) (h0 : I n ρ m) (hs : ∀ n ρ' m', I n ρ' m' → Wt X Z c ρ' m' fun b m1 => (b = true → Wss X Z body ρ' m1 { nx := fun ρ2 m2 => ∃ k, k < n ∧ I k ρ2 m2, rt := D.rt, bk := D.nx, ct := fun ρ2 m2 => ∃ k, k < n ∧ I k ρ2 m2 }) ∧ (b = false → D.nx ρ' m1))
    (hp : PassesOwn (model X.prog X.w) X.A X.env X.xe) : Ws X Z (.While c body [] pos) ρ m D :=
  .of (ps_while hp pt_sem pss_sem) fun σ B H E he hS k => by
    refine ⟨fun μ σ' H' => ∃ B' ρ' m', Ex B B' ∧ EnvOk Z.K B' σ' ρ' ∧ Sta Z B' H' m' ∧ I μ ρ' m', ⟨n, B, ρ, m, Ex.refl _, he, hS, h0⟩, ?_⟩
    rintro μ σ' H' ⟨B', ρ', m', e', E', s', hI⟩
    refine hs μ ρ' m' hI σ' B' H' _ E' s' fun b B1 H1 m1 e1 s1 p1 => ?_
    cases b with
    | false => exact iteF (k.nx σ' B1 H1 ρ' m1 (e'.trans e1) (E'.mono e1) s1 (p1.2 rfl))
    | true =>
      refine iteT ⟨fun σ2 H2 => ∃ j, j < μ ∧ ∃ B2 ρ2 m2, Ex B B2 ∧ EnvOk Z.K B2 σ2 ρ2 ∧ Sta Z B2 H2 m2 ∧ I j ρ2 m2, fun σ2 H2 q => q, ?_⟩
      refine p1.1 rfl σ' B1 H1 _ (E'.mono e1) s1 ⟨fun σ4 B4 H4 ρ4 m4 e4 E4 s4 ⟨j, hj, p4⟩ => ⟨j, hj, B4, ρ4, m4, (e'.trans e1).trans e4, E4, s4, p4⟩, fun v B4 H4 m4 y e4 s4 r4 p4 => k.rt v B4 H4 m4 y ((e'.trans e1).trans e4) s4 r4 p4,
        fun σ4 B4 H4 ρ4 m4 e4 E4 s4 p4 => k.nx σ4 B4 H4 ρ4 m4 ((e'.trans e1).trans e4) E4 s4 p4, fun σ4 B4 H4 ρ4 m4 e4 E4 s4 ⟨j, hj, p4⟩ => ⟨j, hj, B4, ρ4, m4, (e'.trans e1).trans e4, E4, s4, p4⟩⟩

/-! ### list comprehensions -/
def wipeT (ρ : TEnv) : List Nat → TEnv
  | [] => ρ
  | v :: vs => (wipeT ρ vs).set v none
theorem EnvOk.unset {K : PySem.W.Frag} {B : Hp} {σ : L2.St} {ρ : TEnv} (h : EnvOk K B σ ρ) (i : Nat) : EnvOk K B (σ.set i none) (ρ.set i none) := by
  refine ⟨by rw [List.length_set, List.length_set]; exact h.len, fun j u q => ?_⟩
  by_cases e : i = j
  · subst e
    by_cases hi : i < ρ.length
    · rw [List.getElem?_set_self hi] at q
      cases q
    · rw [List.getElem?_eq_none (by rw [List.length_set]; omega)] at q
      cases q
  · rw [List.getElem?_set_ne e] at q ⊢
    exact h.sl j u q
theorem EnvOk.wipe {K : PySem.W.Frag} {B : Hp} {σ : L2.St} {ρ : TEnv} (h : EnvOk K B σ ρ) : ∀ vs : List Nat, EnvOk K B (L2.wipe σ vs) (wipeT ρ vs)
  | [] => h
  | v :: vs => (EnvOk.wipe h vs).unset v
theorem wipe_set {v : Option V} {i : Nat} : ∀ {vs : List Nat} {σ : L2.St}, i ∈ vs → L2.wipe (σ.set i v) vs = L2.wipe σ vs
  | [], _, h => by cases h
  | w :: vs, σ, h => by
    unfold L2.wipe
    by_cases e : i ∈ vs
    · rw [wipe_set e]
    · have ew : i = w := by
        rcases List.mem_cons.mp h with z | z
        · exact z
        · exact absurd z e
      subst ew
      have aux : ∀ (us : List Nat) (τ : L2.St), i ∉ us → L2.wipe (τ.set i v) us = (L2.wipe τ us).set i v := by
        intro us
        induction us with
        | nil => intro τ _; rfl
        | cons u us ih =>
          intro τ hu
          unfold L2.wipe
          rw [ih τ fun z => hu (List.mem_cons_of_mem _ z), List.set_comm _ _ fun z => hu (by rw [z]; exact List.mem_cons_self)]
      rw [aux vs σ e, List.set_set]
theorem wipe_idem : ∀ {vs : List Nat} {σ : L2.St}, L2.wipe (L2.wipe σ vs) vs = L2.wipe σ vs := by
  intro vs
  have aux : ∀ (us vs : List Nat) (σ : L2.St), (∀ u ∈ us, u ∈ vs) → L2.wipe (L2.wipe σ us) vs = L2.wipe σ vs := by
    intro us
    induction us with
    | nil => intro vs σ _; rfl
    | cons u us ih =>
      intro vs σ h
      show L2.wipe ((L2.wipe σ us).set u none) vs = _
      rw [wipe_set (h u List.mem_cons_self), ih vs σ fun z hz => h z (List.mem_cons_of_mem _ hz)]
  exact fun {σ} => aux vs vs σ fun _ h => h
/-- the block's context -/
abbrev blkX (X : Cx) (scope : Scope) (s : Shared) (H : Hp) (C : Addr) (cl : List (Str × Addr)) (fp : List Addr) : Cx := X.blk s H scope (compEnvC scope cl C X.env) fp
def teB (X : Cx) (scope : Scope) (e : Expr) : TE := fun σ H Q => ∀ (s0 : Shared) (H0 : Hp) (C : Addr) (cl : List (Str × Addr)) (fp : List Addr), teS (blkX X scope s0 H0 C cl fp) e σ H Q
def ttsS (X : Cx) (ifs : List Expr) : TT := fun σ H Q => ∀ (pins : List (Addr × Obj)) (s : Shared), Inv X pins σ H s → wpAny (model X.prog X.w) X.A (forIn ifs true fun c r => if r = true then do let ok ← isTrue c X.env (eval c X.env); pure (ForInStep.yield ok) else pure (ForInStep.yield r)) (TP X pins σ Q) X.xe s
theorem pts_sem {X : Cx} {ifs : List Expr} : PTs X ifs (ttsS X ifs) := ⟨fun pins s _ _ _ I h => h pins s I⟩
def tisB (X : Cx) (scope : Scope) (ifs : List Expr) : TT := fun σ H Q => ∀ (s0 : Shared) (H0 : Hp) (C : Addr) (cl : List (Str × Addr)) (fp : List Addr), ttsS (blkX X scope s0 H0 C cl fp) ifs σ H Q
abbrev Wts (X : Cx) (Z : Zs) (ifs : List Expr) (ρ : TEnv) (m : Mu) (P : Bool → Mu → Prop) : Prop := WpT Z (ttsS X ifs) ρ m P
theorem wts_nil {PB : Bool → Mu → Prop} (h : PB true m) : Wts X Z [] ρ m PB := fun σ B H Q he hs k pins s I => pts_nil.run pins s σ H Q I (k true B H m (Ex.refl _) hs h)
theorem wts_one {PB : Bool → Mu → Prop} {c : Expr} (h : Wt X Z c ρ m PB) : Wts X Z [c] ρ m PB := fun σ B H Q he hs k pins s I => (pts_one pt_sem).run pins s σ H Q I (h σ B H Q he hs k)
/-- what is to be shown of the turns: ρb: what the block's names stand for at an item -/
def LcP (X : Cx) (Z : Zs) (elt : Expr) (ifs : List Expr) (scope : Scope) (ρb : TV → TEnv → Prop) (P : TV → Mu → Prop) (items : List TV) (Gd : Mu → Prop) (m : Mu) : Prop := ∃ I : Nat → List TV → Mu → Prop, I 0 [] m ∧ (∀ i acc m', I i acc m' → acc.length ≤ i) ∧ items.length ≤ 1000000 ∧
  (∀ i acc m' p, I i acc m' → Gd (m' ++ [(p, mL acc)])) ∧
  (∀ (s0 : Shared) (H0 : Hp) (C : Addr) (cl : List (Str × Addr)) (fp : List Addr) (i : Nat) (t : TV) (acc : List TV) (m' : Mu) (p : Addr) (ρ' : TEnv), items[i]? = some t → I i acc m' → ρb t ρ' →
    Wts (blkX X scope s0 H0 C cl fp) Z ifs ρ' (m' ++ [(p, mL acc)]) fun b m3 => (b = true → ∀ (s0 : Shared) (H0 : Hp) (C : Addr) (cl : List (Str × Addr)) (fp : List Addr), We (blkX X scope s0 H0 C cl fp) Z elt ρ' m3 fun y m4 => ∃ m5, m4 = m5 ++ [(p, mL acc)] ∧ I (i + 1) (acc ++ [y]) m5) ∧
      (b = false → ∃ m5, m3 = m5 ++ [(p, mL acc)] ∧ I (i + 1) acc m5)) ∧ ∀ acc m', I items.length acc m' → LstP P acc m'
/-- how the target takes an item: the slots -/
def TgtN (X : Cx) (Z : Zs) (scope : Scope) (tg : Expr) (vs : List Nat) (ρ : TEnv) (ρb : TV → TEnv → Prop) (items : List TV) : Prop := ∃ g : TG, (∀ (s : Shared) (H : Hp) (C : Addr) (cl : List (Str × Addr)) (fp : List Addr), PG (blkX X scope s H C cl fp) tg g) ∧
  ∀ (t : TV) (σ : L2.St) (B H : Hp) (v : V) (m : Mu) (Q : L2.St → Hp → Prop), t ∈ items → EnvOk Z.K B (L2.wipe σ vs) (wipeT ρ vs) → Sta Z B H m → t.rep Z.K B v →
    (∀ σ2 ρ2, L2.wipe σ2 vs = L2.wipe σ vs → EnvOk Z.K B σ2 ρ2 → ρb t ρ2 → Q σ2 H) → g v (L2.wipe σ vs) H Q
theorem snoc_inj {m m5 : Mu} {x y : Addr × MV} (h : m ++ [x] = m5 ++ [y]) : m = m5 ∧ x = y := by
  have := List.append_inj' h rfl
  exact ⟨this.1, by simpa using this.2⟩
theorem wp_lc {elt : Expr} {ifs : List Expr} {scope : Scope} {own : List (Str × Nat)} {ρb : TV → TEnv → Prop} {g : TG} {wi : TI}
    (hi : WpI Z wi ρ m fun items Gd m1 => LcP X Z elt ifs scope ρb P items Gd m1 ∧ ∀ (t : TV) (σ : L2.St) (B H : Hp) (v : V) (m : Mu) (Q : L2.St → Hp → Prop), t ∈ items → EnvOk Z.K B (L2.wipe σ (own.map (·.2))) (wipeT ρ (own.map (·.2))) → Sta Z B H m → t.rep Z.K B v →
      (∀ σ2 ρ2, L2.wipe σ2 (own.map (·.2)) = L2.wipe σ (own.map (·.2)) → EnvOk Z.K B σ2 ρ2 → ρb t ρ2 → Q σ2 H) → g v (L2.wipe σ (own.map (·.2))) H Q) :
    Wp Z (tLc wi g (tisB X scope ifs) (teB X scope elt) (own.map (·.2))) ρ m P := fun σ B H Q he hS k => hi σ B H _ he hS fun J B1 H1 m1 items Gd a1 c1 ti hR => by
  obtain ⟨⟨I, h0, hlen, hsz, hG, hstep, hd⟩, hgt⟩ := hR
  intro p hp
  have s0 : Sta Z B1 (upd H1 p (.lst [])) (m1 ++ [(p, mL [])]) := c1.newM hp (c := mL []) ⟨[], rfl, .nil⟩
  refine ⟨fun i μ H' => μ = items.length - i ∧ i ≤ items.length ∧ ∃ B' m' acc, Ex B1 B' ∧ Sta Z B' H' (m' ++ [(p, mL acc)]) ∧ I i acc m', ⟨items.length, by simp, Nat.zero_le _, B1, m1, [], Ex.refl _, s0, h0⟩, ?_⟩
  rintro i μ H' ⟨rfl, hi, B', m', acc, e', s', hI⟩
  obtain ⟨tgo, tst⟩ := ti B' H' _ e' s' (hG i acc m' p hI)
  by_cases hlt : i < items.length
  · obtain ⟨t, ht⟩ : ∃ t, items[i]? = some t := ⟨items[i], by simp [hlt]⟩
    obtain ⟨go, yl⟩ := tgo i t ht
    refine .inr ⟨go, fun H2 => ∃ B2 m2 acc2, Ex B1 B2 ∧ Sta Z B2 H2 (m2 ++ [(p, mL acc2)]) ∧ I (i + 1) acc2 m2, fun H2 q => ⟨items.length - (i + 1), by omega, rfl, hlt, q⟩, fun x H2 hy => ?_⟩
    obtain ⟨B2, e2, s2, r2⟩ := yl x H2 hy
    have Ew : EnvOk Z.K B2 (L2.wipe σ (own.map (·.2))) (wipeT ρ (own.map (·.2))) := (he.mono (a1.trans (e'.trans e2))).wipe _
    refine hgt t σ B2 H2 x _ _ (List.mem_of_getElem? ht) Ew s2 r2 fun σ3 ρ3 w3 E3 hb3 => ⟨w3, ?_⟩
    refine fun s00 H00 C cl fp => hstep s00 H00 C cl fp i t acc m' p ρ3 ht hI hb3 σ3 B2 H2 _ E3 s2 fun b B3 H3 m3 e3 s3 q3 => ?_
    cases b with
    | false =>
      obtain ⟨m5, em, hI5⟩ := q3.2 rfl
      subst em
      exact iteF ⟨B3, m5, acc, (e'.trans e2).trans e3, s3, hI5⟩
    | true =>
      refine iteT fun s01 H01 C1 cl1 fp1 => q3.1 rfl s01 H01 C1 cl1 fp1 σ3 B3 H3 _ (E3.mono e3) s3 fun v B4 H4 m4 y e4 s4 r4 q4 => ?_
      obtain ⟨m5, em, hI5⟩ := q4
      subst em
      have hix : (m5 ++ [(p, mL acc)])[m5.length]? = some (p, mL acc) := by simp
      obtain ⟨vs, hv, rv⟩ := mL_at s4 hix
      refine ⟨vs, hv, ?_, B4, m5, acc ++ [y], ((e'.trans e2).trans e3).trans e4, ?_, hI5⟩
      · have h1 := hlen i acc m' hI
        have h2 := rv.length
        have h3 : sizeLine = 16777216 := sizeLine_eq
        omega
      · have := s4.write (o := .lst (vs ++ [v])) (d := mL (acc ++ [y])) hix ⟨_, rfl, rv.append (.cons r4 .nil)⟩
        rw [List.set_append_right _ _ (Nat.le_refl _), Nat.sub_self] at this
        exact this
  · have ei : i = items.length := by omega
    subst ei
    refine .inl ⟨tst, ?_⟩
    have hix : (m' ++ [(p, mL acc)])[m'.length]? = some (p, mL acc) := by simp
    obtain ⟨vs, hv, rv⟩ := mL_at s' hix
    have s2 := s'.freeze hix hv
    have hb : B' p = none := (s'.hp.at_ _ _ _ hix).1
    rw [List.eraseIdx_append_of_length_le (Nat.le_refl _), Nat.sub_self] at s2
    have s3 : Sta Z (upd B' p (.lst vs)) H' m' := by simpa using s2
    rcases hd acc m' hI with @⟨α, ri, ys, ex, q⟩ | q | q
    · subst ex
      have hr : TV.rep Z.K (upd B' p (.lst vs)) (.ref p) (tv ys) := ⟨p, vs, rfl, upd_same, Paired.monoR (Ex.new hb) (Reps.to_paired rv)⟩
      exact k (.ref p) _ H' m' (tv ys) ((a1.trans e').trans (Ex.new hb)) s3 hr q
    · exact k (.ref p) _ H' m' (hl acc) ((a1.trans e').trans (Ex.new hb)) s3 (show TV.rep Z.K (upd B' p (.lst vs)) (.ref p) (hl acc) from ⟨p, vs, rfl, upd_same, rv.mono (Ex.new hb)⟩) q
    · exact k (.ref p) B' H' _ (tv (Ref.mk p)) (a1.trans e') s' (show V.ref p = .ref p from rfl) (q p)
end
end Ty

set_option Elab.async false
set_option linter.all false
set_option maxRecDepth 100000
set_option maxHeartbeats 2000000
namespace Ty
open PySem PySem.Spec PyProof.Rows L2
section
variable {X : Cx} {Z : Zs} {ρ : TEnv} {m : Mu} {D : DE} {P : TV → Mu → Prop} {R : List TV → (Mu → Prop) → Mu → Prop} {elt tg iter : Expr} {ifs : List Expr} {scope : Scope} {own : List (Str × Nat)} {pos spos : Pos}
abbrev ownIx (own : List (Str × Nat)) : List Nat := own.map (·.2)
/-- the block's names behind the store of an item: one name; two names -/
def rb1 (ρ : TEnv) (own : List (Str × Nat)) (i : Nat) : TV → TEnv → Prop := fun t ρ' => ρ' = (wipeT ρ (ownIx own)).set i (some t)
def rb2 (ρ : TEnv) (own : List (Str × Nat)) (i j : Nat) (α β : Type) [Rep α] [Rep β] : TV → TEnv → Prop := fun t ρ' => ∃ (a : α) (b : β), t = tv (a, b) ∧ ρ' = ((wipeT ρ (ownIx own)).set i (some (tv a))).set j (some (tv b))
theorem we_lc1 (i : Nat) {x : Str} {px : Pos} (h : Wi X Z (.Name x px) iter ρ m (LcP X Z elt ifs scope (rb1 ρ own i) P)) (hc : X.calm = true) (hN : X.N.Nodup) (ok : BlkOk X.N X.env.scope scope own) (hi : X.N[i]? = some x := by rfl) (hio : i ∈ ownIx own := by decide)
    (hx : ∀ (s : Shared) (H : Hp) (C : Addr) (cl : List (Str × Addr)) (fp : List Addr), Loc (blkX X scope s H C cl fp).env.scope x := by first | exact fun _ _ _ _ _ => Or.inl rfl | exact fun _ _ _ _ _ => Or.inr rfl)
    (hf : ∀ (s : Shared) (H : Hp) (C : Addr) (cl : List (Str × Addr)) (fp : List Addr), (blkX X scope s H C cl fp).fn x = true ∨ (blkX X scope s H C cl fp).env.scope.names.lookup x = some .local := by first | exact fun _ _ _ _ _ => Or.inr rfl | exact fun _ _ _ _ _ => Or.inl rfl)
    (hs : ∀ x, foldedSetIterable iter X.env x = pure x := by intro _; rfl) : We X Z (.ListComp elt [⟨.Name x px, iter, ifs, 0⟩] scope pos) ρ m P :=
  .of (pe_lc (own := own) (g := gName i) (tt := tisB X scope ifs) (te := teB X scope elt) hc hN pi_sem ok (fun s H C cl fp => pg_name (X := blkX X scope s H C cl fp) hN hi (hx s H C cl fp) (hf s H C cl fp))
    (fun s H C cl fp => ⟨fun pins s' σ H' Q I h => h s H C cl fp pins s' I⟩) (fun s H C cl fp => ⟨fun pins s' σ H' Q I h => h s H C cl fp pins s' I⟩) hs)
    (wp_lc (ρb := rb1 ρ own i) fun σ B H Q he hS k => h σ B H Q he hS fun J B' H' m' items Gd a b c d => k J B' H' m' items Gd a b c ⟨d, fun t σ B H v m Q _ E S r q => q _ _ (by rw [wipe_set hio, wipe_idem]) (E.set i r) rfl⟩)
theorem ws_lc1 (l i : Nat) {y x : Str} {py px : Pos} (h : Wi X Z (.Name x px) iter ρ m (LcP X Z elt ifs scope (rb1 ρ own i) fun t m' => D.nx (ρ.set l (some t)) m')) (hc : X.calm = true) (hN : X.N.Nodup) (ok : BlkOk X.N X.env.scope scope own) (hy : X.N[l]? = some y := by rfl) (hyl : X.env.scope.names.lookup y = some .local := by rfl)
    (hsw : swapsWith (.ListComp elt [⟨.Name x px, iter, ifs, 0⟩] scope pos) (some (.Name y py)) spos.line X.env = pure true := by exact sw_true rfl rfl rfl (by decide +kernel)) (hi : X.N[i]? = some x := by rfl) (hio : i ∈ ownIx own := by decide)
    (hx : ∀ (s : Shared) (H : Hp) (C : Addr) (cl : List (Str × Addr)) (fp : List Addr), Loc (blkX X scope s H C cl fp).env.scope x := by first | exact fun _ _ _ _ _ => Or.inl rfl | exact fun _ _ _ _ _ => Or.inr rfl)
    (hf : ∀ (s : Shared) (H : Hp) (C : Addr) (cl : List (Str × Addr)) (fp : List Addr), (blkX X scope s H C cl fp).fn x = true ∨ (blkX X scope s H C cl fp).env.scope.names.lookup x = some .local := by first | exact fun _ _ _ _ _ => Or.inr rfl | exact fun _ _ _ _ _ => Or.inl rfl)
    (hs : ∀ x, foldedSetIterable iter X.env x = pure x := by intro _; rfl) : Ws X Z (.Assign [.Name y py] (.ListComp elt [⟨.Name x px, iter, ifs, 0⟩] scope pos) spos) ρ m D :=
  .of (ps_setLc (own := own) (g := gName i) (tt := tisB X scope ifs) (te := teB X scope elt) hc hN hy hyl hsw pi_sem ok (fun s H C cl fp => pg_name (X := blkX X scope s H C cl fp) hN hi (hx s H C cl fp) (hf s H C cl fp))
    (fun s H C cl fp => ⟨fun pins s' σ H' Q I h => h s H C cl fp pins s' I⟩) (fun s H C cl fp => ⟨fun pins s' σ H' Q I h => h s H C cl fp pins s' I⟩) hs)
    fun σ B H E he hS k => by
      have w := wp_lc (X := X) (ρb := rb1 ρ own i) (g := gName i) (wi := tiS X (.Name x px) iter) (own := own) (P := fun t m' => D.nx (ρ.set l (some t)) m')
        fun σ B H Q he hS k => h σ B H Q he hS fun J B' H' m' items Gd a b c d => k J B' H' m' items Gd a b c ⟨d, fun t σ B H v m Q _ E S r q => q _ _ (by rw [wipe_set hio, wipe_idem]) (E.set i r) rfl⟩
      exact w σ B H (fun v H' => E.nx (σ.set l (some v)) H') he hS fun v B' H' m' t a b c d => k.nx _ B' H' _ m' a ((he.mono a).set l c) b d
/-- over things of one kind; nothing else changes, an item gives f of it -/
theorem lcp_map {α β : Type} [Rep α] [Rep β] {xs : List α} {Gd : Mu → Prop} {i : Nat} (f : α → β) (hsz : xs.length ≤ 1000000) (hG : ∀ acc p, Gd (m ++ [(p, mL acc)]))
    (h : ∀ (s0 : Shared) (H0 : Hp) (C : Addr) (cl : List (Str × Addr)) (fp : List Addr) (L : Mu) (x : α), x ∈ xs → We (blkX X scope s0 H0 C cl fp) Z elt ((wipeT ρ (ownIx own)).set i (some (tv x))) (m ++ L) fun y m4 => y = tv (f x) ∧ m4 = m ++ L)
    (hP : P (tv (xs.map f)) m) : LcP X Z elt [] scope (rb1 ρ own i) P (xs.map fun x => tv x) Gd m := by
  refine ⟨fun k acc m' => m' = m ∧ acc = ((xs.take k).map f).map fun y => tv y, ⟨rfl, by simp⟩, ?_, by simpa using hsz, ?_, ?_, ?_⟩
  · rintro k acc m' ⟨_, rfl⟩
    simp
    omega
  · rintro k acc m' p ⟨rfl, _⟩
    exact hG acc p
  · rintro s0 H0 C cl fp k t acc m' p ρ' ht ⟨rfl, rfl⟩ rfl
    obtain ⟨x, hx, rfl⟩ := get_map ht
    refine wts_nil ⟨fun _ s1 H1 C1 cl1 fp1 => (h s1 H1 C1 cl1 fp1 _ x (List.mem_of_getElem? hx)).imp ?_, fun z => nomatch z⟩
    rintro y m4 ⟨rfl, rfl⟩
    refine ⟨m', rfl, rfl, ?_⟩
    rw [List.take_add_one, hx]
    simp
  · rintro acc m' ⟨rfl, rfl⟩
    refine .data (ys := xs.map f) ?_ hP
    rw [List.length_map, List.take_length]
/-- .. with a test -/
theorem lcp_filter {α β : Type} [Rep α] [Rep β] {xs : List α} {Gd : Mu → Prop} {i : Nat} {c : Expr} (p : α → Bool) (f : α → β) (hsz : xs.length ≤ 1000000) (hG : ∀ acc p, Gd (m ++ [(p, mL acc)]))
    (ht : ∀ (s0 : Shared) (H0 : Hp) (C : Addr) (cl : List (Str × Addr)) (fp : List Addr) (L : Mu) (x : α), x ∈ xs → Wt (blkX X scope s0 H0 C cl fp) Z c ((wipeT ρ (ownIx own)).set i (some (tv x))) (m ++ L) fun b m4 => b = p x ∧ m4 = m ++ L)
    (h : ∀ (s0 : Shared) (H0 : Hp) (C : Addr) (cl : List (Str × Addr)) (fp : List Addr) (L : Mu) (x : α), x ∈ xs → p x = true → We (blkX X scope s0 H0 C cl fp) Z elt ((wipeT ρ (ownIx own)).set i (some (tv x))) (m ++ L) fun y m4 => y = tv (f x) ∧ m4 = m ++ L)
    (hP : P (tv ((xs.filter p).map f)) m) : LcP X Z elt [c] scope (rb1 ρ own i) P (xs.map fun x => tv x) Gd m := by
  refine ⟨fun k acc m' => m' = m ∧ acc = (((xs.take k).filter p).map f).map fun y => tv y, ⟨rfl, by simp⟩, ?_, by simpa using hsz, ?_, ?_, ?_⟩
  · rintro k acc m' ⟨_, rfl⟩
    rw [List.length_map, List.length_map]
    exact Nat.le_trans (List.length_filter_le _ _) (by simp; omega)
  · rintro k acc m' p ⟨rfl, _⟩
    exact hG acc p
  · rintro s0 H0 C cl fp k t acc m' q ρ' htt ⟨rfl, rfl⟩ rfl
    obtain ⟨x, hx, rfl⟩ := get_map htt
    refine wts_one ((ht s0 H0 C cl fp _ x (List.mem_of_getElem? hx)).imp ?_)
    rintro b m3 ⟨rfl, rfl⟩
    refine ⟨fun hb s1 H1 C1 cl1 fp1 => (h s1 H1 C1 cl1 fp1 _ x (List.mem_of_getElem? hx) hb).imp ?_, fun hb => ⟨m', rfl, rfl, ?_⟩⟩
    · rintro y m4 ⟨rfl, rfl⟩
      refine ⟨m', rfl, rfl, ?_⟩
      rw [List.take_add_one, hx]
      simp [hb]
    · rw [List.take_add_one, hx]
      simp [hb]
  · rintro acc m' ⟨rfl, rfl⟩
    refine .data (ys := (xs.filter p).map f) ?_ hP
    rw [List.length_map, List.take_length]
end
end Ty

set_option Elab.async false
set_option linter.all false
set_option maxRecDepth 100000
set_option maxHeartbeats 2000000
namespace Ty
open PySem PySem.Spec PyProof.Rows L2
/-- the item at an index, of any sign -/
def atT {α : Type _} (xs : List α) (i : Int) : Option α := (ixN xs.length i).bind fun j => xs[j]?
theorem line_of {n : Nat} (h : n ≤ 16000000) : n ≤ sizeLine := Nat.le_trans h (by decide)
section
variable {X : Cx} {Z : Zs} {m : Mu} {P : TV → Mu → Prop}
/-! ### whole numbers -/
theorem rep_int {K : PySem.W.Frag} {B : Hp} (n : Int) : TV.rep K B (.int n) (tv n) := (rfl : V.int n = .int n)
theorem rep_bool {K : PySem.W.Frag} {B : Hp} (n : Bool) : TV.rep K B (.bl n) (tv n) := (rfl : V.bl n = .bl n)
theorem rep_str {K : PySem.W.Frag} {B : Hp} (n : Str) : TV.rep K B (.str n) (tv n) := (rfl : V.str n = .str n)
theorem OpP.int {f : Value → Value → Sem Value} {g : Int → Int → Int} {i j : Int} (ho : OpR X f (rI0 fun i j => .int (g i j))) (h : P (tv (g i j)) m) : OpP X Z f (tv i) (tv j) m P := .of ho fun B H Q v u hs hv hu k => ⟨i, j, hv, hu, k _ B H m _ (Ex.refl _) hs (rep_int _) h⟩
theorem OpP.intC {f : Value → Value → Sem Value} {C : Int → Int → Prop} {g : Int → Int → Int} {i j : Int} (ho : OpR X f (rI C fun i j => .int (g i j))) (hc : C i j) (h : P (tv (g i j)) m) : OpP X Z f (tv i) (tv j) m P := .of ho fun B H Q v u hs hv hu k => ⟨i, j, hv, hu, hc, k _ B H m _ (Ex.refl _) hs (rep_int _) h⟩
theorem OpP.bool {f : Value → Value → Sem Value} {g : Int → Int → Bool} {i j : Int} (ho : OpR X f (rI0 fun i j => .bl (g i j))) (h : P (tv (g i j)) m) : OpP X Z f (tv i) (tv j) m P := .of ho fun B H Q v u hs hv hu k => ⟨i, j, hv, hu, k _ B H m _ (Ex.refl _) hs (rep_bool _) h⟩
variable {i j : Int}
theorem add_ii (h : P (tv (i + j)) m) : OpP X Z (binaryOp .Add) (tv i) (tv j) m P := .int op_add h
theorem sub_ii (h : P (tv (i - j)) m) : OpP X Z (binaryOp .Sub) (tv i) (tv j) m P := .int op_sub h
theorem mul_ii (hc : CMul i j) (h : P (tv (i * j)) m) : OpP X Z (binaryOp .Mult) (tv i) (tv j) m P := .intC op_mul hc h
theorem fdiv_ii (hc : 0 < j ∧ j < 1073741824) (h : P (tv (i / j)) m) : OpP X Z (binaryOp .FloorDiv) (tv i) (tv j) m P := .intC op_fdiv hc h
theorem mod_ii (hc : 0 < j) (h : P (tv (i % j)) m) : OpP X Z (binaryOp .Mod) (tv i) (tv j) m P := .intC op_mod hc h
theorem pow_ii (hc : CPow i j) (h : P (tv (i ^ j.toNat)) m) : OpP X Z (binaryOp .Pow) (tv i) (tv j) m P := .intC op_pow hc h
theorem shl_ii (hc : CPow i j) (h : P (tv (i * 2 ^ j.toNat)) m) : OpP X Z (binaryOp .LShift) (tv i) (tv j) m P := .intC op_shl hc h
theorem shr_ii (hc : 0 ≤ j) (h : P (tv (i / 2 ^ j.toNat)) m) : OpP X Z (binaryOp .RShift) (tv i) (tv j) m P := .intC op_shr hc h
theorem and_ii (h : P (tv (Builtin.bitAnd i j)) m) : OpP X Z (binaryOp .BitAnd) (tv i) (tv j) m P := .int op_and h
theorem or_ii (h : P (tv (Builtin.bitOr i j)) m) : OpP X Z (binaryOp .BitOr) (tv i) (tv j) m P := .int op_or h
theorem xor_ii (h : P (tv (Builtin.bitXor i j)) m) : OpP X Z (binaryOp .BitXor) (tv i) (tv j) m P := .int op_xor h
theorem lt_ii (h : P (tv (decide (i < j))) m) : OpP X Z (compareOp .Lt) (tv i) (tv j) m P := .bool op_lt h
theorem le_ii (h : P (tv (decide (i ≤ j))) m) : OpP X Z (compareOp .LtE) (tv i) (tv j) m P := .bool op_le h
theorem gt_ii (h : P (tv (decide (j < i))) m) : OpP X Z (compareOp .Gt) (tv i) (tv j) m P := .bool op_gt h
theorem ge_ii (h : P (tv (decide (j ≤ i))) m) : OpP X Z (compareOp .GtE) (tv i) (tv j) m P := .bool op_ge h
/-! ### == of flat things -/
class Fl (α : Type) [Rep α] where
  v : α → V
  eq : ∀ {K B w x}, Rep.rep K B w x → w = v x
instance : Fl Int := ⟨V.int, fun h => h⟩
instance : Fl Bool := ⟨V.bl, fun h => h⟩
instance : Fl Str := ⟨V.str, fun h => h⟩
instance : Fl Unit := ⟨fun _ => V.non, fun h => h⟩
theorem eq_fl {α β : Type} [Rep α] [Rep β] [Fl α] [Fl β] {x : α} {y : β} (hs : scal (Fl.v x) (Fl.v y) = true) (h : P (tv (decide (Fl.v x = Fl.v y))) m) : OpP X Z (compareOp .Eq) (tv x) (tv y) m P :=
  .of op_eq fun B H Q v u hS hv hu k => by
    rw [show v = Fl.v x from Fl.eq hv, show u = Fl.v y from Fl.eq hu]
    exact ⟨hs, k _ B H m _ (Ex.refl _) hS (rep_bool _) h⟩
theorem ne_fl {α β : Type} [Rep α] [Rep β] [Fl α] [Fl β] {x : α} {y : β} (hs : scal (Fl.v x) (Fl.v y) = true) (h : P (tv (!decide (Fl.v x = Fl.v y))) m) : OpP X Z (compareOp .NotEq) (tv x) (tv y) m P :=
  .of op_ne fun B H Q v u hS hv hu k => by
    rw [show v = Fl.v x from Fl.eq hv, show u = Fl.v y from Fl.eq hu]
    exact ⟨hs, k _ B H m _ (Ex.refl _) hS (rep_bool _) h⟩
theorem eq_ii (h : P (tv (decide (i = j))) m) : OpP X Z (compareOp .Eq) (tv i) (tv j) m P := eq_fl rfl (by
  have e : decide (Fl.v i = Fl.v j) = decide (i = j) := decide_eq_decide.mpr ⟨fun q => V.int.inj q, fun q => congrArg V.int q⟩
  rw [e]; exact h)
theorem ne_ii (h : P (tv (!decide (i = j))) m) : OpP X Z (compareOp .NotEq) (tv i) (tv j) m P := ne_fl rfl (by
  have e : decide (Fl.v i = Fl.v j) = decide (i = j) := decide_eq_decide.mpr ⟨fun q => V.int.inj q, fun q => congrArg V.int q⟩
  rw [e]; exact h)
variable {x y : Str}
theorem eq_ss (h : P (tv (decide (x = y))) m) : OpP X Z (compareOp .Eq) (tv x) (tv y) m P := eq_fl rfl (by
  have e : decide (Fl.v x = Fl.v y) = decide (x = y) := decide_eq_decide.mpr ⟨fun q => V.str.inj q, fun q => congrArg V.str q⟩
  rw [e]; exact h)
theorem ne_ss (h : P (tv (!decide (x = y))) m) : OpP X Z (compareOp .NotEq) (tv x) (tv y) m P := ne_fl rfl (by
  have e : decide (Fl.v x = Fl.v y) = decide (x = y) := decide_eq_decide.mpr ⟨fun q => V.str.inj q, fun q => congrArg V.str q⟩
  rw [e]; exact h)
/-! ### is None -/
def IsNone (t : TV) (b : Bool) : Prop := ∀ K B v, t.rep K B v → decide (v = .non) = b
theorem isN {t : TV} {b : Bool} (ht : IsNone t b) (h : P (tv b) m) : OpP X Z (compareOp .Is) t (tv ()) m P := .of op_isN fun B H Q v u hS hv hu k => ⟨hu, by
  rw [ht _ _ _ hv]
  exact k _ B H m _ (Ex.refl _) hS (rep_bool _) h⟩
theorem notN {t : TV} {b : Bool} (ht : IsNone t b) (h : P (tv (!b)) m) : OpP X Z (compareOp .IsNot) t (tv ()) m P := .of op_notN fun B H Q v u hS hv hu k => ⟨hu, by
  rw [ht _ _ _ hv]
  exact k _ B H m _ (Ex.refl _) hS (rep_bool _) h⟩
theorem none_unit {u : Unit} : IsNone (tv u) true := fun _ _ v h => by rw [show v = .non from h]; rfl
theorem none_int {i : Int} : IsNone (tv i) false := fun _ _ v h => by rw [show v = .int i from h]; rfl
theorem none_bool {i : Bool} : IsNone (tv i) false := fun _ _ v h => by rw [show v = .bl i from h]; rfl
theorem none_str {i : Str} : IsNone (tv i) false := fun _ _ v h => by rw [show v = .str i from h]; rfl
theorem none_list {α : Type} [Rep α] {xs : List α} : IsNone (tv xs) false := fun _ _ v ⟨a, _, h, _⟩ => by rw [h]; rfl
theorem none_tup {α : Type} [Rep α] {xs : Tup α} : IsNone (tv xs) false := fun _ _ v ⟨a, _, h, _⟩ => by rw [h]; rfl
theorem none_pair {α β : Type} [Rep α] [Rep β] {x : α × β} : IsNone (tv x) false := fun _ _ v ⟨a, _, _, h, _⟩ => by rw [h]; rfl
theorem none_p4 {α β γ δ : Type} [Rep α] [Rep β] [Rep γ] [Rep δ] {x : P4 α β γ δ} : IsNone (tv x) false := fun _ _ v ⟨a, _, _, _, _, h, _⟩ => by rw [h]; rfl
theorem none_ref {r : Ref} : IsNone (tv r) false := fun _ _ v h => by rw [show v = .ref r.a from h]; rfl
/-! ### texts -/
theorem add_ss (hz : x.length + y.length ≤ 16000000) (h : P (tv (x ++ y)) m) : OpP X Z (binaryOp .Add) (tv x) (tv y) m P := .of op_add_str fun B H Q v u hS hv hu k =>
  ⟨x, y, hv, hu, line_of hz, k _ B H m _ (Ex.refl _) hS (rep_str _) h⟩
theorem le_ss (h : P (tv (!decide (y.cps.toList < x.cps.toList))) m) : OpP X Z (compareOp .LtE) (tv x) (tv y) m P := .of op_le_str fun B H Q v u hS hv hu k =>
  ⟨x, y, hv, hu, k _ B H m _ (Ex.refl _) hS (rep_bool _) h⟩
theorem in_cs {c : Nat} (h : P (tv (decide (c ∈ y.cps.toList))) m) : OpP X Z (compareOp .In) (tv (⟨#[c]⟩ : Str)) (tv y) m P := .of op_in_sign fun B H Q v u hS hv hu k =>
  ⟨c, y, hv, hu, k _ B H m _ (Ex.refl _) hS (rep_bool _) h⟩
theorem notIn_cs {c : Nat} (h : P (tv (!decide (c ∈ y.cps.toList))) m) : OpP X Z (compareOp .NotIn) (tv (⟨#[c]⟩ : Str)) (tv y) m P := .of op_notIn_sign fun B H Q v u hS hv hu k =>
  ⟨c, y, hv, hu, k _ B H m _ (Ex.refl _) hS (rep_bool _) h⟩
theorem ix_s {c : Nat} (hz : x.length ≤ 16000000) (hi : atT x.cps.toList i = some c) (h : P (tv (⟨#[c]⟩ : Str)) m) : IxP X Z (tv x) (tv i) m P := .of ix_str fun B H Q v u hS hv hu k =>
  ⟨x, i, c, hv, hu, line_of hz, hi, k _ B H m _ (Ex.refl _) hS (rep_str _) h⟩
theorem sl_s {lo hi : Option Int} (hz : x.length ≤ 16000000) (h : P (tv (Txt.slice x lo hi)) m) : SlP X Z (tv x) lo hi m P := .of C8.sl_txt fun B H Q v hS hv k =>
  ⟨x, hv, line_of hz, k _ B H m _ (Ex.refl _) hS (rep_str _) h⟩
theorem len_s (hz : x.length ≤ 16000000) (h : P (tv (x.length : Int)) m) : CallP X Z (.builtin "len") [tv x] m P := .of call_len_str fun B H Q vs hS hv k => by
  cases hv with
  | cons h1 hv =>
    cases hv
    exact ⟨x, congrArg (fun z => [z]) h1, line_of hz, k _ B H m _ (Ex.refl _) hS (rep_int _) h⟩
/-! ### lists -/
variable {α : Type} [Rep α] {xs : List α}
theorem rep_list {K : PySem.W.Frag} {B H : Hp} {v : V} (e : Ex B H) (h : TV.rep K B v (tv xs)) : ∃ a vs, v = .ref a ∧ B a = some (.lst vs) ∧ H a = some (.lst vs) ∧ Paired (Rep.rep K B) vs xs :=
  let ⟨a, vs, h1, h2, h3⟩ := (show ∃ a vs, v = .ref a ∧ B a = some (.lst vs) ∧ Paired (Rep.rep K B) vs xs from h)
  ⟨a, vs, h1, h2, e _ _ h2, h3⟩
theorem atI_len {α β : Type _} {xs : List α} {ys : List β} {i : Int} {y : β} (hl : xs.length = ys.length) (h : atT ys i = some y) : ∃ j, ixN xs.length i = some j ∧ ys[j]? = some y := by
  unfold atT at h
  rw [← hl] at h
  cases e : ixN xs.length i with
  | none => rw [e] at h; cases h
  | some j => rw [e] at h; exact ⟨j, rfl, h⟩
theorem ix_l {e : α} (hi : atT xs i = some e) (h : P (tv e) m) (hK : X.K = Z.K := by rfl) : IxP X Z (tv xs) (tv i) m P := .of ix_list fun B H Q v u hS hv hu k => by
  obtain ⟨a, vs, ev, hb, hh, pr⟩ := rep_list hS.ex hv
  obtain ⟨j, hj, hx⟩ := atI_len (Paired.length pr) hi
  obtain ⟨w, hw, rw'⟩ := Paired.at' pr hx
  exact ⟨a, vs, i, w, ev, hu, by rw [hK]; exact .of hh, by unfold atI; rw [hj]; exact hw, k w B H m (tv e) (Ex.refl _) hS rw' h⟩
theorem ix_own {p : Addr} {n : Nat} {ts : List TV} {t : TV} (hm : m[n]? = some (p, mL ts)) (hi : atT ts i = some t) (h : P t m) (hK : X.K = Z.K := by rfl) : IxP X Z (tv (Ref.mk p)) (tv i) m P := .of ix_list fun B H Q v u hS hv hu k => by
  obtain ⟨vs, hh, pr⟩ := mL_at hS hm
  obtain ⟨j, hj, hx⟩ := atI_len pr.length hi
  obtain ⟨w, hw, rw'⟩ := pr.at' hx
  exact ⟨p, vs, i, w, hv, hu, by rw [hK]; exact .of hh, by unfold atI; rw [hj]; exact hw, k w B H m t (Ex.refl _) hS rw' h⟩
theorem ix_tupU {t u : TV} {ts : List TV} (ht : TupU t ts) (hi : atT ts i = some u) (h : P u m) (hK : X.K = Z.K := by rfl) : IxP X Z t (tv i) m P := .of ix_tup fun B H Q v w hS hv hw k => by
  obtain ⟨a, vs, ev, hq, rr⟩ := ht _ _ _ hv
  obtain ⟨j, hj, hx⟩ := atI_len rr.length hi
  obtain ⟨z, hz, rz⟩ := rr.at' hx
  exact ⟨a, vs, i, z, ev, hw, by rw [hK]; exact hS.ex.seqT hq, by unfold atI; rw [hj]; exact hz, k z B H m u (Ex.refl _) hS rz h⟩
theorem sl_l {lo hi : Option Int} (h : P (tv ((xs.drop (HT.sIx xs.length 0 lo)).take (HT.sIx xs.length xs.length hi - HT.sIx xs.length 0 lo))) m) (hK : X.K = Z.K := by rfl) : SlP X Z (tv xs) lo hi m P := .of sl_list fun B H Q v hS hv k => by
  obtain ⟨a, vs, ev, hb, hh, pr⟩ := rep_list hS.ex hv
  refine ⟨a, vs, ev, by rw [hK]; exact .of hh, fun p hp => ?_⟩
  have hn := hS.noneB hp
  refine k (.ref p) _ _ m (tv _) (Ex.new hn) (hS.newB hp) ?_ h
  refine ⟨p, _, rfl, upd_same, ?_⟩
  have aux : ∀ (n : Nat) {l₁ : List V} {l₂ : List α}, Paired (Rep.rep Z.K B) l₁ l₂ → Paired (Rep.rep Z.K B) (l₁.drop n) (l₂.drop n) := fun n {l₁ l₂} q => by
    induction n generalizing l₁ l₂ with
    | zero => simpa using q
    | succ n ih => cases q with
      | nil => simp; exact .nil
      | cons _ t => simpa using ih t
  have aux2 : ∀ (n : Nat) {l₁ : List V} {l₂ : List α}, Paired (Rep.rep Z.K B) l₁ l₂ → Paired (Rep.rep Z.K B) (l₁.take n) (l₂.take n) := fun n {l₁ l₂} q => by
    induction n generalizing l₁ l₂ with
    | zero => simp; exact .nil
    | succ n ih => cases q with
      | nil => simp; exact .nil
      | cons r t => simpa using Paired.cons r (ih t)
  have hl : vs.length = xs.length := Paired.length pr
  unfold cutV
  rw [hl]
  exact Paired.monoR (Ex.new hn) (aux2 _ (aux _ pr))
theorem len_l (h : P (tv (xs.length : Int)) m) (hK : X.K = Z.K := by rfl) : CallP X Z (.builtin "len") [tv xs] m P := .of call_len_seq fun B H Q vs hS hv k => by
  cases hv with
  | cons h1 hv =>
    cases hv
    obtain ⟨a, ws, ev, hb, hh, pr⟩ := rep_list hS.ex h1
    refine ⟨a, ws, by rw [ev], .inl (by rw [hK]; exact .of hh), ?_⟩
    rw [Paired.length pr]
    exact k _ B H m _ (Ex.refl _) hS (rep_int _) h
theorem len_own {p : Addr} {n : Nat} {ts : List TV} (hm : m[n]? = some (p, mL ts)) (h : P (tv (ts.length : Int)) m) (hK : X.K = Z.K := by rfl) : CallP X Z (.builtin "len") [tv (Ref.mk p)] m P := .of call_len_seq fun B H Q vs hS hv k => by
  cases hv with
  | cons h1 hv =>
    cases hv
    obtain ⟨ws, hh, pr⟩ := mL_at hS hm
    refine ⟨p, ws, by rw [show _ = V.ref p from h1], .inl (by rw [hK]; exact .of hh), ?_⟩
    rw [pr.length]
    exact k _ B H m _ (Ex.refl _) hS (rep_int _) h
theorem len_tupU {t : TV} {ts : List TV} (ht : TupU t ts) (h : P (tv (ts.length : Int)) m) (hK : X.K = Z.K := by rfl) : CallP X Z (.builtin "len") [t] m P := .of call_len_seq fun B H Q vs hS hv k => by
  cases hv with
  | cons h1 hv =>
    cases hv
    obtain ⟨a, ws, ev, hq, rr⟩ := ht _ _ _ h1
    refine ⟨a, ws, by rw [ev], .inr (by rw [hK]; exact hS.ex.seqT hq), ?_⟩
    rw [rr.length]
    exact k _ B H m _ (Ex.refl _) hS (rep_int _) h
/-! ### built-ins of whole numbers -/
theorem reps1 {K : PySem.W.Frag} {B : Hp} {vs : List V} {t : TV} (h : Reps K B vs [t]) : ∃ v, vs = [v] ∧ t.rep K B v := by
  cases h with
  | cons h1 h => cases h; exact ⟨_, rfl, h1⟩
theorem reps2 {K : PySem.W.Frag} {B : Hp} {vs : List V} {t u : TV} (h : Reps K B vs [t, u]) : ∃ v w, vs = [v, w] ∧ t.rep K B v ∧ u.rep K B w := by
  cases h with
  | cons h1 h => cases h with
    | cons h2 h => cases h; exact ⟨_, _, rfl, h1, h2⟩
theorem abs_i (h : P (tv (if i < 0 then -i else i)) m) : CallP X Z (.builtin "abs") [tv i] m P := .of call_abs fun B H Q vs hS hv k => by
  obtain ⟨v, rfl, r⟩ := reps1 hv
  exact ⟨i, congrArg (fun z => [z]) r, k _ B H m _ (Ex.refl _) hS (rep_int _) h⟩
theorem int_i (h : P (tv i) m) : CallP X Z (.type "int") [tv i] m P := .of call_int1 fun B H Q vs hS hv k => by
  obtain ⟨v, rfl, r⟩ := reps1 hv
  exact .inl ⟨i, congrArg (fun z => [z]) r, k _ B H m _ (Ex.refl _) hS (rep_int _) h⟩
theorem max_ii (hc : X.calm = true) (h : P (tv (max i j)) m) : CallP X Z (.builtin "max") [tv i, tv j] m P := .of (call_max2 hc) fun B H Q vs hS hv k => by
  obtain ⟨v, w, rfl, r1, r2⟩ := reps2 hv
  have e : (if j > i then j else i) = max i j := by split <;> omega
  refine ⟨i, j, by rw [show v = .int i from r1, show w = .int j from r2], ?_⟩
  rw [e]
  exact k _ B H m _ (Ex.refl _) hS (rep_int _) h
theorem min_ii (hc : X.calm = true) (h : P (tv (min i j)) m) : CallP X Z (.builtin "min") [tv i, tv j] m P := .of (call_min2 hc) fun B H Q vs hS hv k => by
  obtain ⟨v, w, rfl, r1, r2⟩ := reps2 hv
  have e : (if j < i then j else i) = min i j := by split <;> omega
  refine ⟨i, j, by rw [show v = .int i from r1, show w = .int j from r2], ?_⟩
  rw [e]
  exact k _ B H m _ (Ex.refl _) hS (rep_int _) h
theorem sum_l {ns : List Int} (hc : X.calm = true) (h : P (tv ns.sum) m) (hK : X.K = Z.K := by rfl) : CallP X Z (.builtin "sum") [tv ns] m P := .of (cr_sum hc) fun B H Q vs hS hv k => by
  obtain ⟨v, rfl, r⟩ := reps1 hv
  obtain ⟨a, ws, ev, hb, hh, pr⟩ := rep_list hS.ex r
  have := rep_ints pr
  subst this
  exact ⟨a, ns, by rw [ev], by rw [hK]; exact .of hh, k _ B H m _ (Ex.refl _) hS (rep_int _) h⟩
theorem all_l {bs : List Bool} (hc : X.calm = true) (h : P (tv (bs.all id)) m) (hK : X.K = Z.K := by rfl) : CallP X Z (.builtin "all") [tv bs] m P := .of (cr_all hc) fun B H Q vs hS hv k => by
  obtain ⟨v, rfl, r⟩ := reps1 hv
  obtain ⟨a, ws, ev, hb, hh, pr⟩ := rep_list hS.ex r
  have := rep_bls pr
  subst this
  exact ⟨a, bs, by rw [ev], by rw [hK]; exact .of hh, k _ B H m _ (Ex.refl _) hS (rep_bool _) h⟩
theorem any_l {bs : List Bool} (hc : X.calm = true) (h : P (tv (bs.any id)) m) (hK : X.K = Z.K := by rfl) : CallP X Z (.builtin "any") [tv bs] m P := .of (cr_any hc) fun B H Q vs hS hv k => by
  obtain ⟨v, rfl, r⟩ := reps1 hv
  obtain ⟨a, ws, ev, hb, hh, pr⟩ := rep_list hS.ex r
  have := rep_bls pr
  subst this
  exact ⟨a, bs, by rw [ev], by rw [hK]; exact .of hh, k _ B H m _ (Ex.refl _) hS (rep_bool _) h⟩
/-! ### isinstance -/
def IsTy (Z : Zs) (t : TV) (m : Mu) (ty : String) : Prop := ∀ B H v, Sta Z B H m → t.rep Z.K B v → TyX Z.K H v (.type ty)
theorem isi {t : TV} {ty T : String} {b : Bool} (ht : IsTy Z t m ty) (h : P (tv b) m) (hb : kitB ty T = some b := by decide +kernel) (hK : X.K = Z.K := by rfl) : CallP X Z (.builtin "isinstance") [t, tv (Typ.mk T)] m P := .of call_isi fun B H Q vs hS hv k => by
  obtain ⟨v, w, rfl, r1, r2⟩ := reps2 hv
  have e : w = .ty T := r2
  subst e
  exact ⟨v, .ty T, .type ty, .type T, b, rfl, .ty T, by rw [hK]; exact ht B H v hS r1, kit_ty hb, k _ B H m _ (Ex.refl _) hS (rep_bool _) h⟩
theorem ty_int {i : Int} : IsTy Z (tv i) m "int" := fun _ _ v _ h => by rw [show v = .int i from h]; exact .base (.int i)
theorem ty_bool {i : Bool} : IsTy Z (tv i) m "bool" := fun _ _ v _ h => by rw [show v = .bl i from h]; exact .base (.bl i)
theorem ty_str {i : Str} : IsTy Z (tv i) m "str" := fun _ _ v _ h => by rw [show v = .str i from h]; exact .base (.str i)
theorem ty_none {i : Unit} : IsTy Z (tv i) m "NoneType" := fun _ _ v _ h => by rw [show v = .non from h]; exact .base .non
theorem ty_list : IsTy Z (tv xs) m "list" := fun B H v hS h => by
  obtain ⟨a, vs, ev, _, hh, _⟩ := rep_list hS.ex h
  rw [ev]
  exact .base (.lst hh)
theorem ty_own {p : Addr} {n : Nat} {ts : List TV} (hm : m[n]? = some (p, mL ts)) : IsTy Z (tv (Ref.mk p)) m "list" := fun B H v hS h => by
  obtain ⟨vs, hh, _⟩ := mL_at hS hm
  rw [show v = .ref p from h]
  exact .base (.lst hh)
theorem ty_tupU {t : TV} {ts : List TV} (ht : TupU t ts) : IsTy Z t m "tuple" := fun B H v hS h => by
  obtain ⟨a, vs, ev, hq, _⟩ := ht _ _ _ h
  rw [ev]
  rcases hS.ex.seqT hq with (h | ⟨o, h⟩) | ⟨o, its, n, h, c, _⟩
  · exact .base (.tup h)
  · exact .fTuple h
  · exact .kTuple h c
end
end Ty

set_option Elab.async false
set_option linter.all false
set_option maxRecDepth 100000
set_option maxHeartbeats 2000000
namespace Ty
open PySem PySem.Spec PyProof.Rows L2
/-! ### built-in names -/
theorem bt_int : bootBuiltins (Str.ofString "int") = some (.type "int") := by decide +kernel
theorem bt_str : bootBuiltins (Str.ofString "str") = some (.type "str") := by decide +kernel
theorem bt_list : bootBuiltins (Str.ofString "list") = some (.type "list") := by decide +kernel
theorem bt_tuple : bootBuiltins (Str.ofString "tuple") = some (.type "tuple") := by decide +kernel
theorem bt_dict : bootBuiltins (Str.ofString "dict") = some (.type "dict") := by decide +kernel
theorem bt_set : bootBuiltins (Str.ofString "set") = some (.type "set") := by decide +kernel
theorem bt_bool : bootBuiltins (Str.ofString "bool") = some (.type "bool") := by decide +kernel
theorem bt_len : bootBuiltins (Str.ofString "len") = some (.builtin "len") := by decide +kernel
theorem bt_abs : bootBuiltins (Str.ofString "abs") = some (.builtin "abs") := by decide +kernel
theorem bt_max : bootBuiltins (Str.ofString "max") = some (.builtin "max") := by decide +kernel
theorem bt_min : bootBuiltins (Str.ofString "min") = some (.builtin "min") := by decide +kernel
theorem bt_sum : bootBuiltins (Str.ofString "sum") = some (.builtin "sum") := by decide +kernel
theorem bt_all : bootBuiltins (Str.ofString "all") = some (.builtin "all") := by decide +kernel
theorem bt_any : bootBuiltins (Str.ofString "any") = some (.builtin "any") := by decide +kernel
theorem bt_sorted : bootBuiltins (Str.ofString "sorted") = some (.builtin "sorted") := by decide +kernel
theorem bt_isinstance : bootBuiltins (Str.ofString "isinstance") = some (.builtin "isinstance") := by decide +kernel
theorem bt_repr : bootBuiltins (Str.ofString "repr") = some (.builtin "repr") := by decide +kernel
/-! ### tests and values that change nothing -/
def eqb (B : Bool) (m : Mu) : Bool → Mu → Prop := fun b m' => b = B ∧ m' = m
def eqv (t : TV) (m : Mu) : TV → Mu → Prop := fun x m' => x = t ∧ m' = m
theorem eqb_rfl {B : Bool} {m : Mu} : eqb B m B m := ⟨rfl, rfl⟩
theorem eqv_rfl {t : TV} {m : Mu} : eqv t m t m := ⟨rfl, rfl⟩
section
variable {X : Cx} {Z : Zs} {ρ : TEnv} {m : Mu} {D : DE} {P : TV → Mu → Prop} {A R B : Bool}
theorem ws_ifP {c : Expr} {a b : List Stmt} {pos : Pos} (h : Wt X Z c ρ m (eqb B m)) (h1 : B = true → Wss X Z a ρ m D) (h2 : B = false → Wss X Z b ρ m D) : Ws X Z (.If c a b pos) ρ m D :=
  ws_if (h.imp fun d m1 ⟨e1, e2⟩ => by subst e1; subst e2; exact ⟨h1, h2⟩)
theorem we_ifP {c a b : Expr} {pos : Pos} (h : Wt X Z c ρ m (eqb B m)) (h1 : B = true → We X Z a ρ m P) (h2 : B = false → We X Z b ρ m P) : We X Z (.IfExp c a b pos) ρ m P :=
  we_if (h.imp fun d m1 ⟨e1, e2⟩ => by subst e1; subst e2; exact ⟨h1, h2⟩)
theorem ww_andP {a b : Expr} {rest : List Expr} {pos : Pos} (h : Wt X Z a ρ m (eqb A m)) (h1 : A = true → Ww X Z (.BoolOp .And (b :: rest) pos) ρ m (eqb R m)) : Ww X Z (.BoolOp .And (a :: b :: rest) pos) ρ m (eqb (A && R) m) :=
  ww_and (h.imp fun d m1 ⟨e1, e2⟩ => by
    subst e1; subst e2
    refine ⟨fun q => (h1 q).imp ?_, fun q => ⟨by rw [q]; rfl, rfl⟩⟩
    rintro b m' ⟨rfl, rfl⟩
    exact ⟨by rw [q, Bool.true_and], rfl⟩)
theorem ww_orP {a b : Expr} {rest : List Expr} {pos : Pos} (h : Wt X Z a ρ m (eqb A m)) (h1 : A = false → Ww X Z (.BoolOp .Or (b :: rest) pos) ρ m (eqb R m)) : Ww X Z (.BoolOp .Or (a :: b :: rest) pos) ρ m (eqb (A || R) m) :=
  ww_or (h.imp fun d m1 ⟨e1, e2⟩ => by
    subst e1; subst e2
    refine ⟨fun q => ⟨by rw [q]; rfl, rfl⟩, fun q => (h1 q).imp ?_⟩
    rintro b m' ⟨rfl, rfl⟩
    exact ⟨by rw [q, Bool.false_or], rfl⟩)
theorem wt_notP {a : Expr} {pos : Pos} (h : Wt X Z a ρ m (eqb A m)) : Wt X Z (.UnaryOp .Not a pos) ρ m (eqb (!A) m) := wt_not (h.imp fun d m1 ⟨e1, e2⟩ => ⟨by rw [e1], e2⟩)
theorem we_notP {a : Expr} {pos : Pos} (h : We X Z a ρ m (eqv (tv A) m)) : We X Z (.UnaryOp .Not a pos) ρ m (eqv (tv (!A)) m) := we_not (h.imp fun d m1 ⟨e1, e2⟩ => by subst e1; subst e2; exact ⟨A, rfl, rfl, rfl⟩)
theorem we_andP {a b : Expr} {rest : List Expr} {pos : Pos} (h : We X Z a ρ m (eqv (tv A) m)) (h1 : A = true → We X Z (.BoolOp .And (b :: rest) pos) ρ m (eqv (tv R) m)) : We X Z (.BoolOp .And (a :: b :: rest) pos) ρ m (eqv (tv (A && R)) m) :=
  we_and (h.imp fun d m1 ⟨e1, e2⟩ => by
    subst e1; subst e2
    refine ⟨A, rfl, fun q => (h1 q).imp ?_, fun q => ⟨by rw [q]; rfl, rfl⟩⟩
    rintro b m' ⟨rfl, rfl⟩
    exact ⟨by rw [q, Bool.true_and], rfl⟩)
theorem we_orP {a b : Expr} {rest : List Expr} {pos : Pos} (h : We X Z a ρ m (eqv (tv A) m)) (h1 : A = false → We X Z (.BoolOp .Or (b :: rest) pos) ρ m (eqv (tv R) m)) : We X Z (.BoolOp .Or (a :: b :: rest) pos) ρ m (eqv (tv (A || R)) m) :=
  we_or (h.imp fun d m1 ⟨e1, e2⟩ => by
    subst e1; subst e2
    refine ⟨A, rfl, fun q => ⟨by rw [q]; rfl, rfl⟩, fun q => (h1 q).imp ?_⟩
    rintro b m' ⟨rfl, rfl⟩
    exact ⟨by rw [q, Bool.false_or], rfl⟩)
/-- a op1 b op2 c, all three flat -/
theorem wt_chainP {a b c : Expr} {op op' : CmpOp} {pos : Pos} {x y z : TV} (ha : We X Z a ρ m (eqv x m)) (hb : We X Z b ρ m (eqv y m)) (h1 : OpP X Z (compareOp op) x y m (eqv (tv A) m)) (hc : A = true → We X Z c ρ m (eqv z m)) (h2 : A = true → OpP X Z (compareOp op') y z m (eqv (tv R) m))
    (hm : lastMarks [op, op'] [b, c] = false := by with_unfolding_all rfl) : Wt X Z (.Compare a [op, op'] [b, c] pos) ρ m (eqb (A && R) m) :=
  wt_chain (ha.imp fun x' m1 ⟨e1, e2⟩ => by
    subst e1; subst e2
    refine hb.imp fun y' m2 ⟨e1, e2⟩ => ?_
    subst e1; subst e2
    refine fun B H Q v u S r1 r2 k => h1 B H Q v u S r1 r2 fun v' B' H' m' z' e s r p => k v' B' H' m' z' e s r ?_
    obtain ⟨e1, e2⟩ := p
    subst e1; subst e2
    refine ⟨A, rfl, fun q => (hc q).imp fun z2 m3 ⟨e1, e2⟩ => ?_, fun q => ⟨by rw [q]; rfl, rfl⟩⟩
    subst e1; subst e2
    refine fun B H Q v u S r1 r2 k => h2 q B H Q v u S r1 r2 fun v' B' H' m' z' e s r p => k v' B' H' m' z' e s r ?_
    obtain ⟨e1, e2⟩ := p
    subst e1; subst e2
    exact ⟨R, rfl, by rw [q, Bool.true_and], rfl⟩) hm
theorem we_chainP {a b c : Expr} {op op' : CmpOp} {pos : Pos} {x y z : TV} (ha : We X Z a ρ m (eqv x m)) (hb : We X Z b ρ m (eqv y m)) (h1 : OpP X Z (compareOp op) x y m (eqv (tv A) m)) (hc : A = true → We X Z c ρ m (eqv z m)) (h2 : A = true → OpP X Z (compareOp op') y z m (eqv (tv R) m))
    (hm : lastMarks [op, op'] [b, c] = false := by with_unfolding_all rfl) : We X Z (.Compare a [op, op'] [b, c] pos) ρ m (eqv (tv (A && R)) m) :=
  we_chain (ha.imp fun x' m1 ⟨e1, e2⟩ => by
    subst e1; subst e2
    refine hb.imp fun y' m2 ⟨e1, e2⟩ => ?_
    subst e1; subst e2
    refine fun B H Q v u S r1 r2 k => h1 B H Q v u S r1 r2 fun v' B' H' m' z' e s r p => k v' B' H' m' z' e s r ?_
    obtain ⟨e1, e2⟩ := p
    subst e1; subst e2
    refine ⟨A, rfl, fun q => (hc q).imp fun z2 m3 ⟨e1, e2⟩ => ?_, fun q => ⟨by rw [q]; rfl, rfl⟩⟩
    subst e1; subst e2
    refine fun B H Q v u S r1 r2 k => h2 q B H Q v u S r1 r2 fun v' B' H' m' z' e s r p => k v' B' H' m' z' e s r ?_
    obtain ⟨e1, e2⟩ := p
    subst e1; subst e2
    exact ⟨by rw [q, Bool.true_and], rfl⟩) hm
theorem ww_andQ {a b : Expr} {rest : List Expr} {pos : Pos} (h : Wt X Z a ρ m (eqb A m)) (h1 : Ww X Z (.BoolOp .And (b :: rest) pos) ρ m (eqb R m)) : Ww X Z (.BoolOp .And (a :: b :: rest) pos) ρ m (eqb (A && R) m) := ww_andP h fun _ => h1
theorem ww_orQ {a b : Expr} {rest : List Expr} {pos : Pos} (h : Wt X Z a ρ m (eqb A m)) (h1 : Ww X Z (.BoolOp .Or (b :: rest) pos) ρ m (eqb R m)) : Ww X Z (.BoolOp .Or (a :: b :: rest) pos) ρ m (eqb (A || R) m) := ww_orP h fun _ => h1
theorem we_andQ {a b : Expr} {rest : List Expr} {pos : Pos} (h : We X Z a ρ m (eqv (tv A) m)) (h1 : We X Z (.BoolOp .And (b :: rest) pos) ρ m (eqv (tv R) m)) : We X Z (.BoolOp .And (a :: b :: rest) pos) ρ m (eqv (tv (A && R)) m) := we_andP h fun _ => h1
theorem we_orQ {a b : Expr} {rest : List Expr} {pos : Pos} (h : We X Z a ρ m (eqv (tv A) m)) (h1 : We X Z (.BoolOp .Or (b :: rest) pos) ρ m (eqv (tv R) m)) : We X Z (.BoolOp .Or (a :: b :: rest) pos) ρ m (eqv (tv (A || R)) m) := we_orP h fun _ => h1
theorem wt_chainQ {a b c : Expr} {op op' : CmpOp} {pos : Pos} {x y z : TV} (ha : We X Z a ρ m (eqv x m)) (hb : We X Z b ρ m (eqv y m)) (h1 : OpP X Z (compareOp op) x y m (eqv (tv A) m)) (hc : We X Z c ρ m (eqv z m)) (h2 : OpP X Z (compareOp op') y z m (eqv (tv R) m))
    (hm : lastMarks [op, op'] [b, c] = false) : Wt X Z (.Compare a [op, op'] [b, c] pos) ρ m (eqb (A && R) m) := wt_chainP ha hb h1 (fun _ => hc) (fun _ => h2) hm
theorem we_chainQ {a b c : Expr} {op op' : CmpOp} {pos : Pos} {x y z : TV} (ha : We X Z a ρ m (eqv x m)) (hb : We X Z b ρ m (eqv y m)) (h1 : OpP X Z (compareOp op) x y m (eqv (tv A) m)) (hc : We X Z c ρ m (eqv z m)) (h2 : OpP X Z (compareOp op') y z m (eqv (tv R) m))
    (hm : lastMarks [op, op'] [b, c] = false) : We X Z (.Compare a [op, op'] [b, c] pos) ρ m (eqv (tv (A && R)) m) := we_chainP ha hb h1 (fun _ => hc) (fun _ => h2) hm
/-- a value that changes nothing, used -/
theorem we_eqv {e : Expr} {t : TV} (h : We X Z e ρ m (eqv t m)) (k : P t m) : We X Z e ρ m P := h.imp fun x m' ⟨e1, e2⟩ => by subst e1; subst e2; exact k
theorem we_eqI {e : Expr} {P' : TV → Mu → Prop} (h : We X Z e ρ m P') (k : ∀ t m', P' t m' → P t m') : We X Z e ρ m P := h.imp k
/-- o[i] = v, o a list that may change -/
theorem wg_subL {o i : Expr} {pos : Pos} {t : TV} {R : TEnv → Mu → Prop} (h : We X Z o ρ m fun x m1 => We X Z i ρ m1 fun y m2 => ∃ (p : Addr) (n : Nat) (ts : List TV) (k : Int) (j : Nat), x = tv (Ref.mk p) ∧ y = tv k ∧ m2[n]? = some (p, mL ts) ∧ ixN ts.length k = some j ∧ R ρ (m2.set n (p, mL (ts.set j t))))
    (ha : ∀ v, assign (.Subscript o i pos) X.env v = (do
      let ov ← holding [v] (eval o X.env)
      let iv ← holding [v, ov] (eval i X.env)
      standAt pos
      holding [v, ov, iv] (setItem ov iv v)
      release [v, ov, iv] []) := by intro _; rfl) : Wg X Z (.Subscript o i pos) t ρ m R :=
  .of (pg_sub pe_sem pe_sem set_list ha) fun σ B H v Q he hs r k => we_sub h he hs fun x B1 H1 m1 tx a1 b1 c1 d1 e1 => we_sub e1 b1 c1 fun y B2 H2 m2 ty a2 b2 c2 d2 e2 => by
    obtain ⟨p, n, ts, i', j, rfl, rfl, hm, hj, q⟩ := e2
    obtain ⟨vs, hv, rv⟩ := mL_at c2 hm
    refine ⟨p, vs, i', j, d1, d2, hv, by rw [rv.length]; exact hj, ?_⟩
    exact k σ B2 _ ρ _ (a1.trans a2) b2 (c2.write (d := mL (ts.set j t)) hm ⟨_, rfl, rv.set (TV.mono (a1.trans a2) r) j⟩) q
end
end Ty

set_option Elab.async false
set_option linter.all false
set_option maxRecDepth 100000
set_option maxHeartbeats 2000000
namespace Ty
open PySem PySem.Spec PyProof.Rows L2

/-! ### an exception that is being made -/
def mXo (a C : Addr) (d : Option Addr) : MV := ⟨fun _ _ o => o = exo a C d, fun _ h => h⟩
def mXd (dx : Addr) (fs : List (Str × TV)) : MV := ⟨fun K B o => ∃ vs, o = exd dx vs ∧ FRep K B vs fs, fun e ⟨vs, h1, h2⟩ => ⟨vs, h1, h2.mono e⟩⟩
/-- a class whose __init__ is ValueError's, by its name as a value -/
structure SupI (K : PySem.W.Frag) (C0 : Addr) : Prop where
  ga : PySem.W.specialIn K (.ref C0) "__getattribute__" = some (some (.builtin "type.__getattribute__"))
  rd : PySem.W.readsIn K C0 (.type "type") = true
  fi : PySem.W.findCls K (.ref C0) (.type "type") "__init__" = some (.val (.builtin "ValueError.__init__"))
section
variable {X : Cx} {Z : Zs} {ρ : TEnv} {m : Mu} {D : DE} {P : TV → Mu → Prop} {xp : XV → TEnv → Mu → Prop} {T : TSpec}
variable {e o : Expr} {es : List Expr} {pos p p1 p2 p' : Pos} {x f : Str} {C0 : Addr}
theorem mX_at {B H : Hp} {q : Addr} {i : Nat} {a C : Addr} {d : Option Addr} (S : Sta Z B H m) (h : m[i]? = some (q, mXo a C d)) : H q = some (exo a C d) := by
  obtain ⟨_, u, hu, e⟩ := S.hp.at_ i q _ h
  rw [hu]; exact congrArg some e
/-- Base.__init__(self, 'text') -/
theorem we_xinit {pl : Sem Bool} (hm : X.mg x = some (.ref C0)) (F : SupI X.K C0) (h : Wa X Z (e :: es) ρ m fun xs m1 => ∃ (a C : Addr) (rest : List TV) (i : Nat), xs = tv (Ref.mk a) :: rest ∧ rest.length ≤ 1000 ∧ OexC X.K C ∧ m1[i]? = some (a, mXo a C none) ∧ P (tv ()) m1)
    (hg : Gl X x := by rfl) (hdb : (x == ("__debug__" : Str)) = false := by decide)
    (hc : eval (.Call (.Attribute (.Name x p1) "__init__" p2) (e :: es) [] pos) X.env = (do
      let ov ← eval (.Name x p1) X.env
      standAt p2.atName
      let (f, first) ← holding [ov] (getMethod ov "__init__" pl)
      callWith pos f first (backTo pos (starEach (e :: es) X.env)) (backToKw pos (keywordEach [] X.env))) := by rfl)
    (he : starEach (e :: es) X.env = (false, eval e X.env) :: starEach es X.env := by rfl) (hpl : (backTo pos (starEach es X.env)).any (·.1) = false := by rfl) :
    We X Z (.Call (.Attribute (.Name x p1) "__init__" p2) (e :: es) [] pos) ρ m P := fun σ B H Q hE hS k pins s I => by
  refine PySem.W.methodCall_KW (ld_glob I hg hm ?_ hdb) hc
  refine PySem.W.method_cls I.kIn F.ga (PySem.W.cls_value I.kIn F.rd F.fi (by decide +kernel) ?_)
  show wpAny _ _ (callWith pos (Value.builtin "ValueError.__init__") [] (backTo pos (starEach (e :: es) X.env)) []) _ _ _
  refine PyProof.Rows.callWith_method1 (wpAny_mono (h σ B H (fun vs H1 => ∃ (a C : Addr) (ws : List V), vs = .ref a :: ws ∧ ws.length ≤ 1000 ∧ OexC X.K C ∧ H1 a = some (exo a C none) ∧ Q .non H1) hE hS (fun vs B1 H1 m1 xs e1 s1 r1 w1 => ?_) pos pins _ (I.tok _)) (fun us s1 hh => ?_) fun _ _ z => z) he hpl
  · obtain ⟨a, C, rest, i, rfl, hl, T, hi, hp⟩ := w1
    cases r1 with
    | cons r r1 => exact ⟨a, C, _, by rw [show _ = V.ref a from r], by rw [r1.length]; exact hl, T, mX_at s1 hi, k .non B1 H1 m1 (tv ()) e1 s1 (show V.non = .non from rfl) hp⟩
  · obtain ⟨vs, H1, I1, r1, a, C, ws, ev, hl, T, ea, q⟩ := hh
    subst ev
    cases r1 with
    | @cons _ u0 _ ur ra rw' =>
      obtain rfl : u0 = Value.ref a := ra
      have hlen : ur.length ≤ sizeLine := by
        rw [← Paired.length rw', sizeLine_eq]
        omega
      exact oinit_ok T I1 ea hlen fun s' J => ⟨.non, H1, J, rfl, q⟩
/-- self.f = e, self an exception that is being made: the first such store -/
theorem ws_ost (h : We X Z e ρ m fun t m1 => We X Z o ρ m1 fun u m2 => ∃ (a C : Addr) (i : Nat), u = tv (Ref.mk a) ∧ OexC X.K C ∧ PySem.W.findIn X.K (.ref C) f = some none ∧ m2[i]? = some (a, mXo a C none) ∧ ∀ dx, D.nx ρ (m2.set i (a, mXo a C (some dx)) ++ [(dx, mXd dx [(f, t)])]))
    (hs : swapsWith e (some (.Attribute o f p')) pos.line X.env = pure false := by rfl) : Ws X Z (.Assign [.Attribute o f p'] e pos) ρ m D :=
  .of (ps_ost pe_sem pe_sem hs) fun σ B H E hE hS k => we_sub h hE hS fun v B1 H1 m1 t a1 b1 c1 d1 e1 => we_sub e1 b1 c1 fun u B2 H2 m2 t2 a2 b2 c2 d2 e2 => by
    obtain ⟨a, C, i, rfl, T, hno, hi, q⟩ := e2
    have ea := mX_at c2 hi
    refine ⟨a, C, d2, T, hno, .inl ⟨ea, fun dx n ne => ?_⟩⟩
    have ea' : upd H2 dx (exd dx [(f, v)]) a = some (exo a C none) := by rw [upd_ne (Ne.symm ne)]; exact ea
    have s1 := c2.newM (o := exd dx [(f, v)]) n (c := mXd dx [(f, t)]) ⟨_, rfl, .cons (TV.mono a2 d1) .nil⟩
    have hi2 : (m2 ++ [(dx, mXd dx [(f, t)])])[i]? = some (a, mXo a C none) := by
      rw [List.getElem?_append_left (List.getElem?_eq_some_iff.mp hi).1]; exact hi
    have s2 := s1.write (o := exo a C (some dx)) (d := mXo a C (some dx)) hi2 rfl
    rw [List.set_append_left _ _ (List.getElem?_eq_some_iff.mp hi).1] at s2
    exact k.nx σ B2 _ ρ _ (a1.trans a2) b2 s2 (q dx)
/-- .. a further one -/
theorem ws_ost2 (h : We X Z e ρ m fun t m1 => We X Z o ρ m1 fun u m2 => ∃ (a C dx : Addr) (i j : Nat) (fs : List (Str × TV)), u = tv (Ref.mk a) ∧ OexC X.K C ∧ PySem.W.findIn X.K (.ref C) f = some none ∧ m2[i]? = some (a, mXo a C (some dx)) ∧ m2[j]? = some (dx, mXd dx fs) ∧ fs.length ≤ 900 ∧ D.nx ρ (m2.set j (dx, mXd dx ((f, t) :: fs))))
    (hs : swapsWith e (some (.Attribute o f p')) pos.line X.env = pure false := by rfl) : Ws X Z (.Assign [.Attribute o f p'] e pos) ρ m D :=
  .of (ps_ost pe_sem pe_sem hs) fun σ B H E hE hS k => we_sub h hE hS fun v B1 H1 m1 t a1 b1 c1 d1 e1 => we_sub e1 b1 c1 fun u B2 H2 m2 t2 a2 b2 c2 d2 e2 => by
    obtain ⟨a, C, dx, i, j, fs, rfl, T, hno, hi, hj, hl, q⟩ := e2
    obtain ⟨_, w, hw, vs, ew, fr⟩ := c2.hp.at_ j dx _ hj
    subst ew
    refine ⟨a, C, d2, T, hno, .inr ⟨dx, vs, mX_at c2 hi, hw, by rw [fr.length]; exact hl, ?_⟩⟩
    exact k.nx σ B2 _ ρ _ (a1.trans a2) b2 (c2.write (o := exd dx ((f, v) :: vs)) (d := mXd dx ((f, t) :: fs)) hj ⟨_, rfl, .cons (TV.mono (a1.trans a2 |> fun _ => a2) d1) fr⟩) q

/-! ### raise C(e, ..) -/
/-- what stands of an own exception class: its __init__'s promise -/
def OexK (P : Program) (w : World) (K : PySem.W.Frag) (mg : Str → Option Value) (base : Heap) (x : Str) (C : Addr) (k : Nat) (T : TSpec) (dts : List TV) : Prop :=
  mg x = some (.ref C) ∧ OexC K C ∧ ∃ (fI : Addr) (fd : FuncData) (ps : List Str) (dvs : List V) (ds : List Value), PySem.W.findIn K (.ref C) "__init__" = some (some (.ref fI)) ∧ PySem.W.typeIn K (.ref fI) = some (.type "function") ∧ FnG P w K mg base k fI fd ps T ∧ Binds K fd ps ds ∧ Vals dvs ds ∧ Flat K dvs dts
theorem Sta.re {B H : Hp} (S : Sta Z B H m) : Sta ⟨Z.K, B, H, m⟩ B H m := ⟨S.hp, Go.refl⟩
theorem Sta.back {B H B' H' : Hp} {m' : Mu} (S : Sta Z B H m) (s : Sta ⟨Z.K, B, H, m⟩ B' H' m') : Sta Z B' H' m' := ⟨s.hp, S.go.trans s.go⟩
theorem EOk.re {B H : Hp} {E : Ends} (S : Sta Z B H m) (k : EOk Z B D E) : EOk ⟨Z.K, B, H, m⟩ B D E :=
  ⟨fun s B' H' r m' a b c d => k.nx s B' H' r m' a b (S.back c) d, fun v B' H' m' x a c r d => k.rt v B' H' m' x a (S.back c) r d, fun s B' H' r m' a b c d => k.bk s B' H' r m' a b (S.back c) d, fun s B' H' r m' a b c d => k.ct s B' H' r m' a b (S.back c) d⟩
/-- the exception flies: its dict is kept for good -/
theorem Sta.fly {B1 H1 B2 H2 : Hp} {a dx C : Addr} {c : MV} {fs : List (Str × TV)} (S : Sta Z B1 H1 m) (ha : H1 a = none) (S2 : Sta ⟨Z.K, B1, upd H1 a (exo a C none), m ++ [(a, c)]⟩ B2 H2 (m ++ [(a, mXo a C (some dx)), (dx, mXd dx fs)])) :
    H1 dx = none ∧ H2 a = some (exo a C (some dx)) ∧ ∃ vs, H2 dx = some (exd dx vs) ∧ FRep Z.K B2 vs fs ∧ Ex B1 (upd B2 dx (.xd vs)) ∧ FRep Z.K (upd B2 dx (.xd vs)) vs fs ∧ Sta Z (upd B2 dx (.xd vs)) (upd (del H2 a) dx (.xd vs)) m := by
  have hia : (m ++ [(a, mXo a C (some dx)), (dx, mXd dx fs)])[m.length]? = some (a, mXo a C (some dx)) := by simp
  have hix : (m ++ [(a, mXo a C (some dx)), (dx, mXd dx fs)])[m.length + 1]? = some (dx, mXd dx fs) := by simp
  obtain ⟨ba, ua, hua, ea⟩ := S2.hp.at_ _ a _ hia
  obtain ⟨bx, ux, hux, vs, ex, fr⟩ := S2.hp.at_ _ dx _ hix
  subst ex
  have nd := S2.hp.nd
  rw [keys_app] at nd
  obtain ⟨n1, n2, n3⟩ := List.nodup_append.mp nd
  have ne : dx ≠ a := fun z => by
    subst z
    simp [keys] at n2
  have am : a ∉ keys m := fun z => n3 a z a (by simp [keys]) rfl
  have xm : dx ∉ keys m := fun z => n3 dx z dx (by simp [keys]) rfl
  have kk : ∀ b, b ∈ keys (m ++ [(a, c)]) ↔ b ∈ keys m ∨ b = a := fun b => by rw [keys_app, List.mem_append]; simp [keys]
  have hx : H1 dx = none := by
    rcases S2.go.ks dx (by rw [keys_app]; exact List.mem_append_right _ (by simp [keys])) with z | z
    · rcases (kk dx).mp z with z | z
      · exact absurd z xm
      · exact absurd z ne
    · have z' : upd H1 a (exo a C none) dx = none := z
      rw [upd_ne ne] at z'; exact z'
  have exB : Ex B2 (upd B2 dx (.xd vs)) := Ex.new bx
  have up2 : ∀ b, b ≠ a → b ≠ dx → upd (del H2 a) dx (.xd vs) b = H2 b := fun b h1 h2 => by rw [upd_ne h2, del_ne h1]
  refine ⟨hx, by rw [hua]; exact congrArg some ea, vs, hux, fr, S2.go.ext.trans exB, fr.mono exB, ⟨⟨fun b o q => ?_, n1, fun i q d hi => ?_⟩, S.go.trans ⟨S2.go.ext.trans exB, fun b o q hb => ?_, fun b q => ?_, fun b q => ?_, fun b q => .inl q⟩⟩⟩
  · by_cases h : b = dx
    · subst h; rw [upd_same] at q ⊢; exact q
    · rw [upd_ne h] at q
      have h2 : b ≠ a := fun z => by subst z; rw [ba] at q; cases q
      rw [up2 b h2 h]; exact S2.hp.ex b o q
  · have hi2 : (m ++ [(a, mXo a C (some dx)), (dx, mXd dx fs)])[i]? = some (q, d) := by
      rw [List.getElem?_append_left (List.getElem?_eq_some_iff.mp hi).1]; exact hi
    obtain ⟨h1, u, h2, h3⟩ := S2.hp.at_ i q d hi2
    have qm : q ∈ keys m := List.mem_map.mpr ⟨(q, d), List.mem_of_getElem? hi, rfl⟩
    have n1 : q ≠ a := fun z => am (z ▸ qm)
    have n2 : q ≠ dx := fun z => xm (z ▸ qm)
    exact ⟨by rw [upd_ne n2]; exact h1, u, by rw [up2 q n1 n2]; exact h2, d.mono exB h3⟩
  · have n1 : b ≠ a := fun z => by subst z; rw [ha] at q; cases q
    have n2 : b ≠ dx := fun z => by subst z; rw [hx] at q; cases q
    rw [up2 b n1 n2]
    refine S2.go.keep b o (by show upd H1 a _ b = _; rw [upd_ne n1]; exact q) fun z => ?_
    rcases (kk b).mp z with z | z
    · exact hb z
    · exact n1 z
  · by_cases n2 : b = dx
    · subst n2; rw [upd_same]; exact fun z => nomatch z
    · have n1 : b ≠ a := fun z => by subst z; exact q ha
      rw [up2 b n1 n2]
      exact S2.go.dom b (by show upd H1 a _ b ≠ _; rw [upd_ne n1]; exact q)
  · by_cases n2 : b = dx
    · subst n2; exact .inr (.inl hx)
    · rw [upd_ne n2] at q
      rcases S2.go.nw b q with z | z | z
      · exact .inl z
      · refine .inr (.inl ?_)
        by_cases n1 : b = a
        · subst n1; exact ha
        · have z' : upd H1 a (exo a C none) b = none := z
          rw [upd_ne n1] at z'; exact z'
      · rcases (kk b).mp z with z | z
        · exact .inr (.inr z)
        · subst z; exact .inr (.inl ha)
variable {k k' : Nat} {C : Addr} {dts : List TV}
theorem ws_raise (F : OexK X.prog X.w X.K X.mg X.base x C k T dts) (hgd : X.A.guards = some []) (hr : Room k' X.A) (hx : XT X Z xp) (hc : X.calm = true)
    (h : Wa X Z (e :: es) ρ m fun xs m1 => xs.length ≤ 900 ∧ ∀ a, FrP T (tv (Ref.mk a) :: (xs ++ dts)) (m1 ++ [(a, mXo a C none)]) (fun t m2 => t = tv () ∧ ∃ dx fs, m2 = m1 ++ [(a, mXo a C (some dx)), (dx, mXd dx fs)] ∧ xp ⟨.ref C, fs⟩ ρ m1) fun _ _ => False)
    (hkk : k + 1 ≤ k' := by decide) (hK : X.K = Z.K := by rfl) (hg : Gl X x := by rfl) (hdb : (x == ("__debug__" : Str)) = false := by decide)
    (he : starEach (e :: es) X.env = (false, eval e X.env) :: starEach es X.env := by rfl) (hpl : (backTo p1 (starEach es X.env)).any (·.1) = false := by rfl) :
    Ws X Z (.Raise (some (.Call (.Name x p) (e :: es) [] p1)) none pos) ρ m D := fun σ B H E hE hS kE pins0 s0 I0 => by
  obtain ⟨hm, TC, fI, fd, ps, dvs, ds, iC, tI, G, hb, hd, hf⟩ := F
  obtain ⟨nm, q, N, bs, bm, sn, sub, ab, col, dd, k0, k1, k2, k3, k5, hC, hbm⟩ := TC.cls
  have hr1 : Room (k + 1) X.A := hr.mono hkk
  refine (ps_raise (W := fun c d σ H => ∃ ρ, xk Z ρ xp σ c d H) (t := fun σ' H' Q' => σ' = σ ∧ H' = H ∧ ∀ c d H2, xk Z ρ xp σ c d H2 → Q' c d H2) hc hx ?_).run pins0 s0 σ H E I0 ⟨rfl, rfl, fun c d H2 z => ⟨ρ, z⟩⟩
  intro pins s σ' H' Q I hh0
  obtain ⟨e1, e2, hQ⟩ := hh0
  subst e1 e2
  refine wpAny_Call_Name_kw (ld_glob I hg hm ?_ hdb)
  refine PySem.W.callWith_K (h₀ := X.base) I.ok.mod.kin TC.kC (wpAny_mono (h σ' B H' (fun vs H1 => vs.length ≤ 900 ∧ ∀ a, H1 a = none → spOf Z.K T (.ref a :: (vs ++ dvs)) (upd H1 a (exo a C none)) (fun v H2 => v = .non ∧ ∃ (d : Addr) (fs : List (Str × V)), H2 a = some (exo a C (some d)) ∧ H2 d = some (exd d fs) ∧ H1 d = none ∧ Q (.ref C) (some d) (upd (del H2 a) d (.xd fs))) (fun _ _ _ => False))
    hE hS (fun vs B1 H1 m1 xs e1 s1 r1 w1 => ?_) p1 pins s I) (fun us s1 hh => ?_) fun _ _ z => z) he hpl
  · refine ⟨by rw [r1.length]; exact w1.1, fun a ha => ?_⟩
    have s2 := s1.newM (o := exo a C none) ha (c := mXo a C none) rfl
    refine spOf_imp ((w1.2 a).sp (Z := ⟨Z.K, B1, upd H1 a (exo a C none), m1 ++ [(a, mXo a C none)]⟩) (xp := noX) (ρ := ρ) (hE.mono e1) s2.re (.cons (show V.ref a = .ref a from rfl) (r1.append ((hK ▸ hf) B1))) fun v B' H' m' x eB s3 rv pp => ?_) fun c d H' ⟨_, _, _, _, _, _, z⟩ => z.elim
    obtain ⟨rfl, dx, fs, em2, px⟩ := pp
    subst em2
    obtain ⟨hx1, ea, vs2, ed, fr, eB, fr2, s4⟩ := s1.fly ha s3
    exact ⟨rv, dx, vs2, ea, ed, hx1, hQ _ _ _ ⟨_, m1, ⟨.ref C, fs⟩, hE.mono (e1.trans eB), s4, ⟨rfl, dx, vs2, rfl, upd_same, fr2⟩, px⟩⟩
  · obtain ⟨vs, H1, I1, r1, hz, q1⟩ := hh
    refine ⟨I1.kIn, ?_⟩
    show wpAny _ _ (call (.ref C) us) _ _ _
    obtain ⟨hp, g, dr, tk, os⟩ := s1
    have hsz : hp.objs.size ≤ hp.objs.size + 1 := Nat.le_succ _
    have hn : H1 (hp.objs.size + 1) = none := I1.hok.fresh hsz
    have hq := q1 (hp.objs.size + 1) hn
    have kk : ∀ b o, hp.get? b = some o → ((hp.push (PySem.W.kdv_tup us)).push (PySem.HandSPX.excO C hp.objs.size)).get? b = some o := fun b o e => Heap.get?_push_of_some _ (Heap.get?_push_of_some _ e)
    have hget : ((hp.push (PySem.W.kdv_tup us)).push (PySem.HandSPX.excO C hp.objs.size)).get? (hp.objs.size + 1) = some (PySem.HandSPX.excO C hp.objs.size) := by heap_get
    have I2 : Inv X pins σ' (upd H1 (hp.objs.size + 1) (exo (hp.objs.size + 1) C none)) ⟨(hp.push (PySem.W.kdv_tup us)).push (PySem.HandSPX.excO C hp.objs.size), g, dr, tk, os⟩ :=
      I1.laid (t' := tk) (a := hp.objs.size + 1) (o := exo (hp.objs.size + 1) C none) (h' := (hp.push (PySem.W.kdv_tup us)).push (PySem.HandSPX.excO C hp.objs.size)) kk hsz (exo_ok hget)
    have r2 : Vals (V.ref (hp.objs.size + 1) :: (vs ++ dvs)) (Value.ref (hp.objs.size + 1) :: (us ++ ds)) := .cons rfl (r1.append hd)
    have hl : (Value.ref (hp.objs.size + 1) :: us ++ ds).length = ps.length := r2.length.symm.trans (spOf_len G.len hq)
    have hus : us.length ≤ sizeLine := by
      rw [← Paired.length r1, sizeLine_eq]
      omega
    refine wpAny_call (PySem.HandSPX.call_own F.excBase_ValueError (fun Y => PySem.HandSPX.refsVE_contains Y bm hbm) (I1.kIn _ _ hC) (PySem.W.looks_findIn I1.kIn iC) (fun self => PySem.W.bind_fn I1.kIn self tI) hus
      (codeAny_mono (G.run _ X.stack _ _ ⟨Value.ref (hp.objs.size + 1) :: us, []⟩ (Value.ref (hp.objs.size + 1) :: (us ++ ds)) _ _ (fun _ _ _ => False) (under_guards.trans hgd) (hr1.make C us []) (I2.env0.make C us []) (hb _ (Value.ref (hp.objs.size + 1) :: us) I2.kIn hl) r2 (hK ▸ hq)) fun r s' hq' => ?_))
    match r, hq' with
    | .error er, hq' =>
      obtain ⟨_, _, _, _, _, _, _, _, _, _, _, _, z⟩ := hq'
      exact z.elim
    | .ok (.ret u), hq' =>
      obtain ⟨v, H2, os2, bare2, un2, hok2, rv, ev, d, fs, ea, ed, hd1, q2⟩ := hq'
      subst ev
      obtain ⟨h2, g2, d2, t2, os'⟩ := s'
      exact ⟨rv, mk_end (raises_own TC.exC TC.tyC) I1 hsz kk un2 hok2 os2 bare2 ea ed hd1 q2⟩
    | .ok .next, hq' => exact False.elim hq'
    | .ok .brk, hq' => exact False.elim hq'
    | .ok .cont, hq' => exact False.elim hq'
end
end Ty

set_option Elab.async false
set_option linter.all false
set_option maxRecDepth 100000
set_option maxHeartbeats 2000000
namespace Ty
open PySem PySem.Spec PyProof.Rows L2

/-! ### a caught exception before its clauses -/
/-- landed in X's frame: its object at a in the heap g, X's own things untouched -/
structure Lnd (X : Cx) (pins : List (Addr × Obj)) (σ : L2.St) (H : Hp) (a : Addr) (c : Value) (d : Option Addr) (t : Shared) (g : Heap) : Prop where
  ok : X.Ok
  na : H a = none
  ex : ∃ (B : Heap) (r : Shared), L2.Inv X pins σ H r ∧ (∀ b o, r.heap.get? b = some o → b ∉ frs X.stack → B.get? b = some o) ∧ r.heap.UpToSlots g ∧ HandSPX.FlyingZ B (X.env :: X.outer) a (Zc c d) g ∧ t.os = r.os ∧ AllBare t.gens
/-- what one clause after the other wishes: at each a class, a slot for the name (or none), the suite's reading -/
abbrev Cls1 := Value × Option Nat × (Addr → Value → Option Addr → TS)
def offN (i : Option Nat) (E : Ends) : Ends := match i with
  | none => E
  | some i => { nx := fun σ H => E.nx (σ.set i none) H, rt := E.rt, bk := fun σ H => E.bk (σ.set i none) H, ct := fun σ H => E.ct (σ.set i none) H }
def onN (i : Option Nat) (a : Addr) (σ : L2.St) : L2.St := match i with
  | none => σ
  | some i => σ.set i (some (.ref a))
def wCls (K : PySem.W.Frag) (Wout : WX) (E : Ends) : List Cls1 → WX
  | [] => Wout
  | (c, i, t) :: l => fun cls d σ H => ∃ b, PySem.W.exmOne K cls c = some b ∧ (b = true → ∀ a, H a = none → t a cls d (offN i E) (onN i a σ) H) ∧ (b = false → wCls K Wout E l cls d σ H)
/-- the name of a clause, by its slot -/
inductive NmOk (X : Cx) : Option Str → Option Nat → Prop
  | no : NmOk X none none
  | yes {n : Str} {i : Nat} : X.N[i]? = some n → X.env.kindOf n = some .local → NmOk X (some n) (some i)
inductive ClsOk (X : Cx) : List ExceptHandler → List Cls1 → Prop
  | nil : ClsOk X [] []
  | cons {x : Str} {c : Value} {n : Option Str} {i : Option Nat} {t : Addr → Value → Option Addr → TS} {b₀ : Stmt} {suite : List Stmt} {np p' : Pos} {hds : List ExceptHandler} {l : List Cls1} : Names X x c → NmOk X n i →
      (∀ (a : Addr) (oe : Obj) (cls : Value) (d : Option Addr) (pn : List (Addr × Obj)), Zc cls d oe → (∃ vs, oe.data = .fields vs) → PSs (X.suite a ((a, oe) :: pn)) (b₀ :: suite) (t a cls d)) → ClsOk X hds l →
      ClsOk X (.ExceptHandler (some (.Name x np)) n (b₀ :: suite) p' :: hds) ((c, i, t) :: l)
section
variable {X : Cx} {pins : List (Addr × Obj)} {σ : L2.St} {H : Hp} {a : Addr} {c : Value} {d : Option Addr} {t : Shared} {g : Heap} {E : Ends} {Wout : WX}
theorem Lnd.inv (L : Lnd X pins σ H a c d t g) : L2.Inv X pins σ H { t with heap := g } := by
  obtain ⟨B, r, J, nb, up, fl, os, ag⟩ := L.ex
  exact J.landed nb fl.1 up os ag
theorem Lnd.obj (L : Lnd X pins σ H a c d t g) : ∃ oe vs, g.get? a = some oe ∧ Zc c d oe ∧ oe.data = .fields vs := by
  obtain ⟨B, r, J, nb, up, fl, os, ag⟩ := L.ex
  exact fl.there
theorem Lnd.off (L : Lnd X pins σ H a c d t g) (hf : X.env.frame = some X.env.locals) : a ≠ X.env.locals ∧ a ∉ X.fs := by
  obtain ⟨B, r, J, nb, up, fl, os, ag⟩ := L.ex
  obtain ⟨oe, vs, he, _, hd⟩ := fl.there
  have out : a ∉ frs (X.env :: X.outer) := fun hm => by
    obtain ⟨_, o, e, hn⟩ := fl.2.2.1.mem hm
    rw [he] at e; cases e
    exact hn _ hd
  refine ⟨fun z => out (List.mem_filterMap.mpr ⟨X.env, List.mem_cons_self, by rw [hf, z]⟩), fun hm => ?_⟩
  obtain ⟨e, he, q⟩ := List.mem_filterMap.mp hm
  exact out (List.mem_filterMap.mpr ⟨e, List.mem_cons_of_mem _ he, q⟩)
theorem Lnd.suite (L : Lnd X pins σ H a c d t g) (hf : X.env.frame = some X.env.locals) {oe : Obj} {vs : Array Value} (he : g.get? a = some oe) (hd : oe.data = .fields vs) : L2.Inv (X.suite a ((a, oe) :: (X.pn ++ pins))) [] σ H { t with heap := g } :=
  L.inv.suite he hd L.na (L.off hf).1 (L.off hf).2
/-- the suite is entered: the flight is set to none -/
theorem Lnd.enter (L : Lnd X pins σ H a c d t g) {M : Model} {A : Around} {Ee : Value → Shared → Prop} {Q : Unit → Shared → Prop} (h : ∀ g', Lnd X pins σ H a c d t g' → Q () { t with heap := g' }) : wpAny M A (setFlight (.ref a) none) Q Ee { t with heap := g } := by
  obtain ⟨B, r, J, nb, up, fl, os, ag⟩ := L.ex
  exact HandSPX.lands_againZ fl fun g' fl' up' => h g' ⟨L.ok, L.na, B, r, J, nb, up.trans up', fl', os, ag⟩
/-- no clause takes it: it flies on -/
theorem Lnd.on (L : Lnd X pins σ H a c d t g) (hs : X.stack = X.env :: X.outer) (hf : X.env.frame = some X.env.locals) (tk : Takes X Wout) (w : Wout c d σ H) : wpAny (model X.prog X.w) X.A (handleBy (.ref a) X.env []) (SP X pins E) X.xe { t with heap := g } := by
  obtain ⟨B, r, J, nb, up, fl, os, ag⟩ := L.ex
  refine wpAny_handleBy_nil ?_
  obtain ⟨k1, k2, k3, oe, vs, T, oT, ts', he, hz, hd, h1, hr⟩ := id fl
  unfold PySem.passOn
  refine wpAny_bind (wpAny_field he hd h1 ?_)
  rw [if_neg (show ¬ ((Value.ref T == Value.none) = true) from by simp)]
  have fin : wpAny (model X.prog X.w) X.A (setFlight (.ref a) X.env.frame) (fun _ s4 => wpAny (model X.prog X.w) X.A (throw (.ref a) : Sem Flow) (SP X pins E) X.xe s4) X.xe { t with heap := g } := by
    rw [hf]
    refine HandSPX.setFlight_upZ fl fun g' hh up' => wpAny_throw (tk _ _ ?_)
    exact ⟨a, B, r, pins, σ, H, c, d, rfl, J, nb, up.trans up', .inr (.inr (by rw [hs]; exact hh)), L.na, os, ag, w⟩
  first
    | exact wpAny_bind (wpAny_pure (wpAny_bind fin))
    | exact wpAny_bind fin
/-- the clauses, one after the other -/
theorem Lnd.clauses (hs : X.stack = X.env :: X.outer) (hf : X.env.frame = some X.env.locals) (hN : X.N.Nodup) (tk : Takes X Wout) (L : Lnd X pins σ H a c d t g) {hds : List ExceptHandler} {l : List Cls1} (ok : ClsOk X hds l) :
    wCls X.K Wout E l c d σ H → wpAny (model X.prog X.w) X.A (handleBy (.ref a) X.env hds) (SP X pins E) X.xe { t with heap := g } := by
  induction ok with
  | nil => exact fun w => L.on hs hf tk w
  | @cons x c1 n i tt b₀ suite np p' hds l hc hn hsu r ih =>
    rintro ⟨b, hb, hy, hno⟩
    obtain ⟨oe, vs, he, hz, hd⟩ := L.obj
    have S := L.suite hf he hd
    refine wpAny_handleBy_cons (codeAny_handlers_test ?_) (by intro q; cases q)
    have LT : PySem.W.Looks (model X.prog X.w) g (typeOf (.ref a)) c := fun A Q E s k q => wpAny_typeOf_ref (k _ _ he) (by rw [hz.1]; exact q)
    have LM := PySem.W.exm_one (M := model X.prog X.w) L.inv.kIn LT hb
    have test : ∀ {Q : Value → Shared → Prop} {E : Value → Shared → Prop}, Q c1 { t with heap := g } → wpAny (model X.prog X.w) (X.A.mark (some (.ref a))) (eval (.Name x np) X.env) Q E { t with heap := g } := fun {Q E} q => by
      obtain ⟨hg, hdbg, hm | ⟨hm, hv, hnn⟩⟩ := hc
      · exact ld_glob (X := X.suite a ((a, oe) :: (X.pn ++ pins))) S hg hm q hdbg
      · exact ld_blt (X := X.suite a ((a, oe) :: (X.pn ++ pins))) S hg hm hv q hnn hdbg
    refine test (LM.here ?_)
    cases b with
    | false => exact ih (hno rfl)
    | true =>
      cases hn with
      | no =>
        refine codeAny_handlers_suite (L.enter fun g' L' => ?_)
        obtain ⟨oe', vs', he', hz', hd'⟩ := L'.obj
        refine wpAny_mono ((hsu a oe' c d (X.pn ++ pins) hz' ⟨_, hd'⟩).run [] _ _ H _ (L'.suite hf he' hd') (hy rfl a L.na)) (fun f u q => ?_) fun _ _ z => z.elim
        match f, q with
        | .next, ⟨s6, H6, S6, q6⟩ => exact ⟨_, _, S6.unsuite L.ok, q6⟩
        | .brk, ⟨s6, H6, S6, q6⟩ => exact ⟨_, _, S6.unsuite L.ok, q6⟩
        | .cont, ⟨s6, H6, S6, q6⟩ => exact ⟨_, _, S6.unsuite L.ok, q6⟩
        | .ret y, ⟨v6, s6, H6, S6, r6, q6⟩ => exact ⟨_, _, _, S6.unsuite L.ok, r6, q6⟩
      | @yes n i hi hln =>
        refine codeAny_handlers_suite_as (L.enter fun g' L' => ?_)
        obtain ⟨oe', vs', he', hz', hd'⟩ := L'.obj
        refine store_ok (X := X.suite a ((a, oe') :: (X.pn ++ pins))) (v := .ref a) (L'.suite hf he' hd') hN hi (.inl hln) rfl (fun s5 S5 => ?_) (.inr hln)
        refine wpAny_mono ((hsu a oe' c d (X.pn ++ pins) hz' ⟨_, hd'⟩).run [] _ _ H _ S5 (hy rfl a L.na)) (fun f u q => ?_) fun _ _ z => z.elim
        have fin : ∀ {s6 : L2.St} {H6 : Hp} {Q : Shared → Prop}, L2.Inv (X.suite a ((a, oe') :: (X.pn ++ pins))) [] s6 H6 u → (∀ s7, L2.Inv X pins (s6.set i none) H6 s7 → Q s7) →
            wpAny (model X.prog X.w) X.A (do bindName X.env n .none; unbindBehindTheSuite X.env n p') (fun _ s7 => Q s7) X.xe u := fun {s6 H6 Q} S6 hq => gone_ok (S6.unsuite L.ok) hN hi hln hq
        match f, q with
        | .next, ⟨s6, H6, S6, q6⟩ => exact fin S6 fun s7 J7 => ⟨_, _, J7, q6⟩
        | .brk, ⟨s6, H6, S6, q6⟩ => exact fin S6 fun s7 J7 => ⟨_, _, J7, q6⟩
        | .cont, ⟨s6, H6, S6, q6⟩ => exact fin S6 fun s7 J7 => ⟨_, _, J7, q6⟩
        | .ret y, ⟨v6, s6, H6, S6, r6, q6⟩ => exact fin S6 fun s7 J7 => ⟨_, _, _, J7, r6, q6⟩
theorem ps_try_cls {body : List Stmt} {h₀ : ExceptHandler} {hds : List ExceptHandler} {l : List Cls1} {pos : Pos} {tb : WX → TS} (hs : X.stack = X.env :: X.outer) (hf : X.env.frame = some X.env.locals) (hN : X.N.Nodup) (tk : Takes X Wout)
    (hb : ∀ (W : WX) (pn : List (Addr × Obj)) (xe : Value → Shared → Prop), Takes (X.tr pn xe) W → PassesOwn (model X.prog X.w) X.A X.env xe → PSs (X.tr pn xe) body (tb W)) (ok : ClsOk X (h₀ :: hds) l) :
    PS X (.Try body (h₀ :: hds) [] [] pos) (fun E σ H => tb (wCls X.K Wout E l) E σ H) := by
  refine ⟨fun pins s σ H E I h => ?_⟩
  have hfr : X.A.frames = some (X.env :: X.outer) := by rw [I.ok.frames, hs]
  refine wpAny_Try_except (wpAny_mono ((hb (wCls X.K Wout E l) (X.pn ++ pins) (fun e s₁ => wpAny (model X.prog X.w) X.A (noteFrame e X.env) (fun _ s₂ => wpAny (model X.prog X.w) X.A (setFlight e none) (fun _ s₃ =>
    wpAny (model X.prog X.w) X.A (handleBy e X.env (h₀ :: hds)) (SP X pins E) X.xe s₃) X.xe s₂) X.xe s₁) (fun u s' xx => ?_) PassesOwn.looking).run [] s σ H E (I.toTry _) h) (fun f s1 q => ?_) fun e s1 z => z)
  · obtain ⟨a, B, r, pn', σ', H', c, d, eu, J', nb, up, sky, na, os, ag, w⟩ := xx
    subst eu
    rw [show (X.tr (X.pn ++ pins) (fun e s₁ => wpAny (model X.prog X.w) X.A (noteFrame e X.env) (fun _ s₂ => wpAny (model X.prog X.w) X.A (setFlight e none) (fun _ s₃ => wpAny (model X.prog X.w) X.A (handleBy e X.env (h₀ :: hds)) (SP X pins E) X.xe s₃) X.xe s₂) X.xe s₁)).stack = X.env :: X.outer from hs] at sky
    show wpAny (model X.prog X.w) X.A (noteFrame (.ref a) X.env) _ _ _
    exact Sky.land Zc.steady hfr hf sky fun g fl up2 => Lnd.clauses hs hf hN tk ⟨I.ok, na, B, r, J'.ofTry I.ok, nb, up.trans up2, fl, os, ag⟩ ok w
  · match f, q with
    | .next, ⟨σ', H', J, q⟩ => exact wpAny_execs_nil ⟨σ', H', J.ofTry I.ok, q⟩
    | .brk, ⟨σ', H', J, q⟩ => exact ⟨σ', H', J.ofTry I.ok, q⟩
    | .cont, ⟨σ', H', J, q⟩ => exact ⟨σ', H', J.ofTry I.ok, q⟩
    | .ret u, ⟨v, σ', H', J, r, q⟩ => exact ⟨v, σ', H', J.ofTry I.ok, r, q⟩
end

/-! ### the typed rule -/
/-- a caught exception, as what its name stands for -/
structure XR (y : XV) (dd : Addr) where
  a : Addr
instance {y : XV} {dd : Addr} : Rep (XR y dd) := ⟨fun K B v r => v = .ref r.a ∧ ∃ vs, B dd = some (.xd vs) ∧ FRep K B vs y.fs, fun e ⟨h1, vs, h2, h3⟩ => ⟨h1, vs, e _ _ h2, h3.mono e⟩⟩
def onT (i : Option Nat) (t : TV) (ρ : TEnv) : TEnv := match i with
  | none => ρ
  | some i => ρ.set i (some t)
def offT (i : Option Nat) (D : DE) : DE := match i with
  | none => D
  | some i => { nx := fun ρ m => D.nx (ρ.set i none) m, rt := D.rt, bk := fun ρ m => D.bk (ρ.set i none) m, ct := fun ρ m => D.ct (ρ.set i none) m }
/-- a clause: the class, the name's slot, the suite -/
abbrev ClsT := Value × Option Nat × List Stmt
/-- what the clauses must show of an exception y -/
def xcl (X : Cx) (Z : Zs) (D : DE) (xp : XV → TEnv → Mu → Prop) : List ClsT → XV → TEnv → Mu → Prop
  | [] => xp
  | (c, i, su) :: l => fun y ρ m => ∃ b, PySem.W.exmOne X.K y.cls c = some b ∧ (b = true → ∀ (a dd : Addr) (oe : Obj) (pn : List (Addr × Obj)), Zc y.cls (some dd) oe → (∃ vs, oe.data = .fields vs) → Wss (X.suite a ((a, oe) :: pn)) Z su (onT i (tv (XR.mk a : XR y dd)) ρ) m (offT i D)) ∧
      (b = false → xcl X Z D xp l y ρ m)
inductive HdT (X : Cx) : List ExceptHandler → List ClsT → Prop
  | nil : HdT X [] []
  | cons {x : Str} {c : Value} {n : Option Str} {i : Option Nat} {b₀ : Stmt} {suite : List Stmt} {np p' : Pos} {hds : List ExceptHandler} {l : List ClsT} : Names X x c → NmOk X n i → HdT X hds l →
      HdT X (.ExceptHandler (some (.Name x np)) n (b₀ :: suite) p' :: hds) ((c, i, b₀ :: suite) :: l)
section
variable {X : Cx} {Z : Zs} {ρ : TEnv} {m : Mu} {D : DE} {xp : XV → TEnv → Mu → Prop}
def suS (X : Cx) (su : List Stmt) (a : Addr) (c : Value) (d : Option Addr) : TS := fun E σ H => ∀ (oe : Obj) (pn : List (Addr × Obj)), Zc c d oe → (∃ vs, oe.data = .fields vs) → tssS (X.suite a ((a, oe) :: pn)) su E σ H
def rdC (X : Cx) (l : List ClsT) : List Cls1 := l.map fun p => (p.1, p.2.1, suS X p.2.2)
theorem clsOk_rd {hds : List ExceptHandler} {l : List ClsT} (h : HdT X hds l) : ClsOk X hds (rdC X l) := by
  induction h with
  | nil => exact .nil
  | cons h1 h2 _ ih => exact .cons h1 h2 (fun a oe cls d pn hz hf => ⟨fun pins s σ H E I h => h oe pn hz hf pins s I⟩) ih
theorem eok_off {B : Hp} {E : Ends} {i : Option Nat} (k : EOk Z B D E) : EOk Z B (offT i D) (offN i E) := by
  cases i with
  | none => exact k
  | some i => exact ⟨fun s B' H' r m' a b c d => k.nx _ B' H' _ m' a (b.unset i) c d, k.rt, fun s B' H' r m' a b c d => k.bk _ B' H' _ m' a (b.unset i) c d, fun s B' H' r m' a b c d => k.ct _ B' H' _ m' a (b.unset i) c d⟩
theorem wcls_of {E : Ends} {Wout : WX} {B0 H0 : Hp} {m0 : Mu} {S : Sta Z B0 H0 m0} (k : EOk ⟨Z.K, B0, H0, m0⟩ B0 D E) (hout : ∀ c d σ H, (∃ ρ, xk ⟨Z.K, B0, H0, m0⟩ ρ xp σ c d H) → Wout c d σ H) : ∀ (l : List ClsT) (c : Value) (d : Option Addr) (σ : L2.St) (H : Hp),
    (∃ ρ, xk ⟨Z.K, B0, H0, m0⟩ ρ (xcl X ⟨Z.K, B0, H0, m0⟩ D xp l) σ c d H) → wCls X.K Wout E (rdC X l) c d σ H
  | [], c, d, σ, H, h => hout c d σ H h
  | (c1, i, su) :: l, c, d, σ, H, ⟨ρ, B, m, y, he, s, ⟨ec, dd, vs, ed, hb, fr⟩, b, hx, h1, h2⟩ => by
    subst ec
    subst ed
    refine ⟨b, hx, fun e a na oe pn hz hf => ?_, fun e => wcls_of (S := S) k hout l _ _ σ H ⟨ρ, B, m, y, he, s, ⟨rfl, dd, vs, rfl, hb, fr⟩, h2 e⟩⟩
    refine h1 e a dd oe pn hz hf _ B H (offN i E) ?_ s (eok_off (k.mono s.go.ext))
    cases i with
    | none => exact he
    | some i => exact he.set i (show TV.rep Z.K B (V.ref a) (tv (XR.mk a : XR y dd)) from ⟨rfl, vs, hb, fr⟩)
/-- try: body, except C as e: suite, .. -/
theorem ws_try {body : List Stmt} {h₀ : ExceptHandler} {hds : List ExceptHandler} {pos : Pos} (l : List ClsT) (hx : XT X Z xp) (hN : X.N.Nodup) (hd : HdT X (h₀ :: hds) l)
    (h : ∀ (B0 H0 : Hp) (pn : List (Addr × Obj)) (xe : Value → Shared → Prop), XT (X.tr pn xe) ⟨Z.K, B0, H0, m⟩ (xcl X ⟨Z.K, B0, H0, m⟩ D xp l) → PassesOwn (model X.prog X.w) X.A X.env xe → Wss (X.tr pn xe) ⟨Z.K, B0, H0, m⟩ body ρ m D)
    (hs : X.stack = X.env :: X.outer := by rfl) (hf : X.env.frame = some X.env.locals := by rfl) : Ws X Z (.Try body (h₀ :: hds) [] [] pos) ρ m D := fun σ B H E hE hS kE pins s I => by
  have hx' : Takes X (fun c d σ H' => ∃ ρ, xk ⟨Z.K, B, H, m⟩ ρ xp σ c d H') := hx.imp fun c d σ H' ⟨ρ, B', m', y, a, b, c⟩ => ⟨ρ, B', m', y, a, hS.back b, c⟩
  refine (ps_try_cls (tb := fun W E σ H => ∀ pn xe, Takes (X.tr pn xe) W → PassesOwn (model X.prog X.w) X.A X.env xe → tssS (X.tr pn xe) body E σ H) hs hf hN hx' (fun W pn xe tk po => ⟨fun pins s σ H E I h => h pn xe tk po pins s I⟩) (clsOk_rd hd)).run pins s σ H E I ?_
  intro pn xe tk po
  have kE' := kE.re hS
  exact h B H pn xe (tk.imp fun c d σ H' z => wcls_of (S := hS) kE' (fun _ _ _ _ z => z) l c d σ H' z) po σ B H E hE hS.re kE'
end
end Ty

set_option Elab.async false
set_option linter.all false
set_option maxRecDepth 100000
set_option maxHeartbeats 2000000
namespace Ty
open PySem PySem.Spec PyProof.Rows L2

/-! ### the same value, otherwise called -/
def Cv (t u : TV) : Prop := ∀ K B v, TV.rep K B v t → TV.rep K B v u
inductive Cvs : List TV → List TV → Prop
  | nil : Cvs [] []
  | cons {t u : TV} {ts us : List TV} : Cv t u → Cvs ts us → Cvs (t :: ts) (u :: us)
theorem Cv.rfl {t : TV} : Cv t t := fun _ _ _ h => h
theorem Cvs.rfl : ∀ {ts : List TV}, Cvs ts ts
  | [] => .nil
  | _ :: _ => .cons Cv.rfl Cvs.rfl
theorem Cvs.reps {K : PySem.W.Frag} {B : Hp} : ∀ {vs : List V} {ts us : List TV}, Cvs ts us → Reps K B vs ts → Reps K B vs us
  | _, _, _, .nil, .nil => .nil
  | _, _, _, .cons c r, .cons a b => .cons (c _ _ _ a) (Cvs.reps r b)
/-- a list, by what stands in it -/
def LstU (m : Mu) (t : TV) (ts : List TV) : Prop := ∀ K B H v, HpOk K B H m → TV.rep K B v t → ∃ a vs, v = .ref a ∧ H a = some (.lst vs) ∧ Reps K B vs ts
section
variable {m : Mu} {t : TV} {ts : List TV}
theorem lu_l {α : Type} [Rep α] {xs : List α} : LstU m (tv xs) (xs.map fun x => tv x) := fun K B H v S h => by
  obtain ⟨a, vs, h1, h2, h3⟩ := (show ∃ a vs, v = .ref a ∧ B a = some (.lst vs) ∧ Paired (Rep.rep K B) vs xs from h)
  exact ⟨a, vs, h1, S.ex _ _ h2, Reps.of_paired h3⟩
theorem lu_hl : LstU m (hl ts) ts := fun K B H v S h => by
  obtain ⟨a, vs, h1, h2, h3⟩ := (show ∃ a vs, v = .ref a ∧ B a = some (.lst vs) ∧ Reps K B vs ts from h)
  exact ⟨a, vs, h1, S.ex _ _ h2, h3⟩
theorem lu_own {p : Addr} {n : Nat} (h : m[n]? = some (p, mL ts)) : LstU m (tv (Ref.mk p)) ts := fun K B H v S r => by
  obtain ⟨_, o, ho, vs, e, q⟩ := S.at_ n p _ h
  subst e
  exact ⟨p, vs, r, ho, q⟩
end
/-! ### data -/
def kD : Key → PyData
  | .inl i => .int i
  | .inr x => .str x
mutual
inductive Dr (K : PySem.W.Frag) (H : Hp) : V → PyData → Prop
  | non : Dr K H .non .none
  | bl (b : Bool) : Dr K H (.bl b) (.bool b)
  | int (i : Int) : Dr K H (.int i) (.int i)
  | str (x : Str) : Dr K H (.str x) (.str x)
  | lst {a : Addr} {xs : List V} {ds : List PyData} : H a = some (.lst xs) → DrAll K H xs ds → Dr K H (.ref a) (.list ds)
  | tup {a : Addr} {xs : List V} {ds : List PyData} : SqT K H a xs → DrAll K H xs ds → Dr K H (.ref a) (.tuple ds)
  | dct {a : Addr} {kvs : List (Key × V)} {ds : List (PyData × PyData)} : H a = some (.dK kvs) → DrKv K H kvs ds → Dr K H (.ref a) (.dict ds)
inductive DrAll (K : PySem.W.Frag) (H : Hp) : List V → List PyData → Prop
  | nil : DrAll K H [] []
  | cons {v : V} {vs : List V} {d : PyData} {ds : List PyData} : Dr K H v d → DrAll K H vs ds → DrAll K H (v :: vs) (d :: ds)
inductive DrKv (K : PySem.W.Frag) (H : Hp) : List (Key × V) → List (PyData × PyData) → Prop
  | nil : DrKv K H [] []
  | cons {k : Key} {v : V} {kvs : List (Key × V)} {d : PyData} {ds : List (PyData × PyData)} : Dr K H v d → DrKv K H kvs ds → DrKv K H ((k, v) :: kvs) ((kD k, d) :: ds)
end
mutual
theorem Dr.mono {K : PySem.W.Frag} {H H' : Hp} (e : Ex H H') : ∀ (d : PyData) (v : V), Dr K H v d → Dr K H' v d
  | .none, _, h => by cases h; exact .non
  | .bool _, _, h => by cases h; exact .bl _
  | .int _, _, h => by cases h; exact .int _
  | .str _, _, h => by cases h; exact .str _
  | .list ds, _, h => by cases h with | lst h1 h2 => exact .lst (e _ _ h1) (Dr.monoAll e ds _ h2)
  | .tuple ds, _, h => by cases h with | tup h1 h2 => exact .tup (e.seqT h1) (Dr.monoAll e ds _ h2)
  | .dict ds, _, h => by cases h with | dct h1 h2 => exact .dct (e _ _ h1) (Dr.monoKv e ds _ h2)
theorem Dr.monoAll {K : PySem.W.Frag} {H H' : Hp} (e : Ex H H') : ∀ (ds : List PyData) (vs : List V), DrAll K H vs ds → DrAll K H' vs ds
  | [], _, h => by cases h; exact .nil
  | d :: ds, _, h => by cases h with | cons h1 h2 => exact .cons (Dr.mono e d _ h1) (Dr.monoAll e ds _ h2)
theorem Dr.monoKv {K : PySem.W.Frag} {H H' : Hp} (e : Ex H H') : ∀ (ds : List (PyData × PyData)) (vs : List (Key × V)), DrKv K H vs ds → DrKv K H' vs ds
  | [], _, h => by cases h; exact .nil
  | (_, d) :: ds, _, h => by cases h with | cons h1 h2 => exact .cons (Dr.mono e d _ h1) (Dr.monoKv e ds _ h2)
end
instance : Rep PyData := ⟨fun K B v d => Dr K B v d, fun e h => Dr.mono e _ _ h⟩
section
variable {X : Cx} {pins : List (Addr × Obj)} {σ : L2.St} {H : Hp} {s : Shared}
theorem not_sys (I : L2.Inv X pins σ H s) (hb : (X.base.get? sysModules).isSome = true) {a : Addr} {o : HO} (h : H a = some o) : sysModules ≠ a := fun e => by
  subst e
  obtain ⟨u, hu⟩ := Option.isSome_iff_exists.mp hb
  rw [(I.env0.bs _ u hu).2] at h
  cases h
mutual
theorem Dr.reads (I : L2.Inv X pins σ H s) (hb : (X.base.get? sysModules).isSome = true) : ∀ (d : PyData) (v : V) (u : Value), Dr X.K H v d → RelV v u → ∃ as, Reads s.heap u d as ∧ sysModules ∉ as
  | .none, _, _, h, r => by
    cases h; cases r
    exact ⟨_, Reads.none, by simp⟩
  | .bool b, _, _, h, r => by
    cases h; cases r
    exact ⟨_, Reads.bool b, by simp⟩
  | .int i, _, _, h, r => by
    cases h
    obtain ⟨t, rfl⟩ := r
    exact ⟨_, Reads.int i t, by simp⟩
  | .str x, _, _, h, r => by
    cases h
    obtain ⟨t, rfl⟩ := r
    exact ⟨_, Reads.str x t, by simp⟩
  | .list ds, _, _, h, r => by
    cases h with
    | lst hs ha =>
      cases r
      obtain ⟨its, rv, ⟨o, n, ho, hc, _, hd⟩, _⟩ := I.list (.of hs)
      obtain ⟨as, hr, hn⟩ := Dr.readsAll I hb ds _ its ha rv
      exact ⟨_, Reads.list ho hc hd hr, fun z => (List.mem_cons.mp z).elim (not_sys I hb hs) hn⟩
  | .tuple ds, _, _, h, r => by
    cases h with
    | tup hs ha =>
      cases r
      obtain ⟨its, rv, ⟨o, ho, hc, n, hd⟩, _⟩ := I.tuple hs
      obtain ⟨as, hr, hn⟩ := Dr.readsAll I hb ds _ its ha rv
      exact ⟨_, Reads.tuple ho hc hd hr, hn⟩
  | .dict ds, _, _, h, r => by
    cases h with
    | dct hs ha =>
      cases r
      obtain ⟨_, ya, va, ra, da⟩ := (show ObjOk X.prog X.w H s.heap _ (.dK _) from I.hok _ _ hs)
      obtain ⟨as, hr, hn⟩ := Dr.readsKv I hb ds _ va ha ra
      refine ⟨_, PyProof.V.reads_dictOf (knd := mixKind X.prog X.w) (enc := kD) (fun k key hk => ?_) da hr, fun z => (List.mem_cons.mp z).elim (not_sys I hb hs) hn⟩
      rcases keyIs_shape (show keyIs k key = true from hk) with ⟨i, t, rfl, rfl⟩ | ⟨x, t, rfl, rfl⟩
      · exact Reads.int i t
      · exact Reads.str x t
theorem Dr.readsAll (I : L2.Inv X pins σ H s) (hb : (X.base.get? sysModules).isSome = true) : ∀ (ds : List PyData) (vs : List V) (us : List Value), DrAll X.K H vs ds → Vals vs us → ∃ as, ReadsAll s.heap us ds as ∧ sysModules ∉ as
  | [], _, _, h, r => by
    cases h; cases r
    exact ⟨_, ReadsAll.nil, by simp⟩
  | d :: ds, _, _, h, r => by
    cases h with
    | cons h1 h2 =>
      cases r with
      | cons r1 r2 =>
        obtain ⟨as, q1, n1⟩ := Dr.reads I hb d _ _ h1 r1
        obtain ⟨bs, q2, n2⟩ := Dr.readsAll I hb ds _ _ h2 r2
        exact ⟨_, ReadsAll.cons q1 q2, fun z => (List.mem_append.mp z).elim n1 n2⟩
theorem Dr.readsKv (I : L2.Inv X pins σ H s) (hb : (X.base.get? sysModules).isSome = true) : ∀ (ds : List (PyData × PyData)) (kvs : List (Key × V)) (us : List (Key × Value)), DrKv X.K H kvs ds → KV kvs us → ∃ as, PyProof.V.PairsRead s.heap kD us ds as ∧ sysModules ∉ as
  | [], _, _, h, r => by
    cases h; cases r
    exact ⟨_, .nil, by simp⟩
  | (k0, d) :: ds, _, _, h, r => by
    cases h with
    | cons h1 h2 =>
      cases r with
      | @cons _ q _ qs r1 r2 =>
        obtain ⟨e1, rv⟩ := r1
        obtain ⟨as, q1, n1⟩ := Dr.reads I hb d _ _ h1 rv
        obtain ⟨bs, q2, n2⟩ := Dr.readsKv I hb ds _ _ h2 r2
        obtain ⟨k1, u1⟩ := q
        cases (show _ = k1 from e1)
        exact ⟨_, .cons q1 q2, fun z => (List.mem_append.mp z).elim n1 n2⟩
end
end
/-- a thing that stands for data, wherever the things m may change stand -/
def AsD (m : Mu) (t : TV) (d : PyData) : Prop := ∀ K B H v, HpOk K B H m → TV.rep K B v t → Dr K H v d
inductive AsDs (m : Mu) : List TV → List PyData → Prop
  | nil : AsDs m [] []
  | cons {t : TV} {ts : List TV} {d : PyData} {ds : List PyData} : AsD m t d → AsDs m ts ds → AsDs m (t :: ts) (d :: ds)
section
variable {m : Mu} {t : TV} {ts : List TV} {d : PyData} {ds : List PyData}
theorem asd_int {i : Int} : AsD m (tv i) (.int i) := fun _ _ _ v _ h => by rw [show v = .int i from h]; exact .int i
theorem asd_str {i : Str} : AsD m (tv i) (.str i) := fun _ _ _ v _ h => by rw [show v = .str i from h]; exact .str i
theorem asd_bool {i : Bool} : AsD m (tv i) (.bool i) := fun _ _ _ v _ h => by rw [show v = .bl i from h]; exact .bl i
theorem asd_none {u : Unit} : AsD m (tv u) .none := fun _ _ _ v _ h => by rw [show v = .non from h]; exact .non
theorem asd_data : AsD m (tv d) d := fun _ _ _ v S h => Dr.mono S.ex _ _ h
theorem AsDs.all {K : PySem.W.Frag} {B H : Hp} (S : HpOk K B H m) : ∀ {vs : List V} {ts : List TV} {ds : List PyData}, AsDs m ts ds → Reps K B vs ts → DrAll K H vs ds
  | _, _, _, .nil, .nil => .nil
  | _, _, _, .cons a r, .cons b q => .cons (a _ _ _ _ S b) (AsDs.all S r q)
theorem asd_list (hu : LstU m t ts) (h : AsDs m ts ds) : AsD m t (.list ds) := fun K B H v S r => by
  obtain ⟨a, vs, ev, hh, rr⟩ := hu K B H v S r
  rw [ev]
  exact .lst hh (h.all S rr)
theorem asd_tup (hu : TupU t ts) (h : AsDs m ts ds) : AsD m t (.tuple ds) := fun K B H v S r => by
  obtain ⟨a, vs, ev, hh, rr⟩ := hu K B v r
  rw [ev]
  exact .tup (S.ex.seqT hh) (h.all S rr)
theorem asds_map {α : Type} [Rep α] {f : α → PyData} : ∀ {xs : List α}, (∀ x, x ∈ xs → AsD m (tv x) (f x)) → AsDs m (xs.map fun x => tv x) (xs.map f)
  | [], _ => .nil
  | x :: xs, h => .cons (h x List.mem_cons_self) (asds_map fun y hy => h y (List.mem_cons_of_mem _ hy))
end
/-! ### rules -/
theorem getb_l {α : Type} {xs : List α} : (xs.drop 0).take xs.length = xs := by simp
section
variable {X : Cx} {Z : Zs} {ρ : TEnv} {m : Mu} {D : DE} {P : TV → Mu → Prop} {t : TV} {ts : List TV} {d e : PyData} {k : Nat}
theorem we_cv {ex : Expr} (h : We X Z ex ρ m fun x m' => ∃ y, Cv x y ∧ P y m') : We X Z ex ρ m P := fun σ B H Q he hS q => h σ B H Q he hS fun v B' H' m' x a b c ⟨y, cv, p⟩ => q v B' H' m' y a b (cv _ _ _ c) p
theorem wa_cv {es : List Expr} {PA : List TV → Mu → Prop} (h : Wa X Z es ρ m fun xs m' => ∃ ys, Cvs xs ys ∧ PA ys m') : Wa X Z es ρ m PA := fun σ B H Q he hS q => h σ B H Q he hS fun v B' H' m' x a b c ⟨y, cv, p⟩ => q v B' H' m' y a b (cv.reps c) p
/-- what may change is let go -/
theorem Sta.sub {B H : Hp} {m' : Mu} (S : Sta Z B H m) (h : m'.Sublist m) : Sta Z B H m' :=
  ⟨⟨S.hp.ex, S.hp.nd.sublist (h.map _), fun i p c hi => by
    obtain ⟨j, hj⟩ := List.getElem?_of_mem (h.subset (List.mem_of_getElem? hi))
    exact S.hp.at_ j p c hj⟩, ⟨S.go.ext, S.go.keep, S.go.dom, S.go.nw, fun p hp => S.go.ks p ((h.map _).subset hp)⟩⟩
theorem we_drop {ex : Expr} (h : We X Z ex ρ m fun x m' => ∃ m'', m''.Sublist m' ∧ P x m'') : We X Z ex ρ m P := fun σ B H Q he hS q => h σ B H Q he hS fun v B' H' m' x a b c ⟨m2, sb, p⟩ => q v B' H' m2 x a (b.sub sb) c p
theorem ws_drop {st : Stmt} (h : Ws X Z st ρ m { D with nx := fun ρ' m' => ∃ m'', m''.Sublist m' ∧ D.nx ρ' m'' }) : Ws X Z st ρ m D := fun σ B H E he hS q => h σ B H E he hS
  ⟨fun s' B' H' r' m' a b c ⟨m2, sb, p⟩ => q.nx s' B' H' r' m2 a b (c.sub sb) p, q.rt, q.bk, q.ct⟩
theorem lstU_at {B H : Hp} {v : V} (hu : LstU m t ts) (S : Sta Z B H m) (r : TV.rep Z.K B v t) : ∃ a vs, v = .ref a ∧ H a = some (.lst vs) ∧ Reps Z.K B vs ts := hu _ _ _ _ S.hp r
theorem ix_lU {u : TV} {i : Int} (hu : LstU m t ts) (hi : atT ts i = some u) (h : P u m) (hK : X.K = Z.K := by rfl) : IxP X Z t (tv i) m P := .of ix_list fun B H Q v w hS hv hw k => by
  obtain ⟨a, vs, ev, hq, rr⟩ := lstU_at hu hS hv
  obtain ⟨j, hj, hx⟩ := atI_len rr.length hi
  obtain ⟨z, hz, rz⟩ := rr.at' hx
  exact ⟨a, vs, i, z, ev, hw, .of hq, by unfold atI; rw [hj]; exact hz, k z B H m u (Ex.refl _) hS rz h⟩
theorem len_lU (hu : LstU m t ts) (h : P (tv (ts.length : Int)) m) : CallP X Z (.builtin "len") [t] m P := .of call_len_seq fun B H Q vs hS hv k => by
  obtain ⟨v, rfl, r⟩ := reps1 hv
  obtain ⟨a, ws, ev, hq, rr⟩ := lstU_at hu hS r
  refine ⟨a, ws, by rw [ev], .inl (.of hq), ?_⟩
  rw [rr.length]
  exact k _ B H m _ (Ex.refl _) hS (rep_int _) h
theorem Reps.drop {K : PySem.W.Frag} {B : Hp} : ∀ (n : Nat) {vs : List V} {ts : List TV}, Reps K B vs ts → Reps K B (vs.drop n) (ts.drop n)
  | 0, _, _, h => h
  | n + 1, _, _, .nil => .nil
  | n + 1, _, _, .cons _ r => Reps.drop n r
theorem Reps.take {K : PySem.W.Frag} {B : Hp} : ∀ (n : Nat) {vs : List V} {ts : List TV}, Reps K B vs ts → Reps K B (vs.take n) (ts.take n)
  | 0, _, _, h => .nil
  | n + 1, _, _, .nil => .nil
  | n + 1, _, _, .cons a r => .cons a (Reps.take n r)
def cutT (ts : List TV) (lo hi : Option Int) : List TV := (ts.drop (HT.sIx ts.length 0 lo)).take (HT.sIx ts.length ts.length hi - HT.sIx ts.length 0 lo)
theorem sl_lU {lo hi : Option Int} (hu : LstU m t ts) (h : P (hl (cutT ts lo hi)) m) : SlP X Z t lo hi m P := .of sl_list fun B H Q v hS hv k => by
  obtain ⟨a, vs, ev, hq, rr⟩ := lstU_at hu hS hv
  refine ⟨a, vs, ev, .of hq, fun p hp => ?_⟩
  have hn := hS.noneB hp
  refine k (.ref p) _ _ m (hl _) (Ex.new hn) (hS.newB hp) ⟨p, _, rfl, upd_same, ?_⟩ h
  unfold cutV
  rw [rr.length]
  exact ((rr.drop _).take _).mono (Ex.new hn)
/-- xs + ys: a new list that never changes -/
theorem add_lU {u : TV} {us : List TV} (hu : LstU m t ts) (hv : LstU m u us) (hz : ts.length + us.length ≤ 1000000) (h : P (hl (ts ++ us)) m) : OpP X Z (binaryOp .Add) t u m P := .of op_cat fun B H Q v w hS h1 h2 k => by
  obtain ⟨a, vs, ev, hq, rr⟩ := lstU_at hu hS h1
  obtain ⟨b, ws, ew, hq2, rr2⟩ := lstU_at hv hS h2
  refine ⟨a, b, vs, ws, ev, ew, hq, hq2, by rw [rr.length, rr2.length, sizeLine_eq]; omega, fun p hp => ?_⟩
  have hn := hS.noneB hp
  exact k (.ref p) _ _ m (hl (ts ++ us)) (Ex.new hn) (hS.newB hp) ⟨p, _, rfl, upd_same, (rr.append rr2).mono (Ex.new hn)⟩ h
/-- .. that may change -/
theorem add_lO {u : TV} {us : List TV} (hu : LstU m t ts) (hv : LstU m u us) (hz : ts.length + us.length ≤ 1000000) (h : ∀ p, P (tv (Ref.mk p)) (m ++ [(p, mL (ts ++ us))])) : OpP X Z (binaryOp .Add) t u m P := .of op_cat fun B H Q v w hS h1 h2 k => by
  obtain ⟨a, vs, ev, hq, rr⟩ := lstU_at hu hS h1
  obtain ⟨b, ws, ew, hq2, rr2⟩ := lstU_at hv hS h2
  refine ⟨a, b, vs, ws, ev, ew, hq, hq2, by rw [rr.length, rr2.length, sizeLine_eq]; omega, fun p hp => ?_⟩
  exact k (.ref p) B _ _ (tv (Ref.mk p)) (Ex.refl _) (hS.newM hp (c := mL (ts ++ us)) ⟨_, rfl, rr.append rr2⟩) (show V.ref p = .ref p from rfl) (h p)
/-- over a list -/
theorem wi_lU {R : List TV → (Mu → Prop) → Mu → Prop} {tg iter : Expr} (h : We X Z iter ρ m fun t m1 => ∃ ts, LstU m1 t ts ∧ R ts (fun m' => LstU m' t ts) m1) : Wi X Z tg iter ρ m R := by
  refine .of (pi_list pe_sem) fun σ B H Q he hs k => we_sub h he hs fun v B1 H1 m1 t a1 b1 c1 d1 ⟨ts, hu, r⟩ => ?_
  obtain ⟨a, vs, ev, hq, rr⟩ := lstU_at hu c1 d1
  refine ⟨a, ev, ⟨vs, .of hq⟩, k _ B1 H1 m1 ts _ a1 c1 (fun B' H' m' e s hg => ?_) r⟩
  obtain ⟨b, ws, ew, hw, rw'⟩ := lstU_at hg s (TV.mono e d1)
  have eb : a = b := V.ref.inj (ev.symm.trans ew)
  subst eb
  refine ⟨fun i t ht => ?_, ⟨ws, .of hw, by rw [rw'.length]; exact Nat.le_refl _⟩⟩
  obtain ⟨u, hu, ru⟩ := rw'.at' ht
  refine ⟨⟨ws, u, .of hw, hu⟩, fun y H'' hy => ?_⟩
  obtain ⟨rfl, hy⟩ := hy
  have := hy ws (.of hw)
  rw [hu] at this
  cases this
  exact ⟨B', Ex.refl _, s, ru⟩
/-! ### repr, ==, != -/
def isC : PyData → Bool
  | .list _ => true
  | .tuple _ => true
  | .dict _ => true
  | _ => false
theorem Dr.ref {K : PySem.W.Frag} {H : Hp} {v : V} (h : Dr K H v d) (c : isC d = true) : ∃ a, v = .ref a := by
  cases h <;> first | exact ⟨_, rfl⟩ | cases c
theorem repr_d (hd : AsD m t d) (hgd : X.A.guards = some []) (hr : Room k X.A) (hb : (X.base.get? sysModules).isSome = true) (hc : isC d = true) (hs : d.showable = true) (hp : d.depth ≤ 60) (hz : d.shown.length ≤ 16000000) (h : P (tv d.shown) m) (hK : X.K = Z.K := by rfl) : CallP X Z (.builtin "repr") [t] m P :=
  fun B H Q vs hS hv q pins s σ us I r => by
    obtain ⟨v, rfl, rv⟩ := reps1 hv
    have dr : Dr X.K H v d := hK ▸ hd _ _ _ _ hS.hp rv
    obtain ⟨a, rfl⟩ := dr.ref hc
    cases r with
    | @cons _ u0 _ ur ra rn =>
      cases rn
      obtain rfl : u0 = Value.ref a := ra
      obtain ⟨as, rd, ns⟩ := dr.reads I hb _ _ (.ref a) (show RelV (V.ref a) (Value.ref a) from rfl)
      have hu := hr.un
      exact repr_of_reads' (h₀ := s.heap) rd hs (fun _ => ns) hgd (by omega) (fun _ _ e => e) (fun h' u tk hk => ⟨.str d.shown, H, I.kept (t' := tk) hk, ⟨u, rfl⟩, q _ B H m _ (Ex.refl _) hS (rep_str _) h⟩) (line_of hz)
theorem room_units {A : Around} (hr : Room k A) : A.units + 64 < cLine := by have := hr.un; omega
theorem eq_d {u : TV} (hd : AsD m t d) (he : AsD m u e) (hr : Room k X.A) (hb : (X.base.get? sysModules).isSome = true) (sd : SeqAt.shaped d = true) (se : SeqAt.shaped e = true) (h : P (tv (PyData.eqv d e)) m) (hK : X.K = Z.K := by rfl) : OpP X Z (compareOp .Eq) t u m P :=
  fun B H Q v w hS hv hw q pins s σ vv uu I rv ru => by
    obtain ⟨as, r1, _⟩ := Dr.reads I hb _ _ vv (hK ▸ hd _ _ _ _ hS.hp hv) rv
    obtain ⟨bs, r2, _⟩ := Dr.reads I hb _ _ uu (hK ▸ he _ _ _ _ hS.hp hw) ru
    exact SeqAt.compareEq_shaped r1 r2 sd se (room_units hr) ⟨.bl _, H, I, rfl, q _ B H m _ (Ex.refl _) hS (rep_bool _) h⟩
theorem ne_d {u : TV} (hd : AsD m t d) (he : AsD m u e) (hr : Room k X.A) (hb : (X.base.get? sysModules).isSome = true) (sd : SeqAt.shaped d = true) (se : SeqAt.shaped e = true) (h : P (tv (!PyData.eqv d e)) m) (hK : X.K = Z.K := by rfl) : OpP X Z (compareOp .NotEq) t u m P :=
  fun B H Q v w hS hv hw q pins s σ vv uu I rv ru => by
    obtain ⟨as, r1, _⟩ := Dr.reads I hb _ _ vv (hK ▸ hd _ _ _ _ hS.hp hv) rv
    obtain ⟨bs, r2, _⟩ := Dr.reads I hb _ _ uu (hK ▸ he _ _ _ _ hS.hp hw) ru
    exact SeqAt.compareNe_shaped r1 r2 sd se (room_units hr) ⟨.bl _, H, I, rfl, q _ B H m _ (Ex.refl _) hS (rep_bool _) h⟩
/-! ### lists and texts: more -/
theorem inV_is {i : Int} {ns : List Int} : inV (.int i) (ns.map V.int) = decide (i ∈ ns) := by
  unfold inV
  rw [List.any_map, Bool.eq_iff_iff, List.any_eq_true, decide_eq_true_eq]
  refine ⟨fun ⟨x, hx, e⟩ => ?_, fun h => ⟨i, h, by simp [eqV]⟩⟩
  have : x = i := by simpa [eqV] using e
  exact this ▸ hx
theorem inV_ss {i : Str} {ns : List Str} : inV (.str i) (ns.map V.str) = decide (i ∈ ns) := by
  unfold inV
  rw [List.any_map, Bool.eq_iff_iff, List.any_eq_true, decide_eq_true_eq]
  refine ⟨fun ⟨x, hx, e⟩ => ?_, fun h => ⟨i, h, by simp [eqV]⟩⟩
  have : x = i := by simpa [eqV] using e
  exact this ▸ hx
theorem flat_ints {ns : List Int} : (ns.map V.int).all flatV = true := by simp [flatV]
theorem flat_strs {ns : List Str} : (ns.map V.str).all flatV = true := by simp [flatV]
theorem in_il {i : Int} {ns : List Int} (h : P (tv (decide (i ∈ ns))) m) : OpP X Z (compareOp .In) (tv i) (tv ns) m P := .of op_in_seq fun B H Q v w hS hv hw q => by
  obtain ⟨a, vs, ev, _, hh, pr⟩ := rep_list hS.ex hw
  have := rep_ints pr
  subst this
  rw [show v = .int i from hv]
  refine ⟨a, _, ev, .inl (.of hh), rfl, flat_ints, ?_⟩
  rw [inV_is]
  exact q _ B H m _ (Ex.refl _) hS (rep_bool _) h
theorem in_sl {i : Str} {ns : List Str} (h : P (tv (decide (i ∈ ns))) m) : OpP X Z (compareOp .In) (tv i) (tv ns) m P := .of op_in_seq fun B H Q v w hS hv hw q => by
  obtain ⟨a, vs, ev, _, hh, pr⟩ := rep_list hS.ex hw
  have := rep_strs pr
  subst this
  rw [show v = .str i from hv]
  refine ⟨a, _, ev, .inl (.of hh), rfl, flat_strs, ?_⟩
  rw [inV_ss]
  exact q _ B H m _ (Ex.refl _) hS (rep_bool _) h
/-- a text so many times over -/
theorem mul_si {x : Str} {n : Int} (h0 : 0 ≤ n) (h1 : n < 1000000) (hz : x.length * n.toNat ≤ 1000000) (h : P (tv (Txt.mul x n)) m) : OpP X Z (binaryOp .Mult) (tv x) (tv n) m P :=
  fun B H Q v w hS hv hw q pins s σ vv uu I rv ru => by
    have e1 : v = .str x := hv
    have e2 : w = .int n := hw
    subst e1; subst e2
    obtain ⟨t1, rfl⟩ := rv
    obtain ⟨t2, rfl⟩ := ru
    refine SB.mul ⟨?_, fun h1 h2 h3 => ?_, fun _ _ => ?_⟩ fun t' k => ⟨.str _, H, I.tok _, ⟨_, rfl⟩, q _ B H m _ (Ex.refl _) hS (rep_str _) h⟩
    · rw [decide_eq_false (by omega), decide_eq_false (by omega)]; rfl
    · have hn : 0 < n := by omega
      have := (Int.ediv_lt_iff_lt_mul hn).mp h3
      have e : (x.length : Int) * n ≤ 1000000 := by
        have e : ((x.length * n.toNat : Nat) : Int) = (x.length : Int) * n := by rw [Int.natCast_mul, Int.toNat_of_nonneg h0]
        rw [← e]; exact Int.ofNat_le.mpr hz
      omega
    · unfold Builtin.Str.tooLong
      exact decide_eq_false (by have := sizeLine_eq; omega)
theorem join_l {x : Str} {ys : List Str} (hz : (ys.map (·.length)).sum + ys.length * x.length ≤ 16777216) (h : P (tv (Txt.join x ys)) m) : MetP X Z "str.join" (tv x) [tv ys] m P := .of mt_join fun B H Q v vs hS hv hx q => by
  obtain ⟨w, rfl, r⟩ := reps1 hx
  obtain ⟨a, ws, ev, _, hh, pr⟩ := rep_list hS.ex r
  have := rep_strs pr
  subst this
  exact ⟨x, a, ys, hv, by rw [ev], .inl (.of hh), hz, q _ B H m _ (Ex.refl _) hS (rep_str _) h⟩
/-- a list that may change grows -/
theorem append_o {p : Addr} {n : Nat} {u : TV} (hm : m[n]? = some (p, mL ts)) (hz : ts.length ≤ 1000000) (h : P (tv ()) (m.set n (p, mL (ts ++ [u])))) : MetP X Z "list.append" (tv (Ref.mk p)) [u] m P :=
  fun B H Q v vs hS hv hx q pins s σ vv us I rv r => mt_append pins s σ H v vs vv us Q I rv r (by
    obtain ⟨w, rfl, rw'⟩ := reps1 hx
    obtain ⟨ws, hh, pr⟩ := mL_at hS hm
    refine ⟨p, ws, w, hv, rfl, hh, by rw [pr.length, sizeLine_eq]; omega, ?_⟩
    exact q .non B _ _ (tv ()) (Ex.refl _) (hS.write (d := mL (ts ++ [u])) hm ⟨_, rfl, pr.append (.cons rw' .nil)⟩) (show V.non = .non from rfl) h)
theorem ty_lU (hu : LstU m t ts) : TyP Z "list" t m := fun B H v hS h => by
  obtain ⟨a, vs, ev, hq, rr⟩ := lstU_at hu hS h
  subst ev
  exact .inl ⟨rfl, vs, .of hq⟩
/-! ### fields of an instance that may change -/
theorem mI_at {B H : Hp} {p C : Addr} {i : Nat} {fs : List (Str × TV)} (S : Sta Z B H m) (h : m[i]? = some (p, mI C fs)) : ∃ dx vs, H p = some (.ins C dx vs) ∧ FRep Z.K B vs fs := by
  obtain ⟨_, o, ho, dx, vs, e, r⟩ := S.hp.at_ i p _ h
  subst e
  exact ⟨dx, vs, ho, r⟩
variable {ex o : Expr} {f : Str} {pos p' : Pos}
theorem we_fld (h : We X Z ex ρ m fun t m1 => ∃ (p C : Addr) (i : Nat) (fs : List (Str × TV)) (u : TV), t = tv (Ref.mk p) ∧ m1[i]? = some (p, mI C fs) ∧ fs.lookup f = some u ∧ Cls X.K C ∧ NoAttr X.K C f ∧ P u m1)
    (hb : attributeBase ex f X.env (eval ex X.env) = eval ex X.env := by rfl) : We X Z (.Attribute ex f pos) ρ m P := .of (pe_fld pe_sem hb) fun σ B H Q he hs q => we_sub h he hs fun v B1 H1 m1 t a1 b1 c1 d1 e1 => by
  obtain ⟨p, C, i, fs, u, rfl, hi, hl, c, n, hp⟩ := e1
  obtain ⟨dx, vs, ho, fr⟩ := mI_at c1 hi
  obtain ⟨w, hw, rw'⟩ := fr.look hl
  exact ⟨p, C, dx, vs, w, d1, ho, c, n, hw, q w B1 H1 m1 u a1 c1 rw' hp⟩
theorem ws_fld (h : We X Z ex ρ m fun u m1 => We X Z o ρ m1 fun t m2 => ∃ (p C : Addr) (i : Nat) (fs : List (Str × TV)), t = tv (Ref.mk p) ∧ m2[i]? = some (p, mI C fs) ∧ fs.length < 1000 ∧ Cls X.K C ∧ NoAttr X.K C f ∧ D.nx ρ (m2.set i (p, mI C (putT f u fs))))
    (hs : swapsWith ex (some (.Attribute o f p')) pos.line X.env = pure false := by rfl) : Ws X Z (.Assign [.Attribute o f p'] ex pos) ρ m D := .of (ps_fld pe_sem pe_sem hs) fun σ B H E he hS q => we_sub h he hS fun v B1 H1 m1 u a1 b1 c1 d1 e1 => we_sub e1 b1 c1 fun w B2 H2 m2 t a2 b2 c2 d2 e2 => by
  obtain ⟨p, C, i, fs, rfl, hi, hl, c, n, hp⟩ := e2
  obtain ⟨dx, vs, ho, fr⟩ := mI_at c2 hi
  refine ⟨p, C, dx, vs, d2, ho, c, n, by rw [fr.length]; exact hl, ?_⟩
  exact q.nx σ B2 _ ρ _ (a1.trans a2) b2 (c2.write (d := mI C (putT f u fs)) hi ⟨dx, _, rfl, FRep.put (TV.mono a2 d1) fr⟩) hp
theorem ins_own {p C : Addr} {i : Nat} {fs : List (Str × TV)} {mname : Str} (hi : m[i]? = some (p, mI C fs)) (hl : fs.lookup mname = none) : InsP Z C mname (tv (Ref.mk p)) m := fun B H v S r => by
  obtain ⟨dx, vs, ho, fr⟩ := mI_at S hi
  refine ⟨p, dx, vs, r, ho, ?_⟩
  have aux : ∀ {vs : List (Str × V)} {fs : List (Str × TV)}, FRep Z.K B vs fs → fs.lookup mname = none → vs.lookup mname = none := by
    intro vs fs h
    induction h with
    | nil => intro _; rfl
    | cons a b ih =>
      intro hl
      unfold List.lookup at hl ⊢
      split at hl
      · cases hl
      · exact ih hl
  exact aux fr hl
end
end Ty

set_option Elab.async false
set_option linter.all false
set_option maxRecDepth 100000
set_option maxHeartbeats 4000000
namespace PySem.W
open PySem PySem.Spec PySem.Calls PyProof.Rows
/-- the class of a caught exception that bears a dict, asked as an attribute -/
theorem ty_exClass {prog : Program} {w : World} {A : Around} {E : Value → Shared → Prop} {s : Shared} {K : Frag} {x D : Addr} {ox : Obj} {od : Option Obj} {Q : Option Value → Shared → Prop} (C : L2.ExcC K D) (X : K.In s.heap) (I : InstAt s.heap x ox D od) (h : Q (some (.ref D)) { s with toks := s.toks + 1 }) :
    wpAny (model prog w) A (getAttr? (.ref x) "__class__") Q E s := by
  have hf : findObj K D od "__class__" = some (.bind (.builtin "getset_descriptor.__get__") (.builtin "object.__class__")) := findObj_dataE (by obtain ⟨cd, hc, _⟩ := any_some C.hd; rw [hc]; rfl) C.ha C.hn C.ht
  obtain ⟨hp, g, d, t, os⟩ := s
  have T0 := I.type (M := model prog w)
  have T3 := looks_find (M := model prog w) X I hf
  have nb : (Value.builtin "BaseException.__getattribute__" == Value.builtin "object.__getattribute__") = false := by decide +kernel
  unfold getAttr? getAttrBy? getAttrBy
  refine wpAny_bind (wpAny_mkText (wpAny_bind (wpAny_attempt (wpAny_holding (wpAny_bind (T0.at (wpAny_bind ((looks_findIn X C.hg).at ?_))))))))
  show wpAny _ _ (if (onTheHeap (Value.ref D) && Value.builtin "BaseException.__getattribute__" == Value.builtin "object.__getattribute__") = true then _ else _) _ _ _
  rw [if_neg (by rw [nb, Bool.and_false]; exact Bool.false_ne_true)]
  unfold getAttrByItsOwn hookBefore
  refine wpAny_bind ?_
  rw [if_pos (show onTheHeap (Value.ref D) = true from rfl)]
  refine (looks_findIn X C.hk).at (wpAny_bind (wpAny_attempt (wpAny_holding ?_)))
  unfold callGetattribute
  rw [show (false && onTheHeap (Value.builtin "BaseException.__getattribute__")) = false from rfl, if_neg Bool.false_ne_true]
  unfold boundAndCalled
  rw [PySem.F.excAttr_ValueError.ga.bind (.ref x)]
  refine wpAny_bind (wpAny_pure ?_)
  show wpAny _ _ (call (.builtin "BaseException.__getattribute__") [.ref x, .str "__class__" t]) _ _ _
  refine wpAny_call (codeAny_call_builtin PySem.F.excAttr_ValueError.ga.plain PySem.F.entry_bexc_ga ?_)
  refine @check_slot (model prog w) _ _ ⟨hp, g, d, t + 1, os⟩ "BaseException.__getattribute__" "BaseException" "__getattribute__" (.ref x) [.str "__class__" t] [] _ (by decide +kernel) (by decide +kernel) (T0.andThen (looks_subIn X C.hs)) (PySem.F.args_bexc_ga (.ref x) (.str "__class__" t)) ?_
  unfold Builtin.«object.__getattribute__»
  refine wpAny_bind (wpAny_of_eq (a := ((Value.ref x : Value), [Value.str "__class__" t])) (by first | rfl | (simp only [slotArgs]; rfl)) ?_)
  refine wpAny_bind (wpAny_pure (wpAny_bind (T0.at (wpAny_bind (T3.at ?_)))))
  show wpAny _ _ (holding [Value.builtin "object.__class__"] (call (.builtin "getset_descriptor.__get__") [.builtin "object.__class__", .ref x, .ref D]) >>= ret) _ _ _
  refine wpAny_bind (wpAny_holding (wpAny_call (class_get (s := ⟨hp, g, d, t + 1, os⟩) (ox := ox) (od := od) X I C.hm ?_)))
  refine wpAny_pure ?_
  show wpAny _ _ (handedOut (.ref D)) _ _ _
  rw [handedOut_of (v := .ref D) rfl]
  first
    | exact wpAny_pure (wpAny_pure h)
    | exact wpAny_pure h
    | exact wpAny_pure (wpAny_bind (wpAny_pure (wpAny_pure h)))
theorem ty_kitE {K : Frag} {x D : Addr} {ox : Obj} {od : Option Obj} (C : L2.ExcC K D) : KitX K (.ref x) (.ref D) (fun h => InstAt h x ox D od) where
  ty := fun _ _ _ I => I.type
  it := fun _ _ X _ => by
    obtain ⟨cd, hc, _⟩ := any_some C.hd
    unfold clsIn at hc
    split at hc
    · rename_i ho
      intro A' Q' E' s' k q
      unfold isType loadHead
      exact wpAny_bind (wpAny_loadPart (k _ _ (X _ _ ho)) (wpAny_pure q))
    · cases hc
  ne := fun h tp dd its n sl X htp => by
    obtain ⟨cd, hc, _⟩ := any_some C.hd
    refine Bool.eq_false_iff.mpr fun q => ?_
    have e : D = tp := Value.ref.inj (beq_iff_eq.mp q)
    subst e
    unfold clsIn at hc
    split at hc
    · rename_i ho
      have z := (X _ _ ho).symm.trans htp
      cases z
    · cases hc
  ca := fun X I k => ty_exClass C X I k
end PySem.W
namespace Ty
open PySem PySem.Spec PyProof.Rows L2
/-! ### in an except suite -/
section
variable {X : Cx} {Z : Zs} {ρ : TEnv} {m : Mu} {D : DE} {P : TV → Mu → Prop} {y : XV} {a dd C C0 : Addr} {oe : Obj} {pn : List (Addr × Obj)} {e : Expr} {f : Str} {pos : Pos}
/-- err.f -/
theorem we_xf (T : XfC X.K C) (hno : PySem.W.findIn X.K (.ref C) f = some none) (hz : Zc (.ref C) (some dd) oe) (hf : ∃ vs, oe.data = .fields vs)
    (h : We (X.suite a ((a, oe) :: pn)) Z e ρ m fun t m1 => t = tv (XR.mk a : XR y dd) ∧ ∃ u, y.fs.lookup f = some u ∧ P u m1) (hb : attributeBase e f X.env (eval e X.env) = eval e X.env := by rfl) : We (X.suite a ((a, oe) :: pn)) Z (.Attribute e f pos) ρ m P :=
  .of (pe_xf (cls := .ref C) (d := some dd) T hno hz hf pe_sem hb) fun σ B H Q he hs q => we_sub h he hs fun v B1 H1 m1 t a1 b1 c1 d1 e1 => by
    obtain ⟨et, u, hl, p⟩ := e1
    subst et
    obtain ⟨ev, vs, hb, fr⟩ := (show v = .ref a ∧ ∃ vs, B1 dd = some (.xd vs) ∧ FRep Z.K B1 vs y.fs from d1)
    obtain ⟨w, hw, rw'⟩ := fr.look hl
    exact ⟨ev, rfl, dd, vs, w, rfl, c1.ex _ _ hb, hw, q w B1 H1 m1 u a1 c1 rw' p⟩
/-- isinstance(err, C0) -/
theorem isE (CE : ExcC X.K C) (hz : Zc (.ref C) (some dd) oe) (hf : ∃ vs, oe.data = .fields vs) {b : Bool} (hk : PySem.W.kitOne X.K (.ref C) (.ref C0) = some b) (h : P (tv b) m) : CallP (X.suite a ((a, oe) :: pn)) Z (.builtin "isinstance") [tv (XR.mk a : XR y dd), tv (Ref.mk C0)] m P :=
  fun B H Q vs hS hv q pins s σ us I r => by
    obtain ⟨v, w, rfl, r1, r2⟩ := reps2 hv
    obtain ⟨ev, fs, hb, fr⟩ := (show v = .ref a ∧ ∃ vs, B dd = some (.xd vs) ∧ FRep Z.K B vs y.fs from r1)
    have ew : w = .ref C0 := r2
    subst ev; subst ew
    obtain ⟨u1, u2, rfl, q1, q2⟩ := vals2 r
    obtain rfl : u1 = Value.ref a := q1
    obtain rfl : u2 = Value.ref C0 := q2
    obtain ⟨hget, _⟩ := I.pin (a, oe) (List.mem_append_left _ List.mem_cons_self)
    obtain ⟨vs, hd⟩ := hf
    obtain ⟨mA, hns, _⟩ := (show ObjOk X.prog X.w H s.heap dd (.xd fs) from I.hok dd _ (hS.ex _ _ hb))
    obtain ⟨od, ho, _⟩ := lookIn_ns hns
    have J : PySem.W.InstAt s.heap a oe C (some od) := ⟨hget, hz.1, by unfold PySem.W.notCls; rw [hd] <;> rfl, by rw [hz.2]; exact ho⟩
    exact PySem.W.kia_one (PySem.W.ty_kitE CE) I.kIn J hk (fun z => nomatch z) fun tk => ⟨.bl b, H, I.tok tk, rfl, q _ B H m _ (Ex.refl _) hS (rep_bool _) h⟩
end
/-! ### data that never changes, laid by displays -/
def AsB (t : TV) (d : PyData) : Prop := ∀ K B v, TV.rep K B v t → Dr K B v d
inductive AsBs : List TV → List PyData → Prop
  | nil : AsBs [] []
  | cons {t : TV} {ts : List TV} {d : PyData} {ds : List PyData} : AsB t d → AsBs ts ds → AsBs (t :: ts) (d :: ds)
theorem asb_int {i : Int} : AsB (tv i) (.int i) := fun _ _ v h => by rw [show v = .int i from h]; exact .int i
theorem asb_str {i : Str} : AsB (tv i) (.str i) := fun _ _ v h => by rw [show v = .str i from h]; exact .str i
theorem asb_bool {i : Bool} : AsB (tv i) (.bool i) := fun _ _ v h => by rw [show v = .bl i from h]; exact .bl i
theorem asb_none {u : Unit} : AsB (tv u) .none := fun _ _ v h => by rw [show v = .non from h]; exact .non
theorem asb_data {d : PyData} : AsB (tv d) d := fun _ _ v h => h
theorem AsBs.all {K : PySem.W.Frag} {B : Hp} : ∀ {vs : List V} {ts : List TV} {ds : List PyData}, AsBs ts ds → Reps K B vs ts → DrAll K B vs ds
  | _, _, _, .nil, .nil => .nil
  | _, _, _, .cons a r, .cons b q => .cons (a _ _ _ b) (AsBs.all r q)
section
variable {X : Cx} {Z : Zs} {ρ : TEnv} {m : Mu} {D : DE} {P : TV → Mu → Prop} {ts : List TV} {ds : List PyData}
theorem tupD (hd : AsBs ts ds) (h : P (tv (PyData.tuple ds)) m) : TupP P ts m := ⟨tv (PyData.tuple ds), fun K B a vs hs r => .tup hs (hd.all r), h⟩
theorem cv_data {t : TV} {d : PyData} (h : AsB t d) : Cv t (tv d) := h
theorem cv_str {s : Str} : Cv (tv (PyData.str s)) (tv s) := fun K B v h => by cases (show Dr K B v (.str s) from h); exact rfl
theorem cv_int {s : Int} : Cv (tv (PyData.int s)) (tv s) := fun K B v h => by cases (show Dr K B v (.int s) from h); exact rfl
theorem cv_bool {s : Bool} : Cv (tv (PyData.bool s)) (tv s) := fun K B v h => by cases (show Dr K B v (.bool s) from h); exact rfl
theorem cv_none : Cv (tv PyData.none) (tv ()) := fun K B v h => by cases (show Dr K B v .none from h); exact rfl
theorem asb_cv {t : TV} {d : PyData} (h : Cv t (tv d)) : AsB t d := h
/-! ### dicts -/
inductive KRep (K : PySem.W.Frag) (B : Hp) : List (Key × V) → List (Key × TV) → Prop
  | nil : KRep K B [] []
  | cons {k : Key} {v : V} {t : TV} {vs : List (Key × V)} {ts : List (Key × TV)} : TV.rep K B v t → KRep K B vs ts → KRep K B ((k, v) :: vs) ((k, t) :: ts)
theorem KRep.mono {K : PySem.W.Frag} {B B' : Hp} (e : Ex B B') : ∀ {vs : List (Key × V)} {ts : List (Key × TV)}, KRep K B vs ts → KRep K B' vs ts
  | _, _, .nil => .nil
  | _, _, .cons a b => .cons (TV.mono e a) (KRep.mono e b)
def mD (kts : List (Key × TV)) : MV := ⟨fun K B o => ∃ vs, o = .dK vs ∧ KRep K B vs kts, fun e ⟨vs, h1, h2⟩ => ⟨vs, h1, h2.mono e⟩⟩
/-- {'k': v}: a dict that never changes; one that may -/
inductive DctP (P : TV → Mu → Prop) (k : Str) (u : TV) (m : Mu) : Prop
  | data {d : PyData} : AsB u d → P (tv (PyData.dict [(.str k, d)])) m → DctP P k u m
  | own : (∀ p, P (tv (Ref.mk p)) (m ++ [(p, mD [(.inr k, u)])])) → DctP P k u m
theorem we_dct1 {ek ev : Expr} {pos : Pos} (h : ∀ L : Mu, L.length = 1 → We X Z ek ρ (m ++ L) fun t m1 => ∃ x : Str, t = tv x ∧ We X Z ev ρ m1 fun u m2 => ∃ m', m2 = m' ++ L ∧ DctP P x u m') : We X Z (.Dict [some ek] [ev] pos) ρ m P :=
  .of (pe_disp (pps_cons pe_sem pe_sem pps_nil) rfl rfl (by simp) (by simp)) fun σ B H Q he hs q p hp => by
    have s1 := hs.newM (o := .dK []) hp (c := mD []) ⟨[], rfl, .nil⟩
    refine we_sub (h [(p, mD [])] rfl) he s1 fun v B1 H1 m1 t a1 b1 c1 d1 ⟨x, et, w⟩ => ?_
    subst et
    refine we_sub w b1 c1 fun u B2 H2 m2 t2 a2 b2 c2 d2 ⟨m', em, r⟩ => ?_
    subst em
    have hi : (m' ++ [(p, mD [])])[m'.length]? = some (p, mD []) := by simp
    obtain ⟨hb, o, ho, vs, eo, kr⟩ := c2.hp.at_ _ p _ hi
    subst eo
    cases kr
    refine ⟨ho, [(.inr x, u)], ?_, by simp, ?_⟩
    · rw [show v = .str x from d1]; rfl
    · have s2 := c2.write (o := .dK [(.inr x, u)]) (d := mD [(.inr x, t2)]) hi ⟨_, rfl, .cons d2 .nil⟩
      rw [List.set_append_right _ _ (Nat.le_refl _), Nat.sub_self] at s2
      have s2' : Sta Z B2 (upd H2 p (.dK [(.inr x, u)])) (m' ++ [(p, mD [(.inr x, t2)])]) := s2
      rcases r with @⟨d, hd, r⟩ | r
      · have hi2 : (m' ++ [(p, mD [(.inr x, t2)])])[m'.length]? = some (p, mD [(.inr x, t2)]) := by simp
        have s3 := s2'.freeze hi2 upd_same
        rw [List.eraseIdx_append_of_length_le (Nat.le_refl _), Nat.sub_self] at s3
        have s4 : Sta Z (upd B2 p (.dK [(.inr x, u)])) (upd H2 p (.dK [(.inr x, u)])) m' := by simpa using s3
        exact q (.ref p) _ _ m' (tv (PyData.dict [(.str x, d)])) ((a1.trans a2).trans (Ex.new hb)) s4 (show Dr Z.K (upd B2 p (.dK [(.inr x, u)])) (V.ref p) (.dict [(kD (.inr x), d)]) from .dct upd_same (.cons (Dr.mono (Ex.new hb) _ _ (hd _ _ _ d2)) .nil)) r
      · exact q (.ref p) B2 _ _ (tv (Ref.mk p)) (a1.trans a2) s2' (show V.ref p = .ref p from rfl) (r p)
theorem asd_own_dict {p : Addr} {n : Nat} {kts : List (Key × TV)} {kds : List (PyData × PyData)} (h : m[n]? = some (p, mD kts)) (hk : kds.map (·.1) = kts.map (fun q => kD q.1)) (hv : AsDs m (kts.map (·.2)) (kds.map (·.2))) : AsD m (tv (Ref.mk p)) (.dict kds) := fun K B H v S r => by
  obtain ⟨_, o, ho, vs, e, q⟩ := S.at_ n p _ h
  subst e
  rw [show v = .ref p from r]
  refine .dct ho ?_
  clear h ho r
  induction q generalizing kds with
  | nil => cases kds with
    | nil => exact .nil
    | cons _ _ => cases hk
  | cons a b ih => cases kds with
    | nil => cases hk
    | cons kd kds =>
      obtain ⟨k1, d1⟩ := kd
      have hk' := hk
      simp only [List.map_cons, List.cons.injEq] at hk'
      obtain ⟨e1, e2⟩ := hk'
      cases hv with
      | cons h1 h2 =>
        subst e1
        exact .cons (h1 _ _ _ _ S a) (ih e2 h2)
/-- xs.index(x), texts -/
theorem index_ss {x : Str} {xs : List Str} {j : Nat} (hj : xs[j]? = some x) (hn : ∀ i y, i < j → xs[i]? = some y → y ≠ x) (h : P (tv (j : Int)) m) : MetP X Z "list.index" (tv xs) [tv x] m P := .of mt_index fun B H Q v vs hS hv hx q => by
  obtain ⟨w, rfl, r⟩ := reps1 hx
  obtain ⟨a, ws, ev, _, hh, pr⟩ := rep_list hS.ex hv
  have := rep_strs pr
  subst this
  have ew : w = .str x := r
  subst ew
  refine ⟨a, _, .str x, j, .str x, ev, rfl, .of hh, rfl, flat_strs, ?_, ?_, fun i z hi hz => ?_, q _ B H m _ (Ex.refl _) hS (rep_int _) h⟩
  · rw [List.getElem?_map, hj]; rfl
  · simp [eqV]
  · rw [List.getElem?_map] at hz
    cases e : xs[i]? with
    | none => rw [e] at hz; cases hz
    | some y =>
      rw [e] at hz
      cases hz
      have := hn i y hi e
      simpa [eqV] using this
end
end Ty

set_option Elab.async false
set_option linter.all false
set_option maxRecDepth 100000
set_option maxHeartbeats 4000000
namespace Ty
open PySem PySem.Spec PyProof.Rows L2
section
variable {X : Cx} {Z : Zs} {ρ : TEnv} {m : Mu} {D : DE} {P : TV → Mu → Prop} {R : List TV → (Mu → Prop) → Mu → Prop} {tg iter : Expr}
/-- the signs of a text, each a text -/
def signsT (x : Str) : List Str := x.cps.toList.map fun c => ⟨#[c]⟩
theorem wi_str (h : We X Z iter ρ m fun t m1 => ∃ x : Str, t = tv x ∧ R ((signsT x).map fun y => tv y) gd0 m1) : Wi X Z tg iter ρ m R := by
  refine .of (pi_str pe_sem) fun σ B H Q he hs k => we_sub h he hs fun v B1 H1 m1 t a1 b1 c1 d1 ⟨x, et, r⟩ => ?_
  subst et
  refine ⟨x, d1, k _ B1 H1 m1 _ gd0 a1 c1 (fun B' H' m' e s _ => ?_) r⟩
  refine ⟨fun i t ht => ?_, ?_⟩
  · obtain ⟨y, hy, rfl⟩ := get_map ht
    unfold signsT at hy
    obtain ⟨c, hc, rfl⟩ := get_map hy
    have hc' : x.cps[i]? = some c := by simpa using hc
    refine ⟨(Array.getElem?_eq_some_iff.mp hc').1, fun y H'' hy => ?_⟩
    obtain ⟨rfl, c2, hc2, ey⟩ := hy
    rw [hc'] at hc2
    cases hc2
    exact ⟨B', Ex.refl _, s, ey⟩
  · show x.cps.size ≤ _
    simp [signsT]
/-! ### types -/
def IsTyM (m : Mu) (t : TV) (ty : String) : Prop := ∀ K B H v, HpOk K B H m → TV.rep K B v t → TyX K H v (.type ty)
theorem IsTyM.z {t : TV} {ty : String} (h : IsTyM m t ty) : IsTy Z t m ty := fun B H v S r => h _ _ _ _ S.hp r
theorem tym_int {i : Int} : IsTyM m (tv i) "int" := fun _ _ _ v _ h => by rw [show v = .int i from h]; exact .base (.int i)
theorem tym_bool {i : Bool} : IsTyM m (tv i) "bool" := fun _ _ _ v _ h => by rw [show v = .bl i from h]; exact .base (.bl i)
theorem tym_str {i : Str} : IsTyM m (tv i) "str" := fun _ _ _ v _ h => by rw [show v = .str i from h]; exact .base (.str i)
theorem tym_none {i : Unit} : IsTyM m (tv i) "NoneType" := fun _ _ _ v _ h => by rw [show v = .non from h]; exact .base .non
theorem tym_lU {t : TV} {ts : List TV} (hu : LstU m t ts) : IsTyM m t "list" := fun K B H v S r => by
  obtain ⟨a, vs, ev, hq, rr⟩ := hu K B H v S r
  rw [ev]
  exact .base (.lst hq)
theorem tym_tup {ds : List PyData} : IsTyM m (tv (PyData.tuple ds)) "tuple" := fun K B H v S r => by
  cases (show Dr K B v (.tuple ds) from r) with
  | tup hs ha =>
    rcases S.ex.seqT hs with (h | ⟨o, h⟩) | ⟨o, its, n, h, c, _⟩
    · exact .base (.tup h)
    · exact .fTuple h
    · exact .kTuple h c
theorem tym_dct {ds : List (PyData × PyData)} : IsTyM m (tv (PyData.dict ds)) "dict" := fun K B H v S r => by
  cases (show Dr K B v (.dict ds) from r) with
  | dct hs ha => exact .base (.dK (S.ex _ _ hs))
theorem isiM {t : TV} {ty T : String} {b : Bool} (ht : IsTyM m t ty) (h : P (tv b) m) (hb : kitB ty T = some b := by decide +kernel) (hK : X.K = Z.K := by rfl) : CallP X Z (.builtin "isinstance") [t, tv (Typ.mk T)] m P := isi ht.z h hb hK
end
end Ty

set_option Elab.async false
set_option linter.all false
set_option maxRecDepth 100000
set_option maxHeartbeats 4000000
namespace Ty
open PySem PySem.Spec PyProof.Rows L2
/-- data whose repr is short: ints below 10^29, plain signs; k: how deep, n: how much -/
structure Fine (k n : Nat) (d : PyData) : Prop where
  lv : d.leavesShort 30 = true
  sh : d.showable = true
  dp : d.depth ≤ k
  wt : d.weight ≤ n
structure Fines (k n : Nat) (ds : List PyData) : Prop where
  lv : PyData.leavesShortAll 30 ds = true
  sh : PyData.showableAll ds = true
  dp : PyData.depthAll ds ≤ k
  wt : PyData.weightAll ds ≤ n
theorem Fine.shown {k n : Nat} {d : PyData} (h : Fine k n d) (hn : n ≤ 400000 := by omega) : d.shown.length ≤ 16000000 := by
  have := PyData.shown_le 30 (by omega) d h.lv
  have := h.wt
  omega
theorem Fine.mono {k k' n n' : Nat} {d : PyData} (h : Fine k n d) (h1 : k ≤ k' := by omega) (h2 : n ≤ n' := by omega) : Fine k' n' d := ⟨h.lv, h.sh, Nat.le_trans h.dp h1, Nat.le_trans h.wt h2⟩
theorem fine_none : Fine 0 0 .none := ⟨rfl, rfl, Nat.le_refl _, Nat.le_refl _⟩
theorem fine_bool {b : Bool} : Fine 0 0 (.bool b) := ⟨rfl, rfl, Nat.le_refl _, Nat.le_refl _⟩
theorem log2_lt29 {i : Int} (h : i.natAbs < 10 ^ 29) : i.natAbs.log2 < 97 := by
  by_cases z : i.natAbs = 0
  · rw [z]; decide
  · rw [Nat.log2_lt z]
    exact Nat.lt_trans h (by decide)
theorem fine_int {i : Int} (h : i.natAbs < 10 ^ 29) : Fine 0 97 (.int i) := by
  have l := log2_lt29 h
  refine ⟨?_, ?_, Nat.le_refl _, ?_⟩
  · simp only [PyData.leavesShort, decide_eq_true_eq]
    have e := PySem.int_text_length_le10 (k := 29) (by decide) h
    show (Str.ofString (toString i)).length ≤ 30
    rw [PySem.ofString_length]; exact e
  · simp only [PyData.showable, decide_eq_true_eq]; omega
  · simp only [PyData.weight]
    split <;> omega
theorem fine_str {s : Str} (h : ∀ c ∈ s.cps.toList, c < 4294967296) : Fine 0 s.length (.str s) := by
  refine ⟨?_, rfl, Nat.le_refl _, Nat.le_refl _⟩
  simp only [PyData.leavesShort, List.all_eq_true, decide_eq_true_eq]
  intro c hc
  exact Nat.lt_of_lt_of_le (h c hc) (by decide)
theorem fines_nil : Fines 0 0 [] := ⟨rfl, rfl, Nat.le_refl _, Nat.le_refl _⟩
theorem fines_cons {k k' n n' : Nat} {d : PyData} {ds : List PyData} (h : Fine k n d) (t : Fines k' n' ds) : Fines (max k k') (n + 1 + n') (d :: ds) := by
  refine ⟨?_, ?_, ?_, ?_⟩
  · simp only [PyData.leavesShortAll, h.lv, t.lv]; rfl
  · simp only [PyData.showableAll, h.sh, t.sh]; rfl
  · have := h.dp
    have := t.dp
    simp only [PyData.depthAll]; omega
  · have := h.wt
    have := t.wt
    simp only [PyData.weightAll]; omega
theorem fine_list {k n : Nat} {ds : List PyData} (h : Fines k n ds) : Fine (k + 1) n (.list ds) :=
  ⟨by simpa only [PyData.leavesShort] using h.lv, by simpa only [PyData.showable] using h.sh, by simpa only [PyData.depth] using Nat.succ_le_succ h.dp, by simpa only [PyData.weight] using h.wt⟩
theorem fine_tuple {k n : Nat} {ds : List PyData} (h : Fines k n ds) : Fine (k + 1) n (.tuple ds) :=
  ⟨by simpa only [PyData.leavesShort] using h.lv, by simpa only [PyData.showable] using h.sh, by simpa only [PyData.depth] using Nat.succ_le_succ h.dp, by simpa only [PyData.weight] using h.wt⟩
theorem fine_dict1 {k n : Nat} {x : Str} {d : PyData} (hx : ∀ c ∈ x.cps.toList, c < 4294967296) (h : Fine k n d) : Fine (k + 1) (x.length + n + 2) (.dict [(.str x, d)]) := by
  have hs := fine_str hx
  refine ⟨?_, ?_, ?_, ?_⟩
  · simp only [PyData.leavesShort, PyData.leavesShortKv, h.lv, Bool.and_true]
    exact hs.lv
  · simp only [PyData.showable, PyData.showableKv, h.sh]; rfl
  · have := h.dp
    simp only [PyData.depth, PyData.depthKv]; omega
  · have := h.wt
    have := hs.wt
    have e : (PyData.str x).weight = x.cps.size := rfl
    have e2 : x.length = x.cps.size := rfl
    simp only [PyData.weight, PyData.weightKv]; omega
theorem Fines.append {k k' n n' : Nat} {ds es : List PyData} (h : Fines k n ds) (t : Fines k' n' es) : Fines (max k k') (n + n') (ds ++ es) := by
  induction ds generalizing n with
  | nil => exact ⟨t.lv, t.sh, Nat.le_trans t.dp (Nat.le_max_right _ _), Nat.le_trans t.wt (Nat.le_add_left _ _)⟩
  | cons d ds ih =>
    obtain ⟨h1, h2, h3, h4⟩ := h
    simp only [PyData.leavesShortAll, Bool.and_eq_true] at h1
    simp only [PyData.showableAll, Bool.and_eq_true] at h2
    simp only [PyData.depthAll] at h3
    simp only [PyData.weightAll] at h4
    have q := ih (n := PyData.weightAll ds) ⟨h1.2, h2.2, by omega, Nat.le_refl _⟩
    refine ⟨?_, ?_, ?_, ?_⟩
    · simp only [List.cons_append, PyData.leavesShortAll, h1.1, q.lv]; rfl
    · simp only [List.cons_append, PyData.showableAll, h2.1, q.sh]; rfl
    · have := q.dp
      simp only [List.cons_append, PyData.depthAll]; omega
    · have := q.wt
      simp only [List.cons_append, PyData.weightAll]; omega
section
variable {X : Cx} {Z : Zs} {m : Mu} {P : TV → Mu → Prop} {t : TV} {d : PyData} {k k' n : Nat}
theorem repr_f (hd : AsD m t d) (hgd : X.A.guards = some []) (hr : Room k X.A) (hb : (X.base.get? sysModules).isSome = true) (hc : isC d = true) (hs : Fine k' n d) (h : P (tv d.shown) m) (hk : k' ≤ 60 := by omega) (hn : n ≤ 400000 := by omega) (hK : X.K = Z.K := by rfl) : CallP X Z (.builtin "repr") [t] m P :=
  repr_d hd hgd hr hb hc hs.sh (Nat.le_trans hs.dp hk) (hs.shown hn) h hK
end
/-! ### binding -/
section
variable {P : Program} {w : World} {K : PySem.W.Frag} {mg : Str → Option Value} {base : Heap} {x qual : Str} {params : Arguments} {body : List Stmt} {scope : Scope} {dvs : List V} {f C : Addr} {fd : FuncData} {k : Nat} {T : TSpec} {ps ks : List Str}
/-- n values are written, the defaults behind the first j fill up -/
theorem defK_mkD (F : FunD K x qual params body scope dvs [] f fd) (G : FnG P w K mg base k f fd ps T) (hm : mg x = some (.ref f)) (n j : Nat) (dts : List TV) (hf : Flat K (dvs.drop j) dts) (hd : dvs ≠ []) (hn : n + (dvs.length - j) = ps.length)
    (h : ∀ (T : Addr) (kV doc pm : Value) (an : Option Addr) (cdv ct : Value) (us its : List Value), us.length = n → its.length = dvs.length →
      ∃ k, bindArgs (PySem.W.fnOf x qual params body scope (.ref T) kV doc pm an cdv ct) ⟨us, []⟩ = seqItems? (.ref T) >>= k ∧ k (some its.toArray) = pure (ps.zip (us ++ its.drop j))) : DefK P w K mg base x k T dts := by
  obtain ⟨ds, hv, hb⟩ := F.binds1 (ps := ps) n j hd hn h
  exact ⟨f, fd, ps, dvs.drop j, ds, G, hm, F.kp, hb, hv, hf⟩
theorem metK_mk (cl : Cls K C) (F : FunD K x qual params body scope [] [] f fd) (hM : Meth K C x f) (G : FnG P w K mg base k f fd ps T)
    (h : ∀ (kV doc pm : Value) (an : Option Addr) (cdv ct : Value) (us : List Value), us.length = ps.length → bindArgs (PySem.W.fnOf x qual params body scope .none kV doc pm an cdv ct) ⟨us, []⟩ = pure (ps.zip us)) : MetK P w K mg base C x k T [] :=
  ⟨cl, f, fd, ps, [], [], hM, G, F.bindsN h, .nil, flat0⟩
theorem Vals.rev {vs : List V} {us : List Value} (h : Vals vs us) : Vals vs.reverse us.reverse := by
  induction h with
  | nil => exact .nil
  | cons a b ih => rw [List.reverse_cons, List.reverse_cons]; exact ih.append (.cons a .nil)
theorem Reps.rev {K : PySem.W.Frag} {B : Hp} {vs : List V} {ts : List TV} (h : Reps K B vs ts) : Reps K B vs.reverse ts.reverse := by
  induction h with
  | nil => exact .nil
  | cons a b ih => rw [List.reverse_cons, List.reverse_cons]; exact ih.append (.cons a .nil)
/-- names in the parameters' order, behind n values -/
theorem bindsK_in (F : FunD K x qual params body scope [] [] f fd) (n : Nat)
    (h : ∀ (kV doc pm : Value) (an : Option Addr) (cdv ct : Value) (us ws : List Value), us.length = n → ws.length = ks.length → bindArgs (PySem.W.fnOf x qual params body scope .none kV doc pm an cdv ct) ⟨us, ks.zip ws⟩ = pure (ps.zip (us ++ ws))) :
    BindsK K fd ps n ks (fun us ws => us ++ ws) (fun us ws => us ++ ws) (fun us ws => us ++ ws) := by
  obtain ⟨oc, od, dV, kV, doc, pm, an, cdv, ct, osl, rfl, lk, hcd, hD, hK⟩ := F.ex
  rcases hD with ⟨_, rfl⟩ | ⟨e, _⟩
  · exact ⟨fun s us ws _ l1 l2 => .of_eq (h kV doc pm an cdv ct us ws l1 l2), fun a b => a.append b, fun a b => a.append b⟩
  · exact absurd rfl e
/-- .. against it -/
theorem bindsK_rev (F : FunD K x qual params body scope [] [] f fd) (n : Nat)
    (h : ∀ (kV doc pm : Value) (an : Option Addr) (cdv ct : Value) (us ws : List Value), us.length = n → ws.length = ks.length → bindArgs (PySem.W.fnOf x qual params body scope .none kV doc pm an cdv ct) ⟨us, ks.zip ws⟩ = pure (ps.zip (us ++ ws.reverse))) :
    BindsK K fd ps n ks (fun us ws => us ++ ws.reverse) (fun us ws => us ++ ws.reverse) (fun us ws => us ++ ws.reverse) := by
  obtain ⟨oc, od, dV, kV, doc, pm, an, cdv, ct, osl, rfl, lk, hcd, hD, hK⟩ := F.ex
  rcases hD with ⟨_, rfl⟩ | ⟨e, _⟩
  · exact ⟨fun s us ws _ l1 l2 => .of_eq (h kV doc pm an cdv ct us ws l1 l2), fun a b => a.append (Vals.rev b), fun a b => a.append (Reps.rev b)⟩
  · exact absurd rfl e
theorem signs_len {x : Str} : (signsT x).length = x.length := by simp [signsT, PySem.Str.length]
end
theorem canLay_strs : ∀ {xs : List Str}, (∀ y ∈ xs, ∀ c ∈ y.cps.toList, c < 0x110000) → PyData.canLayAll0 (xs.map PyData.str) = true ∧ PyData.depthAll (xs.map PyData.str) = 0
  | [], _ => ⟨rfl, rfl⟩
  | y :: xs, h => by
    obtain ⟨h1, h2⟩ := canLay_strs (xs := xs) fun z hz => h z (List.mem_cons_of_mem _ hz)
    have e : PyData.strOk y = true := by
      unfold PyData.strOk
      rw [← Array.all_toList, List.all_eq_true]
      exact fun c hc => decide_eq_true (h y List.mem_cons_self c hc)
    simp only [List.map_cons, PyData.canLayAll0, PyData.canLay0, PyData.depthAll, PyData.depth, h1, h2, e]
    exact ⟨rfl, rfl⟩
theorem shaped_strs {xs : List Str} (h : ∀ y ∈ xs, ∀ c ∈ y.cps.toList, c < 0x110000) : SeqAt.shaped (.list (xs.map PyData.str)) = true := by
  obtain ⟨h1, h2⟩ := canLay_strs h
  unfold SeqAt.shaped
  simp only [PyData.canLay0, PyData.depth, h1, h2]
  decide
theorem signs_c {x : Str} {y : Str} (h : y ∈ signsT x) : ∃ c ∈ x.cps.toList, y = ⟨#[c]⟩ := by
  unfold signsT at h
  obtain ⟨c, hc, e⟩ := List.mem_map.mp h
  exact ⟨c, hc, e.symm⟩
end Ty

set_option Elab.async false
set_option linter.all false
set_option maxRecDepth 100000
set_option maxHeartbeats 4000000
namespace Ty
open PySem PySem.Spec PyProof.Rows L2
theorem str_ext {x y : Str} (h : x.cps.toList = y.cps.toList) : x = y := by
  obtain ⟨⟨a⟩⟩ := x
  obtain ⟨⟨b⟩⟩ := y
  exact congrArg (fun l => (⟨⟨l⟩⟩ : Str)) h
theorem app_list (x y : Str) : (x ++ y).cps.toList = x.cps.toList ++ y.cps.toList := by
  show (x.cps ++ y.cps).toList = _
  simp
theorem str_llen (x : Str) : x.length = x.cps.toList.length := by simp [PySem.Str.length]
theorem app_len (x y : Str) : (x ++ y).length = x.length + y.length := by rw [str_llen, str_llen, str_llen, app_list, List.length_append]
theorem slice_mem {x : Str} {l u : Option Int} {c : Nat} (h : c ∈ (Txt.slice x l u).cps.toList) : c ∈ x.cps.toList := by
  unfold Txt.slice at h
  split at h
  · exact h
  · obtain ⟨k, _, e⟩ := List.mem_filterMap.mp (by simpa using h)
    have e' : x.cps.toList[k]? = some c := by simpa using e
    exact List.mem_of_getElem? e'
theorem slice_to_list {x : Str} {j : Int} (h0 : 0 ≤ j) (h1 : j ≤ x.length) : (Txt.slice x none (some j)).cps.toList = x.cps.toList.take j.toNat := by
  have e := beq_iff_eq.mp (slice_closes_to (x := x) (j := j) ⟨h0, by rw [← str_llen]; exact h1⟩)
  rw [e]
  simp
theorem join_mem {sep : Str} {ys : List Str} {c : Nat} (h : c ∈ (Txt.join sep ys).cps.toList) : (∃ t ∈ ys, c ∈ t.cps.toList) ∨ c ∈ sep.cps.toList := by
  rw [show Txt.join sep ys = Str.join sep ys from beq_iff_eq.mp (join_closes (sep := sep) (sep' := sep) (ys := ys) rfl)] at h
  rcases (mem_join sep c ys).mp h with h | h
  · exact .inl h
  · exact .inr h.2
theorem mul_mem {x : Str} {k : Nat} {n : Int} {c : Nat} (hx : x = ⟨#[k]⟩) (h : c ∈ (Txt.mul x n).cps.toList) : c = k := by
  subst hx
  rw [mul_one_list] at h
  exact (List.mem_replicate.mp h).2
theorem mul_len {x : Str} {k : Nat} {n : Int} (hx : x = ⟨#[k]⟩) : (Txt.mul x n).length = n.toNat := by
  subst hx
  rw [str_llen, mul_one_list, List.length_replicate]
section
variable {X : Cx} {Z : Zs} {ρ : TEnv} {m : Mu} {P : TV → Mu → Prop} {elt : Expr} {scope : Scope} {own : List (Str × Nat)} {j : Nat}
/-- over lo, lo + 1, ..: an invariant over what is laid and what may change -/
theorem lcp_rng {β : Type} [Rep β] {lo : Int} {n : Nat} (J : Nat → List β → Mu → Prop) (h0 : J 0 [] m) (hl : ∀ i ys m', J i ys m' → ys.length = i) (hn : n ≤ 1000000)
    (hs : ∀ (s0 : Shared) (H0 : Hp) (C : Addr) (cl : List (Str × Addr)) (fp : List Addr) (i : Nat) (ys : List β) (m' : Mu) (p : Addr), i < n → J i ys m' →
      We (blkX X scope s0 H0 C cl fp) Z elt ((wipeT ρ (ownIx own)).set j (some (tv (lo + (i : Int))))) (m' ++ [(p, mL (ys.map fun y => tv y))]) fun y m4 => ∃ (z : β) (m5 : Mu), y = tv z ∧ m4 = m5 ++ [(p, mL (ys.map fun y => tv y))] ∧ J (i + 1) (ys ++ [z]) m5)
    (hd : ∀ ys m', J n ys m' → P (tv ys) m') : LcP X Z elt [] scope (rb1 ρ own j) P (rngT lo n) gd0 m := by
  refine ⟨fun i acc m' => ∃ ys : List β, acc = (ys.map fun y => tv y) ∧ J i ys m', ⟨[], rfl, h0⟩, ?_, by rw [rng_len]; exact hn, fun _ _ _ _ _ => trivial, ?_, ?_⟩
  · rintro i acc m' ⟨ys, rfl, h⟩
    rw [List.length_map, hl i ys m' h]
    exact Nat.le_refl _
  · rintro s0 H0 C cl fp i t acc m' p ρ' ht ⟨ys, rfl, h⟩ rfl
    obtain ⟨hi, rfl⟩ := rng_at ht
    refine wts_nil ⟨fun _ s1 H1 C1 cl1 fp1 => (hs s1 H1 C1 cl1 fp1 i ys m' p hi h).imp ?_, fun z => nomatch z⟩
    rintro y m4 ⟨z, m5, rfl, rfl, q⟩
    exact ⟨m5, rfl, ys ++ [z], by rw [List.map_append]; rfl, q⟩
  · rintro acc m' ⟨ys, rfl, h⟩
    rw [rng_len] at h
    exact .data rfl (hd ys m' h)
end
theorem ty_s {Z : Zs} {m : Mu} {x : Str} : TyP Z "str" (tv x) m := fun B H v S h => by
  rw [show v = .str x from h]
  exact rfl
section
variable {X : Cx} {Z : Zs} {m : Mu} {P : TV → Mu → Prop}
theorem ix_lE {α : Type} [Rep α] {xs : List α} {i : Int} (Q : α → Prop) (hi : ∃ e, Ty.atT xs i = some e ∧ Q e) (h : ∀ e, Q e → P (tv e) m) (hK : X.K = Z.K := by rfl) : IxP X Z (tv xs) (tv i) m P :=
  let ⟨e, h1, h2⟩ := hi
  ix_l h1 (h e h2) hK
end
section
variable {X : Cx} {Z : Zs} {m : Mu} {P : TV → Mu → Prop}
theorem index_sB {x : Str} {xs : List Str} (j : Nat) (h : P (tv (j : Int)) m) (hj : xs[j]? = some x := by rfl) (hn : (xs.take j).all (fun y => !decide (y = x)) = true := by decide +kernel) : MetP X Z "list.index" (tv xs) [tv x] m P :=
  index_ss hj (fun i y hi hy e => by
    subst e
    have hm : y ∈ xs.take j := List.mem_of_getElem? (i := i) (by rw [List.getElem?_take_of_lt hi]; exact hy)
    have := List.all_eq_true.mp hn y hm
    simp at this) h
end
end Ty

set_option Elab.async false
set_option linter.all false
set_option maxRecDepth 100000
set_option maxHeartbeats 4000000
namespace Ty
open PySem PySem.Spec PyProof.Rows L2
/-! ### the script -/
structure Scr where
  l : List Int
instance : Rep Scr := ⟨fun K B v x => ∃ a, v = .ref a ∧ SqL K B a (x.l.map V.int), fun e ⟨a, h1, h2⟩ => ⟨a, h1, e.seqL h2⟩⟩
section
variable {X : Cx} {Z : Zs} {m : Mu} {P : TV → Mu → Prop} {x : Scr}
theorem scr_at {B H : Hp} {v : V} (S : Sta Z B H m) (h : TV.rep Z.K B v (tv x)) : ∃ a, v = .ref a ∧ SqL Z.K H a (x.l.map V.int) :=
  let ⟨a, h1, h2⟩ := (show ∃ a, v = .ref a ∧ SqL Z.K B a (x.l.map V.int) from h)
  ⟨a, h1, S.ex.seqL h2⟩
theorem ix_scr {i e : Int} (hi : Ty.atT x.l i = some e) (h : P (tv e) m) (hK : X.K = Z.K := by rfl) : IxP X Z (tv x) (tv i) m P := .of ix_list fun B H Q v u hS hv hu k => by
  obtain ⟨a, ev, hq⟩ := scr_at hS hv
  obtain ⟨j, hj, hx⟩ := atI_len (xs := x.l.map V.int) (by simp) hi
  refine ⟨a, _, i, .int e, ev, hu, by rw [hK]; exact hq, ?_, k _ B H m (tv e) (Ex.refl _) hS (rep_int _) h⟩
  unfold atI
  rw [hj]
  show (x.l.map V.int)[j]? = some (V.int e)
  rw [List.getElem?_map, hx]
  rfl
theorem len_scr (h : P (tv (x.l.length : Int)) m) (hK : X.K = Z.K := by rfl) : CallP X Z (.builtin "len") [tv x] m P := .of call_len_seq fun B H Q vs hS hv k => by
  obtain ⟨v, rfl, r⟩ := reps1 hv
  obtain ⟨a, ev, hq⟩ := scr_at hS r
  refine ⟨a, _, by rw [ev], .inl (by rw [hK]; exact hq), ?_⟩
  rw [List.length_map]
  exact k _ B H m _ (Ex.refl _) hS (rep_int _) h
theorem sl_scr {lo hi : Option Int} (h : P (tv ((x.l.drop (HT.sIx x.l.length 0 lo)).take (HT.sIx x.l.length x.l.length hi - HT.sIx x.l.length 0 lo))) m) (hK : X.K = Z.K := by rfl) : SlP X Z (tv x) lo hi m P := .of sl_list fun B H Q v hS hv k => by
  obtain ⟨a, ev, hq⟩ := scr_at hS hv
  refine ⟨a, _, ev, by rw [hK]; exact hq, fun p hp => ?_⟩
  have hn := hS.noneB hp
  refine k (.ref p) _ _ m (tv _) (Ex.new hn) (hS.newB hp) ?_ h
  refine ⟨p, _, rfl, upd_same, ?_⟩
  unfold cutV
  rw [List.length_map, ← List.map_drop, ← List.map_take]
  exact of_ints
end
/-! ### an own exception class, decided -/
def oexB (K : PySem.W.Frag) (C : Addr) : Bool := (match K.lookup C with
  | some ⟨.type "type", _, .cls cd, sl⟩ => (match cd.mro, sl.toList with
    | .ref C' :: bm, [_, _, _, _, some (.builtin n), _] => C' == C && n == "ValueError.__new__" && !cd.hasDel && cd.hasDict && PySem.HandSPX.refsVE bm
    | _, _ => false)
  | _ => false) && (decide (PySem.W.findIn K (.ref C) "__setattr__" = some (some (.builtin "object.__setattr__"))) && (decide (PySem.W.subIn K (.ref C) (.type "BaseException") = some true) && (decide (PySem.W.typeIn K (.ref C) = some (.type "type")) && PySem.W.keepIn K (.ref C))))
theorem oexB_ok {K : PySem.W.Frag} {C : Addr} (h : oexB K C = true) : OexC K C := by
  unfold oexB at h
  simp only [Bool.and_eq_true, decide_eq_true_eq] at h
  obtain ⟨q, h1, h2, h3, h4⟩ := h
  refine ⟨?_, h1, h2, h3, h4⟩
  split at q
  · rename_i dd cd sl ho
    split at q
    · rename_i C' bm k0 k1 k2 k3 n k5 hm hs
      simp only [Bool.and_eq_true, beq_iff_eq, Bool.not_eq_true'] at q
      obtain ⟨⟨⟨⟨rfl, rfl⟩, hdel⟩, hdct⟩, hbm⟩ := q
      obtain ⟨nm, bs, mro, ns, qn, hd, sn, sub, ab, col, del⟩ := cd
      dsimp only at hm hdel hdct
      subst hm hdel hdct
      have hsl : sl = #[k0, k1, k2, k3, some (.builtin "ValueError.__new__"), k5] := by
        obtain ⟨l⟩ := sl
        simp only at hs
        rw [hs]
      subst hsl
      exact ⟨nm, qn, ns, bs, bm, sn, sub, ab, col, dd, k0, k1, k2, k3, k5, ho, hbm⟩
    · cases q
  · cases q
def excB (K : PySem.W.Frag) (D : Addr) : Bool := decide (PySem.W.findIn K (.ref D) "__getattribute__" = some (some (.builtin "BaseException.__getattribute__"))) && (decide (PySem.W.findIn K (.ref D) "__getattr__" = some none) && (decide (PySem.W.subIn K (.ref D) (.type "BaseException") = some true) && (PySem.W.hasDictIn K D &&
  (decide (PySem.W.findIn K (.ref D) "__class__" = some (some (.builtin "object.__class__"))) && (decide (PySem.W.specialIn K (.builtin "object.__class__") "__get__" = some (some (.builtin "getset_descriptor.__get__"))) && (decide (PySem.W.takesIn K (.builtin "object.__class__") = some true) && decide (PySem.W.mroIn K D (.type "object") = some true)))))))
theorem excB_ok {K : PySem.W.Frag} {D : Addr} (h : excB K D = true) : ExcC K D := by
  unfold excB at h
  simp only [Bool.and_eq_true, decide_eq_true_eq] at h
  obtain ⟨h1, h2, h3, h4, h5, h6, h7, h8⟩ := h
  exact ⟨h1, h2, h3, h4, h5, h6, h7, h8⟩
def cFB (K : PySem.W.Frag) (C0 : Addr) : Bool := match PySem.W.findCls K (.ref C0) (.type "type") "__init__" with
  | some (.val (.builtin n)) => decide (n = "ValueError.__init__")
  | _ => false
def supB (K : PySem.W.Frag) (C0 : Addr) : Bool := decide (PySem.W.specialIn K (.ref C0) "__getattribute__" = some (some (.builtin "type.__getattribute__"))) && (PySem.W.readsIn K C0 (.type "type") && cFB K C0)
theorem supB_ok {K : PySem.W.Frag} {C0 : Addr} (h : supB K C0 = true) : SupI K C0 := by
  unfold supB at h
  simp only [Bool.and_eq_true, decide_eq_true_eq] at h
  obtain ⟨h1, h2, h3⟩ := h
  refine ⟨h1, h2, ?_⟩
  unfold cFB at h3
  split at h3
  · rename_i n e
    rw [e, of_decide_eq_true h3]
  · cases h3
/-! ### the Hook: what the module's names reach, and two tables of the start -/
def obX (n : Nat) (fa : List He.Fa) (fn : List He.DefD) (ex : PySem.W.Frag → Bool) (g : Addr → Option Obj) : He.AlD :=
  let K := He.frG g (He.asD g n ++ [sysModules, cStatics])
  let r := He.obsD fa fn K
  (r.1 && ex K, r.2)
def hookX (n : Nat) (fa : List He.Fa) (fn : List He.DefD) (ex : PySem.W.Frag → Bool) : PySem.W.Hook where
  α := He.AlD
  obs := fun s => obX n fa fn ex s.heap.get?
  val := fun _ => He.valD fn
  says := fun _ h => ∃ K : PySem.W.Frag, K.In h ∧ He.SaysD fa fn K ∧ ex K = true
  of := fun w s e => by
    have e' : ((He.obsD fa fn (He.frG s.heap.get? (He.asD s.heap.get? n ++ [sysModules, cStatics]))).1 && ex (He.frG s.heap.get? (He.asD s.heap.get? n ++ [sysModules, cStatics])), (He.obsD fa fn (He.frG s.heap.get? (He.asD s.heap.get? n ++ [sysModules, cStatics]))).2) = (true, fn.map He.DefD.val) := e
    have e1 := congrArg Prod.fst e'
    have e2 := congrArg Prod.snd e'
    obtain ⟨h1, h2⟩ := Bool.and_eq_true_iff.mp (show (_ && _) = true from e1)
    exact ⟨_, He.frG_in, Prod.ext h1 e2, h2⟩
  keeps := fun _ _ _ ⟨K, hK, c, x⟩ k => ⟨K, PySem.W.Frag.In.keeps hK k, c, x⟩
theorem obX_eq {n : Nat} {fa : List He.Fa} {fn : List He.DefD} {ex : PySem.W.Frag → Bool} {g : Addr → Option Obj} {s : Shared} (h : ∀ a, g a = s.heap.get? a) : obX n fa fn ex g = (hookX n fa fn ex).obs s := by
  have e : g = s.heap.get? := funext h
  rw [e] <;> rfl
/-! ### the end of a law -/
/-- the law's def, called by the claim's caller, where nothing is tracked but the script -/
theorem end_law {P : Program} {w : World} {K : PySem.W.Frag} {mg mb : Str → Option Value} {k : Nat} {fa a : Addr} {fd : FuncData} {x : Str} {T : TSpec} {s₁ : Shared} {vs : List Value} {ns : List Int}
    (KX : K.In s₁.heap) (hns : s₁.heap.Ns mainGlobals mg) (hb : s₁.heap.Ns builtinsNs mb) (hbb : ∀ x : Str, x ≠ "__name__" → mb x = bootBuiltins x) (hlim : s₁.heap.NoLimit) (hg : s₁.gens = #[])
    (ha : s₁.heap.get? a = some { cls := .type "list", data := .seq vs.toArray }) (hi : IntsAre vs ns) (hl : ns.length ≤ sizeLine) (hr : Room k callerA) (hsy : ∃ o : Obj, K.lookup sysModules = some o ∧ ∃ es n, o.data = .dict es n)
    (F : ∀ base : Heap, K.In base → base.Ns mainGlobals mg → (base.get? sysModules).isSome = true → FnG P w K mg base k fa fd [x] T) (hbind : ∀ (s : Shared) (u : Value), BindsTo s fd ⟨[u], []⟩ [(x, u)])
    (hT : T [tv (Scr.mk ns)] [] (fun t _ => t = tv true) fun _ _ => False) :
    codeAny (model P w) callerA (.call (.ref fa) ⟨[.ref a], []⟩) (fun r s' => r = .ok (.ret (.bool true)) ∧ PySem.OldK s₁.heap s'.heap ∧ s'.os = s₁.os ∧ AllBare s'.gens) s₁ := by
  have rv := vals_ints hi
  have run : ∀ H : Hp, Only H → SqL K H a (ns.map V.int) → HOk P w H s₁.heap → (∀ b u, H b = some u → b = a ∧ K.lookup a = none) →
      codeAny (model P w) callerA (.call (.ref fa) ⟨[.ref a], []⟩) (fun r s' => r = .ok (.ret (.bool true)) ∧ PySem.OldK s₁.heap s'.heap ∧ s'.os = s₁.os ∧ AllBare s'.gens) s₁ := by
    intro H only seq ok at_
    have off : ∀ {b : Addr}, (b = a → False) → H b = none := fun {b} n => by
      cases q : H b with
      | none => rfl
      | some u => exact (n (at_ b u q).1).elim
    have dict : ∀ {b : Addr} {o : Obj} {es : Array DictEntry} {ep : Nat}, s₁.heap.get? b = some o → o.data = .dict es ep → H b = none := fun {b o es ep} e d => off fun z => by
      subst z
      rw [ha] at e
      cases e
      exact nomatch (show Data.seq vs.toArray _ = Data.dict es ep from d)
    have tbl : ∀ {b : Addr} {m : Str → Option Value}, s₁.heap.Ns b m → (hidT s₁.heap H).Ns b m := fun {b m} ⟨o, es, ep, e, d, r⟩ => ⟨o, es, ep, hidT_get e (dict e d), d, r⟩
    have KB : K.In (hidT s₁.heap H) := fun b o e => hidT_get (KX b o e) (by
      cases q : H b with
      | none => rfl
      | some u =>
        obtain ⟨rfl, z⟩ := at_ b u q
        rw [e] at z
        cases z)
    obtain ⟨osy, e1, es, n, e2⟩ := hsy
    have sys : ((hidT s₁.heap H).get? sysModules).isSome = true := by
      rw [KB _ _ e1]
      rfl
    have md : Mod K mg (hidT s₁.heap H) := ⟨KB, tbl hns, ⟨mb, tbl hb, hbb⟩, let ⟨mc, h1, h2⟩ := hlim; ⟨mc, tbl h1, h2⟩⟩
    have env : Env0 P w K mg (hidT s₁.heap H) callerA [] s₁ H := ⟨rfl, md, fun b o e => of_hidT e, Nat.le_of_eq (hidT_size _ _), trivial, (fun b z => nomatch z), ok, .of_eq hg⟩
    have sp : spOf K T [.ref a] H (fun v _ => v = .bl true) (fun _ _ _ => False) :=
      ⟨H, [], _, _, _, ⟨Ex.refl _, List.nodup_nil, fun i p c h => nomatch h⟩, .cons (show TV.rep K H (.ref a) (tv (Scr.mk ns)) from ⟨a, rfl, seq⟩) .nil, hT, fun v B' H' m' t _ _ r e => by subst e; exact r, fun _ _ _ _ _ _ _ _ _ z => z⟩
    refine codeAny_mono ((F _ KB (tbl hns) sys).run callerA [] s₁ H ⟨[.ref a], []⟩ [.ref a] [.ref a] _ _ rfl hr env (hbind s₁ (.ref a)) (.cons (show RelV (V.ref a) (Value.ref a) from rfl) .nil) sp) fun r s' h => ?_
    match r, h with
    | .error e, h =>
      obtain ⟨_, _, _, _, _, _, _, _, _, _, _, _, z⟩ := h
      exact z.elim
    | .ok .next, h => exact False.elim h
    | .ok .brk, h => exact False.elim h
    | .ok .cont, h => exact False.elim h
    | .ok (.ret u), h =>
      obtain ⟨v, H', os, bare, un, ok', ru, ev⟩ := h
      have ev' : v = .bl true := ev
      subst ev'
      obtain rfl : u = Value.bool true := ru
      refine ⟨rfl, OldK.of_keep fun b o e => ?_, os, bare⟩
      rcases only b with z | ⟨ob, xs, z⟩
      · exact un.keep b o e z (fun y => nomatch y) (by simp)
      · obtain ⟨g1, _⟩ := ok b _ z
        obtain ⟨g2, _⟩ := ok' b _ (un.frzs b ob _ z)
        rw [e] at g1
        cases g1
        exact g2
  cases kn : K.lookup a with
  | some o =>
    have e := KX a o kn
    rw [ha] at e
    cases e
    exact run (fun _ => none) (fun _ => .inl rfl) (.inr ⟨_, vs.toArray, _, kn, rfl, rfl, rfl, by rw [List.size_toArray, hi.length]; exact hl, by simpa using rv⟩) (fun b u z => nomatch (show (none : Option HO) = some u from z)) fun b u z => nomatch (show (none : Option HO) = some u from z)
  | none =>
    have cs : ∀ b, (if b = a then some (HO.frz { cls := .type "list", data := .seq vs.toArray } (.lst (ns.map V.int))) else none) = none ∨ b = a := fun b => by
      by_cases h : b = a
      · exact .inr h
      · exact .inl (if_neg h)
    refine run (fun b => if b = a then some (.frz { cls := .type "list", data := .seq vs.toArray } (.lst (ns.map V.int))) else none) (fun b => (cs b).imp id fun h => ⟨_, _, if_pos h⟩) (.inl (.inr ⟨_, if_pos rfl⟩)) (fun b u z => ?_) fun b u z => ?_
    · rcases cs b with h | h
      · exact nomatch h.symm.trans z
      · subst h
        have z' := (if_pos rfl).symm.trans z
        cases z'
        exact ⟨ha, by rw [List.length_map]; exact hl, vs, _, rv, ha⟩
    · rcases cs b with h | h
      · exact nomatch h.symm.trans z
      · exact ⟨h, kn⟩
/-- the goal that the head leaves, from the law's promise -/
theorem walk_law {l : PySem.W.OpenLaw} {n k : Nat} {q : Program} {loose : List Str} {XP : (Str → Option Value) → Heap → Prop} {YP : World → Heap → Prop} {d : DefRec} {x : Str} (hn : l.most = some n) (hn2 : n ≤ sizeLine) (hdf : d.params.defaults = []) (hr : Room k callerA)
    (F : ∀ (w : World) (mg : Str → Option Value) (fa : Addr) (h : Heap), YP w h → h.Ns mainGlobals mg → mg d.name = some (.ref fa) →
      ∃ (K : PySem.W.Frag) (fd : FuncData) (T : TSpec), K.In h ∧ (∃ o : Obj, K.lookup sysModules = some o ∧ ∃ es n, o.data = .dict es n) ∧ (∀ (s : Shared) (u : Value), BindsTo s fd ⟨[u], []⟩ [(x, u)]) ∧ (∀ ns : List Int, ns.length ≤ n → T [tv (Scr.mk ns)] [] (fun t _ => t = tv true) fun _ _ => False) ∧
        ∀ base : Heap, K.In base → base.Ns mainGlobals mg → (base.get? sysModules).isSome = true → FnG l.prog w K mg base k fa fd [x] T) :
    PySem.W.WalkO q loose XP YP l.row.toRowW d [] (fun f vs => PySem.call f vs) := by
  refine Att.attach_call hn hdf fun w s₀ s₁ mg mb fa o pm cd doc a vs ns G Y ho hd hcd hmg hobj hints hlen hg => ?_
  obtain ⟨K, fd, T, KX, hsy, hb, hT, hF⟩ := F w mg fa _ Y G.T.g hmg
  exact end_law KX G.T.g G.T.b G.T.builtins G.T.nolimit hg hobj hints (Nat.le_trans hlen hn2) hr hsy hF hb (hT ns hlen)
end Ty

set_option Elab.async false
set_option linter.all false
set_option maxRecDepth 100000
set_option maxHeartbeats 4000000
namespace K05
open PySem PySem.Spec PyProof.Rows L2 Ty
def top (i : Nat) : Stmt := PySem.Challenge.pw_allalong_k05_disks.main.body.getD i (.Pass ⟨0, 0, 0, 0⟩)
abbrev FnP (K : PySem.W.Frag) (x : Str) (st : Stmt) (f : Addr) (fd : FuncData) : Prop := FunD K x x (defArgs st) (defBody st) (defScope st) [] [] f fd
abbrev s_InvalidSigns_init : Stmt := inClass (top 2) 0
theorem sc_InvalidSigns_init : FnScope ["self", "given"] ["self", "given"] (defScope s_InvalidSigns_init) := ⟨rfl, rfl, rfl, by decide +kernel, rfl, by decide +kernel, by decide +kernel⟩
abbrev s_InvalidCount_init : Stmt := inClass (top 3) 0
theorem sc_InvalidCount_init : FnScope ["self", "given"] ["self", "given"] (defScope s_InvalidCount_init) := ⟨rfl, rfl, rfl, by decide +kernel, rfl, by decide +kernel, by decide +kernel⟩
abbrev s_is_integer : Stmt := top 5
theorem sc_is_integer : FnScope ["value"] ["value"] (defScope s_is_integer) := ⟨rfl, rfl, rfl, by decide +kernel, rfl, by decide +kernel, by decide +kernel⟩
abbrev s_is_count : Stmt := top 6
theorem sc_is_count : FnScope ["value"] ["value"] (defScope s_is_count) := ⟨rfl, rfl, rfl, by decide +kernel, rfl, by decide +kernel, by decide +kernel⟩
abbrev s_is_signs : Stmt := top 7
theorem sc_is_signs : FnScope ["value", "most", "sign"] ["value", "most"] (defScope s_is_signs) := ⟨rfl, rfl, rfl, by decide +kernel, rfl, by decide +kernel, by decide +kernel⟩
abbrev s_is_between : Stmt := top 9
theorem sc_is_between : FnScope ["value", "least", "most"] ["value", "least", "most"] (defScope s_is_between) := ⟨rfl, rfl, rfl, by decide +kernel, rfl, by decide +kernel, by decide +kernel⟩
abbrev s_Disk_init : Stmt := inClass (top 10) 0
theorem sc_Disk_init : FnScope ["self"] ["self"] (defScope s_Disk_init) := ⟨rfl, rfl, rfl, by decide +kernel, rfl, by decide +kernel, by decide +kernel⟩
abbrev s_Disk_put : Stmt := inClass (top 10) 1
theorem sc_Disk_put : FnScope ["self", "signs"] ["self", "signs"] (defScope s_Disk_put) := ⟨rfl, rfl, rfl, by decide +kernel, rfl, by decide +kernel, by decide +kernel⟩
abbrev s_Disk_sync : Stmt := inClass (top 10) 2
theorem sc_Disk_sync : FnScope ["self"] ["self"] (defScope s_Disk_sync) := ⟨rfl, rfl, rfl, by decide +kernel, rfl, by decide +kernel, by decide +kernel⟩
abbrev s_Disk_trim : Stmt := inClass (top 10) 3
theorem sc_Disk_trim : FnScope ["self", "many"] ["self", "many"] (defScope s_Disk_trim) := ⟨rfl, rfl, rfl, by decide +kernel, rfl, by decide +kernel, by decide +kernel⟩
abbrev s_Disk_fall : Stmt := inClass (top 10) 4
theorem sc_Disk_fall : FnScope ["self", "keep"] ["self", "keep"] (defScope s_Disk_fall) := ⟨rfl, rfl, rfl, by decide +kernel, rfl, by decide +kernel, by decide +kernel⟩
abbrev s_Disk_lose : Stmt := inClass (top 10) 5
theorem sc_Disk_lose : FnScope ["self", "many"] ["self", "many"] (defScope s_Disk_lose) := ⟨rfl, rfl, rfl, by decide +kernel, rfl, by decide +kernel, by decide +kernel⟩
abbrev s_Disk_settle : Stmt := inClass (top 10) 6
theorem sc_Disk_settle : FnScope ["self", "many"] ["self", "many"] (defScope s_Disk_settle) := ⟨rfl, rfl, rfl, by decide +kernel, rfl, by decide +kernel, by decide +kernel⟩
abbrev s_Disk_swap : Stmt := inClass (top 10) 7
theorem sc_Disk_swap : FnScope ["self", "signs", "settled"] ["self", "signs", "settled"] (defScope s_Disk_swap) := ⟨rfl, rfl, rfl, by decide +kernel, rfl, by decide +kernel, by decide +kernel⟩
abbrev s_l_cell : Stmt := top 12
theorem sc_l_cell : FnScope ["script", "k"] ["script", "k"] (defScope s_l_cell) := ⟨rfl, rfl, rfl, by decide +kernel, rfl, by decide +kernel, by decide +kernel⟩
abbrev s_l_box : Stmt := top 13
theorem sc_l_box : FnScope ["great"] ["great"] (defScope s_l_box) := ⟨rfl, rfl, rfl, by decide +kernel, rfl, by decide +kernel, by decide +kernel⟩
abbrev s_l_take : Stmt := top 14
theorem sc_l_take : FnScope ["box", "many", "digit", "mixed"] ["box", "many"] (defScope s_l_take) := ⟨rfl, rfl, rfl, by decide +kernel, rfl, by decide +kernel, by decide +kernel⟩
abbrev s_l_signs : Stmt := top 15
theorem sc_l_signs : FnScope ["box", "alphabet", "kind", "at", "many", "turn"] ["box"] (defScope s_l_signs) := ⟨rfl, rfl, rfl, by decide +kernel, rfl, by decide +kernel, by decide +kernel⟩
abbrev s_l_odd_signs : Stmt := top 16
theorem sc_l_odd_signs : FnScope ["kind", "signs"] ["kind", "signs"] (defScope s_l_odd_signs) := ⟨rfl, rfl, rfl, by decide +kernel, rfl, by decide +kernel, by decide +kernel⟩
abbrev s_l_odd_count : Stmt := top 17
theorem sc_l_odd_count : FnScope ["kind"] ["kind"] (defScope s_l_odd_count) := ⟨rfl, rfl, rfl, by decide +kernel, rfl, by decide +kernel, by decide +kernel⟩
abbrev s_l_count : Stmt := top 18
theorem sc_l_count : FnScope ["box", "state", "odd", "many", "synced", "settled", "counts"] ["box", "state", "odd"] (defScope s_l_count) := ⟨rfl, rfl, rfl, by decide +kernel, rfl, by decide +kernel, by decide +kernel⟩
abbrev s_l_deed : Stmt := top 19
theorem sc_l_deed : FnScope ["box", "state", "kind", "odd", "signs", "count"] ["box", "state"] (defScope s_l_deed) := ⟨rfl, rfl, rfl, by decide +kernel, rfl, by decide +kernel, by decide +kernel⟩
abbrev s_l_is_count : Stmt := top 20
theorem sc_l_is_count : FnScope ["value", "least", "most"] ["value", "least", "most"] (defScope s_l_is_count) := ⟨rfl, rfl, rfl, by decide +kernel, rfl, by decide +kernel, by decide +kernel⟩
abbrev s_l_is_signs : Stmt := top 21
theorem sc_l_is_signs : FnScope ["value", "sign"] ["value"] (defScope s_l_is_signs) := ⟨rfl, rfl, rfl, by decide +kernel, rfl, by decide +kernel, by decide +kernel⟩
abbrev s_l_due : Stmt := top 22
theorem sc_l_due : FnScope ["state", "deed", "name", "many", "synced", "settled", "least", "most", "left"] ["state", "deed"] (defScope s_l_due) := ⟨rfl, rfl, rfl, by decide +kernel, rfl, by decide +kernel, by decide +kernel⟩
abbrev s_l_did : Stmt := top 23
theorem sc_l_did : FnScope ["disk", "deed", "turn", "name", "value", "e"] ["disk", "deed", "turn"] (defScope s_l_did) := ⟨rfl, rfl, rfl, by decide +kernel, rfl, by decide +kernel, by decide +kernel⟩
abbrev s_l_is : Stmt := top 24
theorem sc_l_is : FnScope ["disks", "states", "k", "told"] ["disks", "states"] (defScope s_l_is) := ⟨rfl, rfl, rfl, by decide +kernel, rfl, by decide +kernel, by decide +kernel⟩
abbrev s_l_done : Stmt := top 25
theorem sc_l_done : FnScope ["disks", "states", "which", "deed", "turn", "told", "due", "value"] ["disks", "states", "which", "deed", "turn"] (defScope s_l_done) := ⟨rfl, rfl, rfl, by decide +kernel, rfl, by decide +kernel, by decide +kernel⟩
abbrev s_l_right : Stmt := top 26
theorem sc_l_right : FnScope ["box", "disks", "states", "k", "which", "turn", "many", "synced", "settled", "deeds", "deed"] ["box"] (defScope s_l_right) := ⟨rfl, rfl, rfl, by decide +kernel, rfl, by decide +kernel, by decide +kernel⟩
abbrev s_law : Stmt := top 27
theorem sc_law : FnScope ["script", "k"] ["script"] (defScope s_law) := ⟨rfl, rfl, rfl, by decide +kernel, rfl, by decide +kernel, by decide +kernel⟩
end K05

set_option Elab.async false
set_option linter.all false
set_option maxRecDepth 100000
set_option maxHeartbeats 4000000
namespace K05
open PySem PySem.Spec PyProof.Rows L2 Ty
local macro_rules | `(tactic| walk_at "side") => `(tactic| first | omega | decide | assumption | (simp; done))
local macro_rules | `(tactic| walk_at "mul") => `(tactic| first | exact Or.inl ⟨by omega, by omega⟩ | exact Or.inr ⟨by omega, by omega⟩ | exact Or.inl ⟨by decide, by decide⟩)
local macro_rules | `(tactic| walk_at "pow") => `(tactic| first | exact ⟨by decide, by decide, by decide⟩ | exact ⟨by decide, by decide, by omega⟩ | exact ⟨by omega, by omega, by omega⟩)
local macro_rules | `(tactic| walk_at "Add") => `(tactic| first | refine add_ii ?_ | refine add_ss (by walk_at "side") ?_)
local macro_rules | `(tactic| walk_at "Sub") => `(tactic| refine sub_ii ?_)
local macro_rules | `(tactic| walk_at "Mult") => `(tactic| refine mul_ii (by walk_at "mul") ?_)
local macro_rules | `(tactic| walk_at "FloorDiv") => `(tactic| refine fdiv_ii (by constructor <;> walk_at "side") ?_)
local macro_rules | `(tactic| walk_at "Mod") => `(tactic| refine mod_ii (by walk_at "side") ?_)
local macro_rules | `(tactic| walk_at "Pow") => `(tactic| refine pow_ii (by walk_at "pow") ?_)
local macro_rules | `(tactic| walk_at "Lt") => `(tactic| refine lt_ii ?_)
local macro_rules | `(tactic| walk_at "LtE") => `(tactic| first | refine le_ii ?_ | refine le_ss ?_)
local macro_rules | `(tactic| walk_at "Gt") => `(tactic| refine gt_ii ?_)
local macro_rules | `(tactic| walk_at "GtE") => `(tactic| refine ge_ii ?_)
local macro_rules | `(tactic| walk_at "Eq") => `(tactic| first | refine eq_ii ?_ | refine eq_ss ?_)
local macro_rules | `(tactic| walk_at "NotEq") => `(tactic| first | refine ne_ii ?_ | refine ne_ss ?_)
local macro_rules | `(tactic| walk_at "In") => `(tactic| first | refine in_cs ?_)
local macro_rules | `(tactic| walk_at "NotIn") => `(tactic| first | refine notIn_cs ?_)
local macro_rules | `(tactic| walk_at "Is") => `(tactic| first | refine isN none_unit ?_ | refine isN none_int ?_ | refine isN none_str ?_ | refine isN none_bool ?_ | refine isN none_list ?_ | refine isN none_ref ?_)
local macro_rules | `(tactic| walk_at "IsNot") => `(tactic| first | refine notN none_unit ?_ | refine notN none_int ?_ | refine notN none_str ?_)
local macro_rules | `(tactic| walk_at "i") => `(tactic| first
  | refine ix_own (n := 0) rfl rfl ?_ | refine ix_own (n := 1) rfl rfl ?_ | refine ix_own (n := 2) rfl rfl ?_ | refine ix_tupU tupU2 rfl ?_ | refine ix_tupU tupU4 rfl ?_ | refine ix_s (by walk_at "side") (by walk_at "at") ?_ | refine ix_l (by walk_at "at") ?_)
local macro_rules | `(tactic| walk_at "at") => `(tactic| first | rfl | assumption)
local macro_rules | `(tactic| walk_at "s") => `(tactic| first | refine sl_s (by walk_at "side") ?_ | refine sl_l ?_)
local macro_rules | `(tactic| walk_at "b int") => `(tactic| refine int_i ?_)
local macro_rules | `(tactic| walk_at "b abs") => `(tactic| refine abs_i ?_)
local macro_rules | `(tactic| walk_at "b max") => `(tactic| refine max_ii rfl ?_)
local macro_rules | `(tactic| walk_at "b min") => `(tactic| refine min_ii rfl ?_)
local macro_rules | `(tactic| walk_at "b len") => `(tactic| first | refine len_s (by walk_at "side") ?_ | refine len_l ?_ | refine len_own (n := 0) rfl ?_ | refine len_own (n := 1) rfl ?_ | refine len_own (n := 2) rfl ?_)
local macro_rules | `(tactic| walk_at "b sum") => `(tactic| refine sum_l rfl ?_)
local macro_rules | `(tactic| walk_at "b all") => `(tactic| refine all_l rfl ?_)
local macro_rules | `(tactic| walk_at "b any") => `(tactic| refine any_l rfl ?_)
local macro_rules | `(tactic| walk_at "b isinstance") => `(tactic| first | refine isi ty_int ?_ | refine isi ty_bool ?_ | refine isi ty_str ?_ | refine isi ty_none ?_ | refine isi ty_list ?_)


/-- what the law's text lays: the defs, the classes, what built-in names are free -/
structure Tx (K : PySem.W.Frag) (mg : Str → Option Value) (base : Heap) (CE CS CC CD : Addr) : Prop where
  f_is_integer : ∃ f fd, FunD K "is_integer" "is_integer" (defArgs s_is_integer) (defBody s_is_integer) (defScope s_is_integer) [] [] f fd ∧ mg "is_integer" = some (.ref f)
  f_is_count : ∃ f fd, FunD K "is_count" "is_count" (defArgs s_is_count) (defBody s_is_count) (defScope s_is_count) [] [] f fd ∧ mg "is_count" = some (.ref f)
  f_is_signs : ∃ f fd, FunD K "is_signs" "is_signs" (defArgs s_is_signs) (defBody s_is_signs) (defScope s_is_signs) [.non] [] f fd ∧ mg "is_signs" = some (.ref f)
  f_is_between : ∃ f fd, FunD K "is_between" "is_between" (defArgs s_is_between) (defBody s_is_between) (defScope s_is_between) [] [] f fd ∧ mg "is_between" = some (.ref f)
  f_l_cell : ∃ f fd, FunD K "_law_cell" "_law_cell" (defArgs s_l_cell) (defBody s_l_cell) (defScope s_l_cell) [] [] f fd ∧ mg "_law_cell" = some (.ref f)
  f_l_box : ∃ f fd, FunD K "_law_box" "_law_box" (defArgs s_l_box) (defBody s_l_box) (defScope s_l_box) [] [] f fd ∧ mg "_law_box" = some (.ref f)
  f_l_take : ∃ f fd, FunD K "_law_take" "_law_take" (defArgs s_l_take) (defBody s_l_take) (defScope s_l_take) [] [] f fd ∧ mg "_law_take" = some (.ref f)
  f_l_signs : ∃ f fd, FunD K "_law_signs" "_law_signs" (defArgs s_l_signs) (defBody s_l_signs) (defScope s_l_signs) [] [] f fd ∧ mg "_law_signs" = some (.ref f)
  f_l_odd_signs : ∃ f fd, FunD K "_law_odd_signs" "_law_odd_signs" (defArgs s_l_odd_signs) (defBody s_l_odd_signs) (defScope s_l_odd_signs) [] [] f fd ∧ mg "_law_odd_signs" = some (.ref f)
  f_l_odd_count : ∃ f fd, FunD K "_law_odd_count" "_law_odd_count" (defArgs s_l_odd_count) (defBody s_l_odd_count) (defScope s_l_odd_count) [] [] f fd ∧ mg "_law_odd_count" = some (.ref f)
  f_l_count : ∃ f fd, FunD K "_law_count" "_law_count" (defArgs s_l_count) (defBody s_l_count) (defScope s_l_count) [] [] f fd ∧ mg "_law_count" = some (.ref f)
  f_l_deed : ∃ f fd, FunD K "_law_deed" "_law_deed" (defArgs s_l_deed) (defBody s_l_deed) (defScope s_l_deed) [] [] f fd ∧ mg "_law_deed" = some (.ref f)
  f_l_is_count : ∃ f fd, FunD K "_law_is_count" "_law_is_count" (defArgs s_l_is_count) (defBody s_l_is_count) (defScope s_l_is_count) [] [] f fd ∧ mg "_law_is_count" = some (.ref f)
  f_l_is_signs : ∃ f fd, FunD K "_law_is_signs" "_law_is_signs" (defArgs s_l_is_signs) (defBody s_l_is_signs) (defScope s_l_is_signs) [] [] f fd ∧ mg "_law_is_signs" = some (.ref f)
  f_l_due : ∃ f fd, FunD K "_law_due" "_law_due" (defArgs s_l_due) (defBody s_l_due) (defScope s_l_due) [] [] f fd ∧ mg "_law_due" = some (.ref f)
  f_l_did : ∃ f fd, FunD K "_law_did" "_law_did" (defArgs s_l_did) (defBody s_l_did) (defScope s_l_did) [] [] f fd ∧ mg "_law_did" = some (.ref f)
  f_l_is : ∃ f fd, FunD K "_law_is" "_law_is" (defArgs s_l_is) (defBody s_l_is) (defScope s_l_is) [] [] f fd ∧ mg "_law_is" = some (.ref f)
  f_l_done : ∃ f fd, FunD K "_law_done" "_law_done" (defArgs s_l_done) (defBody s_l_done) (defScope s_l_done) [] [] f fd ∧ mg "_law_done" = some (.ref f)
  f_l_right : ∃ f fd, FunD K "_law_right" "_law_right" (defArgs s_l_right) (defBody s_l_right) (defScope s_l_right) [] [] f fd ∧ mg "_law_right" = some (.ref f)
  f_law : ∃ f fd, FunD K "law" "law" (defArgs s_law) (defBody s_law) (defScope s_law) [] [] f fd ∧ mg "law" = some (.ref f)
  abs : mg "abs" = none
  all : mg "all" = none
  bool : mg "bool" = none
  int : mg "int" = none
  isinstance : mg "isinstance" = none
  len : mg "len" = none
  list : mg "list" = none
  max : mg "max" = none
  min : mg "min" = none
  range : mg "range" = none
  repr : mg "repr" = none
  str : mg "str" = none
  sum : mg "sum" = none
  sys : (base.get? sysModules).isSome = true
  g_AlongError : mg "AlongError" = some (.ref CE)
  g_InvalidSigns : mg "InvalidSigns" = some (.ref CS)
  g_InvalidCount : mg "InvalidCount" = some (.ref CC)
  g_Disk : mg "Disk" = some (.ref CD)
  sup_AlongError : SupI K CE
  oS : OexC K CS
  oC : OexC K CC
  nS : PySem.W.findIn K (.ref CS) "given" = some none
  nC : PySem.W.findIn K (.ref CC) "given" = some none
  iS : ∃ f fd, FunD K "__init__" "InvalidSigns.__init__" (defArgs s_InvalidSigns_init) (defBody s_InvalidSigns_init) (defScope s_InvalidSigns_init) [] [] f fd ∧ PySem.W.findIn K (.ref CS) "__init__" = some (some (.ref f)) ∧ PySem.W.typeIn K (.ref f) = some (.type "function")
  iC : ∃ f fd, FunD K "__init__" "InvalidCount.__init__" (defArgs s_InvalidCount_init) (defBody s_InvalidCount_init) (defScope s_InvalidCount_init) [] [] f fd ∧ PySem.W.findIn K (.ref CC) "__init__" = some (some (.ref f)) ∧ PySem.W.typeIn K (.ref f) = some (.type "function")
  xS : XfC K CS
  xC : XfC K CC
  eS : ExcC K CS
  eC : ExcC K CC
  kS : PySem.W.kitOne K (.ref CS) (.ref CE) = some true
  kC : PySem.W.kitOne K (.ref CC) (.ref CE) = some true
  mSS : PySem.W.exmOne K (.ref CS) (.ref CS) = some true
  mCS : PySem.W.exmOne K (.ref CC) (.ref CS) = some false
  mCC : PySem.W.exmOne K (.ref CC) (.ref CC) = some true
  cD : Cls K CD
  aT : NoAttr K CD "text"
  aY : NoAttr K CD "synced"
  aE : NoAttr K CD "settled"
  iD : ∃ f fd, FunD K "__init__" "Disk.__init__" (defArgs s_Disk_init) (defBody s_Disk_init) (defScope s_Disk_init) [] [] f fd ∧ Mk K CD f
  m_put : ∃ f fd, FunD K "put" "Disk.put" (defArgs s_Disk_put) (defBody s_Disk_put) (defScope s_Disk_put) [] [] f fd ∧ Meth K CD "put" f
  m_sync : ∃ f fd, FunD K "sync" "Disk.sync" (defArgs s_Disk_sync) (defBody s_Disk_sync) (defScope s_Disk_sync) [] [] f fd ∧ Meth K CD "sync" f
  m_trim : ∃ f fd, FunD K "trim" "Disk.trim" (defArgs s_Disk_trim) (defBody s_Disk_trim) (defScope s_Disk_trim) [] [] f fd ∧ Meth K CD "trim" f
  m_fall : ∃ f fd, FunD K "fall" "Disk.fall" (defArgs s_Disk_fall) (defBody s_Disk_fall) (defScope s_Disk_fall) [] [] f fd ∧ Meth K CD "fall" f
  m_lose : ∃ f fd, FunD K "lose" "Disk.lose" (defArgs s_Disk_lose) (defBody s_Disk_lose) (defScope s_Disk_lose) [] [] f fd ∧ Meth K CD "lose" f
  m_settle : ∃ f fd, FunD K "settle" "Disk.settle" (defArgs s_Disk_settle) (defBody s_Disk_settle) (defScope s_Disk_settle) [] [] f fd ∧ Meth K CD "settle" f
  m_swap : ∃ f fd, FunD K "swap" "Disk.swap" (defArgs s_Disk_swap) (defBody s_Disk_swap) (defScope s_Disk_swap) [] [] f fd ∧ Meth K CD "swap" f

/-! ### values that a deed bears -/
inductive Ov
  | str (s : Str)
  | int (i : Int)
  | bool (b : Bool)
  | none
  | tup (ds : List PyData)
  | dct (ds : List (PyData × PyData))
  | own (p : Addr) (ts : List TV) (ds : List PyData)
namespace Ov
def tv : Ov → TV
  | .str s => Ty.tv s
  | .int i => Ty.tv i
  | .bool b => Ty.tv b
  | .none => Ty.tv ()
  | .tup ds => Ty.tv (PyData.tuple ds)
  | .dct ds => Ty.tv (PyData.dict ds)
  | .own p _ _ => Ty.tv (Ref.mk p)
def mu : Ov → Mu
  | .own p ts _ => [(p, mL ts)]
  | _ => []
def d : Ov → PyData
  | .str s => .str s
  | .int i => .int i
  | .bool b => .bool b
  | .none => .none
  | .tup ds => .tuple ds
  | .dct ds => .dict ds
  | .own _ _ ds => .list ds
def ty : Ov → String
  | .str _ => "str"
  | .int _ => "int"
  | .bool _ => "bool"
  | .none => "NoneType"
  | .tup _ => "tuple"
  | .dct _ => "dict"
  | .own _ _ _ => "list"
def isInt : Ov → Bool
  | .int _ => true
  | _ => false
def isBool : Ov → Bool
  | .bool _ => true
  | _ => false
def isStr : Ov → Bool
  | .str _ => true
  | _ => false
def isCount : Ov → Bool
  | .int i => decide (0 ≤ i)
  | _ => false
def btw (lo hi : Int) : Ov → Bool
  | .int i => decide (lo ≤ i) && decide (i ≤ hi)
  | _ => false
/-- plain signs -/
def prB (s : Str) : Bool := s.cps.toList.all fun c => decide (32 ≤ c) && decide (c ≤ 126)
def isSg : Ov → Bool
  | .str s => prB s
  | _ => false
/-- what it may come to -/
def Small : Ov → Prop
  | .str s => s.length ≤ 1000000 ∧ ∀ c ∈ s.cps.toList, c < 128
  | _ => True
/-- its list, if it is one, stands in m -/
def In (m : Mu) : Ov → Prop
  | .own p ts _ => ∃ i : Nat, m[i]? = some (p, mL ts)
  | _ => True
theorem kitI (v : Ov) : kitB v.ty "int" = some (v.isInt || v.isBool) := by cases v <;> (dsimp only [ty, isInt, isBool, isStr]; decide +kernel)
theorem kitBo (v : Ov) : kitB v.ty "bool" = some v.isBool := by cases v <;> (dsimp only [ty, isInt, isBool, isStr]; decide +kernel)
theorem kitS (v : Ov) : kitB v.ty "str" = some v.isStr := by cases v <;> (dsimp only [ty, isInt, isBool, isStr]; decide +kernel)
theorem tym {m : Mu} : ∀ {v : Ov}, v.In m → IsTyM m v.tv v.ty
  | .str _, _ => tym_str
  | .int _, _ => tym_int
  | .bool _, _ => tym_bool
  | .none, _ => tym_none
  | .tup _, _ => tym_tup
  | .dct _, _ => tym_dct
  | .own _ _ _, ⟨_, h⟩ => tym_lU (lu_own h)
theorem of_int {v : Ov} (h : v.isInt = true) : ∃ i, v = .int i := by cases v <;> first | exact ⟨_, rfl⟩ | cases h
theorem of_str {v : Ov} (h : v.isStr = true) : ∃ i, v = .str i := by cases v <;> first | exact ⟨_, rfl⟩ | cases h
end Ov
def T_is_integer : TSpec := fun xs m post _ => ∃ v : Ov, xs = [v.tv] ∧ v.In m ∧ post (tv v.isInt) m
def T_is_count : TSpec := fun xs m post _ => ∃ v : Ov, xs = [v.tv] ∧ v.In m ∧ post (tv v.isCount) m
def T_is_between : TSpec := fun xs m post _ => ∃ (v : Ov) (lo hi : Int), xs = [v.tv, tv lo, tv hi] ∧ v.In m ∧ post (tv (v.btw lo hi)) m
def T_is_signs : TSpec := fun xs m post _ => ∃ v : Ov, xs = [v.tv, tv ()] ∧ v.In m ∧ v.Small ∧ post (tv v.isSg) m
def T_l_is_signs : TSpec := fun xs m post _ => ∃ v : Ov, xs = [v.tv] ∧ v.In m ∧ v.Small ∧ post (tv v.isSg) m
local macro_rules | `(tactic| walk_at "isi") => `(tactic| first | refine isiM (Ov.tym (by assumption)) ?_ (Ov.kitI _) | refine isiM (Ov.tym (by assumption)) ?_ (Ov.kitBo _) | refine isiM (Ov.tym (by assumption)) ?_ (Ov.kitS _))

section
variable {P : Program} {w : World} {K : PySem.W.Frag} {mg : Str → Option Value} {base : Heap} {CE CS CC CD : Addr}

theorem ok_is_integer (T : Tx K mg base CE CS CC CD) : DefK P w K mg base "is_integer" 1 T_is_integer [] := by
  obtain ⟨f, fd, F, hm⟩ := T.f_is_integer
  have sc := sc_is_integer
  refine defK_mk F (fn_ok F sc_is_integer (fun xs m post xp h => ?_) fun cdv A outer s H E B0 H0 xs m post xp hgd hr hT hx => ?_) hm (fun kV doc pm an cdv ct us hl => match us, hl with | [a0], _ => rfl)
  · obtain ⟨_, h, _⟩ := h; subst h; rfl
  obtain ⟨v, rfl, hv, hpost⟩ := hT
  refine wss_one ?_
  refine ws_ret ?_
  refine we_eqv (t := ?t1) ?hv1 ?hk1
  case hv1 =>
    refine we_andQ (A := ?A2) (R := ?R2) ?ha2 ?hb2
    case ha2 =>
      refine we_callB (id := "isinstance") T.isinstance ?_ bt_isinstance
      refine wa_cons ?_
      refine we_name 0 ?_
      refine wa_cons ?_
      refine we_type (T := "int") T.int ?_ bt_int
      refine wa_nil ?_
      walk_at "isi"
      exact eqv_rfl
    case hb2 =>
      refine we_one ?_
      refine we_notP (A := ?A3) ?hn3
      case hn3 =>
        refine we_callB (id := "isinstance") T.isinstance ?_ bt_isinstance
        refine wa_cons ?_
        refine we_name 0 ?_
        refine wa_cons ?_
        refine we_type (T := "bool") T.bool ?_ bt_bool
        refine wa_nil ?_
        walk_at "isi"
        exact eqv_rfl
  case hk1 =>
    skip
    have e : ((v.isInt || v.isBool) && !v.isBool) = v.isInt := by cases v <;> rfl
    rw [e]
    exact hpost
theorem ok_is_count (T : Tx K mg base CE CS CC CD) : DefK P w K mg base "is_count" 2 T_is_count [] := by
  obtain ⟨f, fd, F, hm⟩ := T.f_is_count
  have sc := sc_is_count
  refine defK_mk F (fn_ok F sc_is_count (fun xs m post xp h => ?_) fun cdv A outer s H E B0 H0 xs m post xp hgd hr hT hx => ?_) hm (fun kV doc pm an cdv ct us hl => match us, hl with | [a0], _ => rfl)
  · obtain ⟨_, h, _⟩ := h; subst h; rfl
  obtain ⟨v, rfl, hv, hpost⟩ := hT
  refine wss_one ?_
  refine ws_ret ?_
  refine we_and ?_
  refine we_call (ok_is_integer T) hgd hr xt0 ?_
  refine wa_cons ?_
  refine we_name 0 ?_
  refine wa_nil ?_
  refine FrP.all ⟨v, rfl, hv, ?_⟩
  refine BoolP.of ?_
  refine ⟨fun h => ?_, fun h => ?_⟩
  · skip
    obtain ⟨i, rfl⟩ := Ov.of_int h
    refine we_one ?_
    refine we_cmp ?_
    refine we_name 0 ?_
    refine we_int ?_
    walk_at "GtE"
    exact hpost
  · skip
    have e : v.isCount = false := by cases v <;> first | rfl | cases h
    rw [e] at hpost
    exact hpost
theorem ok_is_between (T : Tx K mg base CE CS CC CD) : DefK P w K mg base "is_between" 2 T_is_between [] := by
  obtain ⟨f, fd, F, hm⟩ := T.f_is_between
  have sc := sc_is_between
  refine defK_mk F (fn_ok F sc_is_between (fun xs m post xp h => ?_) fun cdv A outer s H E B0 H0 xs m post xp hgd hr hT hx => ?_) hm (fun kV doc pm an cdv ct us hl => match us, hl with | [a0, a1, a2], _ => rfl)
  · obtain ⟨_, _, _, h, _⟩ := h; subst h; rfl
  obtain ⟨v, lo, hi, rfl, hv, hpost⟩ := hT
  refine wss_one ?_
  refine ws_ret ?_
  refine we_and ?_
  refine we_call (ok_is_integer T) hgd hr xt0 ?_
  refine wa_cons ?_
  refine we_name 0 ?_
  refine wa_nil ?_
  refine FrP.all ⟨v, rfl, hv, ?_⟩
  refine BoolP.of ?_
  refine ⟨fun h => ?_, fun h => ?_⟩
  · skip
    obtain ⟨i, rfl⟩ := Ov.of_int h
    refine we_one ?_
    refine we_eqv (t := ?t1) ?hv1 ?hk1
    case hv1 =>
      refine we_chainQ (x := ?x_2) (y := ?y_2) (z := ?z_2) (A := ?A_2) (R := ?R_2) ?ha_2 ?hb_2 ?h1_2 ?hc_2 ?h2_2 ?hm_2
      case ha_2 =>
        refine we_name 1 ?_
        exact eqv_rfl
      case hb_2 =>
        refine we_name 0 ?_
        exact eqv_rfl
      case hc_2 =>
        refine we_name 2 ?_
        exact eqv_rfl
      case h1_2 =>
        walk_at "LtE"
        exact eqv_rfl
      case h2_2 =>
        walk_at "LtE"
        exact eqv_rfl
      case hm_2 => with_unfolding_all rfl
    case hk1 =>
      skip
      exact hpost
  · skip
    have e : v.btw lo hi = false := by cases v <;> first | rfl | cases h
    rw [e] at hpost
    exact hpost

def sgB (y : Str) : Bool := (!decide (y.cps.toList < ((" " : Str)).cps.toList)) && (!decide (((("~" : Str)).cps.toList) < y.cps.toList))
theorem sgB_c (c : Nat) : sgB ⟨#[c]⟩ = (decide (32 ≤ c) && decide (c ≤ 126)) := by
  have e1 : ((" " : Str)).cps.toList = [32] := by decide +kernel
  have e2 : (("~" : Str)).cps.toList = [126] := by decide +kernel
  unfold sgB
  rw [e1, e2]
  show (!decide ([c] < [32]) && !decide ([126] < [c])) = _
  have h1 : ([c] < [32]) ↔ c < 32 := by simp [List.cons_lt_cons_iff]
  have h2 : ([126] < [c]) ↔ 126 < c := by simp [List.cons_lt_cons_iff]
  simp only [h1, h2]
  rw [Bool.eq_iff_iff]
  simp
theorem all_sgB (s : Str) : ((signsT s).map sgB).all id = Ov.prB s := by
  unfold signsT Ov.prB
  rw [List.map_map, List.all_map]
  congr 1
  funext c
  exact sgB_c c
theorem no_sgB {x : Str} (h : ∀ c ∈ x.cps.toList, c < 128) : ∀ y ∈ ((signsT x).filter fun y => !sgB y).map fun y => y, ∀ c ∈ y.cps.toList, c < 0x110000 := fun y hy c hc => by
  rw [List.map_id'] at hy
  obtain ⟨k, hk, rfl⟩ := signs_c (List.mem_filter.mp hy).1
  have e : c = k := by simpa using hc
  have := h k hk
  omega
theorem none_sgB (s : Str) : PyData.eqv (.list ((((signsT s).filter fun y => !sgB y).map fun y => y).map PyData.str)) (.list (List.map PyData.str [])) = Ov.prB s := by
  rw [← all_sgB]
  generalize signsT s = l
  induction l with
  | nil => rfl
  | cons y l ih =>
    rw [List.map_cons, List.all_cons, List.filter_cons]
    cases h : sgB y with
    | true => simpa [h] using ih
    | false => rfl

theorem ok_is_signs (T : Tx K mg base CE CS CC CD) : DefK P w K mg base "is_signs" 1 T_is_signs [tv ()] := by
  obtain ⟨f, fd, F, hm⟩ := T.f_is_signs
  have sc := sc_is_signs
  refine defK_mkD F (fn_ok F sc_is_signs (fun xs m post xp h => ?_) fun cdv A outer s H E B0 H0 xs m post xp hgd hr hT hx => ?_) hm 1 0 _ (fun B => .cons (show V.non = .non from rfl) .nil) (by simp) rfl (fun T kV doc pm an cdv ct us its l1 l2 => match us, its, l1, l2 with | [a0], [b0], _, _ => ⟨_, rfl, rfl⟩)
  · obtain ⟨_, h, _⟩ := h; subst h; rfl
  obtain ⟨v, rfl, hv, hs, hpost⟩ := hT
  refine wss_cons ?_
  refine ws_ifP (B := ?B1) ?hc1 (fun h => ?ht1) (fun h => ?hf1)
  case hc1 =>
    refine wt_bool ?_
    refine ww_orQ (A := ?A2) (R := ?R2) ?ha2 ?hb2
    case ha2 =>
      refine wt_notP (A := ?A3) ?hn3
      case hn3 =>
        refine wt_val ?_
        refine we_callB (id := "isinstance") T.isinstance ?_ bt_isinstance
        refine wa_cons ?_
        refine we_name 0 ?_
        refine wa_cons ?_
        refine we_type (T := "str") T.str ?_ bt_str
        refine wa_nil ?_
        walk_at "isi"
        refine BoolP.of ?_
        exact eqb_rfl
    case hb2 =>
      refine ww_or1 ?_
      refine wt_bool ?_
      refine ww_andP (A := ?A4) (R := false) ?ha4 (fun hg => ?hb4)
      case ha4 =>
        refine wt_cmp ?_
        refine we_name 1 ?_
        refine we_none ?_
        walk_at "IsNot"
        refine BoolP.of ?_
        exact eqb_rfl
      case hb4 =>
        exact absurd hg (by decide)
  case ht1 =>
    skip
    skip
    refine wss_one ?_
    refine ws_ret ?_
    refine we_bool ?_
    have e : v.isSg = false := by cases v <;> first | rfl | cases h
    rw [e] at hpost
    exact hpost
  case hf1 =>
    skip
    obtain ⟨x, rfl⟩ : ∃ x, v = .str x := by cases v <;> first | exact ⟨_, rfl⟩ | cases h
    refine wss_nil ?_
    refine wss_one ?_
    refine ws_ret ?_
    refine we_callB (id := "all") T.all ?_ bt_all
    refine wa_cons ?_
    refine we_lc1 2 (own := [("sign", 2)]) ?_ rfl sc.nd (show BlkOk ["value", "most", "sign"] (defScope s_is_signs) _ [("sign", 2)] from ⟨rfl, by decide +kernel, by decide +kernel, by decide +kernel, by decide +kernel⟩)
    refine wi_str ?_
    refine we_name 0 ?_
    refine ⟨_, rfl, ?_⟩
    refine lcp_map (sgB) (by rw [signs_len]; exact hs.1) (fun _ _ => trivial) (fun s0 H0 C cl fp L y hy => ?_) ?_
    · skip
      refine we_chainQ (x := ?x_5) (y := ?y_5) (z := ?z_5) (A := ?A_5) (R := ?R_5) ?ha_5 ?hb_5 ?h1_5 ?hc_5 ?h2_5 ?hm_5
      case ha_5 =>
        refine we_str ?_
        exact eqv_rfl
      case hb_5 =>
        refine we_name 2 ?_
        exact eqv_rfl
      case hc_5 =>
        refine we_str ?_
        exact eqv_rfl
      case h1_5 =>
        walk_at "LtE"
        exact eqv_rfl
      case h2_5 =>
        walk_at "LtE"
        exact eqv_rfl
      case hm_5 => with_unfolding_all rfl
    refine wa_nil ?_
    walk_at "b all"
    rw [all_sgB]
    exact hpost
theorem ok_l_is_signs (T : Tx K mg base CE CS CC CD) : DefK P w K mg base "_law_is_signs" 1 T_l_is_signs [] := by
  obtain ⟨f, fd, F, hm⟩ := T.f_l_is_signs
  have sc := sc_l_is_signs
  refine defK_mk F (fn_ok F sc_l_is_signs (fun xs m post xp h => ?_) fun cdv A outer s H E B0 H0 xs m post xp hgd hr hT hx => ?_) hm (fun kV doc pm an cdv ct us hl => match us, hl with | [a0], _ => rfl)
  · obtain ⟨_, h, _⟩ := h; subst h; rfl
  obtain ⟨v, rfl, hv, hs, hpost⟩ := hT
  refine wss_one ?_
  refine ws_ret ?_
  refine we_and ?_
  refine we_callB (id := "isinstance") T.isinstance ?_ bt_isinstance
  refine wa_cons ?_
  refine we_name 0 ?_
  refine wa_cons ?_
  refine we_type (T := "str") T.str ?_ bt_str
  refine wa_nil ?_
  walk_at "isi"
  refine BoolP.of ?_
  refine ⟨fun h => ?_, fun h => ?_⟩
  · skip
    obtain ⟨x, rfl⟩ := Ov.of_str h
    refine we_one ?_
    refine we_cmp ?_
    refine we_lc1 1 (own := [("sign", 1)]) ?_ rfl sc.nd (show BlkOk ["value", "sign"] (defScope s_l_is_signs) _ [("sign", 1)] from ⟨rfl, by decide +kernel, by decide +kernel, by decide +kernel, by decide +kernel⟩)
    refine wi_str ?_
    refine we_name 0 ?_
    refine ⟨_, rfl, ?_⟩
    refine lcp_filter (fun y => !sgB y) (fun y => y) (by rw [signs_len]; exact hs.1) (fun _ _ => trivial) (fun s0 H0 C cl fp L y hy => ?_) (fun s0 H0 C cl fp L y hy hp => ?_) ?_
    · skip
      refine wt_notP (A := ?A1) ?hn1
      case hn1 =>
        refine wt_chainQ (x := ?x_2) (y := ?y_2) (z := ?z_2) (A := ?A_2) (R := ?R_2) ?ha_2 ?hb_2 ?h1_2 ?hc_2 ?h2_2 ?hm_2
        case ha_2 =>
          refine we_str ?_
          exact eqv_rfl
        case hb_2 =>
          refine we_name 1 ?_
          exact eqv_rfl
        case hc_2 =>
          refine we_str ?_
          exact eqv_rfl
        case h1_2 =>
          walk_at "LtE"
          exact eqv_rfl
        case h2_2 =>
          walk_at "LtE"
          exact eqv_rfl
        case hm_2 => with_unfolding_all rfl
    · skip
      refine we_name 1 ?_
      exact eqv_rfl
    refine we_list ?_
    refine wa_nil ?_
    refine ⟨by decide, ?_⟩
    refine .data (α := Str) (ys := []) rfl ?_
    refine eq_d (asd_list lu_l (asds_map fun y _ => asd_str)) (asd_list lu_l (asds_map (α := Str) (xs := []) (f := PyData.str) fun y _ => asd_str)) hr T.sys ?_ ?_ ?_
    · exact shaped_strs (no_sgB hs.2)
    · exact shaped_strs (xs := []) (fun y hy => nomatch hy)
    rw [none_sgB]
    exact hpost
  · skip
    skip
    have e : v.isSg = false := by cases v <;> first | rfl | cases h
    rw [e] at hpost
    exact hpost
end
end K05


set_option Elab.async false
set_option linter.all false
set_option maxRecDepth 100000
set_option maxHeartbeats 4000000
namespace K05
open PySem PySem.Spec PyProof.Rows L2 Ty
local macro_rules | `(tactic| walk_at "side") => `(tactic| first | omega | decide | assumption | (simp; done))
local macro_rules | `(tactic| walk_at "mul") => `(tactic| first | exact Or.inl ⟨by omega, by omega⟩ | exact Or.inr ⟨by omega, by omega⟩ | exact Or.inl ⟨by decide, by decide⟩)
local macro_rules | `(tactic| walk_at "pow") => `(tactic| first | exact ⟨by decide, by decide, by decide⟩ | exact ⟨by decide, by decide, by omega⟩ | exact ⟨by omega, by omega, by omega⟩)
local macro_rules | `(tactic| walk_at "Add") => `(tactic| first | refine add_ii ?_ | refine add_ss (by walk_at "side") ?_)
local macro_rules | `(tactic| walk_at "Sub") => `(tactic| refine sub_ii ?_)
local macro_rules | `(tactic| walk_at "Mult") => `(tactic| refine mul_ii (by walk_at "mul") ?_)
local macro_rules | `(tactic| walk_at "FloorDiv") => `(tactic| refine fdiv_ii (by constructor <;> walk_at "side") ?_)
local macro_rules | `(tactic| walk_at "Mod") => `(tactic| refine mod_ii (by walk_at "side") ?_)
local macro_rules | `(tactic| walk_at "Pow") => `(tactic| refine pow_ii (by walk_at "pow") ?_)
local macro_rules | `(tactic| walk_at "Lt") => `(tactic| refine lt_ii ?_)
local macro_rules | `(tactic| walk_at "LtE") => `(tactic| first | refine le_ii ?_ | refine le_ss ?_)
local macro_rules | `(tactic| walk_at "Gt") => `(tactic| refine gt_ii ?_)
local macro_rules | `(tactic| walk_at "GtE") => `(tactic| refine ge_ii ?_)
local macro_rules | `(tactic| walk_at "Eq") => `(tactic| first | refine eq_ii ?_ | refine eq_ss ?_)
local macro_rules | `(tactic| walk_at "NotEq") => `(tactic| first | refine ne_ii ?_ | refine ne_ss ?_)
local macro_rules | `(tactic| walk_at "In") => `(tactic| first | refine in_cs ?_ | refine in_il ?_ | refine in_sl ?_)
local macro_rules | `(tactic| walk_at "NotIn") => `(tactic| first | refine notIn_cs ?_)
local macro_rules | `(tactic| walk_at "Is") => `(tactic| first | refine isN none_unit ?_ | refine isN none_int ?_ | refine isN none_str ?_ | refine isN none_bool ?_ | refine isN none_list ?_ | refine isN none_ref ?_)
local macro_rules | `(tactic| walk_at "IsNot") => `(tactic| first | refine notN none_unit ?_ | refine notN none_int ?_ | refine notN none_str ?_)
local macro_rules | `(tactic| walk_at "i") => `(tactic| first
  | refine ix_own (n := 0) rfl rfl ?_ | refine ix_own (n := 1) rfl rfl ?_ | refine ix_own (n := 2) rfl rfl ?_ | refine ix_lU lu_hl rfl ?_ | refine ix_tupU tupU2 rfl ?_ | refine ix_tupU tupU4 rfl ?_ | refine ix_s (by walk_at "side") (by walk_at "at") ?_ | refine ix_l (by walk_at "at") ?_)
local macro_rules | `(tactic| walk_at "at") => `(tactic| first | rfl | assumption)
local macro_rules | `(tactic| walk_at "s") => `(tactic| first | refine sl_s (by walk_at "side") ?_ | refine sl_l ?_)
local macro_rules | `(tactic| walk_at "b int") => `(tactic| refine int_i ?_)
local macro_rules | `(tactic| walk_at "b abs") => `(tactic| refine abs_i ?_)
local macro_rules | `(tactic| walk_at "b max") => `(tactic| refine max_ii rfl ?_)
local macro_rules | `(tactic| walk_at "b min") => `(tactic| refine min_ii rfl ?_)
local macro_rules | `(tactic| walk_at "b len") => `(tactic| first | refine len_s (by walk_at "side") ?_ | refine len_l ?_ | refine len_own (n := 0) rfl ?_ | refine len_own (n := 1) rfl ?_ | refine len_own (n := 2) rfl ?_)
local macro_rules | `(tactic| walk_at "b sum") => `(tactic| refine sum_l rfl ?_)
local macro_rules | `(tactic| walk_at "b all") => `(tactic| refine all_l rfl ?_)
local macro_rules | `(tactic| walk_at "b any") => `(tactic| refine any_l rfl ?_)
local macro_rules | `(tactic| walk_at "b isinstance") => `(tactic| first | refine isi ty_int ?_ | refine isi ty_bool ?_ | refine isi ty_str ?_ | refine isi ty_none ?_ | refine isi ty_list ?_)
local macro_rules | `(tactic| walk_at "l") => `(tactic| first | refine .data (ys := [_]) rfl ?_ | refine .data (ys := [_, _]) rfl ?_ | refine .data (ys := [_, _, _]) rfl ?_ | refine .data (ys := [_, _, _, _]) rfl ?_ | refine .data (ys := [_, _, _, _, _]) rfl ?_ | refine .data (ys := [_, _, _, _, _, _]) rfl ?_ | refine .data (ys := [_, _, _, _, _, _, _]) rfl ?_ | refine .data (ys := [_, _, _, _, _, _, _, _, _, _]) rfl ?_ | refine .het ?_)
local macro_rules | `(tactic| walk_at "t") => `(tactic| first | refine tup2 ?_ | refine tup3 ?_ | refine tup4 ?_)
local macro_rules | `(tactic| walk_at "ty str") => `(tactic| refine ⟨ty_s, ?_⟩)
local macro_rules | `(tactic| walk_at "ty list") => `(tactic| first | refine ⟨ty_lU lu_l, ?_⟩ | refine ⟨ty_lU lu_hl, ?_⟩ | refine ⟨ty_lU (lu_own (n := 0) rfl), ?_⟩ | refine ⟨ty_lU (lu_own (n := 1) rfl), ?_⟩)


structure Box where
  n : Int
  g : Bool
  a : Int
  c : Int
def Box.mv (b : Box) : MV := mL [tv b.n, tv b.g, tv b.a, tv b.c]
/-- after k draws at most -/
structure Box.Ok (b : Box) (k : Nat) : Prop where
  n0 : 0 ≤ b.n
  a0 : 0 ≤ b.a
  a1 : b.a < 2147483629
  c0 : 0 ≤ b.c
  c1 : b.c ≤ k
theorem Box.Ok.mono {b : Box} {k k' : Nat} (h : b.Ok k) (e : k ≤ k') : b.Ok k' := ⟨h.n0, h.a0, h.a1, h.c0, by have := h.c1; omega⟩
def T_take : TSpec := fun xs m post _ => ∃ (p : Addr) (many : Int) (b : Box) (k : Nat), xs = [tv (Ref.mk p), tv many] ∧ m = [(p, b.mv)] ∧ 0 < many ∧ many < 1073741824 ∧ b.Ok k ∧ k ≤ 100000000 ∧
  ∀ (r : Int) (b' : Box), 0 ≤ r → r < many → b'.Ok (k + 1) → post (tv r) [(p, b'.mv)]
def T_box : TSpec := fun xs m post _ => ∃ g : Int, xs = [tv g] ∧ m = [] ∧ ∀ (p : Addr) (b : Box), b.Ok 0 → post (tv (Ref.mk p)) [(p, b.mv)]
def T_cell : TSpec := fun xs m post _ => ∃ (l : List Int) (k : Int), xs = [tv (Scr.mk l), tv k] ∧ 0 ≤ k ∧ ∀ g : Int, post (tv g) m
/-- plain signs, not many -/
structure Sg (n : Nat) (s : Str) : Prop where
  pr : Ov.prB s = true
  len : s.length ≤ n
theorem prB_iff {s : Str} : Ov.prB s = true ↔ ∀ c ∈ s.cps.toList, 32 ≤ c ∧ c ≤ 126 := by
  unfold Ov.prB
  rw [List.all_eq_true]
  simp
def alpha : Str := " !\"#$&'()*+,-./0123456789:;<=>?@ABCDEFGHIJKLMNOPQRSTUVWXYZ[\\]^_`abcdefghijklmnopqrstuvwxyz{|}~"
theorem alpha_len : alpha.length = 94 := by decide +kernel
theorem alpha_pr : Ov.prB alpha = true := by decide +kernel
theorem ix_in {n : Nat} {k : Int} (h0 : 0 ≤ k) (h1 : k < n) : ixN n k = some k.toNat := by
  unfold ixN
  rw [if_pos h0, if_pos h1]
theorem alpha_le : alpha.length ≤ 16000000 := by rw [alpha_len]; decide
theorem al_at {r : Int} (h0 : 0 ≤ r) (h1 : r < 94) : ∃ c, atT alpha.cps.toList r = some c ∧ 32 ≤ c ∧ c ≤ 126 := by
  have hl : alpha.cps.toList.length = 94 := by rw [← str_llen]; exact alpha_len
  have e : ixN alpha.cps.toList.length r = some r.toNat := by
    rw [hl]
    exact ix_in h0 h1
  have hr : r.toNat < alpha.cps.toList.length := by rw [hl]; omega
  refine ⟨alpha.cps.toList[r.toNat], ?_, prB_iff.mp alpha_pr _ (List.getElem_mem hr)⟩
  unfold Ty.atT
  rw [e]
  simp
def T_signs : TSpec := fun xs m post _ => ∃ (p : Addr) (b : Box) (k : Nat), xs = [tv (Ref.mk p)] ∧ m = [(p, b.mv)] ∧ b.Ok k ∧ k ≤ 10000000 ∧ ∀ (s : Str) (b' : Box), Sg 700 s → b'.Ok (k + 11) → post (tv s) [(p, b'.mv)]
theorem sg_one {c : Nat} (h1 : 32 ≤ c) (h2 : c ≤ 126) : Sg 1 ⟨#[c]⟩ := ⟨prB_iff.mpr fun x hx => by
  have e : x = c := by simpa using hx
  subst e
  exact ⟨h1, h2⟩, Nat.le_refl _⟩
theorem sg_app {n k : Nat} {x y : Str} (hx : Sg n x) (hy : Sg k y) : Sg (n + k) (x ++ y) := ⟨prB_iff.mpr fun c hc => by
  rw [app_list] at hc
  rcases List.mem_append.mp hc with h | h
  · exact prB_iff.mp hx.pr c h
  · exact prB_iff.mp hy.pr c h, by
  have := hx.len
  have := hy.len
  rw [app_len]; omega⟩
theorem Sg.mono {n k : Nat} {x : Str} (h : Sg n x) (e : n ≤ k) : Sg k x := ⟨h.pr, Nat.le_trans h.len e⟩
theorem sg_mul {k : Nat} {n : Int} {N : Nat} (h1 : 32 ≤ k) (h2 : k ≤ 126) (hn : n ≤ N) : Sg N (Txt.mul ⟨#[k]⟩ n) := ⟨prB_iff.mpr fun c hc => by
  have := mul_mem rfl hc
  subst this
  exact ⟨h1, h2⟩, by rw [mul_len rfl]; omega⟩
theorem sg_slice {n : Nat} {x : Str} {l u : Option Int} (h : Sg n x) : Sg n (Txt.slice x l u) := ⟨prB_iff.mpr fun c hc => prB_iff.mp h.pr c (slice_mem hc), Nat.le_trans (Txt.slice_le x l u) h.len⟩
theorem sg_alpha : Sg 94 alpha := ⟨alpha_pr, by rw [alpha_len]; exact Nat.le_refl _⟩
theorem sg_sum : ∀ {ys : List Str}, (∀ y ∈ ys, Sg 1 y) → (ys.map (·.length)).sum ≤ ys.length
  | [], _ => Nat.le_refl _
  | y :: ys, h => by
    have h1 := (h y List.mem_cons_self).len
    have h2 := sg_sum (ys := ys) fun z hz => h z (List.mem_cons_of_mem _ hz)
    simp only [List.map_cons, List.sum_cons, List.length_cons]
    omega
theorem sg_join {ys : List Str} (h : ∀ y ∈ ys, Sg 1 y) : Sg ys.length (Txt.join Str.empty ys) := ⟨prB_iff.mpr fun c hc => by
  rcases join_mem hc with ⟨t, ht, h2⟩ | h2
  · exact prB_iff.mp (h t ht).pr c h2
  · simp [Str.empty] at h2, by
  rw [show Txt.join Str.empty ys = Str.join Str.empty ys from beq_iff_eq.mp (join_closes rfl)]
  induction ys with
  | nil => exact Nat.le_refl _
  | cons y r ih =>
    have h1 := (h y List.mem_cons_self).len
    have h2 := ih fun z hz => h z (List.mem_cons_of_mem _ hz)
    cases r with
    | nil => rw [join_one]; simpa using h1
    | cons z r =>
      rw [join_cons_cons, app_len, app_len]
      have e : Str.empty.length = 0 := rfl
      simp only [List.length_cons] at h2 ⊢
      omega⟩

section
variable {P : Program} {w : World} {K : PySem.W.Frag} {mg : Str → Option Value} {base : Heap} {CE CS CC CD : Addr}

theorem ok_l_take (T : Tx K mg base CE CS CC CD) : DefK P w K mg base "_law_take" 1 T_take [] := by
  obtain ⟨f, fd, F, hm⟩ := T.f_l_take
  have sc := sc_l_take
  refine defK_mk F (fn_ok F sc_l_take (fun xs m post xp h => ?_) fun cdv A outer s H E B0 H0 xs m post xp hgd hr hT hx => ?_) hm (fun kV doc pm an cdv ct us hl => match us, hl with | [a0, a1], _ => rfl)
  · obtain ⟨_, _, _, _, h, _⟩ := h; subst h; rfl
  obtain ⟨p, many, b, k, rfl, rfl, hm0, hm1, ⟨hn0, ha0, ha1, hc0, hc1⟩, hk, hpost⟩ := hT
  refine wss_cons ?_
  refine ws_ifP (B := ?B1) ?hc1 (fun h => ?ht1) (fun h => ?hf1)
  case hc1 =>
    refine wt_bool ?_
    refine ww_andQ (A := ?A2) (R := ?R2) ?ha2 ?hb2
    case ha2 =>
      refine wt_val ?_
      refine we_ix ?_
      refine we_name 0 ?_
      refine we_int ?_
      walk_at "i"
      refine BoolP.of ?_
      exact eqb_rfl
    case hb2 =>
      refine ww_and1 ?_
      refine wt_cmp ?_
      refine we_ix ?_
      refine we_name 0 ?_
      refine we_int ?_
      walk_at "i"
      refine we_int ?_
      walk_at "Gt"
      refine BoolP.of ?_
      exact eqb_rfl
  case ht1 =>
    skip
    try simp only [Bool.and_eq_true, Bool.or_eq_true, Bool.and_eq_false_iff, Bool.or_eq_false_iff, Bool.not_eq_true, Bool.not_eq_false, Bool.not_eq_true', Bool.not_eq_false', decide_eq_true_eq, decide_eq_false_iff_not] at h
    refine wss_cons ?_
    refine ws_set 2 ?_ sc.nd
    refine we_bin ?_
    refine we_callT (T := "int") T.int ?_ bt_int
    refine wa_cons ?_
    refine we_ix ?_
    refine we_name 0 ?_
    refine we_int ?_
    walk_at "i"
    refine wa_nil ?_
    walk_at "b int"
    refine we_name 1 ?_
    walk_at "Mod"
    refine wss_cons ?_
    refine ws_asg ?_
    refine we_bin ?_
    refine we_callT (T := "int") T.int ?_ bt_int
    refine wa_cons ?_
    refine we_ix ?_
    refine we_name 0 ?_
    refine we_int ?_
    walk_at "i"
    refine wa_nil ?_
    walk_at "b int"
    refine we_name 1 ?_
    walk_at "FloorDiv"
    refine wg_subL ?_
    refine we_name 0 ?_
    refine we_int ?_
    refine ⟨_, 0, _, _, _, rfl, rfl, rfl, rfl, ?_⟩
    refine wss_one ?_
    refine ws_ret ?_
    refine we_name 2 ?_
    exact hpost _ ⟨b.n / many, b.g, b.a, b.c⟩ (Int.emod_nonneg _ (by omega)) (Int.emod_lt_of_pos _ hm0) ⟨Int.ediv_nonneg hn0 (by omega), ha0, ha1, hc0, by show b.c ≤ _; omega⟩
  case hf1 =>
    skip
    try simp only [Bool.and_eq_true, Bool.or_eq_true, Bool.and_eq_false_iff, Bool.or_eq_false_iff, Bool.not_eq_true, Bool.not_eq_false, Bool.not_eq_true', Bool.not_eq_false', decide_eq_true_eq, decide_eq_false_iff_not] at h
    refine wss_nil ?_
    refine wss_cons ?_
    refine ws_asg ?_
    refine we_bin ?_
    refine we_ix ?_
    refine we_name 0 ?_
    refine we_int ?_
    walk_at "i"
    refine we_int ?_
    walk_at "Add"
    refine wg_subL ?_
    refine we_name 0 ?_
    refine we_int ?_
    refine ⟨_, 0, _, _, _, rfl, rfl, rfl, rfl, ?_⟩
    refine wss_cons ?_
    refine ws_set 3 ?_ sc.nd
    refine we_bin ?_
    refine we_callT (T := "int") T.int ?_ bt_int
    refine wa_cons ?_
    refine we_bin ?_
    refine we_bin ?_
    refine we_bin ?_
    refine we_ix ?_
    refine we_name 0 ?_
    refine we_int ?_
    walk_at "i"
    refine we_bin ?_
    refine we_int ?_
    refine we_ix ?_
    refine we_name 0 ?_
    refine we_int ?_
    walk_at "i"
    walk_at "Mult"
    walk_at "Add"
    refine we_int ?_
    walk_at "Add"
    refine we_int ?_
    walk_at "Pow"
    refine wa_nil ?_
    walk_at "b int"
    refine we_int ?_
    walk_at "Mod"
    refine wss_one ?_
    refine ws_ret ?_
    refine we_bin ?_
    refine we_bin ?_
    refine we_bin ?_
    refine we_callT (T := "int") T.int ?_ bt_int
    refine wa_cons ?_
    refine we_bin ?_
    refine we_bin ?_
    refine we_bin ?_
    refine we_name 3 ?_
    refine we_int ?_
    walk_at "Mult"
    refine we_bin ?_
    refine we_int ?_
    refine we_ix ?_
    refine we_name 0 ?_
    refine we_int ?_
    walk_at "i"
    walk_at "Mult"
    walk_at "Add"
    refine we_int ?_
    walk_at "Pow"
    refine wa_nil ?_
    walk_at "b int"
    refine we_int ?_
    walk_at "Mod"
    refine we_int ?_
    walk_at "FloorDiv"
    refine we_name 1 ?_
    walk_at "Mod"
    exact hpost _ ⟨b.n, b.g, b.a, b.c + 1⟩ (Int.emod_nonneg _ (by omega)) (Int.emod_lt_of_pos _ hm0) ⟨hn0, ha0, ha1, by show 0 ≤ b.c + 1; omega, by show b.c + 1 ≤ _; omega⟩
theorem ok_l_box (T : Tx K mg base CE CS CC CD) : DefK P w K mg base "_law_box" 1 T_box [] := by
  obtain ⟨f, fd, F, hm⟩ := T.f_l_box
  have sc := sc_l_box
  refine defK_mk F (fn_ok F sc_l_box (fun xs m post xp h => ?_) fun cdv A outer s H E B0 H0 xs m post xp hgd hr hT hx => ?_) hm (fun kV doc pm an cdv ct us hl => match us, hl with | [a0], _ => rfl)
  · obtain ⟨_, h, _⟩ := h; subst h; rfl
  obtain ⟨g, rfl, rfl, hpost⟩ := hT
  refine wss_one ?_
  refine ws_ret ?_
  refine we_list ?_
  refine wa_cons ?_
  refine we_callB (id := "abs") T.abs ?_ bt_abs
  refine wa_cons ?_
  refine we_name 0 ?_
  refine wa_nil ?_
  walk_at "b abs"
  refine wa_cons ?_
  refine we_cmp ?_
  refine we_callB (id := "abs") T.abs ?_ bt_abs
  refine wa_cons ?_
  refine we_name 0 ?_
  refine wa_nil ?_
  walk_at "b abs"
  refine we_bin ?_
  refine we_int ?_
  refine we_int ?_
  walk_at "Pow"
  walk_at "GtE"
  refine wa_cons ?_
  refine we_bin ?_
  refine we_callT (T := "int") T.int ?_ bt_int
  refine wa_cons ?_
  refine we_callB (id := "abs") T.abs ?_ bt_abs
  refine wa_cons ?_
  refine we_name 0 ?_
  refine wa_nil ?_
  walk_at "b abs"
  refine wa_nil ?_
  walk_at "b int"
  refine we_int ?_
  walk_at "Mod"
  refine wa_cons ?_
  refine we_int ?_
  refine wa_nil ?_
  refine ⟨by first | decide | simp, ?_⟩
  refine .own fun p => ?_
  exact hpost p ⟨if g < 0 then -g else g, _, _, 0⟩ ⟨by dsimp only; split <;> omega, Int.emod_nonneg _ (by omega), Int.emod_lt_of_pos _ (by omega), Int.le_refl _, Int.le_refl _⟩
theorem ok_l_cell (T : Tx K mg base CE CS CC CD) : DefK P w K mg base "_law_cell" 1 T_cell [] := by
  obtain ⟨f, fd, F, hm⟩ := T.f_l_cell
  have sc := sc_l_cell
  refine defK_mk F (fn_ok F sc_l_cell (fun xs m post xp h => ?_) fun cdv A outer s H E B0 H0 xs m post xp hgd hr hT hx => ?_) hm (fun kV doc pm an cdv ct us hl => match us, hl with | [a0, a1], _ => rfl)
  · obtain ⟨_, _, h, _⟩ := h; subst h; rfl
  obtain ⟨l, k, rfl, hk, hpost⟩ := hT
  refine wss_one ?_
  refine ws_ret ?_
  refine we_ifP (B := ?B3) ?hc3 (fun h => ?ht3) (fun h => ?hf3)
  case hc3 =>
    refine wt_cmp ?_
    refine we_name 1 ?_
    refine we_callB (id := "len") T.len ?_ bt_len
    refine wa_cons ?_
    refine we_name 0 ?_
    refine wa_nil ?_
    refine len_scr ?_
    walk_at "Lt"
    refine BoolP.of ?_
    exact eqb_rfl
  case ht3 =>
    skip
    try simp only [Bool.and_eq_true, Bool.or_eq_true, Bool.and_eq_false_iff, Bool.or_eq_false_iff, Bool.not_eq_true, Bool.not_eq_false, Bool.not_eq_true', Bool.not_eq_false', decide_eq_true_eq, decide_eq_false_iff_not] at h
    refine we_ix ?_
    refine we_name 0 ?_
    refine we_name 1 ?_
    have hk2 : k.toNat < l.length := by omega
    refine ix_scr (x := Scr.mk l) (e := l[k.toNat]) ?_ ?_
    · unfold Ty.atT
      rw [show ixN l.length k = some k.toNat from ix_in hk (by omega)]
      simp
    exact hpost _
  case hf3 =>
    skip
    try simp only [Bool.and_eq_true, Bool.or_eq_true, Bool.and_eq_false_iff, Bool.or_eq_false_iff, Bool.not_eq_true, Bool.not_eq_false, Bool.not_eq_true', Bool.not_eq_false', decide_eq_true_eq, decide_eq_false_iff_not] at h
    refine we_bin ?_
    refine we_bin ?_
    refine we_int ?_
    refine we_name 1 ?_
    walk_at "Mult"
    refine we_bin ?_
    refine we_callB (id := "sum") T.sum ?_ bt_sum
    refine wa_cons ?_
    refine we_slice ?_
    refine we_name 0 ?_
    refine wo_none ?_
    refine wo_some ?_
    refine we_int ?_
    refine ⟨_, rfl, ?_⟩
    refine sl_scr ?_
    refine wa_nil ?_
    walk_at "b sum"
    refine we_int ?_
    walk_at "Mod"
    walk_at "Add"
    exact hpost _
theorem ok_l_signs (T : Tx K mg base CE CS CC CD) : DefK P w K mg base "_law_signs" 2 T_signs [] := by
  obtain ⟨f, fd, F, hm⟩ := T.f_l_signs
  have sc := sc_l_signs
  refine defK_mk F (fn_ok F sc_l_signs (fun xs m post xp h => ?_) fun cdv A outer s H E B0 H0 xs m post xp hgd hr hT hx => ?_) hm (fun kV doc pm an cdv ct us hl => match us, hl with | [a0], _ => rfl)
  · obtain ⟨_, _, _, h, _⟩ := h; subst h; rfl
  obtain ⟨p, b, k, rfl, rfl, hb, hk, hpost⟩ := hT
  refine wss_cons ?_
  refine ws_set 1 ?_ sc.nd
  refine we_str ?_
  refine wss_cons ?_
  refine ws_par3 2 3 4 ?_ rfl sc.nd
  refine wa_cons ?_
  refine we_call (ok_l_take T) hgd hr xt0 ?_
  refine wa_cons ?_
  refine we_name 0 ?_
  refine wa_cons ?_
  refine we_int ?_
  refine wa_nil ?_
  refine FrP.one ⟨_, _, _, _, rfl, rfl, by omega, by omega, hb, by omega, fun r1 b h1a h1b hb => ?_⟩
  refine wa_cons ?_
  refine we_call (ok_l_take T) hgd hr xt0 ?_
  refine wa_cons ?_
  refine we_name 0 ?_
  refine wa_cons ?_
  refine we_int ?_
  refine wa_nil ?_
  refine FrP.one ⟨_, _, _, _, rfl, rfl, by omega, by omega, hb, by omega, fun r2 b h2a h2b hb => ?_⟩
  refine wa_cons ?_
  refine we_call (ok_l_take T) hgd hr xt0 ?_
  refine wa_cons ?_
  refine we_name 0 ?_
  refine wa_cons ?_
  refine we_int ?_
  refine wa_nil ?_
  refine FrP.one ⟨_, _, _, _, rfl, rfl, by omega, by omega, hb, by omega, fun r3 b h3a h3b hb => ?_⟩
  refine wa_nil ?_
  refine ⟨_, _, _, rfl, ?_⟩
  refine wss_cons ?_
  refine ws_ifP (B := ?B4) ?hc4 (fun h => ?ht4) (fun h => ?hf4)
  case hc4 =>
    refine wt_cmp ?_
    refine we_name 2 ?_
    refine we_int ?_
    walk_at "Eq"
    refine BoolP.of ?_
    exact eqb_rfl
  case ht4 =>
    skip
    try simp only [Bool.and_eq_true, Bool.or_eq_true, Bool.and_eq_false_iff, Bool.or_eq_false_iff, Bool.not_eq_true, Bool.not_eq_false, Bool.not_eq_true', Bool.not_eq_false', decide_eq_true_eq, decide_eq_false_iff_not] at h
    refine wss_one ?_
    refine ws_ret ?_
    refine we_str ?_
    exact hpost _ b ⟨by decide +kernel, by decide +kernel⟩ (hb.mono (by omega))
  case hf4 =>
    skip
    try simp only [Bool.and_eq_true, Bool.or_eq_true, Bool.and_eq_false_iff, Bool.or_eq_false_iff, Bool.not_eq_true, Bool.not_eq_false, Bool.not_eq_true', Bool.not_eq_false', decide_eq_true_eq, decide_eq_false_iff_not] at h
    refine wss_nil ?_
    refine wss_cons ?_
    refine ws_ifP (B := ?B5) ?hc5 (fun h => ?ht5) (fun h => ?hf5)
    case hc5 =>
      refine wt_cmp ?_
      refine we_name 2 ?_
      refine we_int ?_
      walk_at "Eq"
      refine BoolP.of ?_
      exact eqb_rfl
    case ht5 =>
      skip
      try simp only [Bool.and_eq_true, Bool.or_eq_true, Bool.and_eq_false_iff, Bool.or_eq_false_iff, Bool.not_eq_true, Bool.not_eq_false, Bool.not_eq_true', Bool.not_eq_false', decide_eq_true_eq, decide_eq_false_iff_not] at h
      refine wss_one ?_
      refine ws_ret ?_
      refine we_bin ?_
      refine we_bin ?_
      refine we_str ?_
      refine we_ix ?_
      refine we_name 1 ?_
      refine we_name 3 ?_
      obtain ⟨ch, hch, hc1, hc2⟩ := al_at h2a h2b
      refine ix_s alpha_le hch ?_
      refine add_ss (Nat.le_trans (m := 2) (Nat.le_refl _) (by decide)) ?_
      refine we_bin ?_
      refine we_str ?_
      refine we_name 4 ?_
      refine mul_si (by omega) (by omega) (by show 1 * _ ≤ _; omega) ?_
      refine add_ss (by rw [app_len, mul_len (x := Str.ofString " ") (k := 32) rfl]; show 1 + 1 + _ ≤ _; omega) ?_
      exact hpost _ b (sg_app (sg_app (sg_one (by decide) (by decide)) (sg_one hc1 hc2)) (sg_mul (N := 8) (by decide) (by decide) (by omega)) |>.mono (by decide)) (hb.mono (by omega))
    case hf5 =>
      skip
      try simp only [Bool.and_eq_true, Bool.or_eq_true, Bool.and_eq_false_iff, Bool.or_eq_false_iff, Bool.not_eq_true, Bool.not_eq_false, Bool.not_eq_true', Bool.not_eq_false', decide_eq_true_eq, decide_eq_false_iff_not] at h
      refine wss_nil ?_
      refine wss_cons ?_
      refine ws_ifP (B := ?B6) ?hc6 (fun h => ?ht6) (fun h => ?hf6)
      case hc6 =>
        refine wt_cmp ?_
        refine we_name 2 ?_
        refine we_int ?_
        walk_at "Eq"
        refine BoolP.of ?_
        exact eqb_rfl
      case ht6 =>
        skip
        try simp only [Bool.and_eq_true, Bool.or_eq_true, Bool.and_eq_false_iff, Bool.or_eq_false_iff, Bool.not_eq_true, Bool.not_eq_false, Bool.not_eq_true', Bool.not_eq_false', decide_eq_true_eq, decide_eq_false_iff_not] at h
        refine wss_one ?_
        refine ws_ret ?_
        refine we_slice ?_
        refine we_bin ?_
        refine we_name 1 ?_
        refine we_name 1 ?_
        refine add_ss (by show alpha.length + alpha.length ≤ _; rw [alpha_len]; decide) ?_
        refine wo_some ?_
        refine we_name 3 ?_
        refine ⟨_, rfl, ?_⟩
        refine wo_some ?_
        refine we_bin ?_
        refine we_bin ?_
        refine we_name 3 ?_
        refine we_int ?_
        walk_at "Add"
        refine we_bin ?_
        refine we_int ?_
        refine we_name 4 ?_
        walk_at "Mult"
        walk_at "Add"
        refine ⟨_, rfl, ?_⟩
        refine sl_s (by rw [app_len]; show alpha.length + alpha.length ≤ _; rw [alpha_len]; decide) ?_
        exact hpost _ b (sg_slice (sg_app sg_alpha sg_alpha) |>.mono (by decide)) (hb.mono (by omega))
      case hf6 =>
        skip
        try simp only [Bool.and_eq_true, Bool.or_eq_true, Bool.and_eq_false_iff, Bool.or_eq_false_iff, Bool.not_eq_true, Bool.not_eq_false, Bool.not_eq_true', Bool.not_eq_false', decide_eq_true_eq, decide_eq_false_iff_not] at h
        refine wss_nil ?_
        refine wss_cons ?_
        refine ws_ifP (B := ?B7) ?hc7 (fun h => ?ht7) (fun h => ?hf7)
        case hc7 =>
          refine wt_cmp ?_
          refine we_name 2 ?_
          refine we_int ?_
          walk_at "Eq"
          refine BoolP.of ?_
          exact eqb_rfl
        case ht7 =>
          skip
          try simp only [Bool.and_eq_true, Bool.or_eq_true, Bool.and_eq_false_iff, Bool.or_eq_false_iff, Bool.not_eq_true, Bool.not_eq_false, Bool.not_eq_true', Bool.not_eq_false', decide_eq_true_eq, decide_eq_false_iff_not] at h
          refine wss_one ?_
          refine ws_ret ?_
          refine we_bin ?_
          refine we_ix ?_
          refine we_name 1 ?_
          refine we_name 3 ?_
          obtain ⟨ch, hch, hc1, hc2⟩ := al_at h2a h2b
          refine ix_s alpha_le hch ?_
          refine we_bin ?_
          refine we_int ?_
          refine we_name 4 ?_
          walk_at "Mult"
          refine mul_si (by omega) (by omega) (by show 1 * _ ≤ _; omega) ?_
          exact hpost _ b (sg_mul (N := 640) hc1 hc2 (by omega) |>.mono (by decide)) (hb.mono (by omega))
        case hf7 =>
          skip
          try simp only [Bool.and_eq_true, Bool.or_eq_true, Bool.and_eq_false_iff, Bool.or_eq_false_iff, Bool.not_eq_true, Bool.not_eq_false, Bool.not_eq_true', Bool.not_eq_false', decide_eq_true_eq, decide_eq_false_iff_not] at h
          refine wss_nil ?_
          refine wss_one ?_
          refine ws_ret ?_
          refine we_bm PySem.F.plainAttrs_str PySem.F.slot_str_join ?_
          refine we_str ?_
          walk_at "ty str"
          refine wa_cons ?_
          refine we_lc1 5 (own := [("turn", 5)]) ?_ rfl sc.nd (show BlkOk ["box", "alphabet", "kind", "at", "many", "turn"] (defScope s_l_signs) _ [("turn", 5)] from ⟨rfl, by decide +kernel, by decide +kernel, by decide +kernel, by decide +kernel⟩)
          refine wi_range1 T.range ?_
          refine we_name 4 ?_
          refine ⟨_, rfl, by omega, by omega, ?_⟩
          refine lcp_rng (fun i ys m' => ∃ b' : Box, m' = [(p, b'.mv)] ∧ b'.Ok (k + 3 + i) ∧ ys.length = i ∧ ∀ y ∈ ys, Sg 1 y) ⟨b, rfl, hb.mono (by omega), rfl, fun _ hy => nomatch hy⟩ (fun i ys m' h => h.choose_spec.2.2.1) (by omega) (fun s0 H0 C cl fp i ys m' q hi hJ => ?_) (fun ys m' hJ => ?_)
          · obtain ⟨b, rfl, hb, hl, hy⟩ := hJ
            refine we_ix ?_
            refine we_name 1 ?_
            refine we_call (ok_l_take T) hgd hr xt0 ?_
            refine wa_cons ?_
            refine we_name 0 ?_
            refine wa_cons ?_
            refine we_int ?_
            refine wa_nil ?_
            refine FrP.one ⟨_, _, _, _, rfl, rfl, by omega, by omega, hb, by omega, fun r4 b h4a h4b hb => ?_⟩
            obtain ⟨ch, hch, hc1, hc2⟩ := al_at h4a h4b
            refine ix_s alpha_le hch ?_
            refine ⟨_, [(p, b.mv)], rfl, rfl, b, rfl, hb.mono (by omega), by rw [List.length_append, hl]; rfl, fun y hm => ?_⟩
            rcases List.mem_append.mp hm with h | h
            · exact hy y h
            · rw [List.mem_singleton.mp h]; exact sg_one hc1 hc2
          · obtain ⟨b, rfl, hb, hl, hy⟩ := hJ
            refine wa_nil ?_
            refine join_l (by have := sg_sum hy; simp only [Str.empty, show ((Str.ofString "")).length = 0 from rfl]; omega) ?_
            exact hpost _ b ((sg_join hy).mono (by omega)) (hb.mono (by omega))
end
end K05


set_option Elab.async false
set_option linter.all false
set_option maxRecDepth 100000
set_option maxHeartbeats 4000000
namespace K05
open PySem PySem.Spec PyProof.Rows L2 Ty
local macro_rules | `(tactic| walk_at "side") => `(tactic| first | omega | decide | assumption | (simp; done))
local macro_rules | `(tactic| walk_at "mul") => `(tactic| first | exact Or.inl ⟨by omega, by omega⟩ | exact Or.inr ⟨by omega, by omega⟩ | exact Or.inl ⟨by decide, by decide⟩)
local macro_rules | `(tactic| walk_at "pow") => `(tactic| first | exact ⟨by decide, by decide, by decide⟩ | exact ⟨by decide, by decide, by omega⟩ | exact ⟨by omega, by omega, by omega⟩)
local macro_rules | `(tactic| walk_at "Add") => `(tactic| first | refine add_ii ?_ | refine add_ss (by walk_at "side") ?_)
local macro_rules | `(tactic| walk_at "Sub") => `(tactic| refine sub_ii ?_)
local macro_rules | `(tactic| walk_at "Mult") => `(tactic| refine mul_ii (by walk_at "mul") ?_)
local macro_rules | `(tactic| walk_at "FloorDiv") => `(tactic| refine fdiv_ii (by constructor <;> walk_at "side") ?_)
local macro_rules | `(tactic| walk_at "Mod") => `(tactic| refine mod_ii (by walk_at "side") ?_)
local macro_rules | `(tactic| walk_at "Pow") => `(tactic| refine pow_ii (by walk_at "pow") ?_)
local macro_rules | `(tactic| walk_at "Lt") => `(tactic| refine lt_ii ?_)
local macro_rules | `(tactic| walk_at "LtE") => `(tactic| first | refine le_ii ?_ | refine le_ss ?_)
local macro_rules | `(tactic| walk_at "Gt") => `(tactic| refine gt_ii ?_)
local macro_rules | `(tactic| walk_at "GtE") => `(tactic| refine ge_ii ?_)
local macro_rules | `(tactic| walk_at "Eq") => `(tactic| first | refine eq_ii ?_ | refine eq_ss ?_)
local macro_rules | `(tactic| walk_at "NotEq") => `(tactic| first | refine ne_ii ?_ | refine ne_ss ?_)
local macro_rules | `(tactic| walk_at "In") => `(tactic| first | refine in_cs ?_ | refine in_il ?_ | refine in_sl ?_)
local macro_rules | `(tactic| walk_at "NotIn") => `(tactic| first | refine notIn_cs ?_)
local macro_rules | `(tactic| walk_at "Is") => `(tactic| first | refine isN none_unit ?_ | refine isN none_int ?_ | refine isN none_str ?_ | refine isN none_bool ?_ | refine isN none_list ?_ | refine isN none_ref ?_)
local macro_rules | `(tactic| walk_at "IsNot") => `(tactic| first | refine notN none_unit ?_ | refine notN none_int ?_ | refine notN none_str ?_)
local macro_rules | `(tactic| walk_at "i") => `(tactic| first
  | refine ix_own (n := 0) rfl rfl ?_ | refine ix_own (n := 1) rfl rfl ?_ | refine ix_own (n := 2) rfl rfl ?_ | refine ix_lU lu_hl rfl ?_ | refine ix_tupU tupU2 rfl ?_ | refine ix_tupU tupU4 rfl ?_ | refine ix_s (by walk_at "side") (by walk_at "at") ?_ | refine ix_l (by walk_at "at") ?_)
local macro_rules | `(tactic| walk_at "at") => `(tactic| first | rfl | assumption)
local macro_rules | `(tactic| walk_at "s") => `(tactic| first | refine sl_s (by walk_at "side") ?_ | refine sl_l ?_)
local macro_rules | `(tactic| walk_at "b int") => `(tactic| refine int_i ?_)
local macro_rules | `(tactic| walk_at "b abs") => `(tactic| refine abs_i ?_)
local macro_rules | `(tactic| walk_at "b max") => `(tactic| refine max_ii rfl ?_)
local macro_rules | `(tactic| walk_at "b min") => `(tactic| refine min_ii rfl ?_)
local macro_rules | `(tactic| walk_at "b len") => `(tactic| first | refine len_s (by walk_at "side") ?_ | refine len_l ?_ | refine len_own (n := 0) rfl ?_ | refine len_own (n := 1) rfl ?_ | refine len_own (n := 2) rfl ?_)
local macro_rules | `(tactic| walk_at "b sum") => `(tactic| refine sum_l rfl ?_)
local macro_rules | `(tactic| walk_at "b all") => `(tactic| refine all_l rfl ?_)
local macro_rules | `(tactic| walk_at "b any") => `(tactic| refine any_l rfl ?_)
local macro_rules | `(tactic| walk_at "b isinstance") => `(tactic| first | refine isi ty_int ?_ | refine isi ty_bool ?_ | refine isi ty_str ?_ | refine isi ty_none ?_ | refine isi ty_list ?_)
local macro_rules | `(tactic| walk_at "l") => `(tactic| first | refine .data (ys := [_]) rfl ?_ | refine .data (ys := [_, _]) rfl ?_ | refine .data (ys := [_, _, _]) rfl ?_ | refine .data (ys := [_, _, _, _]) rfl ?_ | refine .data (ys := [_, _, _, _, _]) rfl ?_ | refine .data (ys := [_, _, _, _, _, _]) rfl ?_ | refine .data (ys := [_, _, _, _, _, _, _]) rfl ?_ | refine .data (ys := [_, _, _, _, _, _, _, _, _, _]) rfl ?_ | refine .het ?_)
local macro_rules | `(tactic| walk_at "t") => `(tactic| first | refine tup2 ?_ | refine tup3 ?_ | refine tup4 ?_)
local macro_rules | `(tactic| walk_at "ty str") => `(tactic| refine ⟨ty_s, ?_⟩)
local macro_rules | `(tactic| walk_at "ty list") => `(tactic| first | refine ⟨ty_lU lu_l, ?_⟩ | refine ⟨ty_lU lu_hl, ?_⟩ | refine ⟨ty_lU (lu_own (n := 0) rfl), ?_⟩ | refine ⟨ty_lU (lu_own (n := 1) rfl), ?_⟩)


/-- a value that a deed may bear: small data; a list is its own -/
def Ov.Good : Ov → Prop
  | .str s => s.length ≤ 1000 ∧ ∀ c ∈ s.cps.toList, c < 128
  | .int i => i.natAbs ≤ 10 ^ 20
  | .bool _ => True
  | .none => True
  | .tup ds => Fine 3 3000 (.tuple ds)
  | .dct ds => Fine 3 3000 (.dict ds)
  | .own _ ts ds => AsBs ts ds ∧ Fine 3 3000 (.list (ds ++ [.str "more"])) ∧ ts.length ≤ 10
theorem Sg.good {s : Str} {n : Nat} (h : Sg n s) (hn : n ≤ 1000) : (Ov.str s).Good := ⟨Nat.le_trans h.len hn, fun c hc => by have := prB_iff.mp h.pr c hc; omega⟩
theorem Sg.wide {s : Str} {n : Nat} (h : Sg n s) : ∀ c ∈ s.cps.toList, c < 4294967296 := fun c hc => by have := prB_iff.mp h.pr c hc; omega
theorem wide_more : ∀ c ∈ (("more" : Str)).cps.toList, c < 4294967296 := by decide +kernel
theorem wide_a : ∀ c ∈ (("a" : Str)).cps.toList, c < 4294967296 := by decide +kernel
theorem fine_more : Fine 0 4 (.str "more") := fine_str wide_more
theorem fine_a : Fine 0 1 (.str "a") := fine_str wide_a
def T_odd_signs : TSpec := fun xs m post _ => ∃ (kind : Int) (s : Str), xs = [tv kind, tv s] ∧ m = [] ∧ 0 ≤ kind ∧ kind < 12 ∧ Sg 700 s ∧ ∀ v : Ov, v.Good → (∀ s, v = .str s → Ov.prB s = false) → post v.tv v.mu
def T_odd_count : TSpec := fun xs m post _ => ∃ kind : Int, xs = [tv kind] ∧ m = [] ∧ 0 ≤ kind ∧ kind < 12 ∧ ∀ v : Ov, v.Good → post v.tv v.mu
theorem good_list {p : Addr} {s : Str} (h : Sg 700 s) : (Ov.own p [tv s] [.str s]).Good :=
  ⟨.cons asb_str .nil, (fine_list (fines_cons (fine_str h.wide) (fines_cons fine_more fines_nil))).mono (by decide) (by have := h.len; omega), by simp⟩
theorem good_nil {p : Addr} : (Ov.own p [] []).Good := ⟨.nil, (fine_list (fines_cons fine_more fines_nil)).mono (by decide) (by decide), by decide⟩
theorem good_zero {p : Addr} : (Ov.own p [tv (0 : Int)] [.int 0]).Good := ⟨.cons asb_int .nil, (fine_list (fines_cons (fine_int (by decide)) (fines_cons fine_more fines_nil))).mono (by decide) (by decide), by decide⟩
theorem sub2a {α : Type _} {x y : α} : [x].Sublist [x, y] := List.Sublist.cons_cons _ (List.nil_sublist _)
theorem sub2b {α : Type _} {x y : α} : [y].Sublist [x, y] := List.Sublist.cons _ (List.Sublist.refl _)

section
variable {P : Program} {w : World} {K : PySem.W.Frag} {mg : Str → Option Value} {base : Heap} {CE CS CC CD : Addr}

theorem ok_l_odd_signs (T : Tx K mg base CE CS CC CD) : DefK P w K mg base "_law_odd_signs" 1 T_odd_signs [] := by
  obtain ⟨f, fd, F, hm⟩ := T.f_l_odd_signs
  have sc := sc_l_odd_signs
  refine defK_mk F (fn_ok F sc_l_odd_signs (fun xs m post xp h => ?_) fun cdv A outer s H E B0 H0 xs m post xp hgd hr hT hx => ?_) hm (fun kV doc pm an cdv ct us hl => match us, hl with | [a0, a1], _ => rfl)
  · obtain ⟨_, _, h, _⟩ := h; subst h; rfl
  obtain ⟨kind, s, rfl, rfl, hk0, hk1, hs, hpost⟩ := hT
  refine wss_one ?_
  refine ws_ret ?_
  refine we_drop ?_
  refine we_ix ?_
  refine we_list ?_
  refine wa_cons ?_
  refine we_bin ?_
  refine we_name 1 ?_
  refine we_str ?_
  refine add_ss (by have := hs.len; show _ + 1 ≤ _; omega) ?_
  refine wa_cons ?_
  refine we_str ?_
  refine wa_cons ?_
  refine we_str ?_
  refine wa_cons ?_
  refine we_none ?_
  refine wa_cons ?_
  refine we_int ?_
  refine wa_cons ?_
  refine we_bool ?_
  refine wa_cons ?_
  refine we_list ?_
  refine wa_cons ?_
  refine we_name 1 ?_
  refine wa_nil ?_
  refine ⟨by first | decide | simp, ?_⟩
  refine .own fun p1 => ?_
  refine wa_cons ?_
  refine we_tuple ?_
  refine wa_cons ?_
  refine we_name 1 ?_
  refine wa_cons ?_
  refine we_str ?_
  refine wa_nil ?_
  refine ⟨by first | decide | simp, ?_⟩
  refine tupD (.cons asb_str (.cons asb_str .nil)) ?_
  refine wa_cons ?_
  refine we_dct1 fun L hL => ?_
  refine we_str ?_
  refine ⟨_, rfl, ?_⟩
  refine we_name 1 ?_
  refine ⟨_, rfl, .data asb_str ?_⟩
  refine wa_cons ?_
  refine we_list ?_
  refine wa_nil ?_
  refine ⟨by first | decide | simp, ?_⟩
  refine .own fun p2 => ?_
  refine wa_cons ?_
  refine we_int ?_
  refine wa_cons ?_
  refine we_bool ?_
  refine wa_nil ?_
  refine ⟨by first | decide | simp, ?_⟩
  refine .het ?_
  refine we_name 0 ?_
  rcases (show kind = 0 ∨ kind = 1 ∨ kind = 2 ∨ kind = 3 ∨ kind = 4 ∨ kind = 5 ∨ kind = 6 ∨ kind = 7 ∨ kind = 8 ∨ kind = 9 ∨ kind = 10 ∨ kind = 11 from by omega) with rfl | rfl | rfl | rfl | rfl | rfl | rfl | rfl | rfl | rfl | rfl | rfl
  all_goals refine ix_lU lu_hl rfl ?_
  · exact ⟨[], List.nil_sublist _, hpost (.str (s ++ "\n")) ⟨by rw [app_len]; have := hs.len; show _ + 1 ≤ _; omega, fun c hc => by
      rw [app_list] at hc
      rcases List.mem_append.mp hc with h | h
      · have := prB_iff.mp hs.pr c h; omega
      · exact (show ∀ c ∈ (("\n" : Str)).cps.toList, c < 128 from by decide +kernel) c h⟩ fun x hx => by
        cases hx
        unfold Ov.prB
        rw [app_list, List.all_append, show (("\n" : Str)).cps.toList.all (fun c => decide (32 ≤ c) && decide (c ≤ 126)) = false from by decide +kernel, Bool.and_false]⟩
  · exact ⟨[], List.nil_sublist _, hpost (.str "\n") ⟨by decide +kernel, by decide +kernel⟩ fun x hx => by cases hx; decide +kernel⟩
  · exact ⟨[], List.nil_sublist _, hpost (.str "a\tb") ⟨by decide +kernel, by decide +kernel⟩ fun x hx => by cases hx; decide +kernel⟩
  · exact ⟨[], List.nil_sublist _, hpost .none trivial fun x hx => nomatch hx⟩
  · exact ⟨[], List.nil_sublist _, hpost (.int 5) (by show (5 : Int).natAbs ≤ _; decide) fun x hx => nomatch hx⟩
  · exact ⟨[], List.nil_sublist _, hpost (.bool true) trivial fun x hx => nomatch hx⟩
  · exact ⟨_, sub2a, hpost (.own p1 [tv s] [.str s]) (good_list hs) fun x hx => nomatch hx⟩
  · exact ⟨[], List.nil_sublist _, hpost (.tup [.str s, .str "a"]) ((fine_tuple (fines_cons (fine_str hs.wide) (fines_cons fine_a fines_nil))).mono (by decide) (by have := hs.len; omega)) fun x hx => nomatch hx⟩
  · exact ⟨[], List.nil_sublist _, hpost (.dct [(.str "a", .str s)]) ((fine_dict1 wide_a (fine_str hs.wide)).mono (by decide) (by have := hs.len; have e : (("a" : Str)).length = 1 := rfl; omega)) fun x hx => nomatch hx⟩
  · exact ⟨_, sub2b, hpost (.own p2 [] []) good_nil fun x hx => nomatch hx⟩
  · exact ⟨[], List.nil_sublist _, hpost (.int 0) (by show (0 : Int).natAbs ≤ _; decide) fun x hx => nomatch hx⟩
  · exact ⟨[], List.nil_sublist _, hpost (.bool false) trivial fun x hx => nomatch hx⟩
theorem ok_l_odd_count (T : Tx K mg base CE CS CC CD) : DefK P w K mg base "_law_odd_count" 1 T_odd_count [] := by
  obtain ⟨f, fd, F, hm⟩ := T.f_l_odd_count
  have sc := sc_l_odd_count
  refine defK_mk F (fn_ok F sc_l_odd_count (fun xs m post xp h => ?_) fun cdv A outer s H E B0 H0 xs m post xp hgd hr hT hx => ?_) hm (fun kV doc pm an cdv ct us hl => match us, hl with | [a0], _ => rfl)
  · obtain ⟨_, h, _⟩ := h; subst h; rfl
  obtain ⟨kind, rfl, rfl, hk0, hk1, hpost⟩ := hT
  refine wss_one ?_
  refine ws_ret ?_
  refine we_drop ?_
  refine we_ix ?_
  refine we_list ?_
  refine wa_cons ?_
  refine we_neg ?_
  refine we_int ?_
  refine ⟨_, rfl, ?_⟩
  refine wa_cons ?_
  refine we_bool ?_
  refine wa_cons ?_
  refine we_none ?_
  refine wa_cons ?_
  refine we_str ?_
  refine wa_cons ?_
  refine we_list ?_
  refine wa_cons ?_
  refine we_int ?_
  refine wa_nil ?_
  refine ⟨by first | decide | simp, ?_⟩
  refine .own fun p1 => ?_
  refine wa_cons ?_
  refine we_bool ?_
  refine wa_cons ?_
  refine we_tuple ?_
  refine wa_cons ?_
  refine we_int ?_
  refine wa_nil ?_
  refine ⟨by first | decide | simp, ?_⟩
  refine tupD (.cons asb_int .nil) ?_
  refine wa_cons ?_
  refine we_dct1 fun L hL => ?_
  refine we_str ?_
  refine ⟨_, rfl, ?_⟩
  refine we_int ?_
  refine ⟨_, rfl, .data asb_int ?_⟩
  refine wa_cons ?_
  refine we_neg ?_
  refine we_bin ?_
  refine we_int ?_
  refine we_int ?_
  walk_at "Pow"
  refine ⟨_, rfl, ?_⟩
  refine wa_cons ?_
  refine we_str ?_
  refine wa_cons ?_
  refine we_list ?_
  refine wa_nil ?_
  refine ⟨by first | decide | simp, ?_⟩
  refine .own fun p2 => ?_
  refine wa_cons ?_
  refine we_neg ?_
  refine we_int ?_
  refine ⟨_, rfl, ?_⟩
  refine wa_nil ?_
  refine ⟨by first | decide | simp, ?_⟩
  refine .het ?_
  refine we_name 0 ?_
  rcases (show kind = 0 ∨ kind = 1 ∨ kind = 2 ∨ kind = 3 ∨ kind = 4 ∨ kind = 5 ∨ kind = 6 ∨ kind = 7 ∨ kind = 8 ∨ kind = 9 ∨ kind = 10 ∨ kind = 11 from by omega) with rfl | rfl | rfl | rfl | rfl | rfl | rfl | rfl | rfl | rfl | rfl | rfl
  all_goals refine ix_lU lu_hl rfl ?_
  · exact ⟨[], List.nil_sublist _, hpost (.int (-1)) (by show (-1 : Int).natAbs ≤ _; decide)⟩
  · exact ⟨[], List.nil_sublist _, hpost (.bool true) trivial⟩
  · exact ⟨[], List.nil_sublist _, hpost .none trivial⟩
  · exact ⟨[], List.nil_sublist _, hpost (.str "0") ⟨by decide +kernel, by decide +kernel⟩⟩
  · exact ⟨_, sub2a, hpost (.own p1 [tv (0 : Int)] [.int 0]) good_zero⟩
  · exact ⟨[], List.nil_sublist _, hpost (.bool false) trivial⟩
  · exact ⟨[], List.nil_sublist _, hpost (.tup [.int 1]) ((fine_tuple (fines_cons (fine_int (by decide)) fines_nil)).mono (by decide) (by decide))⟩
  · exact ⟨[], List.nil_sublist _, hpost (.dct [(.str "a", .int 1)]) ((fine_dict1 wide_a (fine_int (by decide))).mono (by decide) (by decide))⟩
  · exact ⟨[], List.nil_sublist _, hpost (.int (-(10 ^ 19))) (by show (-(10 : Int) ^ 19).natAbs ≤ _; decide +kernel)⟩
  · exact ⟨[], List.nil_sublist _, hpost (.str "") ⟨by decide +kernel, by decide +kernel⟩⟩
  · exact ⟨_, sub2b, hpost (.own p2 [] []) good_nil⟩
  · exact ⟨[], List.nil_sublist _, hpost (.int (-2)) (by show (-2 : Int).natAbs ≤ _; decide)⟩

end
/-! ### a disk, a deed -/
structure Sd where
  text : Str
  sy : Int
  se : Int
namespace Sd
def mv (S : Sd) : MV := mL [Ty.tv S.text, Ty.tv S.sy, Ty.tv S.se]
structure Ok (S : Sd) (n : Nat) : Prop where
  pr : Ov.prB S.text = true
  len : S.text.length ≤ n
  e0 : 0 ≤ S.se
  ey : S.se ≤ S.sy
  yl : S.sy ≤ S.text.length
end Sd
inductive Dd
  | put (v : Ov)
  | sync
  | swap (v c : Ov)
  | fall (v : Ov)
  | lose (v : Ov)
  | trim (v : Ov)
  | settle (v : Ov)
namespace Dd
def ts : Dd → List TV
  | .put v => [Ty.tv (("put" : Str)), v.tv]
  | .sync => [Ty.tv (("sync" : Str))]
  | .swap v c => [Ty.tv (("swap" : Str)), v.tv, c.tv]
  | .fall v => [Ty.tv (("fall" : Str)), v.tv]
  | .lose v => [Ty.tv (("lose" : Str)), v.tv]
  | .trim v => [Ty.tv (("trim" : Str)), v.tv]
  | .settle v => [Ty.tv (("settle" : Str)), v.tv]
def tv (D : Dd) : TV := hl D.ts
def mu : Dd → Mu
  | .put v => v.mu
  | .sync => []
  | .swap v c => v.mu ++ c.mu
  | .fall v => v.mu
  | .lose v => v.mu
  | .trim v => v.mu
  | .settle v => v.mu
def Good : Dd → Prop
  | .put v => v.Good
  | .sync => True
  | .swap v c => v.Good ∧ c.Good
  | .fall v => v.Good
  | .lose v => v.Good
  | .trim v => v.Good
  | .settle v => v.Good
/-- what it may make of a disk's text -/
def Fit (S : Sd) (n : Nat) : Dd → Prop
  | .put (.str s) => Ov.prB s = true → S.text.length + s.length ≤ n
  | .swap (.str s) _ => s.length ≤ n
  | _ => True
end Dd
def T_count : TSpec := fun xs m post _ => ∃ (p q : Addr) (odd : Int) (b : Box) (S : Sd) (k : Nat), xs = [tv (Ref.mk p), tv (Ref.mk q), tv odd] ∧ m = [(p, b.mv), (q, S.mv)] ∧ b.Ok k ∧ k ≤ 10000000 ∧ S.Ok 100000 ∧ 0 ≤ odd ∧ odd < 12 ∧
  ∀ (i : Int) (b' : Box), i.natAbs ≤ 10 ^ 20 → b'.Ok (k + 3) → post (tv i) [(p, b'.mv), (q, S.mv)]
def T_deed : TSpec := fun xs m post _ => ∃ (p q : Addr) (b : Box) (S : Sd) (k : Nat), xs = [tv (Ref.mk p), tv (Ref.mk q)] ∧ m = [(p, b.mv), (q, S.mv)] ∧ b.Ok k ∧ k ≤ 1000000 ∧ S.Ok 100000 ∧
  ∀ (D : Dd) (b' : Box), D.Good → D.Fit S 3300 → b'.Ok (k + 30) → post D.tv ([(p, b'.mv), (q, S.mv)] ++ D.mu)

section
variable {P : Program} {w : World} {K : PySem.W.Frag} {mg : Str → Option Value} {base : Heap} {CE CS CC CD : Addr}

theorem ok_l_count (T : Tx K mg base CE CS CC CD) : DefK P w K mg base "_law_count" 2 T_count [] := by
  obtain ⟨f, fd, F, hm⟩ := T.f_l_count
  have sc := sc_l_count
  refine defK_mk F (fn_ok F sc_l_count (fun xs m post xp h => ?_) fun cdv A outer s H E B0 H0 xs m post xp hgd hr hT hx => ?_) hm (fun kV doc pm an cdv ct us hl => match us, hl with | [a0, a1, a2], _ => rfl)
  · obtain ⟨_, _, _, _, _, _, h, _⟩ := h; subst h; rfl
  obtain ⟨p, q, odd, b, S, k, rfl, rfl, hb, hk, hS, ho0, ho1, hpost⟩ := hT
  obtain ⟨hpr, hlen, he0, hey, hyl⟩ := id hS
  refine wss_cons ?_
  refine ws_par3 3 4 5 ?_ rfl sc.nd
  refine wa_cons ?_
  refine we_callB (id := "len") T.len ?_ bt_len
  refine wa_cons ?_
  refine we_ix ?_
  refine we_name 1 ?_
  refine we_int ?_
  walk_at "i"
  refine wa_nil ?_
  walk_at "b len"
  refine wa_cons ?_
  refine we_ix ?_
  refine we_name 1 ?_
  refine we_int ?_
  walk_at "i"
  refine wa_cons ?_
  refine we_ix ?_
  refine we_name 1 ?_
  refine we_int ?_
  walk_at "i"
  refine wa_nil ?_
  refine ⟨_, _, _, rfl, ?_⟩
  refine wss_cons ?_
  refine ws_set 6 ?_ sc.nd
  refine we_list ?_
  refine wa_cons ?_
  refine we_int ?_
  refine wa_cons ?_
  refine we_int ?_
  refine wa_cons ?_
  refine we_name 4 ?_
  refine wa_cons ?_
  refine we_bin ?_
  refine we_name 4 ?_
  refine we_int ?_
  walk_at "Add"
  refine wa_cons ?_
  refine we_name 3 ?_
  refine wa_cons ?_
  refine we_bin ?_
  refine we_name 3 ?_
  refine we_int ?_
  walk_at "Add"
  refine wa_cons ?_
  refine we_name 5 ?_
  refine wa_cons ?_
  refine we_callB (id := "max") T.max ?_ bt_max
  refine wa_cons ?_
  refine we_int ?_
  refine wa_cons ?_
  refine we_bin ?_
  refine we_name 5 ?_
  refine we_int ?_
  walk_at "Sub"
  refine wa_nil ?_
  walk_at "b max"
  refine wa_cons ?_
  refine we_bin ?_
  refine we_name 5 ?_
  refine we_int ?_
  walk_at "Add"
  refine wa_cons ?_
  refine we_bin ?_
  refine we_name 3 ?_
  refine we_name 4 ?_
  walk_at "Sub"
  refine wa_nil ?_
  refine ⟨by first | decide | simp, ?_⟩
  refine .data (ys := [_, _, _, _, _, _, _, _, _, _]) rfl ?_
  refine wss_cons ?_
  refine ws_set 6 ?_ sc.nd
  refine we_bin ?_
  refine we_name 6 ?_
  refine we_list ?_
  refine wa_cons ?_
  refine we_bin ?_
  refine we_bin ?_
  refine we_name 3 ?_
  refine we_name 4 ?_
  walk_at "Sub"
  refine we_int ?_
  walk_at "Add"
  refine wa_cons ?_
  refine we_bin ?_
  refine we_bin ?_
  refine we_int ?_
  refine we_int ?_
  walk_at "Pow"
  refine we_bin ?_
  refine we_int ?_
  refine we_name 2 ?_
  walk_at "Mult"
  walk_at "Add"
  refine wa_cons ?_
  refine we_call (ok_l_take T) hgd hr xt0 ?_
  refine wa_cons ?_
  refine we_name 0 ?_
  refine wa_cons ?_
  refine we_bin ?_
  refine we_name 3 ?_
  refine we_int ?_
  walk_at "Add"
  refine wa_nil ?_
  refine FrP.one ⟨_, _, _, _, rfl, rfl, by omega, by omega, hb, by omega, fun r1 b h1a h1b hb => ?_⟩
  refine wa_cons ?_
  refine we_call (ok_l_take T) hgd hr xt0 ?_
  refine wa_cons ?_
  refine we_name 0 ?_
  refine wa_cons ?_
  refine we_bin ?_
  refine we_name 3 ?_
  refine we_int ?_
  walk_at "Add"
  refine wa_nil ?_
  refine FrP.one ⟨_, _, _, _, rfl, rfl, by omega, by omega, hb, by omega, fun r2 b h2a h2b hb => ?_⟩
  refine wa_nil ?_
  refine ⟨by first | decide | simp, ?_⟩
  refine .het ?_
  refine add_lU lu_l lu_hl (by simp) ?_
  refine wss_one ?_
  refine ws_ret ?_
  refine we_ix ?_
  refine we_name 6 ?_
  refine we_call (ok_l_take T) hgd hr xt0 ?_
  refine wa_cons ?_
  refine we_name 0 ?_
  refine wa_cons ?_
  refine we_int ?_
  refine wa_nil ?_
  refine FrP.one ⟨_, _, _, _, rfl, rfl, by omega, by omega, hb, by omega, fun r3 b h3a h3b hb => ?_⟩
  rcases (show r3 = 0 ∨ r3 = 1 ∨ r3 = 2 ∨ r3 = 3 ∨ r3 = 4 ∨ r3 = 5 ∨ r3 = 6 ∨ r3 = 7 ∨ r3 = 8 ∨ r3 = 9 ∨ r3 = 10 ∨ r3 = 11 ∨ r3 = 12 ∨ r3 = 13 from by omega) with rfl | rfl | rfl | rfl | rfl | rfl | rfl | rfl | rfl | rfl | rfl | rfl | rfl | rfl
  all_goals refine ix_lU lu_hl rfl ?_
  all_goals exact hpost _ b (by first | omega | (rw [show (10 : Int) ^ (Int.toNat 19) = 10000000000000000000 from by decide +kernel]; omega)) (hb.mono (by omega))
end
end K05


set_option Elab.async false
set_option linter.all false
set_option maxRecDepth 100000
set_option maxHeartbeats 4000000
namespace K05
open PySem PySem.Spec PyProof.Rows L2 Ty
local macro_rules | `(tactic| walk_at "side") => `(tactic| first | omega | decide | assumption | (simp; done))
local macro_rules | `(tactic| walk_at "mul") => `(tactic| first | exact Or.inl ⟨by omega, by omega⟩ | exact Or.inr ⟨by omega, by omega⟩ | exact Or.inl ⟨by decide, by decide⟩)
local macro_rules | `(tactic| walk_at "pow") => `(tactic| first | exact ⟨by decide, by decide, by decide⟩ | exact ⟨by decide, by decide, by omega⟩ | exact ⟨by omega, by omega, by omega⟩)
local macro_rules | `(tactic| walk_at "Add") => `(tactic| first | refine add_ii ?_ | refine add_ss (by walk_at "side") ?_)
local macro_rules | `(tactic| walk_at "Sub") => `(tactic| refine sub_ii ?_)
local macro_rules | `(tactic| walk_at "Mult") => `(tactic| refine mul_ii (by walk_at "mul") ?_)
local macro_rules | `(tactic| walk_at "FloorDiv") => `(tactic| refine fdiv_ii (by constructor <;> walk_at "side") ?_)
local macro_rules | `(tactic| walk_at "Mod") => `(tactic| refine mod_ii (by walk_at "side") ?_)
local macro_rules | `(tactic| walk_at "Pow") => `(tactic| refine pow_ii (by walk_at "pow") ?_)
local macro_rules | `(tactic| walk_at "Lt") => `(tactic| refine lt_ii ?_)
local macro_rules | `(tactic| walk_at "LtE") => `(tactic| first | refine le_ii ?_ | refine le_ss ?_)
local macro_rules | `(tactic| walk_at "Gt") => `(tactic| refine gt_ii ?_)
local macro_rules | `(tactic| walk_at "GtE") => `(tactic| refine ge_ii ?_)
local macro_rules | `(tactic| walk_at "Eq") => `(tactic| first | refine eq_ii ?_ | refine eq_ss ?_)
local macro_rules | `(tactic| walk_at "NotEq") => `(tactic| first | refine ne_ii ?_ | refine ne_ss ?_)
local macro_rules | `(tactic| walk_at "In") => `(tactic| first | refine in_cs ?_ | refine in_il ?_ | refine in_sl ?_)
local macro_rules | `(tactic| walk_at "NotIn") => `(tactic| first | refine notIn_cs ?_)
local macro_rules | `(tactic| walk_at "Is") => `(tactic| first | refine isN none_unit ?_ | refine isN none_int ?_ | refine isN none_str ?_ | refine isN none_bool ?_ | refine isN none_list ?_ | refine isN none_ref ?_)
local macro_rules | `(tactic| walk_at "IsNot") => `(tactic| first | refine notN none_unit ?_ | refine notN none_int ?_ | refine notN none_str ?_)
local macro_rules | `(tactic| walk_at "i") => `(tactic| first
  | refine ix_own (n := 0) rfl rfl ?_ | refine ix_own (n := 1) rfl rfl ?_ | refine ix_own (n := 2) rfl rfl ?_ | refine ix_lU lu_hl rfl ?_ | refine ix_tupU tupU2 rfl ?_ | refine ix_tupU tupU4 rfl ?_ | refine ix_s (by walk_at "side") (by walk_at "at") ?_ | refine ix_l (by walk_at "at") ?_)
local macro_rules | `(tactic| walk_at "at") => `(tactic| first | rfl | assumption)
local macro_rules | `(tactic| walk_at "s") => `(tactic| first | refine sl_s (by walk_at "side") ?_ | refine sl_l ?_)
local macro_rules | `(tactic| walk_at "b int") => `(tactic| refine int_i ?_)
local macro_rules | `(tactic| walk_at "b abs") => `(tactic| refine abs_i ?_)
local macro_rules | `(tactic| walk_at "b max") => `(tactic| refine max_ii rfl ?_)
local macro_rules | `(tactic| walk_at "b min") => `(tactic| refine min_ii rfl ?_)
local macro_rules | `(tactic| walk_at "b len") => `(tactic| first | refine len_s (by walk_at "side") ?_ | refine len_l ?_ | refine len_own (n := 0) rfl ?_ | refine len_own (n := 1) rfl ?_ | refine len_own (n := 2) rfl ?_)
local macro_rules | `(tactic| walk_at "b sum") => `(tactic| refine sum_l rfl ?_)
local macro_rules | `(tactic| walk_at "b all") => `(tactic| refine all_l rfl ?_)
local macro_rules | `(tactic| walk_at "b any") => `(tactic| refine any_l rfl ?_)
local macro_rules | `(tactic| walk_at "b isinstance") => `(tactic| first | refine isi ty_int ?_ | refine isi ty_bool ?_ | refine isi ty_str ?_ | refine isi ty_none ?_ | refine isi ty_list ?_)
local macro_rules | `(tactic| walk_at "l") => `(tactic| first | refine .data (ys := [_]) rfl ?_ | refine .data (ys := [_, _]) rfl ?_ | refine .data (ys := [_, _, _]) rfl ?_ | refine .data (ys := [_, _, _, _]) rfl ?_ | refine .data (ys := [_, _, _, _, _]) rfl ?_ | refine .data (ys := [_, _, _, _, _, _]) rfl ?_ | refine .data (ys := [_, _, _, _, _, _, _]) rfl ?_ | refine .data (ys := [_, _, _, _, _, _, _, _, _, _]) rfl ?_ | refine .het ?_)
local macro_rules | `(tactic| walk_at "t") => `(tactic| first | refine tup2 ?_ | refine tup3 ?_ | refine tup4 ?_)
local macro_rules | `(tactic| walk_at "ty str") => `(tactic| refine ⟨ty_s, ?_⟩)
local macro_rules | `(tactic| walk_at "ty list") => `(tactic| first | refine ⟨ty_lU lu_l, ?_⟩ | refine ⟨ty_lU lu_hl, ?_⟩ | refine ⟨ty_lU (lu_own (n := 0) rfl), ?_⟩ | refine ⟨ty_lU (lu_own (n := 1) rfl), ?_⟩)


/-- what the name of a deed on counts makes of a value -/
def OneD (nm : Str) : Prop := ∃ D : Ov → Dd, ∀ v : Ov, (D v).ts = [tv nm, v.tv] ∧ (D v).mu = v.mu ∧ (v.Good → (D v).Good) ∧ ∀ S n, (D v).Fit S n
theorem one_fall : OneD "fall" := ⟨.fall, fun _ => ⟨rfl, rfl, fun h => h, fun _ _ => trivial⟩⟩
theorem one_lose : OneD "lose" := ⟨.lose, fun _ => ⟨rfl, rfl, fun h => h, fun _ _ => trivial⟩⟩
theorem one_trim : OneD "trim" := ⟨.trim, fun _ => ⟨rfl, rfl, fun h => h, fun _ _ => trivial⟩⟩
theorem one_settle : OneD "settle" := ⟨.settle, fun _ => ⟨rfl, rfl, fun h => h, fun _ _ => trivial⟩⟩

section
variable {P : Program} {w : World} {K : PySem.W.Frag} {mg : Str → Option Value} {base : Heap} {CE CS CC CD : Addr}

theorem ok_l_deed (T : Tx K mg base CE CS CC CD) : DefK P w K mg base "_law_deed" 3 T_deed [] := by
  obtain ⟨f, fd, F, hm⟩ := T.f_l_deed
  have sc := sc_l_deed
  refine defK_mk F (fn_ok F sc_l_deed (fun xs m post xp h => ?_) fun cdv A outer s H E B0 H0 xs m post xp hgd hr hT hx => ?_) hm (fun kV doc pm an cdv ct us hl => match us, hl with | [a0, a1], _ => rfl)
  · obtain ⟨_, _, _, _, _, h, _⟩ := h; subst h; rfl
  obtain ⟨p, q, b, S, k, rfl, rfl, hb, hk, hS, hpost⟩ := hT
  obtain ⟨hpr, hlen, he0, hey, hyl⟩ := id hS
  refine wss_cons ?_
  refine ws_par 2 3 ?_ rfl sc.nd
  refine wa_cons ?_
  refine we_call (ok_l_take T) hgd hr xt0 ?_
  refine wa_cons ?_
  refine we_name 0 ?_
  refine wa_cons ?_
  refine we_int ?_
  refine wa_nil ?_
  refine FrP.one ⟨_, _, _, _, rfl, rfl, by omega, by omega, hb, by omega, fun r1 b h1a h1b hb => ?_⟩
  refine wa_cons ?_
  refine we_call (ok_l_take T) hgd hr xt0 ?_
  refine wa_cons ?_
  refine we_name 0 ?_
  refine wa_cons ?_
  refine we_int ?_
  refine wa_nil ?_
  refine FrP.one ⟨_, _, _, _, rfl, rfl, by omega, by omega, hb, by omega, fun r2 b h2a h2b hb => ?_⟩
  refine wa_nil ?_
  refine ⟨_, _, rfl, ?_⟩
  refine wss_cons ?_
  refine ws_ifP (B := ?B1) ?hc1 (fun h => ?ht1) (fun h => ?hf1)
  case hc1 =>
    refine wt_bool ?_
    refine ww_andQ (A := ?A2) (R := ?R2) ?ha2 ?hb2
    case ha2 =>
      refine wt_cmp ?_
      refine we_name 2 ?_
      refine we_int ?_
      walk_at "Lt"
      refine BoolP.of ?_
      exact eqb_rfl
    case hb2 =>
      refine ww_and1 ?_
      refine wt_cmp ?_
      refine we_callB (id := "len") T.len ?_ bt_len
      refine wa_cons ?_
      refine we_ix ?_
      refine we_name 1 ?_
      refine we_int ?_
      walk_at "i"
      refine wa_nil ?_
      walk_at "b len"
      refine we_int ?_
      walk_at "Lt"
      refine BoolP.of ?_
      exact eqb_rfl
  case ht1 =>
    skip
    try simp only [Bool.and_eq_true, Bool.or_eq_true, Bool.and_eq_false_iff, Bool.or_eq_false_iff, Bool.not_eq_true, Bool.not_eq_false, Bool.not_eq_true', Bool.not_eq_false', decide_eq_true_eq, decide_eq_false_iff_not] at h
    refine wss_one ?_
    refine ws_ret ?_
    refine we_list ?_
    refine wa_cons ?_
    refine we_str ?_
    refine wa_cons ?_
    refine we_call (ok_l_signs T) hgd hr xt0 ?_
    refine wa_cons ?_
    refine we_name 0 ?_
    refine wa_nil ?_
    refine FrP.one ⟨_, _, _, rfl, rfl, hb, by omega, fun s b hs hb => ?_⟩
    refine wa_nil ?_
    refine ⟨by first | decide | simp, ?_⟩
    refine .het ?_
    exact hpost (.put (.str s)) b (hs.good (by decide)) (fun _ => by have := hs.len; omega) (hb.mono (by omega))
  case hf1 =>
    skip
    try simp only [Bool.and_eq_true, Bool.or_eq_true, Bool.and_eq_false_iff, Bool.or_eq_false_iff, Bool.not_eq_true, Bool.not_eq_false, Bool.not_eq_true', Bool.not_eq_false', decide_eq_true_eq, decide_eq_false_iff_not] at h
    refine wss_nil ?_
    refine wss_cons ?_
    refine ws_ifP (B := ?B3) ?hc3 (fun h => ?ht3) (fun h => ?hf3)
    case hc3 =>
      refine wt_cmp ?_
      refine we_name 2 ?_
      refine we_int ?_
      walk_at "Eq"
      refine BoolP.of ?_
      exact eqb_rfl
    case ht3 =>
      skip
      try simp only [Bool.and_eq_true, Bool.or_eq_true, Bool.and_eq_false_iff, Bool.or_eq_false_iff, Bool.not_eq_true, Bool.not_eq_false, Bool.not_eq_true', Bool.not_eq_false', decide_eq_true_eq, decide_eq_false_iff_not] at h
      refine wss_one ?_
      refine ws_ret ?_
      refine we_list ?_
      refine wa_cons ?_
      refine we_str ?_
      refine wa_cons ?_
      refine we_call (ok_l_odd_signs T) hgd hr xt0 ?_
      refine wa_cons ?_
      refine we_name 3 ?_
      refine wa_cons ?_
      refine we_call (ok_l_signs T) hgd hr xt0 ?_
      refine wa_cons ?_
      refine we_name 0 ?_
      refine wa_nil ?_
      refine FrP.one ⟨_, _, _, rfl, rfl, hb, by omega, fun s b hs hb => ?_⟩
      refine wa_nil ?_
      refine FrP.none ⟨r2, s, rfl, rfl, by omega, by omega, hs, fun v hv hn => ?_⟩
      refine wa_nil ?_
      refine ⟨by first | decide | simp, ?_⟩
      refine .het ?_
      exact hpost (.put v) b hv (by cases v <;> first | trivial | (intro h; rw [hn _ rfl] at h; cases h)) (hb.mono (by omega))
    case hf3 =>
      skip
      try simp only [Bool.and_eq_true, Bool.or_eq_true, Bool.and_eq_false_iff, Bool.or_eq_false_iff, Bool.not_eq_true, Bool.not_eq_false, Bool.not_eq_true', Bool.not_eq_false', decide_eq_true_eq, decide_eq_false_iff_not] at h
      refine wss_nil ?_
      refine wss_cons ?_
      refine ws_if ?_
      refine wt_cmp ?_
      refine we_name 2 ?_
      refine we_list ?_
      refine wa_cons ?_
      refine we_int ?_
      refine wa_cons ?_
      refine we_int ?_
      refine wa_nil ?_
      refine ⟨by first | decide | simp, ?_⟩
      walk_at "l"
      walk_at "In"
      refine BoolP.of ?_
      refine ⟨fun h => ?_, fun h => ?_⟩
      · skip
        try simp only [Bool.and_eq_true, Bool.or_eq_true, Bool.and_eq_false_iff, Bool.or_eq_false_iff, Bool.not_eq_true, Bool.not_eq_false, Bool.not_eq_true', Bool.not_eq_false', decide_eq_true_eq, decide_eq_false_iff_not] at h
        refine wss_one ?_
        refine ws_ret ?_
        refine we_list ?_
        refine wa_cons ?_
        refine we_str ?_
        refine wa_nil ?_
        refine ⟨by first | decide | simp, ?_⟩
        refine .het ?_
        exact hpost .sync b trivial trivial (hb.mono (by omega))
      · skip
        try simp only [Bool.and_eq_true, Bool.or_eq_true, Bool.and_eq_false_iff, Bool.or_eq_false_iff, Bool.not_eq_true, Bool.not_eq_false, Bool.not_eq_true', Bool.not_eq_false', decide_eq_true_eq, decide_eq_false_iff_not] at h
        refine wss_nil ?_
        refine wss_cons ?_
        refine ws_if ?_
        refine wt_cmp ?_
        refine we_name 2 ?_
        refine we_list ?_
        refine wa_cons ?_
        refine we_int ?_
        refine wa_cons ?_
        refine we_int ?_
        refine wa_cons ?_
        refine we_int ?_
        refine wa_cons ?_
        refine we_int ?_
        refine wa_cons ?_
        refine we_int ?_
        refine wa_cons ?_
        refine we_int ?_
        refine wa_cons ?_
        refine we_int ?_
        refine wa_nil ?_
        refine ⟨by first | decide | simp, ?_⟩
        walk_at "l"
        walk_at "In"
        refine BoolP.of ?_
        refine ⟨fun h => ?_, fun h => ?_⟩
        · skip
          try simp only [Bool.and_eq_true, Bool.or_eq_true, Bool.and_eq_false_iff, Bool.or_eq_false_iff, Bool.not_eq_true, Bool.not_eq_false, Bool.not_eq_true', Bool.not_eq_false', decide_eq_true_eq, decide_eq_false_iff_not] at h
          refine wss_cons ?_
          refine ws_set 4 ?_ sc.nd
          refine we_call (ok_l_signs T) hgd hr xt0 ?_
          refine wa_cons ?_
          refine we_name 0 ?_
          refine wa_nil ?_
          refine FrP.one ⟨_, _, _, rfl, rfl, hb, by omega, fun s b hs hb => ?_⟩
          refine wss_cons ?_
          refine ws_set 5 ?_ sc.nd
          refine we_ix ?_
          refine we_list ?_
          refine wa_cons ?_
          refine we_int ?_
          refine wa_cons ?_
          refine we_callB (id := "len") T.len ?_ bt_len
          refine wa_cons ?_
          refine we_name 4 ?_
          refine wa_nil ?_
          refine len_s (by have := hs.len; omega) ?_
          refine wa_cons ?_
          refine we_bin ?_
          refine we_callB (id := "len") T.len ?_ bt_len
          refine wa_cons ?_
          refine we_name 4 ?_
          refine wa_nil ?_
          refine len_s (by have := hs.len; omega) ?_
          refine we_int ?_
          walk_at "Add"
          refine wa_cons ?_
          refine we_bin ?_
          refine we_callB (id := "len") T.len ?_ bt_len
          refine wa_cons ?_
          refine we_name 4 ?_
          refine wa_nil ?_
          refine len_s (by have := hs.len; omega) ?_
          refine we_int ?_
          walk_at "FloorDiv"
          refine wa_cons ?_
          refine we_int ?_
          refine wa_cons ?_
          refine we_call (ok_l_take T) hgd hr xt0 ?_
          refine wa_cons ?_
          refine we_name 0 ?_
          refine wa_cons ?_
          refine we_bin ?_
          refine we_callB (id := "len") T.len ?_ bt_len
          refine wa_cons ?_
          refine we_name 4 ?_
          refine wa_nil ?_
          refine len_s (by have := hs.len; omega) ?_
          refine we_int ?_
          walk_at "Add"
          refine wa_nil ?_
          refine FrP.one ⟨_, _, _, _, rfl, rfl, by have := hs.len; omega, by have := hs.len; omega, hb, by omega, fun r3 b h3a h3b hb => ?_⟩
          refine wa_nil ?_
          refine ⟨by first | decide | simp, ?_⟩
          walk_at "l"
          refine we_call (ok_l_take T) hgd hr xt0 ?_
          refine wa_cons ?_
          refine we_name 0 ?_
          refine wa_cons ?_
          refine we_int ?_
          refine wa_nil ?_
          refine FrP.one ⟨_, _, _, _, rfl, rfl, by omega, by omega, hb, by omega, fun r4 b h4a h4b hb => ?_⟩
          refine ix_lE (fun c : Int => c.natAbs ≤ 10 ^ 20) ?_ fun ci hci => ?_
          · have := hs.len
            rcases (show r4 = 0 ∨ r4 = 1 ∨ r4 = 2 ∨ r4 = 3 ∨ r4 = 4 ∨ r4 = 5 from by omega) with rfl | rfl | rfl | rfl | rfl | rfl <;> exact ⟨_, rfl, by omega⟩
          refine wss_cons ?_
          refine ws_cut (fun ρ' m' => ∃ (v c : Ov) (b' : Box), ρ' = [some (tv (Ref.mk p)), some (tv (Ref.mk q)), some (tv r1), some (tv r2), some v.tv, some c.tv] ∧ m' = [(p, b'.mv), (q, S.mv)] ++ (v.mu ++ c.mu) ∧ v.Good ∧ c.Good ∧ (∀ s, v = .str s → s.length ≤ 3300) ∧ b'.Ok (k + 30)) ?_ ?_
          rotate_left 1
          · skip
            rintro ρ2 m2 ⟨v, c, b, rfl, rfl, hv, hc, hl, hb⟩
            refine wss_one ?_
            refine ws_ret ?_
            refine we_list ?_
            refine wa_cons ?_
            refine we_str ?_
            refine wa_cons ?_
            refine we_name 4 ?_
            refine wa_cons ?_
            refine we_name 5 ?_
            refine wa_nil ?_
            refine ⟨by first | decide | simp, ?_⟩
            refine .het ?_
            exact hpost (.swap v c) b ⟨hv, hc⟩ (by cases v <;> first | trivial | exact hl _ rfl) hb
          refine ws_ifP (B := ?B4) ?hc4 (fun h => ?ht4) (fun h => ?hf4)
          case hc4 =>
            refine wt_cmp ?_
            refine we_name 2 ?_
            refine we_int ?_
            walk_at "Eq"
            refine BoolP.of ?_
            exact eqb_rfl
          case ht4 =>
            skip
            try simp only [Bool.and_eq_true, Bool.or_eq_true, Bool.and_eq_false_iff, Bool.or_eq_false_iff, Bool.not_eq_true, Bool.not_eq_false, Bool.not_eq_true', Bool.not_eq_false', decide_eq_true_eq, decide_eq_false_iff_not] at h
            refine wss_cons ?_
            refine ws_set 4 ?_ sc.nd
            refine we_ifP (B := ?B5) ?hc5 (fun h => ?ht5) (fun h => ?hf5)
            case hc5 =>
              refine wt_cmp ?_
              refine we_name 3 ?_
              refine we_int ?_
              walk_at "Lt"
              refine BoolP.of ?_
              exact eqb_rfl
            case ht5 =>
              skip
              try simp only [Bool.and_eq_true, Bool.or_eq_true, Bool.and_eq_false_iff, Bool.or_eq_false_iff, Bool.not_eq_true, Bool.not_eq_false, Bool.not_eq_true', Bool.not_eq_false', decide_eq_true_eq, decide_eq_false_iff_not] at h
              refine we_call (ok_l_odd_signs T) hgd hr xt0 ?_
              refine wa_cons ?_
              refine we_name 3 ?_
              refine wa_cons ?_
              refine we_name 4 ?_
              refine wa_nil ?_
              refine FrP.none ⟨r2, s, rfl, rfl, by omega, by omega, hs, fun v hv hn => ?_⟩
              refine wss_one ?_
              refine ws_set 5 ?_ sc.nd
              refine we_ifP (B := ?B6) ?hc6 (fun h => ?ht6) (fun h => ?hf6)
              case hc6 =>
                refine wt_cmp ?_
                refine we_name 3 ?_
                refine we_int ?_
                walk_at "Gt"
                refine BoolP.of ?_
                exact eqb_rfl
              case ht6 =>
                skip
                try simp only [Bool.and_eq_true, Bool.or_eq_true, Bool.and_eq_false_iff, Bool.or_eq_false_iff, Bool.not_eq_true, Bool.not_eq_false, Bool.not_eq_true', Bool.not_eq_false', decide_eq_true_eq, decide_eq_false_iff_not] at h
                refine we_call (ok_l_odd_count T) hgd hr xt0 ?_
                refine wa_cons ?_
                refine we_call (ok_l_take T) hgd hr xt0 ?_
                refine wa_cons ?_
                refine we_name 0 ?_
                refine wa_cons ?_
                refine we_int ?_
                refine wa_nil ?_
                refine FrP.one ⟨_, _, _, _, rfl, rfl, by omega, by omega, hb, by omega, fun r5 b h5a h5b hb => ?_⟩
                refine wa_nil ?_
                refine FrP.none ⟨_, rfl, rfl, by omega, by omega, fun c hc => ?_⟩
                exact ⟨v, c, b, rfl, by simp, hv, hc, fun s hs => by subst hs; have := hv.1; omega, hb.mono (by omega)⟩
              case hf6 =>
                skip
                try simp only [Bool.and_eq_true, Bool.or_eq_true, Bool.and_eq_false_iff, Bool.or_eq_false_iff, Bool.not_eq_true, Bool.not_eq_false, Bool.not_eq_true', Bool.not_eq_false', decide_eq_true_eq, decide_eq_false_iff_not] at h
                refine we_name 5 ?_
                exact ⟨v, .int ci, b, rfl, by simp [Ov.mu], hv, hci, fun s hs => by subst hs; have := hv.1; omega, hb.mono (by omega)⟩
            case hf5 =>
              skip
              try simp only [Bool.and_eq_true, Bool.or_eq_true, Bool.and_eq_false_iff, Bool.or_eq_false_iff, Bool.not_eq_true, Bool.not_eq_false, Bool.not_eq_true', Bool.not_eq_false', decide_eq_true_eq, decide_eq_false_iff_not] at h
              refine we_name 4 ?_
              refine wss_one ?_
              refine ws_set 5 ?_ sc.nd
              refine we_ifP (B := ?B7) ?hc7 (fun h => ?ht7) (fun h => ?hf7)
              case hc7 =>
                refine wt_cmp ?_
                refine we_name 3 ?_
                refine we_int ?_
                walk_at "Gt"
                refine BoolP.of ?_
                exact eqb_rfl
              case ht7 =>
                skip
                try simp only [Bool.and_eq_true, Bool.or_eq_true, Bool.and_eq_false_iff, Bool.or_eq_false_iff, Bool.not_eq_true, Bool.not_eq_false, Bool.not_eq_true', Bool.not_eq_false', decide_eq_true_eq, decide_eq_false_iff_not] at h
                refine we_call (ok_l_odd_count T) hgd hr xt0 ?_
                refine wa_cons ?_
                refine we_call (ok_l_take T) hgd hr xt0 ?_
                refine wa_cons ?_
                refine we_name 0 ?_
                refine wa_cons ?_
                refine we_int ?_
                refine wa_nil ?_
                refine FrP.one ⟨_, _, _, _, rfl, rfl, by omega, by omega, hb, by omega, fun r6 b h6a h6b hb => ?_⟩
                refine wa_nil ?_
                refine FrP.none ⟨_, rfl, rfl, by omega, by omega, fun c hc => ?_⟩
                exact ⟨.str s, c, b, rfl, by simp [Ov.mu], hs.good (by decide), hc, fun x hx => by cases hx; have := hs.len; omega, hb.mono (by omega)⟩
              case hf7 =>
                skip
                try simp only [Bool.and_eq_true, Bool.or_eq_true, Bool.and_eq_false_iff, Bool.or_eq_false_iff, Bool.not_eq_true, Bool.not_eq_false, Bool.not_eq_true', Bool.not_eq_false', decide_eq_true_eq, decide_eq_false_iff_not] at h
                refine we_name 5 ?_
                exact ⟨.str s, .int ci, b, rfl, by simp [Ov.mu], hs.good (by decide), hci, fun x hx => by cases hx; have := hs.len; omega, hb.mono (by omega)⟩
          case hf4 =>
            skip
            try simp only [Bool.and_eq_true, Bool.or_eq_true, Bool.and_eq_false_iff, Bool.or_eq_false_iff, Bool.not_eq_true, Bool.not_eq_false, Bool.not_eq_true', Bool.not_eq_false', decide_eq_true_eq, decide_eq_false_iff_not] at h
            refine wss_nil ?_
            exact ⟨.str s, .int ci, b, rfl, by simp [Ov.mu], hs.good (by decide), hci, fun x hx => by cases hx; have := hs.len; omega, hb.mono (by omega)⟩
        · skip
          try simp only [Bool.and_eq_true, Bool.or_eq_true, Bool.and_eq_false_iff, Bool.or_eq_false_iff, Bool.not_eq_true, Bool.not_eq_false, Bool.not_eq_true', Bool.not_eq_false', decide_eq_true_eq, decide_eq_false_iff_not] at h
          refine wss_nil ?_
          refine wss_cons ?_
          refine ws_set 5 ?_ sc.nd
          refine we_ifP (B := ?B8) ?hc8 (fun h => ?ht8) (fun h => ?hf8)
          case hc8 =>
            refine wt_cmp ?_
            refine we_name 2 ?_
            refine we_int ?_
            walk_at "Gt"
            refine BoolP.of ?_
            exact eqb_rfl
          case ht8 =>
            skip
            try simp only [Bool.and_eq_true, Bool.or_eq_true, Bool.and_eq_false_iff, Bool.or_eq_false_iff, Bool.not_eq_true, Bool.not_eq_false, Bool.not_eq_true', Bool.not_eq_false', decide_eq_true_eq, decide_eq_false_iff_not] at h
            refine we_call (ok_l_odd_count T) hgd hr xt0 ?_
            refine wa_cons ?_
            refine we_name 3 ?_
            refine wa_nil ?_
            refine FrP.none ⟨_, rfl, rfl, by omega, by omega, fun c hc => ?_⟩
            refine wss_one ?_
            refine ws_ret ?_
            refine we_list ?_
            refine wa_cons ?_
            refine we_ix ?_
            refine we_list ?_
            refine wa_cons ?_
            refine we_str ?_
            refine wa_cons ?_
            refine we_str ?_
            refine wa_cons ?_
            refine we_str ?_
            refine wa_cons ?_
            refine we_str ?_
            refine wa_nil ?_
            refine ⟨by first | decide | simp, ?_⟩
            walk_at "l"
            refine we_bin ?_
            refine we_callT (T := "int") T.int ?_ bt_int
            refine wa_cons ?_
            refine we_bin ?_
            refine we_name 2 ?_
            refine we_name 3 ?_
            walk_at "Add"
            refine wa_nil ?_
            walk_at "b int"
            refine we_int ?_
            walk_at "Mod"
            refine ix_lE OneD ?_ fun nm hD => ?_
            · rcases (show (r1 + r2) % 4 = 0 ∨ (r1 + r2) % 4 = 1 ∨ (r1 + r2) % 4 = 2 ∨ (r1 + r2) % 4 = 3 from by omega) with h4 | h4 | h4 | h4
              · rw [h4]; exact ⟨_, rfl, one_fall⟩
              · rw [h4]; exact ⟨_, rfl, one_lose⟩
              · rw [h4]; exact ⟨_, rfl, one_trim⟩
              · rw [h4]; exact ⟨_, rfl, one_settle⟩
            refine wa_cons ?_
            refine we_name 5 ?_
            refine wa_nil ?_
            refine ⟨by first | decide | simp, ?_⟩
            refine .het ?_
            obtain ⟨D, hD⟩ := hD
            have e := hD c
            have q := hpost (D c) b (e.2.2.1 hc) (e.2.2.2 _ _) (hb.mono (by omega))
            unfold Dd.tv at q
            rw [e.1, e.2.1] at q
            exact q
          case hf8 =>
            skip
            try simp only [Bool.and_eq_true, Bool.or_eq_true, Bool.and_eq_false_iff, Bool.or_eq_false_iff, Bool.not_eq_true, Bool.not_eq_false, Bool.not_eq_true', Bool.not_eq_false', decide_eq_true_eq, decide_eq_false_iff_not] at h
            refine we_call (ok_l_count T) hgd hr xt0 ?_
            refine wa_cons ?_
            refine we_name 0 ?_
            refine wa_cons ?_
            refine we_name 1 ?_
            refine wa_cons ?_
            refine we_name 3 ?_
            refine wa_nil ?_
            refine FrP.all ⟨p, q, r2, b, S, _, rfl, rfl, hb, by omega, hS, by omega, by omega, fun i b hi hb => ?_⟩
            refine wss_one ?_
            refine ws_ret ?_
            refine we_list ?_
            refine wa_cons ?_
            refine we_ix ?_
            refine we_list ?_
            refine wa_cons ?_
            refine we_str ?_
            refine wa_cons ?_
            refine we_str ?_
            refine wa_cons ?_
            refine we_str ?_
            refine wa_cons ?_
            refine we_str ?_
            refine wa_nil ?_
            refine ⟨by first | decide | simp, ?_⟩
            walk_at "l"
            refine we_bin ?_
            refine we_callT (T := "int") T.int ?_ bt_int
            refine wa_cons ?_
            refine we_bin ?_
            refine we_name 2 ?_
            refine we_name 3 ?_
            walk_at "Add"
            refine wa_nil ?_
            walk_at "b int"
            refine we_int ?_
            walk_at "Mod"
            refine ix_lE OneD ?_ fun nm hD => ?_
            · rcases (show (r1 + r2) % 4 = 0 ∨ (r1 + r2) % 4 = 1 ∨ (r1 + r2) % 4 = 2 ∨ (r1 + r2) % 4 = 3 from by omega) with h4 | h4 | h4 | h4
              · rw [h4]; exact ⟨_, rfl, one_fall⟩
              · rw [h4]; exact ⟨_, rfl, one_lose⟩
              · rw [h4]; exact ⟨_, rfl, one_trim⟩
              · rw [h4]; exact ⟨_, rfl, one_settle⟩
            refine wa_cons ?_
            refine we_name 5 ?_
            refine wa_nil ?_
            refine ⟨by first | decide | simp, ?_⟩
            refine .het ?_
            obtain ⟨D, hD⟩ := hD
            have e := hD (.int i)
            have q := hpost (D (.int i)) b (e.2.2.1 hi) (e.2.2.2 _ _) (hb.mono (by omega))
            unfold Dd.tv at q
            rw [e.1, e.2.1] at q
            exact q
end
end K05


set_option Elab.async false
set_option linter.all false
set_option maxRecDepth 100000
set_option maxHeartbeats 4000000
namespace K05
open PySem PySem.Spec PyProof.Rows L2 Ty
local macro_rules | `(tactic| walk_at "side") => `(tactic| first | omega | decide | assumption | (simp; done))
local macro_rules | `(tactic| walk_at "mul") => `(tactic| first | exact Or.inl ⟨by omega, by omega⟩ | exact Or.inr ⟨by omega, by omega⟩ | exact Or.inl ⟨by decide, by decide⟩)
local macro_rules | `(tactic| walk_at "pow") => `(tactic| first | exact ⟨by decide, by decide, by decide⟩ | exact ⟨by decide, by decide, by omega⟩ | exact ⟨by omega, by omega, by omega⟩)
local macro_rules | `(tactic| walk_at "Add") => `(tactic| first | refine add_ii ?_ | refine add_ss (by walk_at "side") ?_)
local macro_rules | `(tactic| walk_at "Sub") => `(tactic| refine sub_ii ?_)
local macro_rules | `(tactic| walk_at "Mult") => `(tactic| refine mul_ii (by walk_at "mul") ?_)
local macro_rules | `(tactic| walk_at "FloorDiv") => `(tactic| refine fdiv_ii (by constructor <;> walk_at "side") ?_)
local macro_rules | `(tactic| walk_at "Mod") => `(tactic| refine mod_ii (by walk_at "side") ?_)
local macro_rules | `(tactic| walk_at "Pow") => `(tactic| refine pow_ii (by walk_at "pow") ?_)
local macro_rules | `(tactic| walk_at "Lt") => `(tactic| refine lt_ii ?_)
local macro_rules | `(tactic| walk_at "LtE") => `(tactic| first | refine le_ii ?_ | refine le_ss ?_)
local macro_rules | `(tactic| walk_at "Gt") => `(tactic| refine gt_ii ?_)
local macro_rules | `(tactic| walk_at "GtE") => `(tactic| refine ge_ii ?_)
local macro_rules | `(tactic| walk_at "Eq") => `(tactic| first | refine eq_ii ?_ | refine eq_ss ?_)
local macro_rules | `(tactic| walk_at "NotEq") => `(tactic| first | refine ne_ii ?_ | refine ne_ss ?_)
local macro_rules | `(tactic| walk_at "In") => `(tactic| first | refine in_cs ?_ | refine in_il ?_ | refine in_sl ?_)
local macro_rules | `(tactic| walk_at "NotIn") => `(tactic| first | refine notIn_cs ?_)
local macro_rules | `(tactic| walk_at "Is") => `(tactic| first | refine isN none_unit ?_ | refine isN none_int ?_ | refine isN none_str ?_ | refine isN none_bool ?_ | refine isN none_list ?_ | refine isN none_ref ?_)
local macro_rules | `(tactic| walk_at "IsNot") => `(tactic| first | refine notN none_unit ?_ | refine notN none_int ?_ | refine notN none_str ?_)
local macro_rules | `(tactic| walk_at "i") => `(tactic| first
  | refine ix_own (n := 0) rfl rfl ?_ | refine ix_own (n := 1) rfl rfl ?_ | refine ix_own (n := 2) rfl rfl ?_ | refine ix_lU lu_hl rfl ?_ | refine ix_tupU tupU2 rfl ?_ | refine ix_tupU tupU4 rfl ?_ | refine ix_s (by walk_at "side") (by walk_at "at") ?_ | refine ix_l (by walk_at "at") ?_)
local macro_rules | `(tactic| walk_at "at") => `(tactic| first | rfl | assumption)
local macro_rules | `(tactic| walk_at "s") => `(tactic| first | refine sl_s (by walk_at "side") ?_ | refine sl_l ?_)
local macro_rules | `(tactic| walk_at "b int") => `(tactic| refine int_i ?_)
local macro_rules | `(tactic| walk_at "b abs") => `(tactic| refine abs_i ?_)
local macro_rules | `(tactic| walk_at "b max") => `(tactic| refine max_ii rfl ?_)
local macro_rules | `(tactic| walk_at "b min") => `(tactic| refine min_ii rfl ?_)
local macro_rules | `(tactic| walk_at "b len") => `(tactic| first | refine len_s (by walk_at "side") ?_ | refine len_l ?_ | refine len_own (n := 0) rfl ?_ | refine len_own (n := 1) rfl ?_ | refine len_own (n := 2) rfl ?_)
local macro_rules | `(tactic| walk_at "b sum") => `(tactic| refine sum_l rfl ?_)
local macro_rules | `(tactic| walk_at "b all") => `(tactic| refine all_l rfl ?_)
local macro_rules | `(tactic| walk_at "b any") => `(tactic| refine any_l rfl ?_)
local macro_rules | `(tactic| walk_at "b isinstance") => `(tactic| first | refine isi ty_int ?_ | refine isi ty_bool ?_ | refine isi ty_str ?_ | refine isi ty_none ?_ | refine isi ty_list ?_)
local macro_rules | `(tactic| walk_at "l") => `(tactic| first | refine .data (ys := [_]) rfl ?_ | refine .data (ys := [_, _]) rfl ?_ | refine .data (ys := [_, _, _]) rfl ?_ | refine .data (ys := [_, _, _, _]) rfl ?_ | refine .data (ys := [_, _, _, _, _]) rfl ?_ | refine .data (ys := [_, _, _, _, _, _]) rfl ?_ | refine .data (ys := [_, _, _, _, _, _, _]) rfl ?_ | refine .data (ys := [_, _, _, _, _, _, _, _, _, _]) rfl ?_ | refine .het ?_)
local macro_rules | `(tactic| walk_at "t") => `(tactic| first | refine tup2 ?_ | refine tup3 ?_ | refine tup4 ?_)
local macro_rules | `(tactic| walk_at "ty str") => `(tactic| refine ⟨ty_s, ?_⟩)
local macro_rules | `(tactic| walk_at "ty list") => `(tactic| first | refine ⟨ty_lU lu_l, ?_⟩ | refine ⟨ty_lU lu_hl, ?_⟩ | refine ⟨ty_lU (lu_own (n := 0) rfl), ?_⟩ | refine ⟨ty_lU (lu_own (n := 1) rfl), ?_⟩)


namespace Ov
def s : Ov → Str
  | .str s => s
  | _ => ""
def i : Ov → Int
  | .int i => i
  | _ => 0
theorem sg_str {v : Ov} (h : v.isSg = true) : ∃ x, v = .str x := by cases v <;> first | exact ⟨_, rfl⟩ | cases h
theorem btw_int {v : Ov} {lo hi : Int} (h : v.btw lo hi = true) : ∃ x, v = .int x ∧ lo ≤ x ∧ x ≤ hi := by
  cases v <;> first | exact ⟨_, rfl, by simpa [btw] using h⟩ | cases h
theorem count_int {v : Ov} (h : v.isCount = true) : ∃ x, v = .int x ∧ 0 ≤ x := by
  cases v <;> first | exact ⟨_, rfl, by simpa [isCount] using h⟩ | cases h
end Ov
abbrev sT : Str := "text"
abbrev sY : Str := "synced"
abbrev sE : Str := "settled"
abbrev fs3 (x y z : TV) : List (Str × TV) := [(sT, x), (sY, y), (sE, z)]
def Sd.fs (S : Sd) : List (Str × TV) := fs3 (tv S.text) (tv S.sy) (tv S.se)
def Sd.mvI (CD : Addr) (S : Sd) : MV := mI CD S.fs
theorem put_text {t x y z : TV} : putT sT t (fs3 x y z) = fs3 t y z := by
  with_unfolding_all rfl
theorem put_sync {t x y z : TV} : putT sY t (fs3 x y z) = fs3 x t z := by
  with_unfolding_all rfl
theorem put_sett {t x y z : TV} : putT sE t (fs3 x y z) = fs3 x y t := by
  with_unfolding_all rfl
theorem look_text {S : Sd} : S.fs.lookup sT = some (tv S.text) := by with_unfolding_all rfl
theorem look_sync {S : Sd} : S.fs.lookup sY = some (tv S.sy) := by with_unfolding_all rfl
theorem look_sett {S : Sd} : S.fs.lookup sE = some (tv S.se) := by with_unfolding_all rfl
theorem look_m {S : Sd} {x : Str} (h : (x == sT) = false ∧ (x == sY) = false ∧ (x == sE) = false) : S.fs.lookup x = none := by
  unfold Sd.fs
  simp only [List.lookup, h.1, h.2.1, h.2.2]
def T_xinit (C : Addr) : TSpec := fun xs m post _ => ∃ (a : Addr) (t : TV), xs = [tv (Ref.mk a), t] ∧ m = [(a, mXo a C none)] ∧ ∀ dx, post (tv ()) [(a, mXo a C (some dx)), (dx, mXd dx [((("given" : Str)), t)])]
def T_dinit (CD : Addr) : TSpec := fun xs m post _ => ∃ a : Addr, xs = [tv (Ref.mk a)] ∧ m = [(a, mI CD [])] ∧ post (tv ()) [(a, Sd.mvI CD ⟨"", 0, 0⟩)]
/-- what a method of a disk gets and may do; r: what it raises -/
def TD (CD : Addr) (args : List Ov) (ok : Sd → Prop) (yes : Sd → Bool) (nxt : Sd → Sd) (no : Sd → XV) : TSpec := fun xs m post xp => ∃ (a : Addr) (S : Sd) (L : Mu), xs = tv (Ref.mk a) :: args.map Ov.tv ∧ m = (a, S.mvI CD) :: L ∧ (∀ v ∈ args, v.In m ∧ v.Small) ∧ S.Ok 1000000 ∧ ok S ∧
  (yes S = true → post (tv ()) ((a, (nxt S).mvI CD) :: L)) ∧ (yes S = false → xp (no S) ((a, S.mvI CD) :: L))
def xS (CS : Addr) (v : Ov) : XV := ⟨.ref CS, [((("given" : Str)), v.tv)]⟩
def T_put (CD CS : Addr) : TSpec := fun xs m post xp => ∃ v : Ov, TD CD [v] (fun S => S.text.length + v.s.length ≤ 1000000) (fun _ => v.isSg) (fun S => ⟨S.text ++ v.s, S.sy, S.se⟩) (fun _ => xS CS v) xs m post xp
def T_sync (CD : Addr) : TSpec := fun xs m post xp => TD CD [] (fun _ => True) (fun _ => true) (fun S => ⟨S.text, S.text.length, S.se⟩) (fun _ => xS 0 .none) xs m post xp
def T_trim (CD CC : Addr) : TSpec := fun xs m post xp => ∃ v : Ov, TD CD [v] (fun _ => True) (fun S => v.btw S.se S.text.length) (fun S => ⟨Txt.slice S.text none (some v.i), v.i, S.se⟩) (fun _ => xS CC v) xs m post xp
def T_fall (CD CC : Addr) : TSpec := fun xs m post xp => ∃ v : Ov, TD CD [v] (fun _ => True) (fun S => v.isCount)
  (fun S => ⟨Txt.slice S.text none (some (S.sy + v.i % (S.text.length - S.sy + 1))), S.sy + v.i % (S.text.length - S.sy + 1), S.se⟩) (fun _ => xS CC v) xs m post xp
def T_lose (CD CC : Addr) : TSpec := fun xs m post xp => ∃ v : Ov, TD CD [v] (fun _ => True) (fun S => v.isCount)
  (fun S => ⟨Txt.slice S.text none (some (max S.se (min v.i S.text.length))), max S.se (min v.i S.text.length), S.se⟩) (fun _ => xS CC v) xs m post xp
def T_settle (CD CC : Addr) : TSpec := fun xs m post xp => ∃ v : Ov, TD CD [v] (fun _ => True) (fun S => v.btw S.se S.sy) (fun S => ⟨S.text, S.sy, v.i⟩) (fun _ => xS CC v) xs m post xp
def T_swap (CD CS CC : Addr) : TSpec := fun xs m post xp => ∃ v c : Ov, TD CD [v, c] (fun _ => True) (fun _ => v.isSg && c.btw 0 v.s.length) (fun _ => ⟨v.s, v.s.length, c.i⟩) (fun _ => if v.isSg then xS CC c else xS CS v) xs m post xp

section
variable {P : Program} {w : World} {K : PySem.W.Frag} {mg : Str → Option Value} {base : Heap} {CE CS CC CD : Addr}

theorem g_InvalidSigns_init (T : Tx K mg base CE CS CC CD) {f : Addr} {fd : FuncData} (F : FunD K "__init__" "InvalidSigns.__init__" (defArgs s_InvalidSigns_init) (defBody s_InvalidSigns_init) (defScope s_InvalidSigns_init) [] [] f fd) : FnG P w K mg base 1 f fd ["self", "given"] (T_xinit CS) := by
  have sc := sc_InvalidSigns_init
  refine fn_ok F sc_InvalidSigns_init (fun xs m post xp h => ?_) fun cdv A outer s H E B0 H0 xs m post xp hgd hr hT hx => ?_
  · obtain ⟨_, _, h, _⟩ := h; subst h; rfl
  obtain ⟨a, t, rfl, rfl, hpost⟩ := hT
  refine wss_cons ?_
  refine ws_expr ?_
  refine we_xinit T.g_AlongError T.sup_AlongError ?_
  refine wa_cons ?_
  refine we_name 0 ?_
  refine wa_cons ?_
  refine we_str ?_
  refine wa_nil ?_
  refine ⟨_, _, _, 0, rfl, by simp, T.oS, rfl, ?_⟩
  refine wss_one ?_
  refine ws_ost ?_
  refine we_name 1 ?_
  refine we_name 0 ?_
  refine ⟨_, _, 0, rfl, T.oS, T.nS, rfl, fun dx => ?_⟩
  exact hpost dx
theorem ok_InvalidSigns (T : Tx K mg base CE CS CC CD) : OexK P w K mg base "InvalidSigns" CS 1 (T_xinit CS) [] := by
  obtain ⟨f, fd, F, h1, h2⟩ := T.iS
  exact ⟨T.g_InvalidSigns, T.oS, f, fd, _, [], [], h1, h2, g_InvalidSigns_init T F, F.bindsN fun kV doc pm an cdv ct us hl => match us, hl with | [a, b], _ => rfl, .nil, flat0⟩
theorem g_InvalidCount_init (T : Tx K mg base CE CS CC CD) {f : Addr} {fd : FuncData} (F : FunD K "__init__" "InvalidCount.__init__" (defArgs s_InvalidCount_init) (defBody s_InvalidCount_init) (defScope s_InvalidCount_init) [] [] f fd) : FnG P w K mg base 1 f fd ["self", "given"] (T_xinit CC) := by
  have sc := sc_InvalidCount_init
  refine fn_ok F sc_InvalidCount_init (fun xs m post xp h => ?_) fun cdv A outer s H E B0 H0 xs m post xp hgd hr hT hx => ?_
  · obtain ⟨_, _, h, _⟩ := h; subst h; rfl
  obtain ⟨a, t, rfl, rfl, hpost⟩ := hT
  refine wss_cons ?_
  refine ws_expr ?_
  refine we_xinit T.g_AlongError T.sup_AlongError ?_
  refine wa_cons ?_
  refine we_name 0 ?_
  refine wa_cons ?_
  refine we_str ?_
  refine wa_nil ?_
  refine ⟨_, _, _, 0, rfl, by simp, T.oC, rfl, ?_⟩
  refine wss_one ?_
  refine ws_ost ?_
  refine we_name 1 ?_
  refine we_name 0 ?_
  refine ⟨_, _, 0, rfl, T.oC, T.nC, rfl, fun dx => ?_⟩
  exact hpost dx
theorem ok_InvalidCount (T : Tx K mg base CE CS CC CD) : OexK P w K mg base "InvalidCount" CC 1 (T_xinit CC) [] := by
  obtain ⟨f, fd, F, h1, h2⟩ := T.iC
  exact ⟨T.g_InvalidCount, T.oC, f, fd, _, [], [], h1, h2, g_InvalidCount_init T F, F.bindsN fun kV doc pm an cdv ct us hl => match us, hl with | [a, b], _ => rfl, .nil, flat0⟩
theorem g_Disk_init (T : Tx K mg base CE CS CC CD) {f : Addr} {fd : FuncData} (F : FunD K "__init__" "Disk.__init__" (defArgs s_Disk_init) (defBody s_Disk_init) (defScope s_Disk_init) [] [] f fd) : FnG P w K mg base 1 f fd ["self"] (T_dinit CD) := by
  have sc := sc_Disk_init
  refine fn_ok F sc_Disk_init (fun xs m post xp h => ?_) fun cdv A outer s H E B0 H0 xs m post xp hgd hr hT hx => ?_
  · obtain ⟨_, h, _⟩ := h; subst h; rfl
  obtain ⟨a, rfl, rfl, hpost⟩ := hT
  refine wss_cons ?_
  refine ws_fld ?_
  refine we_str ?_
  refine we_name 0 ?_
  refine ⟨_, _, 0, _, rfl, rfl, by decide, T.cD, T.aT, ?_⟩
  refine wss_cons ?_
  refine ws_fld ?_
  refine we_int ?_
  refine we_name 0 ?_
  refine ⟨_, _, 0, _, rfl, rfl, by decide, T.cD, T.aY, ?_⟩
  refine wss_one ?_
  refine ws_fld ?_
  refine we_int ?_
  refine we_name 0 ?_
  refine ⟨_, _, 0, _, rfl, rfl, by decide, T.cD, T.aE, ?_⟩
  exact hpost
theorem ok_Disk (T : Tx K mg base CE CS CC CD) : MakK P w K mg base "Disk" CD 1 (T_dinit CD) [] := by
  obtain ⟨f, fd, F, M⟩ := T.iD
  exact ⟨T.g_Disk, f, fd, _, [], [], M, g_Disk_init T F, F.bindsN fun kV doc pm an cdv ct us hl => match us, hl with | [a], _ => rfl, .nil, flat0⟩
theorem g_Disk_put (T : Tx K mg base CE CS CC CD) {f : Addr} {fd : FuncData} (F : FunD K "put" "Disk.put" (defArgs s_Disk_put) (defBody s_Disk_put) (defScope s_Disk_put) [] [] f fd) : FnG P w K mg base 3 f fd ["self", "signs"] (T_put CD CS) := by
  have sc := sc_Disk_put
  refine fn_ok F sc_Disk_put (fun xs m post xp h => ?_) fun cdv A outer s H E B0 H0 xs m post xp hgd hr hT hx => ?_
  · obtain ⟨_, _, _, _, h, _⟩ := h; subst h; rfl
  obtain ⟨v, a, S, L, rfl, rfl, hv, hS, ho, hy, hn⟩ := hT
  obtain ⟨hv1, hv2⟩ := hv v (by simp)
  obtain ⟨hpr, hlen, he0, hey, hyl⟩ := id hS
  refine wss_cons ?_
  refine ws_if ?_
  refine wt_not ?_
  refine wt_val ?_
  refine we_call (ok_is_signs T) hgd hr xt0 ?_
  refine wa_cons ?_
  refine we_name 1 ?_
  refine wa_nil ?_
  refine FrP.all ⟨v, rfl, hv1, hv2, ?_⟩
  refine BoolP.of ?_
  refine ⟨fun h => ?_, fun h => ?_⟩
  · skip
    try simp only [Bool.and_eq_true, Bool.or_eq_true, Bool.and_eq_false_iff, Bool.or_eq_false_iff, Bool.not_eq_true, Bool.not_eq_false, Bool.not_eq_true', Bool.not_eq_false', decide_eq_true_eq, decide_eq_false_iff_not] at h
    refine wss_one ?_
    refine ws_raise (ok_InvalidSigns T) hgd hr hx rfl ?_
    refine wa_cons ?_
    refine we_name 1 ?_
    refine wa_nil ?_
    refine ⟨by simp, fun a2 => FrP.last ⟨a2, _, rfl, rfl, fun dx => ⟨rfl, dx, _, rfl, ?_⟩⟩⟩
    exact hn (by simpa using h)
  · skip
    obtain ⟨x, rfl⟩ := Ov.sg_str (by simpa using h)
    refine wss_nil ?_
    refine wss_one ?_
    refine ws_fld ?_
    refine we_bin ?_
    refine we_fld ?_ -- .text
    refine we_name 0 ?_
    refine ⟨_, _, 0, _, _, rfl, rfl, look_text, T.cD, T.aT, ?_⟩
    refine we_name 1 ?_
    refine add_ss (Nat.le_trans ho (by decide)) ?_
    refine we_name 0 ?_
    refine ⟨_, _, 0, _, rfl, rfl, by show 3 < 1000; decide, T.cD, T.aT, ?_⟩
    show post (tv ()) ((a, mI CD (putT sT _ (fs3 _ _ _))) :: L)
    rw [put_text]
    exact hy (by simpa using h)
theorem ok_Disk_put (T : Tx K mg base CE CS CC CD) : MetK P w K mg base CD "put" 3 (T_put CD CS) [] := by
  obtain ⟨f, fd, F, hM⟩ := T.m_put
  exact metK_mk T.cD F hM (g_Disk_put T F) (fun kV doc pm an cdv ct us hl => match us, hl with | [a0, a1], _ => rfl)
theorem ok_Disk_putK (T : Tx K mg base CE CS CC CD) : MetN P w K mg base CD "put" 3 (T_put CD CS) ["signs"] (fun us ws => us ++ ws) := by
  obtain ⟨f, fd, F, hM⟩ := T.m_put
  exact ⟨T.cD, f, fd, _, _, _, hM, g_Disk_put T F, bindsK_in F 1 fun kV doc pm an cdv ct us ws l1 l2 => match us, ws, l1, l2 with | [a], [b0], _, _ => rfl⟩
theorem g_Disk_sync (T : Tx K mg base CE CS CC CD) {f : Addr} {fd : FuncData} (F : FunD K "sync" "Disk.sync" (defArgs s_Disk_sync) (defBody s_Disk_sync) (defScope s_Disk_sync) [] [] f fd) : FnG P w K mg base 1 f fd ["self"] (T_sync CD) := by
  have sc := sc_Disk_sync
  refine fn_ok F sc_Disk_sync (fun xs m post xp h => ?_) fun cdv A outer s H E B0 H0 xs m post xp hgd hr hT hx => ?_
  · obtain ⟨_, _, _, h, _⟩ := h; subst h; rfl
  obtain ⟨a, S, L, rfl, rfl, hv, hS, ho, hy, hn⟩ := hT
  obtain ⟨hpr, hlen, he0, hey, hyl⟩ := id hS
  refine wss_one ?_
  refine ws_fld ?_
  refine we_callB (id := "len") T.len ?_ bt_len
  refine wa_cons ?_
  refine we_fld ?_ -- .text
  refine we_name 0 ?_
  refine ⟨_, _, 0, _, _, rfl, rfl, look_text, T.cD, T.aT, ?_⟩
  refine wa_nil ?_
  refine len_s (by omega) ?_
  refine we_name 0 ?_
  refine ⟨_, _, 0, _, rfl, rfl, by show 3 < 1000; decide, T.cD, T.aY, ?_⟩
  show post (tv ()) ((a, mI CD (putT sY _ (fs3 _ _ _))) :: L)
  rw [put_sync]
  exact hy rfl
theorem ok_Disk_sync (T : Tx K mg base CE CS CC CD) : MetK P w K mg base CD "sync" 1 (T_sync CD) [] := by
  obtain ⟨f, fd, F, hM⟩ := T.m_sync
  exact metK_mk T.cD F hM (g_Disk_sync T F) (fun kV doc pm an cdv ct us hl => match us, hl with | [a0], _ => rfl)
theorem g_Disk_trim (T : Tx K mg base CE CS CC CD) {f : Addr} {fd : FuncData} (F : FunD K "trim" "Disk.trim" (defArgs s_Disk_trim) (defBody s_Disk_trim) (defScope s_Disk_trim) [] [] f fd) : FnG P w K mg base 3 f fd ["self", "many"] (T_trim CD CC) := by
  have sc := sc_Disk_trim
  refine fn_ok F sc_Disk_trim (fun xs m post xp h => ?_) fun cdv A outer s H E B0 H0 xs m post xp hgd hr hT hx => ?_
  · obtain ⟨_, _, _, _, h, _⟩ := h; subst h; rfl
  obtain ⟨v, a, S, L, rfl, rfl, hv, hS, ho, hy, hn⟩ := hT
  obtain ⟨hv1, hv2⟩ := hv v (by simp)
  obtain ⟨hpr, hlen, he0, hey, hyl⟩ := id hS
  refine wss_cons ?_
  refine ws_if ?_
  refine wt_not ?_
  refine wt_val ?_
  refine we_call (ok_is_between T) hgd hr xt0 ?_
  refine wa_cons ?_
  refine we_name 1 ?_
  refine wa_cons ?_
  refine we_fld ?_ -- .settled
  refine we_name 0 ?_
  refine ⟨_, _, 0, _, _, rfl, rfl, look_sett, T.cD, T.aE, ?_⟩
  refine wa_cons ?_
  refine we_callB (id := "len") T.len ?_ bt_len
  refine wa_cons ?_
  refine we_fld ?_ -- .text
  refine we_name 0 ?_
  refine ⟨_, _, 0, _, _, rfl, rfl, look_text, T.cD, T.aT, ?_⟩
  refine wa_nil ?_
  refine len_s (by omega) ?_
  refine wa_nil ?_
  refine FrP.all ⟨v, _, _, rfl, hv1, ?_⟩
  refine BoolP.of ?_
  refine ⟨fun h => ?_, fun h => ?_⟩
  · skip
    try simp only [Bool.and_eq_true, Bool.or_eq_true, Bool.and_eq_false_iff, Bool.or_eq_false_iff, Bool.not_eq_true, Bool.not_eq_false, Bool.not_eq_true', Bool.not_eq_false', decide_eq_true_eq, decide_eq_false_iff_not] at h
    refine wss_one ?_
    refine ws_raise (ok_InvalidCount T) hgd hr hx rfl ?_
    refine wa_cons ?_
    refine we_name 1 ?_
    refine wa_nil ?_
    refine ⟨by simp, fun a2 => FrP.last ⟨a2, _, rfl, rfl, fun dx => ⟨rfl, dx, _, rfl, ?_⟩⟩⟩
    exact hn (by simpa using h)
  · skip
    obtain ⟨x, rfl, hx1, hx2⟩ := Ov.btw_int (by simpa using h)
    refine wss_nil ?_
    refine wss_cons ?_
    refine ws_fld ?_
    refine we_slice ?_
    refine we_fld ?_ -- .text
    refine we_name 0 ?_
    refine ⟨_, _, 0, _, _, rfl, rfl, look_text, T.cD, T.aT, ?_⟩
    refine wo_none ?_
    refine wo_some ?_
    refine we_name 1 ?_
    refine ⟨_, rfl, ?_⟩
    refine sl_s (by omega) ?_
    refine we_name 0 ?_
    refine ⟨_, _, 0, _, rfl, rfl, by show 3 < 1000; decide, T.cD, T.aT, ?_⟩
    refine wss_one ?_
    refine ws_fld ?_
    refine we_name 1 ?_
    refine we_name 0 ?_
    refine ⟨_, _, 0, _, rfl, rfl, by show 3 < 1000; decide, T.cD, T.aY, ?_⟩
    show post (tv ()) ((a, mI CD (putT sY _ (putT sT _ (fs3 _ _ _)))) :: L)
    rw [put_text, put_sync]
    exact hy (by simpa using h)
theorem ok_Disk_trim (T : Tx K mg base CE CS CC CD) : MetK P w K mg base CD "trim" 3 (T_trim CD CC) [] := by
  obtain ⟨f, fd, F, hM⟩ := T.m_trim
  exact metK_mk T.cD F hM (g_Disk_trim T F) (fun kV doc pm an cdv ct us hl => match us, hl with | [a0, a1], _ => rfl)
theorem ok_Disk_trimK (T : Tx K mg base CE CS CC CD) : MetN P w K mg base CD "trim" 3 (T_trim CD CC) ["many"] (fun us ws => us ++ ws) := by
  obtain ⟨f, fd, F, hM⟩ := T.m_trim
  exact ⟨T.cD, f, fd, _, _, _, hM, g_Disk_trim T F, bindsK_in F 1 fun kV doc pm an cdv ct us ws l1 l2 => match us, ws, l1, l2 with | [a], [b0], _, _ => rfl⟩
theorem g_Disk_fall (T : Tx K mg base CE CS CC CD) {f : Addr} {fd : FuncData} (F : FunD K "fall" "Disk.fall" (defArgs s_Disk_fall) (defBody s_Disk_fall) (defScope s_Disk_fall) [] [] f fd) : FnG P w K mg base 4 f fd ["self", "keep"] (T_fall CD CC) := by
  have sc := sc_Disk_fall
  refine fn_ok F sc_Disk_fall (fun xs m post xp h => ?_) fun cdv A outer s H E B0 H0 xs m post xp hgd hr hT hx => ?_
  · obtain ⟨_, _, _, _, h, _⟩ := h; subst h; rfl
  obtain ⟨v, a, S, L, rfl, rfl, hv, hS, ho, hy, hn⟩ := hT
  obtain ⟨hv1, hv2⟩ := hv v (by simp)
  obtain ⟨hpr, hlen, he0, hey, hyl⟩ := id hS
  refine wss_cons ?_
  refine ws_if ?_
  refine wt_not ?_
  refine wt_val ?_
  refine we_call (ok_is_count T) hgd hr xt0 ?_
  refine wa_cons ?_
  refine we_name 1 ?_
  refine wa_nil ?_
  refine FrP.all ⟨v, rfl, hv1, ?_⟩
  refine BoolP.of ?_
  refine ⟨fun h => ?_, fun h => ?_⟩
  · skip
    try simp only [Bool.and_eq_true, Bool.or_eq_true, Bool.and_eq_false_iff, Bool.or_eq_false_iff, Bool.not_eq_true, Bool.not_eq_false, Bool.not_eq_true', Bool.not_eq_false', decide_eq_true_eq, decide_eq_false_iff_not] at h
    refine wss_one ?_
    refine ws_raise (ok_InvalidCount T) hgd hr hx rfl ?_
    refine wa_cons ?_
    refine we_name 1 ?_
    refine wa_nil ?_
    refine ⟨by simp, fun a2 => FrP.last ⟨a2, _, rfl, rfl, fun dx => ⟨rfl, dx, _, rfl, ?_⟩⟩⟩
    exact hn (by simpa using h)
  · skip
    obtain ⟨x, rfl, hx1⟩ := Ov.count_int (by simpa using h)
    refine wss_nil ?_
    refine wss_one ?_
    refine ws_expr ?_
    refine we_meth (ok_Disk_trim T) hgd hr xt0 ?_
    refine we_name 0 ?_
    refine ⟨ins_own (i := 0) rfl (look_m ⟨by decide, by decide, by decide⟩), ?_⟩
    refine wa_cons ?_
    refine we_bin ?_
    refine we_fld ?_ -- .synced
    refine we_name 0 ?_
    refine ⟨_, _, 0, _, _, rfl, rfl, look_sync, T.cD, T.aY, ?_⟩
    refine we_bin ?_
    refine we_name 1 ?_
    refine we_bin ?_
    refine we_bin ?_
    refine we_callB (id := "len") T.len ?_ bt_len
    refine wa_cons ?_
    refine we_fld ?_ -- .text
    refine we_name 0 ?_
    refine ⟨_, _, 0, _, _, rfl, rfl, look_text, T.cD, T.aT, ?_⟩
    refine wa_nil ?_
    refine len_s (by omega) ?_
    refine we_fld ?_ -- .synced
    refine we_name 0 ?_
    refine ⟨_, _, 0, _, _, rfl, rfl, look_sync, T.cD, T.aY, ?_⟩
    walk_at "Sub"
    refine we_int ?_
    walk_at "Add"
    walk_at "Mod"
    walk_at "Add"
    refine wa_nil ?_
    refine FrP.all ⟨.int (S.sy + x % ((S.text.length : Int) - S.sy + 1)), a, S, L, rfl, rfl, fun w hw => by rw [List.mem_singleton.mp hw]; exact ⟨trivial, trivial⟩, hS, trivial, fun _ => ?_, fun h2 => ?_⟩
    rotate_left 1
    · exfalso
      have e : (decide (S.se ≤ S.sy + x % ((S.text.length : Int) - S.sy + 1)) && decide (S.sy + x % ((S.text.length : Int) - S.sy + 1) ≤ (S.text.length : Int))) = false := h2
      have q1 := Int.emod_nonneg x (b := (S.text.length : Int) - S.sy + 1) (by omega)
      have q2 := Int.emod_lt_of_pos x (b := (S.text.length : Int) - S.sy + 1) (by omega)
      rw [decide_eq_true (by omega), decide_eq_true (by omega)] at e
      cases e
    exact hy (by simpa using h)
theorem ok_Disk_fall (T : Tx K mg base CE CS CC CD) : MetK P w K mg base CD "fall" 4 (T_fall CD CC) [] := by
  obtain ⟨f, fd, F, hM⟩ := T.m_fall
  exact metK_mk T.cD F hM (g_Disk_fall T F) (fun kV doc pm an cdv ct us hl => match us, hl with | [a0, a1], _ => rfl)
theorem ok_Disk_fallK (T : Tx K mg base CE CS CC CD) : MetN P w K mg base CD "fall" 4 (T_fall CD CC) ["keep"] (fun us ws => us ++ ws) := by
  obtain ⟨f, fd, F, hM⟩ := T.m_fall
  exact ⟨T.cD, f, fd, _, _, _, hM, g_Disk_fall T F, bindsK_in F 1 fun kV doc pm an cdv ct us ws l1 l2 => match us, ws, l1, l2 with | [a], [b0], _, _ => rfl⟩
theorem g_Disk_lose (T : Tx K mg base CE CS CC CD) {f : Addr} {fd : FuncData} (F : FunD K "lose" "Disk.lose" (defArgs s_Disk_lose) (defBody s_Disk_lose) (defScope s_Disk_lose) [] [] f fd) : FnG P w K mg base 4 f fd ["self", "many"] (T_lose CD CC) := by
  have sc := sc_Disk_lose
  refine fn_ok F sc_Disk_lose (fun xs m post xp h => ?_) fun cdv A outer s H E B0 H0 xs m post xp hgd hr hT hx => ?_
  · obtain ⟨_, _, _, _, h, _⟩ := h; subst h; rfl
  obtain ⟨v, a, S, L, rfl, rfl, hv, hS, ho, hy, hn⟩ := hT
  obtain ⟨hv1, hv2⟩ := hv v (by simp)
  obtain ⟨hpr, hlen, he0, hey, hyl⟩ := id hS
  refine wss_cons ?_
  refine ws_if ?_
  refine wt_not ?_
  refine wt_val ?_
  refine we_call (ok_is_count T) hgd hr xt0 ?_
  refine wa_cons ?_
  refine we_name 1 ?_
  refine wa_nil ?_
  refine FrP.all ⟨v, rfl, hv1, ?_⟩
  refine BoolP.of ?_
  refine ⟨fun h => ?_, fun h => ?_⟩
  · skip
    try simp only [Bool.and_eq_true, Bool.or_eq_true, Bool.and_eq_false_iff, Bool.or_eq_false_iff, Bool.not_eq_true, Bool.not_eq_false, Bool.not_eq_true', Bool.not_eq_false', decide_eq_true_eq, decide_eq_false_iff_not] at h
    refine wss_one ?_
    refine ws_raise (ok_InvalidCount T) hgd hr hx rfl ?_
    refine wa_cons ?_
    refine we_name 1 ?_
    refine wa_nil ?_
    refine ⟨by simp, fun a2 => FrP.last ⟨a2, _, rfl, rfl, fun dx => ⟨rfl, dx, _, rfl, ?_⟩⟩⟩
    exact hn (by simpa using h)
  · skip
    obtain ⟨x, rfl, hx1⟩ := Ov.count_int (by simpa using h)
    refine wss_nil ?_
    refine wss_one ?_
    refine ws_expr ?_
    refine we_meth (ok_Disk_trim T) hgd hr xt0 ?_
    refine we_name 0 ?_
    refine ⟨ins_own (i := 0) rfl (look_m ⟨by decide, by decide, by decide⟩), ?_⟩
    refine wa_cons ?_
    refine we_callB (id := "max") T.max ?_ bt_max
    refine wa_cons ?_
    refine we_fld ?_ -- .settled
    refine we_name 0 ?_
    refine ⟨_, _, 0, _, _, rfl, rfl, look_sett, T.cD, T.aE, ?_⟩
    refine wa_cons ?_
    refine we_callB (id := "min") T.min ?_ bt_min
    refine wa_cons ?_
    refine we_name 1 ?_
    refine wa_cons ?_
    refine we_callB (id := "len") T.len ?_ bt_len
    refine wa_cons ?_
    refine we_fld ?_ -- .text
    refine we_name 0 ?_
    refine ⟨_, _, 0, _, _, rfl, rfl, look_text, T.cD, T.aT, ?_⟩
    refine wa_nil ?_
    refine len_s (by omega) ?_
    refine wa_nil ?_
    refine min_ii rfl ?_
    refine wa_nil ?_
    refine max_ii rfl ?_
    refine wa_nil ?_
    refine FrP.all ⟨.int (max S.se (min x (S.text.length : Int))), a, S, L, rfl, rfl, fun w hw => by rw [List.mem_singleton.mp hw]; exact ⟨trivial, trivial⟩, hS, trivial, fun _ => ?_, fun h2 => ?_⟩
    rotate_left 1
    · exfalso
      have e : (decide (S.se ≤ max S.se (min x (S.text.length : Int))) && decide (max S.se (min x (S.text.length : Int)) ≤ (S.text.length : Int))) = false := h2
      rw [decide_eq_true (by omega), decide_eq_true (by omega)] at e
      cases e
    exact hy (by simpa using h)
theorem ok_Disk_lose (T : Tx K mg base CE CS CC CD) : MetK P w K mg base CD "lose" 4 (T_lose CD CC) [] := by
  obtain ⟨f, fd, F, hM⟩ := T.m_lose
  exact metK_mk T.cD F hM (g_Disk_lose T F) (fun kV doc pm an cdv ct us hl => match us, hl with | [a0, a1], _ => rfl)
theorem ok_Disk_loseK (T : Tx K mg base CE CS CC CD) : MetN P w K mg base CD "lose" 4 (T_lose CD CC) ["many"] (fun us ws => us ++ ws) := by
  obtain ⟨f, fd, F, hM⟩ := T.m_lose
  exact ⟨T.cD, f, fd, _, _, _, hM, g_Disk_lose T F, bindsK_in F 1 fun kV doc pm an cdv ct us ws l1 l2 => match us, ws, l1, l2 with | [a], [b0], _, _ => rfl⟩
theorem g_Disk_settle (T : Tx K mg base CE CS CC CD) {f : Addr} {fd : FuncData} (F : FunD K "settle" "Disk.settle" (defArgs s_Disk_settle) (defBody s_Disk_settle) (defScope s_Disk_settle) [] [] f fd) : FnG P w K mg base 3 f fd ["self", "many"] (T_settle CD CC) := by
  have sc := sc_Disk_settle
  refine fn_ok F sc_Disk_settle (fun xs m post xp h => ?_) fun cdv A outer s H E B0 H0 xs m post xp hgd hr hT hx => ?_
  · obtain ⟨_, _, _, _, h, _⟩ := h; subst h; rfl
  obtain ⟨v, a, S, L, rfl, rfl, hv, hS, ho, hy, hn⟩ := hT
  obtain ⟨hv1, hv2⟩ := hv v (by simp)
  obtain ⟨hpr, hlen, he0, hey, hyl⟩ := id hS
  refine wss_cons ?_
  refine ws_if ?_
  refine wt_not ?_
  refine wt_val ?_
  refine we_call (ok_is_between T) hgd hr xt0 ?_
  refine wa_cons ?_
  refine we_name 1 ?_
  refine wa_cons ?_
  refine we_fld ?_ -- .settled
  refine we_name 0 ?_
  refine ⟨_, _, 0, _, _, rfl, rfl, look_sett, T.cD, T.aE, ?_⟩
  refine wa_cons ?_
  refine we_fld ?_ -- .synced
  refine we_name 0 ?_
  refine ⟨_, _, 0, _, _, rfl, rfl, look_sync, T.cD, T.aY, ?_⟩
  refine wa_nil ?_
  refine FrP.all ⟨v, _, _, rfl, hv1, ?_⟩
  refine BoolP.of ?_
  refine ⟨fun h => ?_, fun h => ?_⟩
  · skip
    try simp only [Bool.and_eq_true, Bool.or_eq_true, Bool.and_eq_false_iff, Bool.or_eq_false_iff, Bool.not_eq_true, Bool.not_eq_false, Bool.not_eq_true', Bool.not_eq_false', decide_eq_true_eq, decide_eq_false_iff_not] at h
    refine wss_one ?_
    refine ws_raise (ok_InvalidCount T) hgd hr hx rfl ?_
    refine wa_cons ?_
    refine we_name 1 ?_
    refine wa_nil ?_
    refine ⟨by simp, fun a2 => FrP.last ⟨a2, _, rfl, rfl, fun dx => ⟨rfl, dx, _, rfl, ?_⟩⟩⟩
    exact hn (by simpa using h)
  · skip
    obtain ⟨x, rfl, hx1, hx2⟩ := Ov.btw_int (by simpa using h)
    refine wss_nil ?_
    refine wss_one ?_
    refine ws_fld ?_
    refine we_name 1 ?_
    refine we_name 0 ?_
    refine ⟨_, _, 0, _, rfl, rfl, by show 3 < 1000; decide, T.cD, T.aE, ?_⟩
    show post (tv ()) ((a, mI CD (putT sE _ (fs3 _ _ _))) :: L)
    rw [put_sett]
    exact hy (by simpa using h)
theorem ok_Disk_settle (T : Tx K mg base CE CS CC CD) : MetK P w K mg base CD "settle" 3 (T_settle CD CC) [] := by
  obtain ⟨f, fd, F, hM⟩ := T.m_settle
  exact metK_mk T.cD F hM (g_Disk_settle T F) (fun kV doc pm an cdv ct us hl => match us, hl with | [a0, a1], _ => rfl)
theorem ok_Disk_settleK (T : Tx K mg base CE CS CC CD) : MetN P w K mg base CD "settle" 3 (T_settle CD CC) ["many"] (fun us ws => us ++ ws) := by
  obtain ⟨f, fd, F, hM⟩ := T.m_settle
  exact ⟨T.cD, f, fd, _, _, _, hM, g_Disk_settle T F, bindsK_in F 1 fun kV doc pm an cdv ct us ws l1 l2 => match us, ws, l1, l2 with | [a], [b0], _, _ => rfl⟩
theorem g_Disk_swap (T : Tx K mg base CE CS CC CD) {f : Addr} {fd : FuncData} (F : FunD K "swap" "Disk.swap" (defArgs s_Disk_swap) (defBody s_Disk_swap) (defScope s_Disk_swap) [] [] f fd) : FnG P w K mg base 3 f fd ["self", "signs", "settled"] (T_swap CD CS CC) := by
  have sc := sc_Disk_swap
  refine fn_ok F sc_Disk_swap (fun xs m post xp h => ?_) fun cdv A outer s H E B0 H0 xs m post xp hgd hr hT hx => ?_
  · obtain ⟨_, _, _, _, _, h, _⟩ := h; subst h; rfl
  obtain ⟨v, c, a, S, L, rfl, rfl, hv, hS, ho, hy, hn⟩ := hT
  obtain ⟨hv1, hv2⟩ := hv v (by simp)
  obtain ⟨hc1, hc2⟩ := hv c (by simp)
  obtain ⟨hpr, hlen, he0, hey, hyl⟩ := id hS
  refine wss_cons ?_
  refine ws_if ?_
  refine wt_not ?_
  refine wt_val ?_
  refine we_call (ok_is_signs T) hgd hr xt0 ?_
  refine wa_cons ?_
  refine we_name 1 ?_
  refine wa_nil ?_
  refine FrP.all ⟨v, rfl, hv1, hv2, ?_⟩
  refine BoolP.of ?_
  refine ⟨fun h => ?_, fun h => ?_⟩
  · skip
    try simp only [Bool.and_eq_true, Bool.or_eq_true, Bool.and_eq_false_iff, Bool.or_eq_false_iff, Bool.not_eq_true, Bool.not_eq_false, Bool.not_eq_true', Bool.not_eq_false', decide_eq_true_eq, decide_eq_false_iff_not] at h
    refine wss_one ?_
    refine ws_raise (ok_InvalidSigns T) hgd hr hx rfl ?_
    refine wa_cons ?_
    refine we_name 1 ?_
    refine wa_nil ?_
    refine ⟨by simp, fun a2 => FrP.last ⟨a2, _, rfl, rfl, fun dx => ⟨rfl, dx, _, rfl, ?_⟩⟩⟩
    have e : v.isSg = false := by simpa using h
    rw [e] at hn
    exact hn rfl
  · skip
    have hsg : v.isSg = true := by simpa using h
    obtain ⟨x, rfl⟩ := Ov.sg_str hsg
    refine wss_nil ?_
    refine wss_cons ?_
    refine ws_if ?_
    refine wt_not ?_
    refine wt_val ?_
    refine we_call (ok_is_between T) hgd hr xt0 ?_
    refine wa_cons ?_
    refine we_name 2 ?_
    refine wa_cons ?_
    refine we_int ?_
    refine wa_cons ?_
    refine we_callB (id := "len") T.len ?_ bt_len
    refine wa_cons ?_
    refine we_name 1 ?_
    refine wa_nil ?_
    refine len_s (Nat.le_trans hv2.1 (by decide)) ?_
    refine wa_nil ?_
    refine FrP.all ⟨c, _, _, rfl, hc1, ?_⟩
    refine BoolP.of ?_
    refine ⟨fun h => ?_, fun h => ?_⟩
    · skip
      try simp only [Bool.and_eq_true, Bool.or_eq_true, Bool.and_eq_false_iff, Bool.or_eq_false_iff, Bool.not_eq_true, Bool.not_eq_false, Bool.not_eq_true', Bool.not_eq_false', decide_eq_true_eq, decide_eq_false_iff_not] at h
      refine wss_one ?_
      refine ws_raise (ok_InvalidCount T) hgd hr hx rfl ?_
      refine wa_cons ?_
      refine we_name 2 ?_
      refine wa_nil ?_
      refine ⟨by simp, fun a2 => FrP.last ⟨a2, _, rfl, rfl, fun dx => ⟨rfl, dx, _, rfl, ?_⟩⟩⟩
      have h9 : c.btw 0 ((x.length : Nat) : Int) = false := by simpa using h
      have q := hn (by rw [hsg, Bool.true_and]; exact h9)
      rw [if_pos hsg] at q
      exact q
    · skip
      have hbt : c.btw 0 ((x.length : Nat) : Int) = true := by simpa using h
      obtain ⟨z, rfl, hz1, hz2⟩ := Ov.btw_int hbt
      refine wss_nil ?_
      refine wss_cons ?_
      refine ws_fld ?_
      refine we_name 1 ?_
      refine we_name 0 ?_
      refine ⟨_, _, 0, _, rfl, rfl, by show 3 < 1000; decide, T.cD, T.aT, ?_⟩
      refine wss_cons ?_
      refine ws_fld ?_
      refine we_callB (id := "len") T.len ?_ bt_len
      refine wa_cons ?_
      refine we_name 1 ?_
      refine wa_nil ?_
      refine len_s (Nat.le_trans hv2.1 (by decide)) ?_
      refine we_name 0 ?_
      refine ⟨_, _, 0, _, rfl, rfl, by show 3 < 1000; decide, T.cD, T.aY, ?_⟩
      refine wss_one ?_
      refine ws_fld ?_
      refine we_name 2 ?_
      refine we_name 0 ?_
      refine ⟨_, _, 0, _, rfl, rfl, by show 3 < 1000; decide, T.cD, T.aE, ?_⟩
      show post (tv ()) ((a, mI CD (putT sE _ (putT sY _ (putT sT _ (fs3 _ _ _))))) :: L)
      rw [put_text, put_sync, put_sett]
      exact hy (by rw [hsg, Bool.true_and]; exact hbt)
theorem ok_Disk_swap (T : Tx K mg base CE CS CC CD) : MetK P w K mg base CD "swap" 3 (T_swap CD CS CC) [] := by
  obtain ⟨f, fd, F, hM⟩ := T.m_swap
  exact metK_mk T.cD F hM (g_Disk_swap T F) (fun kV doc pm an cdv ct us hl => match us, hl with | [a0, a1, a2], _ => rfl)
theorem ok_Disk_swapK (T : Tx K mg base CE CS CC CD) : MetN P w K mg base CD "swap" 3 (T_swap CD CS CC) ["settled", "signs"] (fun us ws => us ++ ws.reverse) := by
  obtain ⟨f, fd, F, hM⟩ := T.m_swap
  exact ⟨T.cD, f, fd, _, _, _, hM, g_Disk_swap T F, bindsK_rev F 1 fun kV doc pm an cdv ct us ws l1 l2 => match us, ws, l1, l2 with | [a], [b0, b1], _, _ => rfl⟩
end
end K05


set_option Elab.async false
set_option linter.all false
set_option maxRecDepth 100000
set_option maxHeartbeats 4000000
namespace K05
open PySem PySem.Spec PyProof.Rows L2 Ty
local macro_rules | `(tactic| walk_at "side") => `(tactic| first | omega | decide | assumption | (simp; done))
local macro_rules | `(tactic| walk_at "mul") => `(tactic| first | exact Or.inl ⟨by omega, by omega⟩ | exact Or.inr ⟨by omega, by omega⟩ | exact Or.inl ⟨by decide, by decide⟩)
local macro_rules | `(tactic| walk_at "pow") => `(tactic| first | exact ⟨by decide, by decide, by decide⟩ | exact ⟨by decide, by decide, by omega⟩ | exact ⟨by omega, by omega, by omega⟩)
local macro_rules | `(tactic| walk_at "Add") => `(tactic| first | refine add_ii ?_ | refine add_ss (by walk_at "side") ?_)
local macro_rules | `(tactic| walk_at "Sub") => `(tactic| refine sub_ii ?_)
local macro_rules | `(tactic| walk_at "Mult") => `(tactic| refine mul_ii (by walk_at "mul") ?_)
local macro_rules | `(tactic| walk_at "FloorDiv") => `(tactic| refine fdiv_ii (by constructor <;> walk_at "side") ?_)
local macro_rules | `(tactic| walk_at "Mod") => `(tactic| refine mod_ii (by walk_at "side") ?_)
local macro_rules | `(tactic| walk_at "Pow") => `(tactic| refine pow_ii (by walk_at "pow") ?_)
local macro_rules | `(tactic| walk_at "Lt") => `(tactic| refine lt_ii ?_)
local macro_rules | `(tactic| walk_at "LtE") => `(tactic| first | refine le_ii ?_ | refine le_ss ?_)
local macro_rules | `(tactic| walk_at "Gt") => `(tactic| refine gt_ii ?_)
local macro_rules | `(tactic| walk_at "GtE") => `(tactic| refine ge_ii ?_)
local macro_rules | `(tactic| walk_at "Eq") => `(tactic| first | refine eq_ii ?_ | refine eq_ss ?_)
local macro_rules | `(tactic| walk_at "NotEq") => `(tactic| first | refine ne_ii ?_ | refine ne_ss ?_)
local macro_rules | `(tactic| walk_at "In") => `(tactic| first | refine in_cs ?_ | refine in_il ?_ | refine in_sl ?_)
local macro_rules | `(tactic| walk_at "NotIn") => `(tactic| first | refine notIn_cs ?_)
local macro_rules | `(tactic| walk_at "Is") => `(tactic| first | refine isN none_unit ?_ | refine isN none_int ?_ | refine isN none_str ?_ | refine isN none_bool ?_ | refine isN none_list ?_ | refine isN none_ref ?_)
local macro_rules | `(tactic| walk_at "IsNot") => `(tactic| first | refine notN none_unit ?_ | refine notN none_int ?_ | refine notN none_str ?_)
local macro_rules | `(tactic| walk_at "i") => `(tactic| first
  | refine ix_own (n := 0) rfl rfl ?_ | refine ix_own (n := 1) rfl rfl ?_ | refine ix_own (n := 2) rfl rfl ?_ | refine ix_lU lu_hl rfl ?_ | refine ix_tupU tupU2 rfl ?_ | refine ix_tupU tupU4 rfl ?_ | refine ix_s (by walk_at "side") (by walk_at "at") ?_ | refine ix_l (by walk_at "at") ?_)
local macro_rules | `(tactic| walk_at "at") => `(tactic| first | rfl | assumption)
local macro_rules | `(tactic| walk_at "s") => `(tactic| first | refine sl_s (by walk_at "side") ?_ | refine sl_l ?_)
local macro_rules | `(tactic| walk_at "b int") => `(tactic| refine int_i ?_)
local macro_rules | `(tactic| walk_at "b abs") => `(tactic| refine abs_i ?_)
local macro_rules | `(tactic| walk_at "b max") => `(tactic| refine max_ii rfl ?_)
local macro_rules | `(tactic| walk_at "b min") => `(tactic| refine min_ii rfl ?_)
local macro_rules | `(tactic| walk_at "b len") => `(tactic| first | refine len_s (by walk_at "side") ?_ | refine len_l ?_ | refine len_own (n := 0) rfl ?_ | refine len_own (n := 1) rfl ?_ | refine len_own (n := 2) rfl ?_)
local macro_rules | `(tactic| walk_at "b sum") => `(tactic| refine sum_l rfl ?_)
local macro_rules | `(tactic| walk_at "b all") => `(tactic| refine all_l rfl ?_)
local macro_rules | `(tactic| walk_at "b any") => `(tactic| refine any_l rfl ?_)
local macro_rules | `(tactic| walk_at "b isinstance") => `(tactic| first | refine isi ty_int ?_ | refine isi ty_bool ?_ | refine isi ty_str ?_ | refine isi ty_none ?_ | refine isi ty_list ?_)
local macro_rules | `(tactic| walk_at "l") => `(tactic| first | refine .data (ys := [_]) rfl ?_ | refine .data (ys := [_, _]) rfl ?_ | refine .data (ys := [_, _, _]) rfl ?_ | refine .data (ys := [_, _, _, _]) rfl ?_ | refine .data (ys := [_, _, _, _, _]) rfl ?_ | refine .data (ys := [_, _, _, _, _, _]) rfl ?_ | refine .data (ys := [_, _, _, _, _, _, _]) rfl ?_ | refine .data (ys := [_, _, _, _, _, _, _, _, _, _]) rfl ?_ | refine .het ?_)
local macro_rules | `(tactic| walk_at "t") => `(tactic| first | refine tup2 ?_ | refine tup3 ?_ | refine tup4 ?_)
local macro_rules | `(tactic| walk_at "ty str") => `(tactic| refine ⟨ty_s, ?_⟩)
local macro_rules | `(tactic| walk_at "ty list") => `(tactic| first | refine ⟨ty_lU lu_l, ?_⟩ | refine ⟨ty_lU lu_hl, ?_⟩ | refine ⟨ty_lU (lu_own (n := 0) rfl), ?_⟩ | refine ⟨ty_lU (lu_own (n := 1) rfl), ?_⟩)


inductive Res
  | told
  | signs (v : Ov)
  | count (v : Ov)
def Res.ts : Res → List TV
  | .told => [tv (("told" : Str)), tv ()]
  | .signs v => [tv (("signs" : Str)), v.tv]
  | .count v => [tv (("count" : Str)), v.tv]
def Res.tv (r : Res) : TV := hl r.ts
/-- what a deed makes of a disk -/
def step (S : Sd) : Dd → Res × Sd
  | .put v => if v.isSg then (.told, ⟨S.text ++ v.s, S.sy, S.se⟩) else (.signs v, S)
  | .sync => (.told, ⟨S.text, S.text.length, S.se⟩)
  | .swap v c => if v.isSg then (if c.btw 0 v.s.length then (.told, ⟨v.s, v.s.length, c.i⟩) else (.count c, S)) else (.signs v, S)
  | .fall v => if v.isCount then (.told, ⟨Txt.slice S.text none (some (S.sy + v.i % (S.text.length - S.sy + 1))), S.sy + v.i % (S.text.length - S.sy + 1), S.se⟩) else (.count v, S)
  | .lose v => if v.isCount then (.told, ⟨Txt.slice S.text none (some (max S.se (min v.i S.text.length))), max S.se (min v.i S.text.length), S.se⟩) else (.count v, S)
  | .trim v => if v.btw S.se S.text.length then (.told, ⟨Txt.slice S.text none (some v.i), v.i, S.se⟩) else (.count v, S)
  | .settle v => if v.btw S.se S.sy then (.told, ⟨S.text, S.sy, v.i⟩) else (.count v, S)
theorem Ov.in_of {m : Mu} {v : Ov} (h : ∀ x ∈ v.mu, x ∈ m) : v.In m := by
  cases v with
  | own p ts ds => exact List.getElem?_of_mem (h _ (List.mem_singleton.mpr rfl))
  | _ => trivial
theorem Ov.Good.small {v : Ov} (h : v.Good) : v.Small := by
  cases v with
  | str s => exact ⟨by have := h.1; omega, h.2⟩
  | _ => trivial
section
variable {S : Sd} {v c : Ov}
theorem st_put1 (h : v.isSg = true) : step S (.put v) = (.told, ⟨S.text ++ v.s, S.sy, S.se⟩) := if_pos h
theorem st_put0 (h : v.isSg = false) : step S (.put v) = (.signs v, S) := if_neg (by rw [h]; exact Bool.false_ne_true)
theorem st_swap1 (h : v.isSg = true) (h2 : c.btw 0 v.s.length = true) : step S (.swap v c) = (.told, ⟨v.s, v.s.length, c.i⟩) := (if_pos h).trans (if_pos h2)
theorem st_swap0 (h : v.isSg = false) : step S (.swap v c) = (.signs v, S) := if_neg (by rw [h]; exact Bool.false_ne_true)
theorem st_swapC (h : v.isSg = true) (h2 : c.btw 0 v.s.length = false) : step S (.swap v c) = (.count c, S) := (if_pos h).trans (if_neg (by rw [h2]; exact Bool.false_ne_true))
theorem st_fall1 (h : v.isCount = true) : step S (.fall v) = (.told, ⟨Txt.slice S.text none (some (S.sy + v.i % (S.text.length - S.sy + 1))), S.sy + v.i % (S.text.length - S.sy + 1), S.se⟩) := if_pos h
theorem st_fall0 (h : v.isCount = false) : step S (.fall v) = (.count v, S) := if_neg (by rw [h]; exact Bool.false_ne_true)
theorem st_lose1 (h : v.isCount = true) : step S (.lose v) = (.told, ⟨Txt.slice S.text none (some (max S.se (min v.i S.text.length))), max S.se (min v.i S.text.length), S.se⟩) := if_pos h
theorem st_lose0 (h : v.isCount = false) : step S (.lose v) = (.count v, S) := if_neg (by rw [h]; exact Bool.false_ne_true)
theorem st_trim1 (h : v.btw S.se S.text.length = true) : step S (.trim v) = (.told, ⟨Txt.slice S.text none (some v.i), v.i, S.se⟩) := if_pos h
theorem st_trim0 (h : v.btw S.se S.text.length = false) : step S (.trim v) = (.count v, S) := if_neg (by rw [h]; exact Bool.false_ne_true)
theorem st_settle1 (h : v.btw S.se S.sy = true) : step S (.settle v) = (.told, ⟨S.text, S.sy, v.i⟩) := if_pos h
theorem st_settle0 (h : v.btw S.se S.sy = false) : step S (.settle v) = (.count v, S) := if_neg (by rw [h]; exact Bool.false_ne_true)
theorem big30 : (10 : Int) ^ (Int.toNat 30) = 1000000000000000000000000000000 := by decide +kernel
theorem btw_big (h : v.Good) : v.btw 0 ((10 : Int) ^ (Int.toNat 30)) = v.isCount := by
  cases v with
  | int i =>
    have h' : i.natAbs ≤ 10 ^ 20 := h
    show (decide (0 ≤ i) && decide (i ≤ (10 : Int) ^ (Int.toNat 30))) = decide (0 ≤ i)
    rw [big30, decide_eq_true (p := i ≤ 1000000000000000000000000000000) (by omega), Bool.and_true]
  | _ => rfl
end
def T_l_is_count : TSpec := T_is_between
def T_due : TSpec := fun xs m post _ => ∃ (q : Addr) (S : Sd) (D : Dd), xs = [tv (Ref.mk q), D.tv] ∧ m = (q, S.mv) :: D.mu ∧ S.Ok 100000 ∧ D.Good ∧ post (step S D).1.tv ((q, (step S D).2.mv) :: D.mu)
theorem res_tv {a b : TV} {m : Mu} {P : TV → Mu → Prop} {r : Res} (h : P r.tv m) (e : r.ts = [a, b]) : P (hl [a, b]) m := by
  unfold Res.tv at h
  rw [e] at h
  exact h

section
variable {P : Program} {w : World} {K : PySem.W.Frag} {mg : Str → Option Value} {base : Heap} {CE CS CC CD : Addr}

theorem ok_l_is_count (T : Tx K mg base CE CS CC CD) : DefK P w K mg base "_law_is_count" 1 T_l_is_count [] := by
  obtain ⟨f, fd, F, hm⟩ := T.f_l_is_count
  have sc := sc_l_is_count
  refine defK_mk F (fn_ok F sc_l_is_count (fun xs m post xp h => ?_) fun cdv A outer s H E B0 H0 xs m post xp hgd hr hT hx => ?_) hm (fun kV doc pm an cdv ct us hl => match us, hl with | [a0, a1, a2], _ => rfl)
  · obtain ⟨_, _, _, h, _⟩ := h; subst h; rfl
  obtain ⟨v, lo, hi, rfl, hv, hpost⟩ := hT
  refine wss_one ?_
  refine ws_ret ?_
  refine we_eqv (t := ?t1) ?hv1 ?hk1
  case hv1 =>
    refine we_andP (A := ?A2) (R := !v.isBool && v.btw lo hi) ?ha2 (fun hg => ?hb2)
    case ha2 =>
      refine we_callB (id := "isinstance") T.isinstance ?_ bt_isinstance
      refine wa_cons ?_
      refine we_name 0 ?_
      refine wa_cons ?_
      refine we_type (T := "int") T.int ?_ bt_int
      refine wa_nil ?_
      first | refine isiM (Ov.tym (by assumption)) ?_ (Ov.kitI _) | refine isiM (Ov.tym (by assumption)) ?_ (Ov.kitBo _)
      exact eqv_rfl
    case hb2 =>
      have hg1 := hg
      refine we_andP (A := ?A3) (R := v.btw lo hi) ?ha3 (fun hg => ?hb3)
      case ha3 =>
        refine we_notP (A := ?A4) ?hn4
        case hn4 =>
          refine we_callB (id := "isinstance") T.isinstance ?_ bt_isinstance
          refine wa_cons ?_
          refine we_name 0 ?_
          refine wa_cons ?_
          refine we_type (T := "bool") T.bool ?_ bt_bool
          refine wa_nil ?_
          first | refine isiM (Ov.tym (by assumption)) ?_ (Ov.kitI _) | refine isiM (Ov.tym (by assumption)) ?_ (Ov.kitBo _)
          exact eqv_rfl
      case hb3 =>
        obtain ⟨x, rfl⟩ : ∃ x, v = .int x := by
          cases v with
          | int i => exact ⟨i, rfl⟩
          | bool b => exact absurd hg (by simp [Ov.isBool])
          | _ => exact absurd hg1 (by simp [Ov.isInt, Ov.isBool])
        refine we_one ?_
        refine we_chainQ (x := ?x_5) (y := ?y_5) (z := ?z_5) (A := ?A_5) (R := ?R_5) ?ha_5 ?hb_5 ?h1_5 ?hc_5 ?h2_5 ?hm_5
        case ha_5 =>
          refine we_name 1 ?_
          exact eqv_rfl
        case hb_5 =>
          refine we_name 0 ?_
          exact eqv_rfl
        case hc_5 =>
          refine we_name 2 ?_
          exact eqv_rfl
        case h1_5 =>
          walk_at "LtE"
          exact eqv_rfl
        case h2_5 =>
          walk_at "LtE"
          exact eqv_rfl
        case hm_5 => with_unfolding_all rfl
  case hk1 =>
    skip
    have e : ((v.isInt || v.isBool) && (!v.isBool && v.btw lo hi)) = v.btw lo hi := by cases v <;> rfl
    rw [e]
    exact hpost
theorem ok_l_due (T : Tx K mg base CE CS CC CD) : DefK P w K mg base "_law_due" 2 T_due [] := by
  obtain ⟨f, fd, F, hm⟩ := T.f_l_due
  have sc := sc_l_due
  refine defK_mk F (fn_ok F sc_l_due (fun xs m post xp h => ?_) fun cdv A outer s H E B0 H0 xs m post xp hgd hr hT hx => ?_) hm (fun kV doc pm an cdv ct us hl => match us, hl with | [a0, a1], _ => rfl)
  · obtain ⟨_, _, _, h, _⟩ := h; subst h; rfl
  obtain ⟨q, S, D, rfl, rfl, hS, hgd2, hpost⟩ := hT
  obtain ⟨hpr, hlen, he0, hey, hyl⟩ := id hS
  cases D with

  | put v =>
    have hin : v.In ((q, S.mv) :: v.mu) := Ov.in_of fun x hx => List.mem_cons_of_mem _ hx
    refine wss_cons ?_
    refine ws_asg ?_
    refine we_tuple ?_
    refine wa_cons ?_
    refine we_ix ?_
    refine we_name 1 ?_
    refine we_int ?_
    walk_at "i"
    refine wa_cons ?_
    refine we_callB (id := "len") T.len ?_ bt_len
    refine wa_cons ?_
    refine we_ix ?_
    refine we_name 0 ?_
    refine we_int ?_
    walk_at "i"
    refine wa_nil ?_
    refine len_s (by omega) ?_
    refine wa_cons ?_
    refine we_ix ?_
    refine we_name 0 ?_
    refine we_int ?_
    walk_at "i"
    refine wa_cons ?_
    refine we_ix ?_
    refine we_name 0 ?_
    refine we_int ?_
    walk_at "i"
    refine wa_nil ?_
    refine ⟨by first | decide | simp, ?_⟩
    refine tup4 ?_
    refine wg_tup tupU4 ?_ rfl
    refine wgs_cons ?_
    refine wg_name 2 ?_ sc.nd
    refine wgs_cons ?_
    refine wg_name 3 ?_ sc.nd
    refine wgs_cons ?_
    refine wg_name 4 ?_ sc.nd
    refine wgs_cons ?_
    refine wg_name 5 ?_ sc.nd
    refine wgs_nil ?_
    refine wss_cons ?_
    refine ws_if ?_
    refine wt_bool ?_
    refine ww_and ?_
    refine wt_cmp ?_
    refine we_name 2 ?_
    refine we_list ?_
    refine wa_cons ?_
    refine we_str ?_
    refine wa_cons ?_
    refine we_str ?_
    refine wa_nil ?_
    refine ⟨by first | decide | simp, ?_⟩
    refine .data (ys := [_, _]) rfl ?_
    walk_at "In"
    refine BoolP.of ?_
    refine ⟨fun h => ?_, fun h => ?_⟩
    · skip
      refine ww_and1 ?_
      refine wt_not ?_
      refine wt_val ?_
      refine we_call (ok_l_is_signs T) hgd hr xt0 ?_
      refine wa_cons ?_
      refine we_ix ?_
      refine we_name 1 ?_
      refine we_int ?_
      walk_at "i"
      refine wa_nil ?_
      refine FrP.all ⟨v, rfl, hin, hgd2.small, ?_⟩
      refine BoolP.of ?_
      refine ⟨fun h => ?_, fun h => ?_⟩
      · skip
        try simp only [Bool.and_eq_true, Bool.or_eq_true, Bool.and_eq_false_iff, Bool.or_eq_false_iff, Bool.not_eq_true, Bool.not_eq_false, Bool.not_eq_true', Bool.not_eq_false', decide_eq_true_eq, decide_eq_false_iff_not] at h
        refine wss_one ?_
        refine ws_ret ?_
        refine we_list ?_
        refine wa_cons ?_
        refine we_str ?_
        refine wa_cons ?_
        refine we_ix ?_
        refine we_name 1 ?_
        refine we_int ?_
        walk_at "i"
        refine wa_nil ?_
        refine ⟨by first | decide | simp, ?_⟩
        refine .het ?_
        have hsg : v.isSg = false := by simpa using h
        rw [st_put0 hsg] at hpost
        exact res_tv hpost rfl
      · skip
        have hsg : v.isSg = true := by simpa using h
        obtain ⟨x, rfl⟩ := Ov.sg_str hsg
        try simp only [Bool.and_eq_true, Bool.or_eq_true, Bool.and_eq_false_iff, Bool.or_eq_false_iff, Bool.not_eq_true, Bool.not_eq_false, Bool.not_eq_true', Bool.not_eq_false', decide_eq_true_eq, decide_eq_false_iff_not] at h
        refine wss_nil ?_
        refine wss_cons ?_
        refine ws_ifP (B := ?B20) ?hc20 (fun h => ?ht20) (fun h => ?hf20)
        case hc20 =>
          refine wt_cmp ?_
          refine we_name 2 ?_
          refine we_str ?_
          walk_at "Eq"
          refine BoolP.of ?_
          exact eqb_rfl
        case ht20 =>
          skip
          try simp only [Bool.and_eq_true, Bool.or_eq_true, Bool.and_eq_false_iff, Bool.or_eq_false_iff, Bool.not_eq_true, Bool.not_eq_false, Bool.not_eq_true', Bool.not_eq_false', decide_eq_true_eq, decide_eq_false_iff_not] at h
          refine wss_cons ?_
          refine ws_asg ?_
          refine we_bin ?_
          refine we_ix ?_
          refine we_name 0 ?_
          refine we_int ?_
          walk_at "i"
          refine we_ix ?_
          refine we_name 1 ?_
          refine we_int ?_
          walk_at "i"
          refine add_ss (by have := hgd2.1; omega) ?_
          refine wg_subL ?_
          refine we_name 0 ?_
          refine we_int ?_
          refine ⟨_, 0, _, _, _, rfl, rfl, rfl, rfl, ?_⟩
          refine wss_one ?_
          refine ws_ret ?_
          refine we_list ?_
          refine wa_cons ?_
          refine we_str ?_
          refine wa_cons ?_
          refine we_none ?_
          refine wa_nil ?_
          refine ⟨by first | decide | simp, ?_⟩
          refine .het ?_
          rw [st_put1 hsg] at hpost
          exact res_tv hpost rfl
        case hf20 =>
          skip
          first | done | exact absurd h (by decide +kernel) | (exfalso; revert h; decide +kernel)
    · skip
      first | done | exact absurd h (by decide +kernel) | (exfalso; revert h; decide +kernel)
  | sync =>
    refine wss_cons ?_
    refine ws_asg ?_
    refine we_tuple ?_
    refine wa_cons ?_
    refine we_ix ?_
    refine we_name 1 ?_
    refine we_int ?_
    walk_at "i"
    refine wa_cons ?_
    refine we_callB (id := "len") T.len ?_ bt_len
    refine wa_cons ?_
    refine we_ix ?_
    refine we_name 0 ?_
    refine we_int ?_
    walk_at "i"
    refine wa_nil ?_
    refine len_s (by omega) ?_
    refine wa_cons ?_
    refine we_ix ?_
    refine we_name 0 ?_
    refine we_int ?_
    walk_at "i"
    refine wa_cons ?_
    refine we_ix ?_
    refine we_name 0 ?_
    refine we_int ?_
    walk_at "i"
    refine wa_nil ?_
    refine ⟨by first | decide | simp, ?_⟩
    refine tup4 ?_
    refine wg_tup tupU4 ?_ rfl
    refine wgs_cons ?_
    refine wg_name 2 ?_ sc.nd
    refine wgs_cons ?_
    refine wg_name 3 ?_ sc.nd
    refine wgs_cons ?_
    refine wg_name 4 ?_ sc.nd
    refine wgs_cons ?_
    refine wg_name 5 ?_ sc.nd
    refine wgs_nil ?_
    refine wss_cons ?_
    refine ws_if ?_
    refine wt_bool ?_
    refine ww_and ?_
    refine wt_cmp ?_
    refine we_name 2 ?_
    refine we_list ?_
    refine wa_cons ?_
    refine we_str ?_
    refine wa_cons ?_
    refine we_str ?_
    refine wa_nil ?_
    refine ⟨by first | decide | simp, ?_⟩
    refine .data (ys := [_, _]) rfl ?_
    walk_at "In"
    refine BoolP.of ?_
    refine ⟨fun h => ?_, fun h => ?_⟩
    · skip
      first | done | exact absurd h (by decide +kernel) | (exfalso; revert h; decide +kernel)
    · skip
      refine ⟨fun h => ?_, fun h => ?_⟩
      · skip
        first | done | exact absurd h (by decide +kernel) | (exfalso; revert h; decide +kernel)
      · skip
        try simp only [Bool.and_eq_true, Bool.or_eq_true, Bool.and_eq_false_iff, Bool.or_eq_false_iff, Bool.not_eq_true, Bool.not_eq_false, Bool.not_eq_true', Bool.not_eq_false', decide_eq_true_eq, decide_eq_false_iff_not] at h
        refine wss_nil ?_
        refine wss_cons ?_
        refine ws_ifP (B := ?B21) ?hc21 (fun h => ?ht21) (fun h => ?hf21)
        case hc21 =>
          refine wt_cmp ?_
          refine we_name 2 ?_
          refine we_str ?_
          walk_at "Eq"
          refine BoolP.of ?_
          exact eqb_rfl
        case ht21 =>
          skip
          first | done | exact absurd h (by decide +kernel) | (exfalso; revert h; decide +kernel)
        case hf21 =>
          skip
          try simp only [Bool.and_eq_true, Bool.or_eq_true, Bool.and_eq_false_iff, Bool.or_eq_false_iff, Bool.not_eq_true, Bool.not_eq_false, Bool.not_eq_true', Bool.not_eq_false', decide_eq_true_eq, decide_eq_false_iff_not] at h
          refine wss_nil ?_
          refine wss_cons ?_
          refine ws_ifP (B := ?B22) ?hc22 (fun h => ?ht22) (fun h => ?hf22)
          case hc22 =>
            refine wt_cmp ?_
            refine we_name 2 ?_
            refine we_str ?_
            walk_at "Eq"
            refine BoolP.of ?_
            exact eqb_rfl
          case ht22 =>
            skip
            first | done | exact absurd h (by decide +kernel) | (exfalso; revert h; decide +kernel)
          case hf22 =>
            skip
            try simp only [Bool.and_eq_true, Bool.or_eq_true, Bool.and_eq_false_iff, Bool.or_eq_false_iff, Bool.not_eq_true, Bool.not_eq_false, Bool.not_eq_true', Bool.not_eq_false', decide_eq_true_eq, decide_eq_false_iff_not] at h
            refine wss_nil ?_
            refine wss_cons ?_
            refine ws_ifP (B := ?B23) ?hc23 (fun h => ?ht23) (fun h => ?hf23)
            case hc23 =>
              refine wt_cmp ?_
              refine we_name 2 ?_
              refine we_str ?_
              walk_at "Eq"
              refine BoolP.of ?_
              exact eqb_rfl
            case ht23 =>
              skip
              try simp only [Bool.and_eq_true, Bool.or_eq_true, Bool.and_eq_false_iff, Bool.or_eq_false_iff, Bool.not_eq_true, Bool.not_eq_false, Bool.not_eq_true', Bool.not_eq_false', decide_eq_true_eq, decide_eq_false_iff_not] at h
              refine wss_cons ?_
              refine ws_asg ?_
              refine we_name 3 ?_
              refine wg_subL ?_
              refine we_name 0 ?_
              refine we_int ?_
              refine ⟨_, 0, _, _, _, rfl, rfl, rfl, rfl, ?_⟩
              refine wss_one ?_
              refine ws_ret ?_
              refine we_list ?_
              refine wa_cons ?_
              refine we_str ?_
              refine wa_cons ?_
              refine we_none ?_
              refine wa_nil ?_
              refine ⟨by first | decide | simp, ?_⟩
              refine .het ?_
              rw [show step S .sync = (.told, ⟨S.text, S.text.length, S.se⟩) from rfl] at hpost
              exact res_tv hpost rfl
            case hf23 =>
              skip
              first | done | exact absurd h (by decide +kernel) | (exfalso; revert h; decide +kernel)
  | swap v c =>
    have hin : v.In ((q, S.mv) :: (v.mu ++ c.mu)) := Ov.in_of fun x hx => List.mem_cons_of_mem _ (List.mem_append_left _ hx)
    have hinc : c.In ((q, S.mv) :: (v.mu ++ c.mu)) := Ov.in_of fun x hx => List.mem_cons_of_mem _ (List.mem_append_right _ hx)
    refine wss_cons ?_
    refine ws_asg ?_
    refine we_tuple ?_
    refine wa_cons ?_
    refine we_ix ?_
    refine we_name 1 ?_
    refine we_int ?_
    walk_at "i"
    refine wa_cons ?_
    refine we_callB (id := "len") T.len ?_ bt_len
    refine wa_cons ?_
    refine we_ix ?_
    refine we_name 0 ?_
    refine we_int ?_
    walk_at "i"
    refine wa_nil ?_
    refine len_s (by omega) ?_
    refine wa_cons ?_
    refine we_ix ?_
    refine we_name 0 ?_
    refine we_int ?_
    walk_at "i"
    refine wa_cons ?_
    refine we_ix ?_
    refine we_name 0 ?_
    refine we_int ?_
    walk_at "i"
    refine wa_nil ?_
    refine ⟨by first | decide | simp, ?_⟩
    refine tup4 ?_
    refine wg_tup tupU4 ?_ rfl
    refine wgs_cons ?_
    refine wg_name 2 ?_ sc.nd
    refine wgs_cons ?_
    refine wg_name 3 ?_ sc.nd
    refine wgs_cons ?_
    refine wg_name 4 ?_ sc.nd
    refine wgs_cons ?_
    refine wg_name 5 ?_ sc.nd
    refine wgs_nil ?_
    refine wss_cons ?_
    refine ws_if ?_
    refine wt_bool ?_
    refine ww_and ?_
    refine wt_cmp ?_
    refine we_name 2 ?_
    refine we_list ?_
    refine wa_cons ?_
    refine we_str ?_
    refine wa_cons ?_
    refine we_str ?_
    refine wa_nil ?_
    refine ⟨by first | decide | simp, ?_⟩
    refine .data (ys := [_, _]) rfl ?_
    walk_at "In"
    refine BoolP.of ?_
    refine ⟨fun h => ?_, fun h => ?_⟩
    · skip
      refine ww_and1 ?_
      refine wt_not ?_
      refine wt_val ?_
      refine we_call (ok_l_is_signs T) hgd hr xt0 ?_
      refine wa_cons ?_
      refine we_ix ?_
      refine we_name 1 ?_
      refine we_int ?_
      walk_at "i"
      refine wa_nil ?_
      refine FrP.all ⟨v, rfl, hin, hgd2.1.small, ?_⟩
      refine BoolP.of ?_
      refine ⟨fun h => ?_, fun h => ?_⟩
      · skip
        try simp only [Bool.and_eq_true, Bool.or_eq_true, Bool.and_eq_false_iff, Bool.or_eq_false_iff, Bool.not_eq_true, Bool.not_eq_false, Bool.not_eq_true', Bool.not_eq_false', decide_eq_true_eq, decide_eq_false_iff_not] at h
        refine wss_one ?_
        refine ws_ret ?_
        refine we_list ?_
        refine wa_cons ?_
        refine we_str ?_
        refine wa_cons ?_
        refine we_ix ?_
        refine we_name 1 ?_
        refine we_int ?_
        walk_at "i"
        refine wa_nil ?_
        refine ⟨by first | decide | simp, ?_⟩
        refine .het ?_
        have hsg : v.isSg = false := by simpa using h
        rw [st_swap0 hsg] at hpost
        exact res_tv hpost rfl
      · skip
        have hsg : v.isSg = true := by simpa using h
        obtain ⟨x, rfl⟩ := Ov.sg_str hsg
        try simp only [Bool.and_eq_true, Bool.or_eq_true, Bool.and_eq_false_iff, Bool.or_eq_false_iff, Bool.not_eq_true, Bool.not_eq_false, Bool.not_eq_true', Bool.not_eq_false', decide_eq_true_eq, decide_eq_false_iff_not] at h
        refine wss_nil ?_
        refine wss_cons ?_
        refine ws_ifP (B := ?B24) ?hc24 (fun h => ?ht24) (fun h => ?hf24)
        case hc24 =>
          refine wt_cmp ?_
          refine we_name 2 ?_
          refine we_str ?_
          walk_at "Eq"
          refine BoolP.of ?_
          exact eqb_rfl
        case ht24 =>
          skip
          first | done | exact absurd h (by decide +kernel) | (exfalso; revert h; decide +kernel)
        case hf24 =>
          skip
          try simp only [Bool.and_eq_true, Bool.or_eq_true, Bool.and_eq_false_iff, Bool.or_eq_false_iff, Bool.not_eq_true, Bool.not_eq_false, Bool.not_eq_true', Bool.not_eq_false', decide_eq_true_eq, decide_eq_false_iff_not] at h
          refine wss_nil ?_
          refine wss_cons ?_
          refine ws_ifP (B := ?B25) ?hc25 (fun h => ?ht25) (fun h => ?hf25)
          case hc25 =>
            refine wt_cmp ?_
            refine we_name 2 ?_
            refine we_str ?_
            walk_at "Eq"
            refine BoolP.of ?_
            exact eqb_rfl
          case ht25 =>
            skip
            try simp only [Bool.and_eq_true, Bool.or_eq_true, Bool.and_eq_false_iff, Bool.or_eq_false_iff, Bool.not_eq_true, Bool.not_eq_false, Bool.not_eq_true', Bool.not_eq_false', decide_eq_true_eq, decide_eq_false_iff_not] at h
            refine wss_cons ?_
            refine ws_if ?_
            refine wt_not ?_
            refine wt_val ?_
            refine we_call (ok_l_is_count T) hgd hr xt0 ?_
            refine wa_cons ?_
            refine we_ix ?_
            refine we_name 1 ?_
            refine we_int ?_
            walk_at "i"
            refine wa_cons ?_
            refine we_int ?_
            refine wa_cons ?_
            refine we_callB (id := "len") T.len ?_ bt_len
            refine wa_cons ?_
            refine we_ix ?_
            refine we_name 1 ?_
            refine we_int ?_
            walk_at "i"
            refine wa_nil ?_
            refine len_s (by have := hgd2.1.1; omega) ?_
            refine wa_nil ?_
            refine FrP.all ⟨c, _, _, rfl, hinc, ?_⟩
            refine BoolP.of ?_
            refine ⟨fun h => ?_, fun h => ?_⟩
            · skip
              try simp only [Bool.and_eq_true, Bool.or_eq_true, Bool.and_eq_false_iff, Bool.or_eq_false_iff, Bool.not_eq_true, Bool.not_eq_false, Bool.not_eq_true', Bool.not_eq_false', decide_eq_true_eq, decide_eq_false_iff_not] at h
              refine wss_one ?_
              refine ws_ret ?_
              refine we_list ?_
              refine wa_cons ?_
              refine we_str ?_
              refine wa_cons ?_
              refine we_ix ?_
              refine we_name 1 ?_
              refine we_int ?_
              walk_at "i"
              refine wa_nil ?_
              refine ⟨by first | decide | simp, ?_⟩
              refine .het ?_
              have hbt : c.btw 0 ((x.length : Nat) : Int) = false := by simpa using h
              rw [st_swapC hsg hbt] at hpost
              exact res_tv hpost rfl
            · skip
              have hbt : c.btw 0 ((x.length : Nat) : Int) = true := by simpa using h
              obtain ⟨z, rfl, hz1, hz2⟩ := Ov.btw_int hbt
              refine wss_nil ?_
              refine wss_cons ?_
              refine ws_asg ?_
              refine we_ix ?_
              refine we_name 1 ?_
              refine we_int ?_
              walk_at "i"
              refine wg_subL ?_
              refine we_name 0 ?_
              refine we_int ?_
              refine ⟨_, 0, _, _, _, rfl, rfl, rfl, rfl, ?_⟩
              refine wss_cons ?_
              refine ws_asg ?_
              refine we_callB (id := "len") T.len ?_ bt_len
              refine wa_cons ?_
              refine we_ix ?_
              refine we_name 1 ?_
              refine we_int ?_
              walk_at "i"
              refine wa_nil ?_
              refine len_s (by have := hgd2.1.1; omega) ?_
              refine wg_subL ?_
              refine we_name 0 ?_
              refine we_int ?_
              refine ⟨_, 0, _, _, _, rfl, rfl, rfl, rfl, ?_⟩
              refine wss_cons ?_
              refine ws_asg ?_
              refine we_ix ?_
              refine we_name 1 ?_
              refine we_int ?_
              walk_at "i"
              refine wg_subL ?_
              refine we_name 0 ?_
              refine we_int ?_
              refine ⟨_, 0, _, _, _, rfl, rfl, rfl, rfl, ?_⟩
              refine wss_one ?_
              refine ws_ret ?_
              refine we_list ?_
              refine wa_cons ?_
              refine we_str ?_
              refine wa_cons ?_
              refine we_none ?_
              refine wa_nil ?_
              refine ⟨by first | decide | simp, ?_⟩
              refine .het ?_
              rw [st_swap1 hsg hbt] at hpost
              exact res_tv hpost rfl
          case hf25 =>
            skip
            first | done | exact absurd h (by decide +kernel) | (exfalso; revert h; decide +kernel)
    · skip
      first | done | exact absurd h (by decide +kernel) | (exfalso; revert h; decide +kernel)
  | fall v =>
    have hin : v.In ((q, S.mv) :: v.mu) := Ov.in_of fun x hx => List.mem_cons_of_mem _ hx
    refine wss_cons ?_
    refine ws_asg ?_
    refine we_tuple ?_
    refine wa_cons ?_
    refine we_ix ?_
    refine we_name 1 ?_
    refine we_int ?_
    walk_at "i"
    refine wa_cons ?_
    refine we_callB (id := "len") T.len ?_ bt_len
    refine wa_cons ?_
    refine we_ix ?_
    refine we_name 0 ?_
    refine we_int ?_
    walk_at "i"
    refine wa_nil ?_
    refine len_s (by omega) ?_
    refine wa_cons ?_
    refine we_ix ?_
    refine we_name 0 ?_
    refine we_int ?_
    walk_at "i"
    refine wa_cons ?_
    refine we_ix ?_
    refine we_name 0 ?_
    refine we_int ?_
    walk_at "i"
    refine wa_nil ?_
    refine ⟨by first | decide | simp, ?_⟩
    refine tup4 ?_
    refine wg_tup tupU4 ?_ rfl
    refine wgs_cons ?_
    refine wg_name 2 ?_ sc.nd
    refine wgs_cons ?_
    refine wg_name 3 ?_ sc.nd
    refine wgs_cons ?_
    refine wg_name 4 ?_ sc.nd
    refine wgs_cons ?_
    refine wg_name 5 ?_ sc.nd
    refine wgs_nil ?_
    refine wss_cons ?_
    refine ws_if ?_
    refine wt_bool ?_
    refine ww_and ?_
    refine wt_cmp ?_
    refine we_name 2 ?_
    refine we_list ?_
    refine wa_cons ?_
    refine we_str ?_
    refine wa_cons ?_
    refine we_str ?_
    refine wa_nil ?_
    refine ⟨by first | decide | simp, ?_⟩
    refine .data (ys := [_, _]) rfl ?_
    walk_at "In"
    refine BoolP.of ?_
    refine ⟨fun h => ?_, fun h => ?_⟩
    · skip
      first | done | exact absurd h (by decide +kernel) | (exfalso; revert h; decide +kernel)
    · skip
      refine ⟨fun h => ?_, fun h => ?_⟩
      · skip
        first | done | exact absurd h (by decide +kernel) | (exfalso; revert h; decide +kernel)
      · skip
        try simp only [Bool.and_eq_true, Bool.or_eq_true, Bool.and_eq_false_iff, Bool.or_eq_false_iff, Bool.not_eq_true, Bool.not_eq_false, Bool.not_eq_true', Bool.not_eq_false', decide_eq_true_eq, decide_eq_false_iff_not] at h
        refine wss_nil ?_
        refine wss_cons ?_
        refine ws_ifP (B := ?B26) ?hc26 (fun h => ?ht26) (fun h => ?hf26)
        case hc26 =>
          refine wt_cmp ?_
          refine we_name 2 ?_
          refine we_str ?_
          walk_at "Eq"
          refine BoolP.of ?_
          exact eqb_rfl
        case ht26 =>
          skip
          first | done | exact absurd h (by decide +kernel) | (exfalso; revert h; decide +kernel)
        case hf26 =>
          skip
          try simp only [Bool.and_eq_true, Bool.or_eq_true, Bool.and_eq_false_iff, Bool.or_eq_false_iff, Bool.not_eq_true, Bool.not_eq_false, Bool.not_eq_true', Bool.not_eq_false', decide_eq_true_eq, decide_eq_false_iff_not] at h
          refine wss_nil ?_
          refine wss_cons ?_
          refine ws_ifP (B := ?B27) ?hc27 (fun h => ?ht27) (fun h => ?hf27)
          case hc27 =>
            refine wt_cmp ?_
            refine we_name 2 ?_
            refine we_str ?_
            walk_at "Eq"
            refine BoolP.of ?_
            exact eqb_rfl
          case ht27 =>
            skip
            first | done | exact absurd h (by decide +kernel) | (exfalso; revert h; decide +kernel)
          case hf27 =>
            skip
            try simp only [Bool.and_eq_true, Bool.or_eq_true, Bool.and_eq_false_iff, Bool.or_eq_false_iff, Bool.not_eq_true, Bool.not_eq_false, Bool.not_eq_true', Bool.not_eq_false', decide_eq_true_eq, decide_eq_false_iff_not] at h
            refine wss_nil ?_
            refine wss_cons ?_
            refine ws_ifP (B := ?B28) ?hc28 (fun h => ?ht28) (fun h => ?hf28)
            case hc28 =>
              refine wt_cmp ?_
              refine we_name 2 ?_
              refine we_str ?_
              walk_at "Eq"
              refine BoolP.of ?_
              exact eqb_rfl
            case ht28 =>
              skip
              first | done | exact absurd h (by decide +kernel) | (exfalso; revert h; decide +kernel)
            case hf28 =>
              skip
              try simp only [Bool.and_eq_true, Bool.or_eq_true, Bool.and_eq_false_iff, Bool.or_eq_false_iff, Bool.not_eq_true, Bool.not_eq_false, Bool.not_eq_true', Bool.not_eq_false', decide_eq_true_eq, decide_eq_false_iff_not] at h
              refine wss_nil ?_
              refine wss_cons ?_
              refine ws_set 6 ?_ sc.nd
              refine we_ix ?_
              refine we_list ?_
              refine wa_cons ?_
              refine we_int ?_
              refine wa_cons ?_
              refine we_int ?_
              refine wa_cons ?_
              refine we_name 5 ?_
              refine wa_cons ?_
              refine we_name 5 ?_
              refine wa_nil ?_
              refine ⟨by first | decide | simp, ?_⟩
              refine .data (ys := [_, _, _, _]) rfl ?_
              refine we_bm PySem.F.plainAttrs_list PySem.F.slot_list_index ?_
              refine we_list ?_
              refine wa_cons ?_
              refine we_str ?_
              refine wa_cons ?_
              refine we_str ?_
              refine wa_cons ?_
              refine we_str ?_
              refine wa_cons ?_
              refine we_str ?_
              refine wa_nil ?_
              refine ⟨by first | decide | simp, ?_⟩
              refine .data (ys := [_, _, _, _]) rfl ?_
              walk_at "ty list"
              refine wa_cons ?_
              refine we_name 2 ?_
              refine wa_nil ?_
              refine index_sB 0 ?_
              walk_at "i"
              refine wss_cons ?_
              refine ws_set 7 ?_ sc.nd
              refine we_ix ?_
              refine we_list ?_
              refine wa_cons ?_
              refine we_bin ?_
              refine we_int ?_
              refine we_int ?_
              walk_at "Pow"
              refine wa_cons ?_
              refine we_bin ?_
              refine we_int ?_
              refine we_int ?_
              walk_at "Pow"
              refine wa_cons ?_
              refine we_name 3 ?_
              refine wa_cons ?_
              refine we_name 4 ?_
              refine wa_nil ?_
              refine ⟨by first | decide | simp, ?_⟩
              refine .data (ys := [_, _, _, _]) rfl ?_
              refine we_bm PySem.F.plainAttrs_list PySem.F.slot_list_index ?_
              refine we_list ?_
              refine wa_cons ?_
              refine we_str ?_
              refine wa_cons ?_
              refine we_str ?_
              refine wa_cons ?_
              refine we_str ?_
              refine wa_cons ?_
              refine we_str ?_
              refine wa_nil ?_
              refine ⟨by first | decide | simp, ?_⟩
              refine .data (ys := [_, _, _, _]) rfl ?_
              walk_at "ty list"
              refine wa_cons ?_
              refine we_name 2 ?_
              refine wa_nil ?_
              refine index_sB 0 ?_
              walk_at "i"
              refine wss_cons ?_
              refine ws_if ?_
              refine wt_not ?_
              refine wt_val ?_
              refine we_call (ok_l_is_count T) hgd hr xt0 ?_
              refine wa_cons ?_
              refine we_ix ?_
              refine we_name 1 ?_
              refine we_int ?_
              walk_at "i"
              refine wa_cons ?_
              refine we_name 6 ?_
              refine wa_cons ?_
              refine we_name 7 ?_
              refine wa_nil ?_
              refine FrP.all ⟨v, _, _, rfl, hin, ?_⟩
              refine BoolP.of ?_
              refine ⟨fun h => ?_, fun h => ?_⟩
              · skip
                try simp only [Bool.and_eq_true, Bool.or_eq_true, Bool.and_eq_false_iff, Bool.or_eq_false_iff, Bool.not_eq_true, Bool.not_eq_false, Bool.not_eq_true', Bool.not_eq_false', decide_eq_true_eq, decide_eq_false_iff_not] at h
                refine wss_one ?_
                refine ws_ret ?_
                refine we_list ?_
                refine wa_cons ?_
                refine we_str ?_
                refine wa_cons ?_
                refine we_ix ?_
                refine we_name 1 ?_
                refine we_int ?_
                walk_at "i"
                refine wa_nil ?_
                refine ⟨by first | decide | simp, ?_⟩
                refine .het ?_
                have hct : v.isCount = false := by rw [← btw_big hgd2]; simpa using h
                rw [st_fall0 hct] at hpost
                exact res_tv hpost rfl
              · skip
                have hct : v.isCount = true := by rw [← btw_big hgd2]; simpa using h
                obtain ⟨x, rfl, hx1⟩ := Ov.count_int hct
                refine wss_nil ?_
                refine wss_cons ?_
                refine ws_ifP (B := ?B29) ?hc29 (fun h => ?ht29) (fun h => ?hf29)
                case hc29 =>
                  refine wt_cmp ?_
                  refine we_name 2 ?_
                  refine we_str ?_
                  walk_at "Eq"
                  refine BoolP.of ?_
                  exact eqb_rfl
                case ht29 =>
                  skip
                  first | done | exact absurd h (by decide +kernel) | (exfalso; revert h; decide +kernel)
                case hf29 =>
                  skip
                  try simp only [Bool.and_eq_true, Bool.or_eq_true, Bool.and_eq_false_iff, Bool.or_eq_false_iff, Bool.not_eq_true, Bool.not_eq_false, Bool.not_eq_true', Bool.not_eq_false', decide_eq_true_eq, decide_eq_false_iff_not] at h
                  refine wss_nil ?_
                  refine wss_cons ?_
                  refine ws_set 8 ?_ sc.nd
                  refine we_ifP (B := ?B30) ?hc30 (fun h => ?ht30) (fun h => ?hf30)
                  case hc30 =>
                    refine wt_cmp ?_
                    refine we_name 2 ?_
                    refine we_str ?_
                    walk_at "Eq"
                    refine BoolP.of ?_
                    exact eqb_rfl
                  case ht30 =>
                    skip
                    first | done | exact absurd h (by decide +kernel) | (exfalso; revert h; decide +kernel)
                  case hf30 =>
                    skip
                    try simp only [Bool.and_eq_true, Bool.or_eq_true, Bool.and_eq_false_iff, Bool.or_eq_false_iff, Bool.not_eq_true, Bool.not_eq_false, Bool.not_eq_true', Bool.not_eq_false', decide_eq_true_eq, decide_eq_false_iff_not] at h
                    refine we_callB (id := "max") T.max ?_ bt_max
                    refine wa_cons ?_
                    refine we_name 5 ?_
                    refine wa_cons ?_
                    refine we_callB (id := "min") T.min ?_ bt_min
                    refine wa_cons ?_
                    refine we_ix ?_
                    refine we_name 1 ?_
                    refine we_int ?_
                    walk_at "i"
                    refine wa_cons ?_
                    refine we_name 3 ?_
                    refine wa_nil ?_
                    walk_at "b min"
                    refine wa_nil ?_
                    walk_at "b max"
                    refine wss_cons ?_
                    refine ws_ifP (B := ?B31) ?hc31 (fun h => ?ht31) (fun h => ?hf31)
                    case hc31 =>
                      refine wt_cmp ?_
                      refine we_name 2 ?_
                      refine we_str ?_
                      walk_at "Eq"
                      refine BoolP.of ?_
                      exact eqb_rfl
                    case ht31 =>
                      skip
                      try simp only [Bool.and_eq_true, Bool.or_eq_true, Bool.and_eq_false_iff, Bool.or_eq_false_iff, Bool.not_eq_true, Bool.not_eq_false, Bool.not_eq_true', Bool.not_eq_false', decide_eq_true_eq, decide_eq_false_iff_not] at h
                      refine wss_one ?_
                      refine ws_set 8 ?_ sc.nd
                      refine we_bin ?_
                      refine we_name 4 ?_
                      refine we_bin ?_
                      refine we_callT (T := "int") T.int ?_ bt_int
                      refine wa_cons ?_
                      refine we_ix ?_
                      refine we_name 1 ?_
                      refine we_int ?_
                      walk_at "i"
                      refine wa_nil ?_
                      walk_at "b int"
                      refine we_bin ?_
                      refine we_bin ?_
                      refine we_name 3 ?_
                      refine we_name 4 ?_
                      walk_at "Sub"
                      refine we_int ?_
                      walk_at "Add"
                      walk_at "Mod"
                      walk_at "Add"
                      refine wss_cons ?_
                      refine ws_asg ?_
                      refine we_slice ?_
                      refine we_ix ?_
                      refine we_name 0 ?_
                      refine we_int ?_
                      walk_at "i"
                      refine wo_none ?_
                      refine wo_some ?_
                      refine we_name 8 ?_
                      refine ⟨_, rfl, ?_⟩
                      refine sl_s (by omega) ?_
                      refine wg_subL ?_
                      refine we_name 0 ?_
                      refine we_int ?_
                      refine ⟨_, 0, _, _, _, rfl, rfl, rfl, rfl, ?_⟩
                      refine wss_cons ?_
                      refine ws_asg ?_
                      refine we_name 8 ?_
                      refine wg_subL ?_
                      refine we_name 0 ?_
                      refine we_int ?_
                      refine ⟨_, 0, _, _, _, rfl, rfl, rfl, rfl, ?_⟩
                      refine wss_one ?_
                      refine ws_ret ?_
                      refine we_list ?_
                      refine wa_cons ?_
                      refine we_str ?_
                      refine wa_cons ?_
                      refine we_none ?_
                      refine wa_nil ?_
                      refine ⟨by first | decide | simp, ?_⟩
                      refine .het ?_
                      rw [st_fall1 hct] at hpost
                      exact res_tv hpost rfl
                    case hf31 =>
                      skip
                      first | done | exact absurd h (by decide +kernel) | (exfalso; revert h; decide +kernel)
  | lose v =>
    have hin : v.In ((q, S.mv) :: v.mu) := Ov.in_of fun x hx => List.mem_cons_of_mem _ hx
    refine wss_cons ?_
    refine ws_asg ?_
    refine we_tuple ?_
    refine wa_cons ?_
    refine we_ix ?_
    refine we_name 1 ?_
    refine we_int ?_
    walk_at "i"
    refine wa_cons ?_
    refine we_callB (id := "len") T.len ?_ bt_len
    refine wa_cons ?_
    refine we_ix ?_
    refine we_name 0 ?_
    refine we_int ?_
    walk_at "i"
    refine wa_nil ?_
    refine len_s (by omega) ?_
    refine wa_cons ?_
    refine we_ix ?_
    refine we_name 0 ?_
    refine we_int ?_
    walk_at "i"
    refine wa_cons ?_
    refine we_ix ?_
    refine we_name 0 ?_
    refine we_int ?_
    walk_at "i"
    refine wa_nil ?_
    refine ⟨by first | decide | simp, ?_⟩
    refine tup4 ?_
    refine wg_tup tupU4 ?_ rfl
    refine wgs_cons ?_
    refine wg_name 2 ?_ sc.nd
    refine wgs_cons ?_
    refine wg_name 3 ?_ sc.nd
    refine wgs_cons ?_
    refine wg_name 4 ?_ sc.nd
    refine wgs_cons ?_
    refine wg_name 5 ?_ sc.nd
    refine wgs_nil ?_
    refine wss_cons ?_
    refine ws_if ?_
    refine wt_bool ?_
    refine ww_and ?_
    refine wt_cmp ?_
    refine we_name 2 ?_
    refine we_list ?_
    refine wa_cons ?_
    refine we_str ?_
    refine wa_cons ?_
    refine we_str ?_
    refine wa_nil ?_
    refine ⟨by first | decide | simp, ?_⟩
    refine .data (ys := [_, _]) rfl ?_
    walk_at "In"
    refine BoolP.of ?_
    refine ⟨fun h => ?_, fun h => ?_⟩
    · skip
      first | done | exact absurd h (by decide +kernel) | (exfalso; revert h; decide +kernel)
    · skip
      refine ⟨fun h => ?_, fun h => ?_⟩
      · skip
        first | done | exact absurd h (by decide +kernel) | (exfalso; revert h; decide +kernel)
      · skip
        try simp only [Bool.and_eq_true, Bool.or_eq_true, Bool.and_eq_false_iff, Bool.or_eq_false_iff, Bool.not_eq_true, Bool.not_eq_false, Bool.not_eq_true', Bool.not_eq_false', decide_eq_true_eq, decide_eq_false_iff_not] at h
        refine wss_nil ?_
        refine wss_cons ?_
        refine ws_ifP (B := ?B32) ?hc32 (fun h => ?ht32) (fun h => ?hf32)
        case hc32 =>
          refine wt_cmp ?_
          refine we_name 2 ?_
          refine we_str ?_
          walk_at "Eq"
          refine BoolP.of ?_
          exact eqb_rfl
        case ht32 =>
          skip
          first | done | exact absurd h (by decide +kernel) | (exfalso; revert h; decide +kernel)
        case hf32 =>
          skip
          try simp only [Bool.and_eq_true, Bool.or_eq_true, Bool.and_eq_false_iff, Bool.or_eq_false_iff, Bool.not_eq_true, Bool.not_eq_false, Bool.not_eq_true', Bool.not_eq_false', decide_eq_true_eq, decide_eq_false_iff_not] at h
          refine wss_nil ?_
          refine wss_cons ?_
          refine ws_ifP (B := ?B33) ?hc33 (fun h => ?ht33) (fun h => ?hf33)
          case hc33 =>
            refine wt_cmp ?_
            refine we_name 2 ?_
            refine we_str ?_
            walk_at "Eq"
            refine BoolP.of ?_
            exact eqb_rfl
          case ht33 =>
            skip
            first | done | exact absurd h (by decide +kernel) | (exfalso; revert h; decide +kernel)
          case hf33 =>
            skip
            try simp only [Bool.and_eq_true, Bool.or_eq_true, Bool.and_eq_false_iff, Bool.or_eq_false_iff, Bool.not_eq_true, Bool.not_eq_false, Bool.not_eq_true', Bool.not_eq_false', decide_eq_true_eq, decide_eq_false_iff_not] at h
            refine wss_nil ?_
            refine wss_cons ?_
            refine ws_ifP (B := ?B34) ?hc34 (fun h => ?ht34) (fun h => ?hf34)
            case hc34 =>
              refine wt_cmp ?_
              refine we_name 2 ?_
              refine we_str ?_
              walk_at "Eq"
              refine BoolP.of ?_
              exact eqb_rfl
            case ht34 =>
              skip
              first | done | exact absurd h (by decide +kernel) | (exfalso; revert h; decide +kernel)
            case hf34 =>
              skip
              try simp only [Bool.and_eq_true, Bool.or_eq_true, Bool.and_eq_false_iff, Bool.or_eq_false_iff, Bool.not_eq_true, Bool.not_eq_false, Bool.not_eq_true', Bool.not_eq_false', decide_eq_true_eq, decide_eq_false_iff_not] at h
              refine wss_nil ?_
              refine wss_cons ?_
              refine ws_set 6 ?_ sc.nd
              refine we_ix ?_
              refine we_list ?_
              refine wa_cons ?_
              refine we_int ?_
              refine wa_cons ?_
              refine we_int ?_
              refine wa_cons ?_
              refine we_name 5 ?_
              refine wa_cons ?_
              refine we_name 5 ?_
              refine wa_nil ?_
              refine ⟨by first | decide | simp, ?_⟩
              refine .data (ys := [_, _, _, _]) rfl ?_
              refine we_bm PySem.F.plainAttrs_list PySem.F.slot_list_index ?_
              refine we_list ?_
              refine wa_cons ?_
              refine we_str ?_
              refine wa_cons ?_
              refine we_str ?_
              refine wa_cons ?_
              refine we_str ?_
              refine wa_cons ?_
              refine we_str ?_
              refine wa_nil ?_
              refine ⟨by first | decide | simp, ?_⟩
              refine .data (ys := [_, _, _, _]) rfl ?_
              walk_at "ty list"
              refine wa_cons ?_
              refine we_name 2 ?_
              refine wa_nil ?_
              refine index_sB 1 ?_
              walk_at "i"
              refine wss_cons ?_
              refine ws_set 7 ?_ sc.nd
              refine we_ix ?_
              refine we_list ?_
              refine wa_cons ?_
              refine we_bin ?_
              refine we_int ?_
              refine we_int ?_
              walk_at "Pow"
              refine wa_cons ?_
              refine we_bin ?_
              refine we_int ?_
              refine we_int ?_
              walk_at "Pow"
              refine wa_cons ?_
              refine we_name 3 ?_
              refine wa_cons ?_
              refine we_name 4 ?_
              refine wa_nil ?_
              refine ⟨by first | decide | simp, ?_⟩
              refine .data (ys := [_, _, _, _]) rfl ?_
              refine we_bm PySem.F.plainAttrs_list PySem.F.slot_list_index ?_
              refine we_list ?_
              refine wa_cons ?_
              refine we_str ?_
              refine wa_cons ?_
              refine we_str ?_
              refine wa_cons ?_
              refine we_str ?_
              refine wa_cons ?_
              refine we_str ?_
              refine wa_nil ?_
              refine ⟨by first | decide | simp, ?_⟩
              refine .data (ys := [_, _, _, _]) rfl ?_
              walk_at "ty list"
              refine wa_cons ?_
              refine we_name 2 ?_
              refine wa_nil ?_
              refine index_sB 1 ?_
              walk_at "i"
              refine wss_cons ?_
              refine ws_if ?_
              refine wt_not ?_
              refine wt_val ?_
              refine we_call (ok_l_is_count T) hgd hr xt0 ?_
              refine wa_cons ?_
              refine we_ix ?_
              refine we_name 1 ?_
              refine we_int ?_
              walk_at "i"
              refine wa_cons ?_
              refine we_name 6 ?_
              refine wa_cons ?_
              refine we_name 7 ?_
              refine wa_nil ?_
              refine FrP.all ⟨v, _, _, rfl, hin, ?_⟩
              refine BoolP.of ?_
              refine ⟨fun h => ?_, fun h => ?_⟩
              · skip
                try simp only [Bool.and_eq_true, Bool.or_eq_true, Bool.and_eq_false_iff, Bool.or_eq_false_iff, Bool.not_eq_true, Bool.not_eq_false, Bool.not_eq_true', Bool.not_eq_false', decide_eq_true_eq, decide_eq_false_iff_not] at h
                refine wss_one ?_
                refine ws_ret ?_
                refine we_list ?_
                refine wa_cons ?_
                refine we_str ?_
                refine wa_cons ?_
                refine we_ix ?_
                refine we_name 1 ?_
                refine we_int ?_
                walk_at "i"
                refine wa_nil ?_
                refine ⟨by first | decide | simp, ?_⟩
                refine .het ?_
                have hct : v.isCount = false := by rw [← btw_big hgd2]; simpa using h
                rw [st_lose0 hct] at hpost
                exact res_tv hpost rfl
              · skip
                have hct : v.isCount = true := by rw [← btw_big hgd2]; simpa using h
                obtain ⟨x, rfl, hx1⟩ := Ov.count_int hct
                refine wss_nil ?_
                refine wss_cons ?_
                refine ws_ifP (B := ?B35) ?hc35 (fun h => ?ht35) (fun h => ?hf35)
                case hc35 =>
                  refine wt_cmp ?_
                  refine we_name 2 ?_
                  refine we_str ?_
                  walk_at "Eq"
                  refine BoolP.of ?_
                  exact eqb_rfl
                case ht35 =>
                  skip
                  first | done | exact absurd h (by decide +kernel) | (exfalso; revert h; decide +kernel)
                case hf35 =>
                  skip
                  try simp only [Bool.and_eq_true, Bool.or_eq_true, Bool.and_eq_false_iff, Bool.or_eq_false_iff, Bool.not_eq_true, Bool.not_eq_false, Bool.not_eq_true', Bool.not_eq_false', decide_eq_true_eq, decide_eq_false_iff_not] at h
                  refine wss_nil ?_
                  refine wss_cons ?_
                  refine ws_set 8 ?_ sc.nd
                  refine we_ifP (B := ?B36) ?hc36 (fun h => ?ht36) (fun h => ?hf36)
                  case hc36 =>
                    refine wt_cmp ?_
                    refine we_name 2 ?_
                    refine we_str ?_
                    walk_at "Eq"
                    refine BoolP.of ?_
                    exact eqb_rfl
                  case ht36 =>
                    skip
                    first | done | exact absurd h (by decide +kernel) | (exfalso; revert h; decide +kernel)
                  case hf36 =>
                    skip
                    try simp only [Bool.and_eq_true, Bool.or_eq_true, Bool.and_eq_false_iff, Bool.or_eq_false_iff, Bool.not_eq_true, Bool.not_eq_false, Bool.not_eq_true', Bool.not_eq_false', decide_eq_true_eq, decide_eq_false_iff_not] at h
                    refine we_callB (id := "max") T.max ?_ bt_max
                    refine wa_cons ?_
                    refine we_name 5 ?_
                    refine wa_cons ?_
                    refine we_callB (id := "min") T.min ?_ bt_min
                    refine wa_cons ?_
                    refine we_ix ?_
                    refine we_name 1 ?_
                    refine we_int ?_
                    walk_at "i"
                    refine wa_cons ?_
                    refine we_name 3 ?_
                    refine wa_nil ?_
                    walk_at "b min"
                    refine wa_nil ?_
                    walk_at "b max"
                    refine wss_cons ?_
                    refine ws_ifP (B := ?B37) ?hc37 (fun h => ?ht37) (fun h => ?hf37)
                    case hc37 =>
                      refine wt_cmp ?_
                      refine we_name 2 ?_
                      refine we_str ?_
                      walk_at "Eq"
                      refine BoolP.of ?_
                      exact eqb_rfl
                    case ht37 =>
                      skip
                      first | done | exact absurd h (by decide +kernel) | (exfalso; revert h; decide +kernel)
                    case hf37 =>
                      skip
                      try simp only [Bool.and_eq_true, Bool.or_eq_true, Bool.and_eq_false_iff, Bool.or_eq_false_iff, Bool.not_eq_true, Bool.not_eq_false, Bool.not_eq_true', Bool.not_eq_false', decide_eq_true_eq, decide_eq_false_iff_not] at h
                      refine wss_nil ?_
                      refine wss_cons ?_
                      refine ws_asg ?_
                      refine we_slice ?_
                      refine we_ix ?_
                      refine we_name 0 ?_
                      refine we_int ?_
                      walk_at "i"
                      refine wo_none ?_
                      refine wo_some ?_
                      refine we_name 8 ?_
                      refine ⟨_, rfl, ?_⟩
                      refine sl_s (by omega) ?_
                      refine wg_subL ?_
                      refine we_name 0 ?_
                      refine we_int ?_
                      refine ⟨_, 0, _, _, _, rfl, rfl, rfl, rfl, ?_⟩
                      refine wss_cons ?_
                      refine ws_asg ?_
                      refine we_name 8 ?_
                      refine wg_subL ?_
                      refine we_name 0 ?_
                      refine we_int ?_
                      refine ⟨_, 0, _, _, _, rfl, rfl, rfl, rfl, ?_⟩
                      refine wss_one ?_
                      refine ws_ret ?_
                      refine we_list ?_
                      refine wa_cons ?_
                      refine we_str ?_
                      refine wa_cons ?_
                      refine we_none ?_
                      refine wa_nil ?_
                      refine ⟨by first | decide | simp, ?_⟩
                      refine .het ?_
                      rw [st_lose1 hct] at hpost
                      exact res_tv hpost rfl
  | trim v =>
    have hin : v.In ((q, S.mv) :: v.mu) := Ov.in_of fun x hx => List.mem_cons_of_mem _ hx
    refine wss_cons ?_
    refine ws_asg ?_
    refine we_tuple ?_
    refine wa_cons ?_
    refine we_ix ?_
    refine we_name 1 ?_
    refine we_int ?_
    walk_at "i"
    refine wa_cons ?_
    refine we_callB (id := "len") T.len ?_ bt_len
    refine wa_cons ?_
    refine we_ix ?_
    refine we_name 0 ?_
    refine we_int ?_
    walk_at "i"
    refine wa_nil ?_
    refine len_s (by omega) ?_
    refine wa_cons ?_
    refine we_ix ?_
    refine we_name 0 ?_
    refine we_int ?_
    walk_at "i"
    refine wa_cons ?_
    refine we_ix ?_
    refine we_name 0 ?_
    refine we_int ?_
    walk_at "i"
    refine wa_nil ?_
    refine ⟨by first | decide | simp, ?_⟩
    refine tup4 ?_
    refine wg_tup tupU4 ?_ rfl
    refine wgs_cons ?_
    refine wg_name 2 ?_ sc.nd
    refine wgs_cons ?_
    refine wg_name 3 ?_ sc.nd
    refine wgs_cons ?_
    refine wg_name 4 ?_ sc.nd
    refine wgs_cons ?_
    refine wg_name 5 ?_ sc.nd
    refine wgs_nil ?_
    refine wss_cons ?_
    refine ws_if ?_
    refine wt_bool ?_
    refine ww_and ?_
    refine wt_cmp ?_
    refine we_name 2 ?_
    refine we_list ?_
    refine wa_cons ?_
    refine we_str ?_
    refine wa_cons ?_
    refine we_str ?_
    refine wa_nil ?_
    refine ⟨by first | decide | simp, ?_⟩
    refine .data (ys := [_, _]) rfl ?_
    walk_at "In"
    refine BoolP.of ?_
    refine ⟨fun h => ?_, fun h => ?_⟩
    · skip
      first | done | exact absurd h (by decide +kernel) | (exfalso; revert h; decide +kernel)
    · skip
      refine ⟨fun h => ?_, fun h => ?_⟩
      · skip
        first | done | exact absurd h (by decide +kernel) | (exfalso; revert h; decide +kernel)
      · skip
        try simp only [Bool.and_eq_true, Bool.or_eq_true, Bool.and_eq_false_iff, Bool.or_eq_false_iff, Bool.not_eq_true, Bool.not_eq_false, Bool.not_eq_true', Bool.not_eq_false', decide_eq_true_eq, decide_eq_false_iff_not] at h
        refine wss_nil ?_
        refine wss_cons ?_
        refine ws_ifP (B := ?B38) ?hc38 (fun h => ?ht38) (fun h => ?hf38)
        case hc38 =>
          refine wt_cmp ?_
          refine we_name 2 ?_
          refine we_str ?_
          walk_at "Eq"
          refine BoolP.of ?_
          exact eqb_rfl
        case ht38 =>
          skip
          first | done | exact absurd h (by decide +kernel) | (exfalso; revert h; decide +kernel)
        case hf38 =>
          skip
          try simp only [Bool.and_eq_true, Bool.or_eq_true, Bool.and_eq_false_iff, Bool.or_eq_false_iff, Bool.not_eq_true, Bool.not_eq_false, Bool.not_eq_true', Bool.not_eq_false', decide_eq_true_eq, decide_eq_false_iff_not] at h
          refine wss_nil ?_
          refine wss_cons ?_
          refine ws_ifP (B := ?B39) ?hc39 (fun h => ?ht39) (fun h => ?hf39)
          case hc39 =>
            refine wt_cmp ?_
            refine we_name 2 ?_
            refine we_str ?_
            walk_at "Eq"
            refine BoolP.of ?_
            exact eqb_rfl
          case ht39 =>
            skip
            first | done | exact absurd h (by decide +kernel) | (exfalso; revert h; decide +kernel)
          case hf39 =>
            skip
            try simp only [Bool.and_eq_true, Bool.or_eq_true, Bool.and_eq_false_iff, Bool.or_eq_false_iff, Bool.not_eq_true, Bool.not_eq_false, Bool.not_eq_true', Bool.not_eq_false', decide_eq_true_eq, decide_eq_false_iff_not] at h
            refine wss_nil ?_
            refine wss_cons ?_
            refine ws_ifP (B := ?B40) ?hc40 (fun h => ?ht40) (fun h => ?hf40)
            case hc40 =>
              refine wt_cmp ?_
              refine we_name 2 ?_
              refine we_str ?_
              walk_at "Eq"
              refine BoolP.of ?_
              exact eqb_rfl
            case ht40 =>
              skip
              first | done | exact absurd h (by decide +kernel) | (exfalso; revert h; decide +kernel)
            case hf40 =>
              skip
              try simp only [Bool.and_eq_true, Bool.or_eq_true, Bool.and_eq_false_iff, Bool.or_eq_false_iff, Bool.not_eq_true, Bool.not_eq_false, Bool.not_eq_true', Bool.not_eq_false', decide_eq_true_eq, decide_eq_false_iff_not] at h
              refine wss_nil ?_
              refine wss_cons ?_
              refine ws_set 6 ?_ sc.nd
              refine we_ix ?_
              refine we_list ?_
              refine wa_cons ?_
              refine we_int ?_
              refine wa_cons ?_
              refine we_int ?_
              refine wa_cons ?_
              refine we_name 5 ?_
              refine wa_cons ?_
              refine we_name 5 ?_
              refine wa_nil ?_
              refine ⟨by first | decide | simp, ?_⟩
              refine .data (ys := [_, _, _, _]) rfl ?_
              refine we_bm PySem.F.plainAttrs_list PySem.F.slot_list_index ?_
              refine we_list ?_
              refine wa_cons ?_
              refine we_str ?_
              refine wa_cons ?_
              refine we_str ?_
              refine wa_cons ?_
              refine we_str ?_
              refine wa_cons ?_
              refine we_str ?_
              refine wa_nil ?_
              refine ⟨by first | decide | simp, ?_⟩
              refine .data (ys := [_, _, _, _]) rfl ?_
              walk_at "ty list"
              refine wa_cons ?_
              refine we_name 2 ?_
              refine wa_nil ?_
              refine index_sB 2 ?_
              walk_at "i"
              refine wss_cons ?_
              refine ws_set 7 ?_ sc.nd
              refine we_ix ?_
              refine we_list ?_
              refine wa_cons ?_
              refine we_bin ?_
              refine we_int ?_
              refine we_int ?_
              walk_at "Pow"
              refine wa_cons ?_
              refine we_bin ?_
              refine we_int ?_
              refine we_int ?_
              walk_at "Pow"
              refine wa_cons ?_
              refine we_name 3 ?_
              refine wa_cons ?_
              refine we_name 4 ?_
              refine wa_nil ?_
              refine ⟨by first | decide | simp, ?_⟩
              refine .data (ys := [_, _, _, _]) rfl ?_
              refine we_bm PySem.F.plainAttrs_list PySem.F.slot_list_index ?_
              refine we_list ?_
              refine wa_cons ?_
              refine we_str ?_
              refine wa_cons ?_
              refine we_str ?_
              refine wa_cons ?_
              refine we_str ?_
              refine wa_cons ?_
              refine we_str ?_
              refine wa_nil ?_
              refine ⟨by first | decide | simp, ?_⟩
              refine .data (ys := [_, _, _, _]) rfl ?_
              walk_at "ty list"
              refine wa_cons ?_
              refine we_name 2 ?_
              refine wa_nil ?_
              refine index_sB 2 ?_
              walk_at "i"
              refine wss_cons ?_
              refine ws_if ?_
              refine wt_not ?_
              refine wt_val ?_
              refine we_call (ok_l_is_count T) hgd hr xt0 ?_
              refine wa_cons ?_
              refine we_ix ?_
              refine we_name 1 ?_
              refine we_int ?_
              walk_at "i"
              refine wa_cons ?_
              refine we_name 6 ?_
              refine wa_cons ?_
              refine we_name 7 ?_
              refine wa_nil ?_
              refine FrP.all ⟨v, _, _, rfl, hin, ?_⟩
              refine BoolP.of ?_
              refine ⟨fun h => ?_, fun h => ?_⟩
              · skip
                try simp only [Bool.and_eq_true, Bool.or_eq_true, Bool.and_eq_false_iff, Bool.or_eq_false_iff, Bool.not_eq_true, Bool.not_eq_false, Bool.not_eq_true', Bool.not_eq_false', decide_eq_true_eq, decide_eq_false_iff_not] at h
                refine wss_one ?_
                refine ws_ret ?_
                refine we_list ?_
                refine wa_cons ?_
                refine we_str ?_
                refine wa_cons ?_
                refine we_ix ?_
                refine we_name 1 ?_
                refine we_int ?_
                walk_at "i"
                refine wa_nil ?_
                refine ⟨by first | decide | simp, ?_⟩
                refine .het ?_
                have hct : v.btw S.se S.text.length = false := by simpa using h
                rw [st_trim0 hct] at hpost
                exact res_tv hpost rfl
              · skip
                have hct : v.btw S.se S.text.length = true := by simpa using h
                obtain ⟨x, rfl, hx1, hx2⟩ := Ov.btw_int hct
                refine wss_nil ?_
                refine wss_cons ?_
                refine ws_ifP (B := ?B41) ?hc41 (fun h => ?ht41) (fun h => ?hf41)
                case hc41 =>
                  refine wt_cmp ?_
                  refine we_name 2 ?_
                  refine we_str ?_
                  walk_at "Eq"
                  refine BoolP.of ?_
                  exact eqb_rfl
                case ht41 =>
                  skip
                  first | done | exact absurd h (by decide +kernel) | (exfalso; revert h; decide +kernel)
                case hf41 =>
                  skip
                  try simp only [Bool.and_eq_true, Bool.or_eq_true, Bool.and_eq_false_iff, Bool.or_eq_false_iff, Bool.not_eq_true, Bool.not_eq_false, Bool.not_eq_true', Bool.not_eq_false', decide_eq_true_eq, decide_eq_false_iff_not] at h
                  refine wss_nil ?_
                  refine wss_cons ?_
                  refine ws_set 8 ?_ sc.nd
                  refine we_ifP (B := ?B42) ?hc42 (fun h => ?ht42) (fun h => ?hf42)
                  case hc42 =>
                    refine wt_cmp ?_
                    refine we_name 2 ?_
                    refine we_str ?_
                    walk_at "Eq"
                    refine BoolP.of ?_
                    exact eqb_rfl
                  case ht42 =>
                    skip
                    try simp only [Bool.and_eq_true, Bool.or_eq_true, Bool.and_eq_false_iff, Bool.or_eq_false_iff, Bool.not_eq_true, Bool.not_eq_false, Bool.not_eq_true', Bool.not_eq_false', decide_eq_true_eq, decide_eq_false_iff_not] at h
                    refine we_ix ?_
                    refine we_name 1 ?_
                    refine we_int ?_
                    walk_at "i"
                    refine wss_cons ?_
                    refine ws_ifP (B := ?B43) ?hc43 (fun h => ?ht43) (fun h => ?hf43)
                    case hc43 =>
                      refine wt_cmp ?_
                      refine we_name 2 ?_
                      refine we_str ?_
                      walk_at "Eq"
                      refine BoolP.of ?_
                      exact eqb_rfl
                    case ht43 =>
                      skip
                      first | done | exact absurd h (by decide +kernel) | (exfalso; revert h; decide +kernel)
                    case hf43 =>
                      skip
                      try simp only [Bool.and_eq_true, Bool.or_eq_true, Bool.and_eq_false_iff, Bool.or_eq_false_iff, Bool.not_eq_true, Bool.not_eq_false, Bool.not_eq_true', Bool.not_eq_false', decide_eq_true_eq, decide_eq_false_iff_not] at h
                      refine wss_nil ?_
                      refine wss_cons ?_
                      refine ws_asg ?_
                      refine we_slice ?_
                      refine we_ix ?_
                      refine we_name 0 ?_
                      refine we_int ?_
                      walk_at "i"
                      refine wo_none ?_
                      refine wo_some ?_
                      refine we_name 8 ?_
                      refine ⟨_, rfl, ?_⟩
                      refine sl_s (by omega) ?_
                      refine wg_subL ?_
                      refine we_name 0 ?_
                      refine we_int ?_
                      refine ⟨_, 0, _, _, _, rfl, rfl, rfl, rfl, ?_⟩
                      refine wss_cons ?_
                      refine ws_asg ?_
                      refine we_name 8 ?_
                      refine wg_subL ?_
                      refine we_name 0 ?_
                      refine we_int ?_
                      refine ⟨_, 0, _, _, _, rfl, rfl, rfl, rfl, ?_⟩
                      refine wss_one ?_
                      refine ws_ret ?_
                      refine we_list ?_
                      refine wa_cons ?_
                      refine we_str ?_
                      refine wa_cons ?_
                      refine we_none ?_
                      refine wa_nil ?_
                      refine ⟨by first | decide | simp, ?_⟩
                      refine .het ?_
                      rw [st_trim1 hct] at hpost
                      exact res_tv hpost rfl
                  case hf42 =>
                    skip
                    first | done | exact absurd h (by decide +kernel) | (exfalso; revert h; decide +kernel)
  | settle v =>
    have hin : v.In ((q, S.mv) :: v.mu) := Ov.in_of fun x hx => List.mem_cons_of_mem _ hx
    refine wss_cons ?_
    refine ws_asg ?_
    refine we_tuple ?_
    refine wa_cons ?_
    refine we_ix ?_
    refine we_name 1 ?_
    refine we_int ?_
    walk_at "i"
    refine wa_cons ?_
    refine we_callB (id := "len") T.len ?_ bt_len
    refine wa_cons ?_
    refine we_ix ?_
    refine we_name 0 ?_
    refine we_int ?_
    walk_at "i"
    refine wa_nil ?_
    refine len_s (by omega) ?_
    refine wa_cons ?_
    refine we_ix ?_
    refine we_name 0 ?_
    refine we_int ?_
    walk_at "i"
    refine wa_cons ?_
    refine we_ix ?_
    refine we_name 0 ?_
    refine we_int ?_
    walk_at "i"
    refine wa_nil ?_
    refine ⟨by first | decide | simp, ?_⟩
    refine tup4 ?_
    refine wg_tup tupU4 ?_ rfl
    refine wgs_cons ?_
    refine wg_name 2 ?_ sc.nd
    refine wgs_cons ?_
    refine wg_name 3 ?_ sc.nd
    refine wgs_cons ?_
    refine wg_name 4 ?_ sc.nd
    refine wgs_cons ?_
    refine wg_name 5 ?_ sc.nd
    refine wgs_nil ?_
    refine wss_cons ?_
    refine ws_if ?_
    refine wt_bool ?_
    refine ww_and ?_
    refine wt_cmp ?_
    refine we_name 2 ?_
    refine we_list ?_
    refine wa_cons ?_
    refine we_str ?_
    refine wa_cons ?_
    refine we_str ?_
    refine wa_nil ?_
    refine ⟨by first | decide | simp, ?_⟩
    refine .data (ys := [_, _]) rfl ?_
    walk_at "In"
    refine BoolP.of ?_
    refine ⟨fun h => ?_, fun h => ?_⟩
    · skip
      first | done | exact absurd h (by decide +kernel) | (exfalso; revert h; decide +kernel)
    · skip
      refine ⟨fun h => ?_, fun h => ?_⟩
      · skip
        first | done | exact absurd h (by decide +kernel) | (exfalso; revert h; decide +kernel)
      · skip
        try simp only [Bool.and_eq_true, Bool.or_eq_true, Bool.and_eq_false_iff, Bool.or_eq_false_iff, Bool.not_eq_true, Bool.not_eq_false, Bool.not_eq_true', Bool.not_eq_false', decide_eq_true_eq, decide_eq_false_iff_not] at h
        refine wss_nil ?_
        refine wss_cons ?_
        refine ws_ifP (B := ?B44) ?hc44 (fun h => ?ht44) (fun h => ?hf44)
        case hc44 =>
          refine wt_cmp ?_
          refine we_name 2 ?_
          refine we_str ?_
          walk_at "Eq"
          refine BoolP.of ?_
          exact eqb_rfl
        case ht44 =>
          skip
          first | done | exact absurd h (by decide +kernel) | (exfalso; revert h; decide +kernel)
        case hf44 =>
          skip
          try simp only [Bool.and_eq_true, Bool.or_eq_true, Bool.and_eq_false_iff, Bool.or_eq_false_iff, Bool.not_eq_true, Bool.not_eq_false, Bool.not_eq_true', Bool.not_eq_false', decide_eq_true_eq, decide_eq_false_iff_not] at h
          refine wss_nil ?_
          refine wss_cons ?_
          refine ws_ifP (B := ?B45) ?hc45 (fun h => ?ht45) (fun h => ?hf45)
          case hc45 =>
            refine wt_cmp ?_
            refine we_name 2 ?_
            refine we_str ?_
            walk_at "Eq"
            refine BoolP.of ?_
            exact eqb_rfl
          case ht45 =>
            skip
            first | done | exact absurd h (by decide +kernel) | (exfalso; revert h; decide +kernel)
          case hf45 =>
            skip
            try simp only [Bool.and_eq_true, Bool.or_eq_true, Bool.and_eq_false_iff, Bool.or_eq_false_iff, Bool.not_eq_true, Bool.not_eq_false, Bool.not_eq_true', Bool.not_eq_false', decide_eq_true_eq, decide_eq_false_iff_not] at h
            refine wss_nil ?_
            refine wss_cons ?_
            refine ws_ifP (B := ?B46) ?hc46 (fun h => ?ht46) (fun h => ?hf46)
            case hc46 =>
              refine wt_cmp ?_
              refine we_name 2 ?_
              refine we_str ?_
              walk_at "Eq"
              refine BoolP.of ?_
              exact eqb_rfl
            case ht46 =>
              skip
              first | done | exact absurd h (by decide +kernel) | (exfalso; revert h; decide +kernel)
            case hf46 =>
              skip
              try simp only [Bool.and_eq_true, Bool.or_eq_true, Bool.and_eq_false_iff, Bool.or_eq_false_iff, Bool.not_eq_true, Bool.not_eq_false, Bool.not_eq_true', Bool.not_eq_false', decide_eq_true_eq, decide_eq_false_iff_not] at h
              refine wss_nil ?_
              refine wss_cons ?_
              refine ws_set 6 ?_ sc.nd
              refine we_ix ?_
              refine we_list ?_
              refine wa_cons ?_
              refine we_int ?_
              refine wa_cons ?_
              refine we_int ?_
              refine wa_cons ?_
              refine we_name 5 ?_
              refine wa_cons ?_
              refine we_name 5 ?_
              refine wa_nil ?_
              refine ⟨by first | decide | simp, ?_⟩
              refine .data (ys := [_, _, _, _]) rfl ?_
              refine we_bm PySem.F.plainAttrs_list PySem.F.slot_list_index ?_
              refine we_list ?_
              refine wa_cons ?_
              refine we_str ?_
              refine wa_cons ?_
              refine we_str ?_
              refine wa_cons ?_
              refine we_str ?_
              refine wa_cons ?_
              refine we_str ?_
              refine wa_nil ?_
              refine ⟨by first | decide | simp, ?_⟩
              refine .data (ys := [_, _, _, _]) rfl ?_
              walk_at "ty list"
              refine wa_cons ?_
              refine we_name 2 ?_
              refine wa_nil ?_
              refine index_sB 3 ?_
              walk_at "i"
              refine wss_cons ?_
              refine ws_set 7 ?_ sc.nd
              refine we_ix ?_
              refine we_list ?_
              refine wa_cons ?_
              refine we_bin ?_
              refine we_int ?_
              refine we_int ?_
              walk_at "Pow"
              refine wa_cons ?_
              refine we_bin ?_
              refine we_int ?_
              refine we_int ?_
              walk_at "Pow"
              refine wa_cons ?_
              refine we_name 3 ?_
              refine wa_cons ?_
              refine we_name 4 ?_
              refine wa_nil ?_
              refine ⟨by first | decide | simp, ?_⟩
              refine .data (ys := [_, _, _, _]) rfl ?_
              refine we_bm PySem.F.plainAttrs_list PySem.F.slot_list_index ?_
              refine we_list ?_
              refine wa_cons ?_
              refine we_str ?_
              refine wa_cons ?_
              refine we_str ?_
              refine wa_cons ?_
              refine we_str ?_
              refine wa_cons ?_
              refine we_str ?_
              refine wa_nil ?_
              refine ⟨by first | decide | simp, ?_⟩
              refine .data (ys := [_, _, _, _]) rfl ?_
              walk_at "ty list"
              refine wa_cons ?_
              refine we_name 2 ?_
              refine wa_nil ?_
              refine index_sB 3 ?_
              walk_at "i"
              refine wss_cons ?_
              refine ws_if ?_
              refine wt_not ?_
              refine wt_val ?_
              refine we_call (ok_l_is_count T) hgd hr xt0 ?_
              refine wa_cons ?_
              refine we_ix ?_
              refine we_name 1 ?_
              refine we_int ?_
              walk_at "i"
              refine wa_cons ?_
              refine we_name 6 ?_
              refine wa_cons ?_
              refine we_name 7 ?_
              refine wa_nil ?_
              refine FrP.all ⟨v, _, _, rfl, hin, ?_⟩
              refine BoolP.of ?_
              refine ⟨fun h => ?_, fun h => ?_⟩
              · skip
                try simp only [Bool.and_eq_true, Bool.or_eq_true, Bool.and_eq_false_iff, Bool.or_eq_false_iff, Bool.not_eq_true, Bool.not_eq_false, Bool.not_eq_true', Bool.not_eq_false', decide_eq_true_eq, decide_eq_false_iff_not] at h
                refine wss_one ?_
                refine ws_ret ?_
                refine we_list ?_
                refine wa_cons ?_
                refine we_str ?_
                refine wa_cons ?_
                refine we_ix ?_
                refine we_name 1 ?_
                refine we_int ?_
                walk_at "i"
                refine wa_nil ?_
                refine ⟨by first | decide | simp, ?_⟩
                refine .het ?_
                have hct : v.btw S.se S.sy = false := by simpa using h
                rw [st_settle0 hct] at hpost
                exact res_tv hpost rfl
              · skip
                have hct : v.btw S.se S.sy = true := by simpa using h
                obtain ⟨x, rfl, hx1, hx2⟩ := Ov.btw_int hct
                refine wss_nil ?_
                refine wss_cons ?_
                refine ws_ifP (B := ?B47) ?hc47 (fun h => ?ht47) (fun h => ?hf47)
                case hc47 =>
                  refine wt_cmp ?_
                  refine we_name 2 ?_
                  refine we_str ?_
                  walk_at "Eq"
                  refine BoolP.of ?_
                  exact eqb_rfl
                case ht47 =>
                  skip
                  try simp only [Bool.and_eq_true, Bool.or_eq_true, Bool.and_eq_false_iff, Bool.or_eq_false_iff, Bool.not_eq_true, Bool.not_eq_false, Bool.not_eq_true', Bool.not_eq_false', decide_eq_true_eq, decide_eq_false_iff_not] at h
                  refine wss_cons ?_
                  refine ws_asg ?_
                  refine we_ix ?_
                  refine we_name 1 ?_
                  refine we_int ?_
                  walk_at "i"
                  refine wg_subL ?_
                  refine we_name 0 ?_
                  refine we_int ?_
                  refine ⟨_, 0, _, _, _, rfl, rfl, rfl, rfl, ?_⟩
                  refine wss_one ?_
                  refine ws_ret ?_
                  refine we_list ?_
                  refine wa_cons ?_
                  refine we_str ?_
                  refine wa_cons ?_
                  refine we_none ?_
                  refine wa_nil ?_
                  refine ⟨by first | decide | simp, ?_⟩
                  refine .het ?_
                  rw [st_settle1 hct] at hpost
                  exact res_tv hpost rfl
                case hf47 =>
                  skip
                  first | done | exact absurd h (by decide +kernel) | (exfalso; revert h; decide +kernel)
end
end K05


set_option Elab.async false
set_option linter.all false
set_option maxRecDepth 100000
set_option maxHeartbeats 4000000
namespace K05
open PySem PySem.Spec PyProof.Rows L2 Ty
local macro_rules | `(tactic| walk_at "side") => `(tactic| first | omega | decide | assumption | (simp; done))
local macro_rules | `(tactic| walk_at "mul") => `(tactic| first | exact Or.inl ⟨by omega, by omega⟩ | exact Or.inr ⟨by omega, by omega⟩ | exact Or.inl ⟨by decide, by decide⟩)
local macro_rules | `(tactic| walk_at "pow") => `(tactic| first | exact ⟨by decide, by decide, by decide⟩ | exact ⟨by decide, by decide, by omega⟩ | exact ⟨by omega, by omega, by omega⟩)
local macro_rules | `(tactic| walk_at "Add") => `(tactic| first | refine add_ii ?_ | refine add_ss (by walk_at "side") ?_)
local macro_rules | `(tactic| walk_at "Sub") => `(tactic| refine sub_ii ?_)
local macro_rules | `(tactic| walk_at "Mult") => `(tactic| refine mul_ii (by walk_at "mul") ?_)
local macro_rules | `(tactic| walk_at "FloorDiv") => `(tactic| refine fdiv_ii (by constructor <;> walk_at "side") ?_)
local macro_rules | `(tactic| walk_at "Mod") => `(tactic| refine mod_ii (by walk_at "side") ?_)
local macro_rules | `(tactic| walk_at "Pow") => `(tactic| refine pow_ii (by walk_at "pow") ?_)
local macro_rules | `(tactic| walk_at "Lt") => `(tactic| refine lt_ii ?_)
local macro_rules | `(tactic| walk_at "LtE") => `(tactic| first | refine le_ii ?_ | refine le_ss ?_)
local macro_rules | `(tactic| walk_at "Gt") => `(tactic| refine gt_ii ?_)
local macro_rules | `(tactic| walk_at "GtE") => `(tactic| refine ge_ii ?_)
local macro_rules | `(tactic| walk_at "Eq") => `(tactic| first | refine eq_ii ?_ | refine eq_ss ?_)
local macro_rules | `(tactic| walk_at "NotEq") => `(tactic| first | refine ne_ii ?_ | refine ne_ss ?_)
local macro_rules | `(tactic| walk_at "In") => `(tactic| first | refine in_cs ?_ | refine in_il ?_ | refine in_sl ?_)
local macro_rules | `(tactic| walk_at "NotIn") => `(tactic| first | refine notIn_cs ?_)
local macro_rules | `(tactic| walk_at "Is") => `(tactic| first | refine isN none_unit ?_ | refine isN none_int ?_ | refine isN none_str ?_ | refine isN none_bool ?_ | refine isN none_list ?_ | refine isN none_ref ?_)
local macro_rules | `(tactic| walk_at "IsNot") => `(tactic| first | refine notN none_unit ?_ | refine notN none_int ?_ | refine notN none_str ?_)
local macro_rules | `(tactic| walk_at "i") => `(tactic| first
  | refine ix_own (n := 0) rfl rfl ?_ | refine ix_own (n := 1) rfl rfl ?_ | refine ix_own (n := 2) rfl rfl ?_ | refine ix_lU lu_hl rfl ?_ | refine ix_tupU tupU2 rfl ?_ | refine ix_tupU tupU4 rfl ?_ | refine ix_s (by walk_at "side") (by walk_at "at") ?_ | refine ix_l (by walk_at "at") ?_)
local macro_rules | `(tactic| walk_at "at") => `(tactic| first | rfl | assumption)
local macro_rules | `(tactic| walk_at "s") => `(tactic| first | refine sl_s (by walk_at "side") ?_ | refine sl_l ?_)
local macro_rules | `(tactic| walk_at "b int") => `(tactic| refine int_i ?_)
local macro_rules | `(tactic| walk_at "b abs") => `(tactic| refine abs_i ?_)
local macro_rules | `(tactic| walk_at "b max") => `(tactic| refine max_ii rfl ?_)
local macro_rules | `(tactic| walk_at "b min") => `(tactic| refine min_ii rfl ?_)
local macro_rules | `(tactic| walk_at "b len") => `(tactic| first | refine len_s (by walk_at "side") ?_ | refine len_l ?_ | refine len_own (n := 0) rfl ?_ | refine len_own (n := 1) rfl ?_ | refine len_own (n := 2) rfl ?_)
local macro_rules | `(tactic| walk_at "b sum") => `(tactic| refine sum_l rfl ?_)
local macro_rules | `(tactic| walk_at "b all") => `(tactic| refine all_l rfl ?_)
local macro_rules | `(tactic| walk_at "b any") => `(tactic| refine any_l rfl ?_)
local macro_rules | `(tactic| walk_at "b isinstance") => `(tactic| first | refine isi ty_int ?_ | refine isi ty_bool ?_ | refine isi ty_str ?_ | refine isi ty_none ?_ | refine isi ty_list ?_)
local macro_rules | `(tactic| walk_at "l") => `(tactic| first | refine .data (ys := [_]) rfl ?_ | refine .data (ys := [_, _]) rfl ?_ | refine .data (ys := [_, _, _]) rfl ?_ | refine .data (ys := [_, _, _, _]) rfl ?_ | refine .data (ys := [_, _, _, _, _]) rfl ?_ | refine .data (ys := [_, _, _, _, _, _]) rfl ?_ | refine .data (ys := [_, _, _, _, _, _, _]) rfl ?_ | refine .data (ys := [_, _, _, _, _, _, _, _, _, _]) rfl ?_ | refine .het ?_)
local macro_rules | `(tactic| walk_at "t") => `(tactic| first | refine tup2 ?_ | refine tup3 ?_ | refine tup4 ?_)
local macro_rules | `(tactic| walk_at "ty str") => `(tactic| refine ⟨ty_s, ?_⟩)
local macro_rules | `(tactic| walk_at "ty list") => `(tactic| first | refine ⟨ty_lU lu_l, ?_⟩ | refine ⟨ty_lU lu_hl, ?_⟩ | refine ⟨ty_lU (lu_own (n := 0) rfl), ?_⟩ | refine ⟨ty_lU (lu_own (n := 1) rfl), ?_⟩)


theorem Ov.Good.sl {v : Ov} (h : v.Good) : v.s.length ≤ 1000 := by
  cases v with
  | str s => exact h.1
  | _ => exact Nat.zero_le _
def T_did (CD : Addr) : TSpec := fun xs m post _ => ∃ (a : Addr) (S : Sd) (D : Dd) (t : Int), xs = [tv (Ref.mk a), D.tv, tv t] ∧ m = (a, S.mvI CD) :: D.mu ∧ S.Ok 100000 ∧ D.Good ∧ post (step S D).1.tv ((a, (step S D).2.mvI CD) :: D.mu)

section
variable {P : Program} {w : World} {K : PySem.W.Frag} {mg : Str → Option Value} {base : Heap} {CE CS CC CD : Addr}

theorem ok_l_did (T : Tx K mg base CE CS CC CD) : DefK P w K mg base "_law_did" 6 (T_did CD) [] := by
  obtain ⟨f, fd, F, hm⟩ := T.f_l_did
  have sc := sc_l_did
  refine defK_mk F (fn_ok F sc_l_did (fun xs m post xp h => ?_) fun cdv A outer s H E B0 H0 xs m post xp hgd hr hT hx => ?_) hm (fun kV doc pm an cdv ct us hl => match us, hl with | [a0, a1, a2], _ => rfl)
  · obtain ⟨_, _, _, _, h, _⟩ := h; subst h; rfl
  obtain ⟨a, S, D, t, rfl, rfl, hS, hgd2, hpost⟩ := hT
  have hS6 : S.Ok 1000000 := ⟨hS.pr, by have := hS.len; omega, hS.e0, hS.ey, hS.yl⟩
  cases D with

  | put v =>
    have hin : v.In ((a, S.mvI CD) :: v.mu) := Ov.in_of fun x hx => List.mem_cons_of_mem _ hx
    refine wss_cons ?_
    refine ws_par 3 4 ?_ rfl sc.nd
    refine wa_cons ?_
    refine we_ix ?_
    refine we_name 1 ?_
    refine we_int ?_
    walk_at "i"
    refine wa_cons ?_
    refine we_ix ?_
    refine we_bin ?_
    refine we_name 1 ?_
    refine we_list ?_
    refine wa_cons ?_
    refine we_none ?_
    refine wa_nil ?_
    refine ⟨by first | decide | simp, ?_⟩
    refine .het ?_
    refine add_lU lu_hl lu_hl (by simp [Dd.ts]) ?_
    refine we_int ?_
    walk_at "i"
    refine wa_nil ?_
    refine ⟨_, _, rfl, ?_⟩
    refine wss_one ?_
    refine ws_try (xp := noX) _ xt0 sc.nd (.cons ⟨rfl, by decide, .inl T.g_InvalidSigns⟩ (.yes (i := 5) rfl rfl) (.cons ⟨rfl, by decide, .inl T.g_InvalidCount⟩ (.yes (i := 5) rfl rfl) .nil)) fun B1 H1 pn xe hx po => ?_
    refine wss_cons ?_
    refine ws_ifP (B := ?B1) ?hc1 (fun h => ?ht1) (fun h => ?hf1)
    case hc1 =>
      refine wt_cmp ?_
      refine we_name 3 ?_
      refine we_str ?_
      walk_at "Eq"
      refine BoolP.of ?_
      exact eqb_rfl
    case ht1 =>
      skip
      try simp only [Bool.and_eq_true, Bool.or_eq_true, Bool.and_eq_false_iff, Bool.or_eq_false_iff, Bool.not_eq_true, Bool.not_eq_false, Bool.not_eq_true', Bool.not_eq_false', decide_eq_true_eq, decide_eq_false_iff_not] at h
      refine wss_one ?_
      refine ws_ret ?_
      refine we_list ?_
      refine wa_cons ?_
      refine we_str ?_
      refine wa_cons ?_
      refine we_ifP (B := ?B2) ?hc2 (fun h => ?ht2) (fun h => ?hf2)
      case hc2 =>
        refine wt_cmp ?_
        refine we_name 2 ?_
        refine we_int ?_
        walk_at "Eq"
        refine BoolP.of ?_
        exact eqb_rfl
      case ht2 =>
        skip
        try simp only [Bool.and_eq_true, Bool.or_eq_true, Bool.and_eq_false_iff, Bool.or_eq_false_iff, Bool.not_eq_true, Bool.not_eq_false, Bool.not_eq_true', Bool.not_eq_false', decide_eq_true_eq, decide_eq_false_iff_not] at h
        refine we_meth (ok_Disk_put T) hgd hr hx ?_
        refine we_name 0 ?_
        refine ⟨ins_own (i := 0) rfl rfl, ?_⟩
        refine wa_cons ?_
        refine we_name 4 ?_
        refine wa_nil ?_
        refine FrP.all ⟨v, a, S, _, rfl, rfl, fun w hw => by rw [List.mem_singleton.mp hw]; exact ⟨hin, hgd2.small⟩, hS6, by have := hgd2.sl; have := hS.len; omega, fun hy => ?_, fun hn => ?_⟩
        rotate_left 1
        · have hn' : v.isSg = false := hn
          refine ⟨true, T.mSS, fun _ ea dd oe pn2 hz hf => ?_, fun h => nomatch h⟩
          refine wss_one ?_
          refine ws_ret ?_
          refine we_ifP (B := true) ?sc1 (fun _ => ?st1) (fun h => nomatch h)
          case sc1 =>
            refine wt_val ?_
            refine we_callB (id := "isinstance") T.isinstance ?_ bt_isinstance
            refine wa_cons ?_
            refine we_name 5 ?_
            refine wa_cons ?_
            refine we_globR T.g_AlongError ?_
            refine wa_nil ?_
            refine isE T.eS hz hf T.kS ?_
            refine BoolP.of ?_
            exact eqb_rfl
          case st1 =>
            refine we_list ?_
            refine wa_cons ?_
            refine we_str ?_
            refine wa_cons ?_
            refine we_xf (y := xS CS v) T.xS T.nS hz hf ?_
            refine we_name 5 ?_
            refine ⟨rfl, _, rfl, ?_⟩
            refine wa_nil ?_
            refine ⟨by simp, .het ?_⟩
            rw [st_put0 hn'] at hpost
            exact res_tv hpost rfl
        refine wa_nil ?_
        refine ⟨by first | decide | simp, ?_⟩
        refine .het ?_
        rw [st_put1 hy] at hpost
        exact res_tv hpost rfl
      case hf2 =>
        skip
        try simp only [Bool.and_eq_true, Bool.or_eq_true, Bool.and_eq_false_iff, Bool.or_eq_false_iff, Bool.not_eq_true, Bool.not_eq_false, Bool.not_eq_true', Bool.not_eq_false', decide_eq_true_eq, decide_eq_false_iff_not] at h
        refine we_methK0 (ok_Disk_putK T) hgd hr hx ?_
        refine we_name 0 ?_
        refine ⟨ins_own (i := 0) rfl rfl, ?_⟩
        refine wk_cons ?_
        refine we_name 4 ?_
        refine wk_nil ?_
        refine ⟨rfl, ?_⟩
        refine FrP.all ⟨v, a, S, _, rfl, rfl, fun w hw => by rw [List.mem_singleton.mp hw]; exact ⟨hin, hgd2.small⟩, hS6, by have := hgd2.sl; have := hS.len; omega, fun hy => ?_, fun hn => ?_⟩
        rotate_left 1
        · have hn' : v.isSg = false := hn
          refine ⟨true, T.mSS, fun _ ea dd oe pn2 hz hf => ?_, fun h => nomatch h⟩
          refine wss_one ?_
          refine ws_ret ?_
          refine we_ifP (B := true) ?sc2 (fun _ => ?st2) (fun h => nomatch h)
          case sc2 =>
            refine wt_val ?_
            refine we_callB (id := "isinstance") T.isinstance ?_ bt_isinstance
            refine wa_cons ?_
            refine we_name 5 ?_
            refine wa_cons ?_
            refine we_globR T.g_AlongError ?_
            refine wa_nil ?_
            refine isE T.eS hz hf T.kS ?_
            refine BoolP.of ?_
            exact eqb_rfl
          case st2 =>
            refine we_list ?_
            refine wa_cons ?_
            refine we_str ?_
            refine wa_cons ?_
            refine we_xf (y := xS CS v) T.xS T.nS hz hf ?_
            refine we_name 5 ?_
            refine ⟨rfl, _, rfl, ?_⟩
            refine wa_nil ?_
            refine ⟨by simp, .het ?_⟩
            rw [st_put0 hn'] at hpost
            exact res_tv hpost rfl
        refine wa_nil ?_
        refine ⟨by first | decide | simp, ?_⟩
        refine .het ?_
        rw [st_put1 hy] at hpost
        exact res_tv hpost rfl
    case hf1 =>
      skip
      first | done | exact absurd h (by decide +kernel) | (exfalso; revert h; decide +kernel)
  | sync =>
    refine wss_cons ?_
    refine ws_par 3 4 ?_ rfl sc.nd
    refine wa_cons ?_
    refine we_ix ?_
    refine we_name 1 ?_
    refine we_int ?_
    walk_at "i"
    refine wa_cons ?_
    refine we_ix ?_
    refine we_bin ?_
    refine we_name 1 ?_
    refine we_list ?_
    refine wa_cons ?_
    refine we_none ?_
    refine wa_nil ?_
    refine ⟨by first | decide | simp, ?_⟩
    refine .het ?_
    refine add_lU lu_hl lu_hl (by simp [Dd.ts]) ?_
    refine we_int ?_
    walk_at "i"
    refine wa_nil ?_
    refine ⟨_, _, rfl, ?_⟩
    refine wss_one ?_
    refine ws_try (xp := noX) _ xt0 sc.nd (.cons ⟨rfl, by decide, .inl T.g_InvalidSigns⟩ (.yes (i := 5) rfl rfl) (.cons ⟨rfl, by decide, .inl T.g_InvalidCount⟩ (.yes (i := 5) rfl rfl) .nil)) fun B1 H1 pn xe hx po => ?_
    refine wss_cons ?_
    refine ws_ifP (B := ?B3) ?hc3 (fun h => ?ht3) (fun h => ?hf3)
    case hc3 =>
      refine wt_cmp ?_
      refine we_name 3 ?_
      refine we_str ?_
      walk_at "Eq"
      refine BoolP.of ?_
      exact eqb_rfl
    case ht3 =>
      skip
      first | done | exact absurd h (by decide +kernel) | (exfalso; revert h; decide +kernel)
    case hf3 =>
      skip
      try simp only [Bool.and_eq_true, Bool.or_eq_true, Bool.and_eq_false_iff, Bool.or_eq_false_iff, Bool.not_eq_true, Bool.not_eq_false, Bool.not_eq_true', Bool.not_eq_false', decide_eq_true_eq, decide_eq_false_iff_not] at h
      refine wss_nil ?_
      refine wss_cons ?_
      refine ws_ifP (B := ?B4) ?hc4 (fun h => ?ht4) (fun h => ?hf4)
      case hc4 =>
        refine wt_cmp ?_
        refine we_name 3 ?_
        refine we_str ?_
        walk_at "Eq"
        refine BoolP.of ?_
        exact eqb_rfl
      case ht4 =>
        skip
        try simp only [Bool.and_eq_true, Bool.or_eq_true, Bool.and_eq_false_iff, Bool.or_eq_false_iff, Bool.not_eq_true, Bool.not_eq_false, Bool.not_eq_true', Bool.not_eq_false', decide_eq_true_eq, decide_eq_false_iff_not] at h
        refine wss_one ?_
        refine ws_ret ?_
        refine we_list ?_
        refine wa_cons ?_
        refine we_str ?_
        refine wa_cons ?_
        refine we_meth0 (ok_Disk_sync T) hgd hr xt0 ?_
        refine we_name 0 ?_
        refine ⟨ins_own (i := 0) rfl rfl, ?_⟩
        refine FrP.all ⟨a, S, _, rfl, rfl, (fun v hv => nomatch hv), hS6, trivial, (fun _ => ?_), fun h => nomatch h⟩
        refine wa_nil ?_
        refine ⟨by first | decide | simp, ?_⟩
        refine .het ?_
        exact res_tv hpost rfl
      case hf4 =>
        skip
        first | done | exact absurd h (by decide +kernel) | (exfalso; revert h; decide +kernel)
  | trim v =>
    have hin : v.In ((a, S.mvI CD) :: v.mu) := Ov.in_of fun x hx => List.mem_cons_of_mem _ hx
    refine wss_cons ?_
    refine ws_par 3 4 ?_ rfl sc.nd
    refine wa_cons ?_
    refine we_ix ?_
    refine we_name 1 ?_
    refine we_int ?_
    walk_at "i"
    refine wa_cons ?_
    refine we_ix ?_
    refine we_bin ?_
    refine we_name 1 ?_
    refine we_list ?_
    refine wa_cons ?_
    refine we_none ?_
    refine wa_nil ?_
    refine ⟨by first | decide | simp, ?_⟩
    refine .het ?_
    refine add_lU lu_hl lu_hl (by simp [Dd.ts]) ?_
    refine we_int ?_
    walk_at "i"
    refine wa_nil ?_
    refine ⟨_, _, rfl, ?_⟩
    refine wss_one ?_
    refine ws_try (xp := noX) _ xt0 sc.nd (.cons ⟨rfl, by decide, .inl T.g_InvalidSigns⟩ (.yes (i := 5) rfl rfl) (.cons ⟨rfl, by decide, .inl T.g_InvalidCount⟩ (.yes (i := 5) rfl rfl) .nil)) fun B1 H1 pn xe hx po => ?_
    refine wss_cons ?_
    refine ws_ifP (B := ?B5) ?hc5 (fun h => ?ht5) (fun h => ?hf5)
    case hc5 =>
      refine wt_cmp ?_
      refine we_name 3 ?_
      refine we_str ?_
      walk_at "Eq"
      refine BoolP.of ?_
      exact eqb_rfl
    case ht5 =>
      skip
      first | done | exact absurd h (by decide +kernel) | (exfalso; revert h; decide +kernel)
    case hf5 =>
      skip
      try simp only [Bool.and_eq_true, Bool.or_eq_true, Bool.and_eq_false_iff, Bool.or_eq_false_iff, Bool.not_eq_true, Bool.not_eq_false, Bool.not_eq_true', Bool.not_eq_false', decide_eq_true_eq, decide_eq_false_iff_not] at h
      refine wss_nil ?_
      refine wss_cons ?_
      refine ws_ifP (B := ?B6) ?hc6 (fun h => ?ht6) (fun h => ?hf6)
      case hc6 =>
        refine wt_cmp ?_
        refine we_name 3 ?_
        refine we_str ?_
        walk_at "Eq"
        refine BoolP.of ?_
        exact eqb_rfl
      case ht6 =>
        skip
        first | done | exact absurd h (by decide +kernel) | (exfalso; revert h; decide +kernel)
      case hf6 =>
        skip
        try simp only [Bool.and_eq_true, Bool.or_eq_true, Bool.and_eq_false_iff, Bool.or_eq_false_iff, Bool.not_eq_true, Bool.not_eq_false, Bool.not_eq_true', Bool.not_eq_false', decide_eq_true_eq, decide_eq_false_iff_not] at h
        refine wss_nil ?_
        refine wss_cons ?_
        refine ws_ifP (B := ?B7) ?hc7 (fun h => ?ht7) (fun h => ?hf7)
        case hc7 =>
          refine wt_cmp ?_
          refine we_name 3 ?_
          refine we_str ?_
          walk_at "Eq"
          refine BoolP.of ?_
          exact eqb_rfl
        case ht7 =>
          skip
          try simp only [Bool.and_eq_true, Bool.or_eq_true, Bool.and_eq_false_iff, Bool.or_eq_false_iff, Bool.not_eq_true, Bool.not_eq_false, Bool.not_eq_true', Bool.not_eq_false', decide_eq_true_eq, decide_eq_false_iff_not] at h
          refine wss_one ?_
          refine ws_ret ?_
          refine we_list ?_
          refine wa_cons ?_
          refine we_str ?_
          refine wa_cons ?_
          refine we_ifP (B := ?B8) ?hc8 (fun h => ?ht8) (fun h => ?hf8)
          case hc8 =>
            refine wt_cmp ?_
            refine we_name 2 ?_
            refine we_int ?_
            walk_at "Eq"
            refine BoolP.of ?_
            exact eqb_rfl
          case ht8 =>
            skip
            try simp only [Bool.and_eq_true, Bool.or_eq_true, Bool.and_eq_false_iff, Bool.or_eq_false_iff, Bool.not_eq_true, Bool.not_eq_false, Bool.not_eq_true', Bool.not_eq_false', decide_eq_true_eq, decide_eq_false_iff_not] at h
            refine we_meth (ok_Disk_trim T) hgd hr hx ?_
            refine we_name 0 ?_
            refine ⟨ins_own (i := 0) rfl rfl, ?_⟩
            refine wa_cons ?_
            refine we_name 4 ?_
            refine wa_nil ?_
            refine FrP.all ⟨v, a, S, _, rfl, rfl, fun w hw => by rw [List.mem_singleton.mp hw]; exact ⟨hin, hgd2.small⟩, hS6, trivial, fun hy => ?_, fun hn => ?_⟩
            rotate_left 1
            · have hn' : v.btw S.se S.text.length = false := hn
              refine ⟨false, T.mCS, (fun h => nomatch h), (fun _ => ⟨true, T.mCC, (fun _ ea dd oe pn2 hz hf => ?_), (fun h => nomatch h)⟩)⟩
              refine wss_one ?_
              refine ws_ret ?_
              refine we_ifP (B := true) ?sc3 (fun _ => ?st3) (fun h => nomatch h)
              case sc3 =>
                refine wt_val ?_
                refine we_callB (id := "isinstance") T.isinstance ?_ bt_isinstance
                refine wa_cons ?_
                refine we_name 5 ?_
                refine wa_cons ?_
                refine we_globR T.g_AlongError ?_
                refine wa_nil ?_
                refine isE T.eC hz hf T.kC ?_
                refine BoolP.of ?_
                exact eqb_rfl
              case st3 =>
                refine we_list ?_
                refine wa_cons ?_
                refine we_str ?_
                refine wa_cons ?_
                refine we_xf (y := xS CC v) T.xC T.nC hz hf ?_
                refine we_name 5 ?_
                refine ⟨rfl, _, rfl, ?_⟩
                refine wa_nil ?_
                refine ⟨by simp, .het ?_⟩
                rw [st_trim0 hn'] at hpost
                exact res_tv hpost rfl
            refine wa_nil ?_
            refine ⟨by first | decide | simp, ?_⟩
            refine .het ?_
            rw [st_trim1 hy] at hpost
            exact res_tv hpost rfl
          case hf8 =>
            skip
            try simp only [Bool.and_eq_true, Bool.or_eq_true, Bool.and_eq_false_iff, Bool.or_eq_false_iff, Bool.not_eq_true, Bool.not_eq_false, Bool.not_eq_true', Bool.not_eq_false', decide_eq_true_eq, decide_eq_false_iff_not] at h
            refine we_methK0 (ok_Disk_trimK T) hgd hr hx ?_
            refine we_name 0 ?_
            refine ⟨ins_own (i := 0) rfl rfl, ?_⟩
            refine wk_cons ?_
            refine we_name 4 ?_
            refine wk_nil ?_
            refine ⟨rfl, ?_⟩
            refine FrP.all ⟨v, a, S, _, rfl, rfl, fun w hw => by rw [List.mem_singleton.mp hw]; exact ⟨hin, hgd2.small⟩, hS6, trivial, fun hy => ?_, fun hn => ?_⟩
            rotate_left 1
            · have hn' : v.btw S.se S.text.length = false := hn
              refine ⟨false, T.mCS, (fun h => nomatch h), (fun _ => ⟨true, T.mCC, (fun _ ea dd oe pn2 hz hf => ?_), (fun h => nomatch h)⟩)⟩
              refine wss_one ?_
              refine ws_ret ?_
              refine we_ifP (B := true) ?sc4 (fun _ => ?st4) (fun h => nomatch h)
              case sc4 =>
                refine wt_val ?_
                refine we_callB (id := "isinstance") T.isinstance ?_ bt_isinstance
                refine wa_cons ?_
                refine we_name 5 ?_
                refine wa_cons ?_
                refine we_globR T.g_AlongError ?_
                refine wa_nil ?_
                refine isE T.eC hz hf T.kC ?_
                refine BoolP.of ?_
                exact eqb_rfl
              case st4 =>
                refine we_list ?_
                refine wa_cons ?_
                refine we_str ?_
                refine wa_cons ?_
                refine we_xf (y := xS CC v) T.xC T.nC hz hf ?_
                refine we_name 5 ?_
                refine ⟨rfl, _, rfl, ?_⟩
                refine wa_nil ?_
                refine ⟨by simp, .het ?_⟩
                rw [st_trim0 hn'] at hpost
                exact res_tv hpost rfl
            refine wa_nil ?_
            refine ⟨by first | decide | simp, ?_⟩
            refine .het ?_
            rw [st_trim1 hy] at hpost
            exact res_tv hpost rfl
        case hf7 =>
          skip
          first | done | exact absurd h (by decide +kernel) | (exfalso; revert h; decide +kernel)
  | fall v =>
    have hin : v.In ((a, S.mvI CD) :: v.mu) := Ov.in_of fun x hx => List.mem_cons_of_mem _ hx
    refine wss_cons ?_
    refine ws_par 3 4 ?_ rfl sc.nd
    refine wa_cons ?_
    refine we_ix ?_
    refine we_name 1 ?_
    refine we_int ?_
    walk_at "i"
    refine wa_cons ?_
    refine we_ix ?_
    refine we_bin ?_
    refine we_name 1 ?_
    refine we_list ?_
    refine wa_cons ?_
    refine we_none ?_
    refine wa_nil ?_
    refine ⟨by first | decide | simp, ?_⟩
    refine .het ?_
    refine add_lU lu_hl lu_hl (by simp [Dd.ts]) ?_
    refine we_int ?_
    walk_at "i"
    refine wa_nil ?_
    refine ⟨_, _, rfl, ?_⟩
    refine wss_one ?_
    refine ws_try (xp := noX) _ xt0 sc.nd (.cons ⟨rfl, by decide, .inl T.g_InvalidSigns⟩ (.yes (i := 5) rfl rfl) (.cons ⟨rfl, by decide, .inl T.g_InvalidCount⟩ (.yes (i := 5) rfl rfl) .nil)) fun B1 H1 pn xe hx po => ?_
    refine wss_cons ?_
    refine ws_ifP (B := ?B9) ?hc9 (fun h => ?ht9) (fun h => ?hf9)
    case hc9 =>
      refine wt_cmp ?_
      refine we_name 3 ?_
      refine we_str ?_
      walk_at "Eq"
      refine BoolP.of ?_
      exact eqb_rfl
    case ht9 =>
      skip
      first | done | exact absurd h (by decide +kernel) | (exfalso; revert h; decide +kernel)
    case hf9 =>
      skip
      try simp only [Bool.and_eq_true, Bool.or_eq_true, Bool.and_eq_false_iff, Bool.or_eq_false_iff, Bool.not_eq_true, Bool.not_eq_false, Bool.not_eq_true', Bool.not_eq_false', decide_eq_true_eq, decide_eq_false_iff_not] at h
      refine wss_nil ?_
      refine wss_cons ?_
      refine ws_ifP (B := ?B10) ?hc10 (fun h => ?ht10) (fun h => ?hf10)
      case hc10 =>
        refine wt_cmp ?_
        refine we_name 3 ?_
        refine we_str ?_
        walk_at "Eq"
        refine BoolP.of ?_
        exact eqb_rfl
      case ht10 =>
        skip
        first | done | exact absurd h (by decide +kernel) | (exfalso; revert h; decide +kernel)
      case hf10 =>
        skip
        try simp only [Bool.and_eq_true, Bool.or_eq_true, Bool.and_eq_false_iff, Bool.or_eq_false_iff, Bool.not_eq_true, Bool.not_eq_false, Bool.not_eq_true', Bool.not_eq_false', decide_eq_true_eq, decide_eq_false_iff_not] at h
        refine wss_nil ?_
        refine wss_cons ?_
        refine ws_ifP (B := ?B11) ?hc11 (fun h => ?ht11) (fun h => ?hf11)
        case hc11 =>
          refine wt_cmp ?_
          refine we_name 3 ?_
          refine we_str ?_
          walk_at "Eq"
          refine BoolP.of ?_
          exact eqb_rfl
        case ht11 =>
          skip
          first | done | exact absurd h (by decide +kernel) | (exfalso; revert h; decide +kernel)
        case hf11 =>
          skip
          try simp only [Bool.and_eq_true, Bool.or_eq_true, Bool.and_eq_false_iff, Bool.or_eq_false_iff, Bool.not_eq_true, Bool.not_eq_false, Bool.not_eq_true', Bool.not_eq_false', decide_eq_true_eq, decide_eq_false_iff_not] at h
          refine wss_nil ?_
          refine wss_cons ?_
          refine ws_ifP (B := ?B12) ?hc12 (fun h => ?ht12) (fun h => ?hf12)
          case hc12 =>
            refine wt_cmp ?_
            refine we_name 3 ?_
            refine we_str ?_
            walk_at "Eq"
            refine BoolP.of ?_
            exact eqb_rfl
          case ht12 =>
            skip
            try simp only [Bool.and_eq_true, Bool.or_eq_true, Bool.and_eq_false_iff, Bool.or_eq_false_iff, Bool.not_eq_true, Bool.not_eq_false, Bool.not_eq_true', Bool.not_eq_false', decide_eq_true_eq, decide_eq_false_iff_not] at h
            refine wss_one ?_
            refine ws_ret ?_
            refine we_list ?_
            refine wa_cons ?_
            refine we_str ?_
            refine wa_cons ?_
            refine we_ifP (B := ?B13) ?hc13 (fun h => ?ht13) (fun h => ?hf13)
            case hc13 =>
              refine wt_cmp ?_
              refine we_name 2 ?_
              refine we_int ?_
              walk_at "Eq"
              refine BoolP.of ?_
              exact eqb_rfl
            case ht13 =>
              skip
              try simp only [Bool.and_eq_true, Bool.or_eq_true, Bool.and_eq_false_iff, Bool.or_eq_false_iff, Bool.not_eq_true, Bool.not_eq_false, Bool.not_eq_true', Bool.not_eq_false', decide_eq_true_eq, decide_eq_false_iff_not] at h
              refine we_meth (ok_Disk_fall T) hgd hr hx ?_
              refine we_name 0 ?_
              refine ⟨ins_own (i := 0) rfl rfl, ?_⟩
              refine wa_cons ?_
              refine we_name 4 ?_
              refine wa_nil ?_
              refine FrP.all ⟨v, a, S, _, rfl, rfl, fun w hw => by rw [List.mem_singleton.mp hw]; exact ⟨hin, hgd2.small⟩, hS6, trivial, fun hy => ?_, fun hn => ?_⟩
              rotate_left 1
              · have hn' : v.isCount = false := hn
                refine ⟨false, T.mCS, (fun h => nomatch h), (fun _ => ⟨true, T.mCC, (fun _ ea dd oe pn2 hz hf => ?_), (fun h => nomatch h)⟩)⟩
                refine wss_one ?_
                refine ws_ret ?_
                refine we_ifP (B := true) ?sc5 (fun _ => ?st5) (fun h => nomatch h)
                case sc5 =>
                  refine wt_val ?_
                  refine we_callB (id := "isinstance") T.isinstance ?_ bt_isinstance
                  refine wa_cons ?_
                  refine we_name 5 ?_
                  refine wa_cons ?_
                  refine we_globR T.g_AlongError ?_
                  refine wa_nil ?_
                  refine isE T.eC hz hf T.kC ?_
                  refine BoolP.of ?_
                  exact eqb_rfl
                case st5 =>
                  refine we_list ?_
                  refine wa_cons ?_
                  refine we_str ?_
                  refine wa_cons ?_
                  refine we_xf (y := xS CC v) T.xC T.nC hz hf ?_
                  refine we_name 5 ?_
                  refine ⟨rfl, _, rfl, ?_⟩
                  refine wa_nil ?_
                  refine ⟨by simp, .het ?_⟩
                  rw [st_fall0 hn'] at hpost
                  exact res_tv hpost rfl
              refine wa_nil ?_
              refine ⟨by first | decide | simp, ?_⟩
              refine .het ?_
              rw [st_fall1 hy] at hpost
              exact res_tv hpost rfl
            case hf13 =>
              skip
              try simp only [Bool.and_eq_true, Bool.or_eq_true, Bool.and_eq_false_iff, Bool.or_eq_false_iff, Bool.not_eq_true, Bool.not_eq_false, Bool.not_eq_true', Bool.not_eq_false', decide_eq_true_eq, decide_eq_false_iff_not] at h
              refine we_methK0 (ok_Disk_fallK T) hgd hr hx ?_
              refine we_name 0 ?_
              refine ⟨ins_own (i := 0) rfl rfl, ?_⟩
              refine wk_cons ?_
              refine we_name 4 ?_
              refine wk_nil ?_
              refine ⟨rfl, ?_⟩
              refine FrP.all ⟨v, a, S, _, rfl, rfl, fun w hw => by rw [List.mem_singleton.mp hw]; exact ⟨hin, hgd2.small⟩, hS6, trivial, fun hy => ?_, fun hn => ?_⟩
              rotate_left 1
              · have hn' : v.isCount = false := hn
                refine ⟨false, T.mCS, (fun h => nomatch h), (fun _ => ⟨true, T.mCC, (fun _ ea dd oe pn2 hz hf => ?_), (fun h => nomatch h)⟩)⟩
                refine wss_one ?_
                refine ws_ret ?_
                refine we_ifP (B := true) ?sc6 (fun _ => ?st6) (fun h => nomatch h)
                case sc6 =>
                  refine wt_val ?_
                  refine we_callB (id := "isinstance") T.isinstance ?_ bt_isinstance
                  refine wa_cons ?_
                  refine we_name 5 ?_
                  refine wa_cons ?_
                  refine we_globR T.g_AlongError ?_
                  refine wa_nil ?_
                  refine isE T.eC hz hf T.kC ?_
                  refine BoolP.of ?_
                  exact eqb_rfl
                case st6 =>
                  refine we_list ?_
                  refine wa_cons ?_
                  refine we_str ?_
                  refine wa_cons ?_
                  refine we_xf (y := xS CC v) T.xC T.nC hz hf ?_
                  refine we_name 5 ?_
                  refine ⟨rfl, _, rfl, ?_⟩
                  refine wa_nil ?_
                  refine ⟨by simp, .het ?_⟩
                  rw [st_fall0 hn'] at hpost
                  exact res_tv hpost rfl
              refine wa_nil ?_
              refine ⟨by first | decide | simp, ?_⟩
              refine .het ?_
              rw [st_fall1 hy] at hpost
              exact res_tv hpost rfl
          case hf12 =>
            skip
            first | done | exact absurd h (by decide +kernel) | (exfalso; revert h; decide +kernel)
  | lose v =>
    have hin : v.In ((a, S.mvI CD) :: v.mu) := Ov.in_of fun x hx => List.mem_cons_of_mem _ hx
    refine wss_cons ?_
    refine ws_par 3 4 ?_ rfl sc.nd
    refine wa_cons ?_
    refine we_ix ?_
    refine we_name 1 ?_
    refine we_int ?_
    walk_at "i"
    refine wa_cons ?_
    refine we_ix ?_
    refine we_bin ?_
    refine we_name 1 ?_
    refine we_list ?_
    refine wa_cons ?_
    refine we_none ?_
    refine wa_nil ?_
    refine ⟨by first | decide | simp, ?_⟩
    refine .het ?_
    refine add_lU lu_hl lu_hl (by simp [Dd.ts]) ?_
    refine we_int ?_
    walk_at "i"
    refine wa_nil ?_
    refine ⟨_, _, rfl, ?_⟩
    refine wss_one ?_
    refine ws_try (xp := noX) _ xt0 sc.nd (.cons ⟨rfl, by decide, .inl T.g_InvalidSigns⟩ (.yes (i := 5) rfl rfl) (.cons ⟨rfl, by decide, .inl T.g_InvalidCount⟩ (.yes (i := 5) rfl rfl) .nil)) fun B1 H1 pn xe hx po => ?_
    refine wss_cons ?_
    refine ws_ifP (B := ?B14) ?hc14 (fun h => ?ht14) (fun h => ?hf14)
    case hc14 =>
      refine wt_cmp ?_
      refine we_name 3 ?_
      refine we_str ?_
      walk_at "Eq"
      refine BoolP.of ?_
      exact eqb_rfl
    case ht14 =>
      skip
      first | done | exact absurd h (by decide +kernel) | (exfalso; revert h; decide +kernel)
    case hf14 =>
      skip
      try simp only [Bool.and_eq_true, Bool.or_eq_true, Bool.and_eq_false_iff, Bool.or_eq_false_iff, Bool.not_eq_true, Bool.not_eq_false, Bool.not_eq_true', Bool.not_eq_false', decide_eq_true_eq, decide_eq_false_iff_not] at h
      refine wss_nil ?_
      refine wss_cons ?_
      refine ws_ifP (B := ?B15) ?hc15 (fun h => ?ht15) (fun h => ?hf15)
      case hc15 =>
        refine wt_cmp ?_
        refine we_name 3 ?_
        refine we_str ?_
        walk_at "Eq"
        refine BoolP.of ?_
        exact eqb_rfl
      case ht15 =>
        skip
        first | done | exact absurd h (by decide +kernel) | (exfalso; revert h; decide +kernel)
      case hf15 =>
        skip
        try simp only [Bool.and_eq_true, Bool.or_eq_true, Bool.and_eq_false_iff, Bool.or_eq_false_iff, Bool.not_eq_true, Bool.not_eq_false, Bool.not_eq_true', Bool.not_eq_false', decide_eq_true_eq, decide_eq_false_iff_not] at h
        refine wss_nil ?_
        refine wss_cons ?_
        refine ws_ifP (B := ?B16) ?hc16 (fun h => ?ht16) (fun h => ?hf16)
        case hc16 =>
          refine wt_cmp ?_
          refine we_name 3 ?_
          refine we_str ?_
          walk_at "Eq"
          refine BoolP.of ?_
          exact eqb_rfl
        case ht16 =>
          skip
          first | done | exact absurd h (by decide +kernel) | (exfalso; revert h; decide +kernel)
        case hf16 =>
          skip
          try simp only [Bool.and_eq_true, Bool.or_eq_true, Bool.and_eq_false_iff, Bool.or_eq_false_iff, Bool.not_eq_true, Bool.not_eq_false, Bool.not_eq_true', Bool.not_eq_false', decide_eq_true_eq, decide_eq_false_iff_not] at h
          refine wss_nil ?_
          refine wss_cons ?_
          refine ws_ifP (B := ?B17) ?hc17 (fun h => ?ht17) (fun h => ?hf17)
          case hc17 =>
            refine wt_cmp ?_
            refine we_name 3 ?_
            refine we_str ?_
            walk_at "Eq"
            refine BoolP.of ?_
            exact eqb_rfl
          case ht17 =>
            skip
            first | done | exact absurd h (by decide +kernel) | (exfalso; revert h; decide +kernel)
          case hf17 =>
            skip
            try simp only [Bool.and_eq_true, Bool.or_eq_true, Bool.and_eq_false_iff, Bool.or_eq_false_iff, Bool.not_eq_true, Bool.not_eq_false, Bool.not_eq_true', Bool.not_eq_false', decide_eq_true_eq, decide_eq_false_iff_not] at h
            refine wss_nil ?_
            refine wss_cons ?_
            refine ws_ifP (B := ?B18) ?hc18 (fun h => ?ht18) (fun h => ?hf18)
            case hc18 =>
              refine wt_cmp ?_
              refine we_name 3 ?_
              refine we_str ?_
              walk_at "Eq"
              refine BoolP.of ?_
              exact eqb_rfl
            case ht18 =>
              skip
              try simp only [Bool.and_eq_true, Bool.or_eq_true, Bool.and_eq_false_iff, Bool.or_eq_false_iff, Bool.not_eq_true, Bool.not_eq_false, Bool.not_eq_true', Bool.not_eq_false', decide_eq_true_eq, decide_eq_false_iff_not] at h
              refine wss_one ?_
              refine ws_ret ?_
              refine we_list ?_
              refine wa_cons ?_
              refine we_str ?_
              refine wa_cons ?_
              refine we_ifP (B := ?B19) ?hc19 (fun h => ?ht19) (fun h => ?hf19)
              case hc19 =>
                refine wt_cmp ?_
                refine we_name 2 ?_
                refine we_int ?_
                walk_at "Eq"
                refine BoolP.of ?_
                exact eqb_rfl
              case ht19 =>
                skip
                try simp only [Bool.and_eq_true, Bool.or_eq_true, Bool.and_eq_false_iff, Bool.or_eq_false_iff, Bool.not_eq_true, Bool.not_eq_false, Bool.not_eq_true', Bool.not_eq_false', decide_eq_true_eq, decide_eq_false_iff_not] at h
                refine we_meth (ok_Disk_lose T) hgd hr hx ?_
                refine we_name 0 ?_
                refine ⟨ins_own (i := 0) rfl rfl, ?_⟩
                refine wa_cons ?_
                refine we_name 4 ?_
                refine wa_nil ?_
                refine FrP.all ⟨v, a, S, _, rfl, rfl, fun w hw => by rw [List.mem_singleton.mp hw]; exact ⟨hin, hgd2.small⟩, hS6, trivial, fun hy => ?_, fun hn => ?_⟩
                rotate_left 1
                · have hn' : v.isCount = false := hn
                  refine ⟨false, T.mCS, (fun h => nomatch h), (fun _ => ⟨true, T.mCC, (fun _ ea dd oe pn2 hz hf => ?_), (fun h => nomatch h)⟩)⟩
                  refine wss_one ?_
                  refine ws_ret ?_
                  refine we_ifP (B := true) ?sc7 (fun _ => ?st7) (fun h => nomatch h)
                  case sc7 =>
                    refine wt_val ?_
                    refine we_callB (id := "isinstance") T.isinstance ?_ bt_isinstance
                    refine wa_cons ?_
                    refine we_name 5 ?_
                    refine wa_cons ?_
                    refine we_globR T.g_AlongError ?_
                    refine wa_nil ?_
                    refine isE T.eC hz hf T.kC ?_
                    refine BoolP.of ?_
                    exact eqb_rfl
                  case st7 =>
                    refine we_list ?_
                    refine wa_cons ?_
                    refine we_str ?_
                    refine wa_cons ?_
                    refine we_xf (y := xS CC v) T.xC T.nC hz hf ?_
                    refine we_name 5 ?_
                    refine ⟨rfl, _, rfl, ?_⟩
                    refine wa_nil ?_
                    refine ⟨by simp, .het ?_⟩
                    rw [st_lose0 hn'] at hpost
                    exact res_tv hpost rfl
                refine wa_nil ?_
                refine ⟨by first | decide | simp, ?_⟩
                refine .het ?_
                rw [st_lose1 hy] at hpost
                exact res_tv hpost rfl
              case hf19 =>
                skip
                try simp only [Bool.and_eq_true, Bool.or_eq_true, Bool.and_eq_false_iff, Bool.or_eq_false_iff, Bool.not_eq_true, Bool.not_eq_false, Bool.not_eq_true', Bool.not_eq_false', decide_eq_true_eq, decide_eq_false_iff_not] at h
                refine we_methK0 (ok_Disk_loseK T) hgd hr hx ?_
                refine we_name 0 ?_
                refine ⟨ins_own (i := 0) rfl rfl, ?_⟩
                refine wk_cons ?_
                refine we_name 4 ?_
                refine wk_nil ?_
                refine ⟨rfl, ?_⟩
                refine FrP.all ⟨v, a, S, _, rfl, rfl, fun w hw => by rw [List.mem_singleton.mp hw]; exact ⟨hin, hgd2.small⟩, hS6, trivial, fun hy => ?_, fun hn => ?_⟩
                rotate_left 1
                · have hn' : v.isCount = false := hn
                  refine ⟨false, T.mCS, (fun h => nomatch h), (fun _ => ⟨true, T.mCC, (fun _ ea dd oe pn2 hz hf => ?_), (fun h => nomatch h)⟩)⟩
                  refine wss_one ?_
                  refine ws_ret ?_
                  refine we_ifP (B := true) ?sc8 (fun _ => ?st8) (fun h => nomatch h)
                  case sc8 =>
                    refine wt_val ?_
                    refine we_callB (id := "isinstance") T.isinstance ?_ bt_isinstance
                    refine wa_cons ?_
                    refine we_name 5 ?_
                    refine wa_cons ?_
                    refine we_globR T.g_AlongError ?_
                    refine wa_nil ?_
                    refine isE T.eC hz hf T.kC ?_
                    refine BoolP.of ?_
                    exact eqb_rfl
                  case st8 =>
                    refine we_list ?_
                    refine wa_cons ?_
                    refine we_str ?_
                    refine wa_cons ?_
                    refine we_xf (y := xS CC v) T.xC T.nC hz hf ?_
                    refine we_name 5 ?_
                    refine ⟨rfl, _, rfl, ?_⟩
                    refine wa_nil ?_
                    refine ⟨by simp, .het ?_⟩
                    rw [st_lose0 hn'] at hpost
                    exact res_tv hpost rfl
                refine wa_nil ?_
                refine ⟨by first | decide | simp, ?_⟩
                refine .het ?_
                rw [st_lose1 hy] at hpost
                exact res_tv hpost rfl
            case hf18 =>
              skip
              first | done | exact absurd h (by decide +kernel) | (exfalso; revert h; decide +kernel)
  | settle v =>
    have hin : v.In ((a, S.mvI CD) :: v.mu) := Ov.in_of fun x hx => List.mem_cons_of_mem _ hx
    refine wss_cons ?_
    refine ws_par 3 4 ?_ rfl sc.nd
    refine wa_cons ?_
    refine we_ix ?_
    refine we_name 1 ?_
    refine we_int ?_
    walk_at "i"
    refine wa_cons ?_
    refine we_ix ?_
    refine we_bin ?_
    refine we_name 1 ?_
    refine we_list ?_
    refine wa_cons ?_
    refine we_none ?_
    refine wa_nil ?_
    refine ⟨by first | decide | simp, ?_⟩
    refine .het ?_
    refine add_lU lu_hl lu_hl (by simp [Dd.ts]) ?_
    refine we_int ?_
    walk_at "i"
    refine wa_nil ?_
    refine ⟨_, _, rfl, ?_⟩
    refine wss_one ?_
    refine ws_try (xp := noX) _ xt0 sc.nd (.cons ⟨rfl, by decide, .inl T.g_InvalidSigns⟩ (.yes (i := 5) rfl rfl) (.cons ⟨rfl, by decide, .inl T.g_InvalidCount⟩ (.yes (i := 5) rfl rfl) .nil)) fun B1 H1 pn xe hx po => ?_
    refine wss_cons ?_
    refine ws_ifP (B := ?B20) ?hc20 (fun h => ?ht20) (fun h => ?hf20)
    case hc20 =>
      refine wt_cmp ?_
      refine we_name 3 ?_
      refine we_str ?_
      walk_at "Eq"
      refine BoolP.of ?_
      exact eqb_rfl
    case ht20 =>
      skip
      first | done | exact absurd h (by decide +kernel) | (exfalso; revert h; decide +kernel)
    case hf20 =>
      skip
      try simp only [Bool.and_eq_true, Bool.or_eq_true, Bool.and_eq_false_iff, Bool.or_eq_false_iff, Bool.not_eq_true, Bool.not_eq_false, Bool.not_eq_true', Bool.not_eq_false', decide_eq_true_eq, decide_eq_false_iff_not] at h
      refine wss_nil ?_
      refine wss_cons ?_
      refine ws_ifP (B := ?B21) ?hc21 (fun h => ?ht21) (fun h => ?hf21)
      case hc21 =>
        refine wt_cmp ?_
        refine we_name 3 ?_
        refine we_str ?_
        walk_at "Eq"
        refine BoolP.of ?_
        exact eqb_rfl
      case ht21 =>
        skip
        first | done | exact absurd h (by decide +kernel) | (exfalso; revert h; decide +kernel)
      case hf21 =>
        skip
        try simp only [Bool.and_eq_true, Bool.or_eq_true, Bool.and_eq_false_iff, Bool.or_eq_false_iff, Bool.not_eq_true, Bool.not_eq_false, Bool.not_eq_true', Bool.not_eq_false', decide_eq_true_eq, decide_eq_false_iff_not] at h
        refine wss_nil ?_
        refine wss_cons ?_
        refine ws_ifP (B := ?B22) ?hc22 (fun h => ?ht22) (fun h => ?hf22)
        case hc22 =>
          refine wt_cmp ?_
          refine we_name 3 ?_
          refine we_str ?_
          walk_at "Eq"
          refine BoolP.of ?_
          exact eqb_rfl
        case ht22 =>
          skip
          first | done | exact absurd h (by decide +kernel) | (exfalso; revert h; decide +kernel)
        case hf22 =>
          skip
          try simp only [Bool.and_eq_true, Bool.or_eq_true, Bool.and_eq_false_iff, Bool.or_eq_false_iff, Bool.not_eq_true, Bool.not_eq_false, Bool.not_eq_true', Bool.not_eq_false', decide_eq_true_eq, decide_eq_false_iff_not] at h
          refine wss_nil ?_
          refine wss_cons ?_
          refine ws_ifP (B := ?B23) ?hc23 (fun h => ?ht23) (fun h => ?hf23)
          case hc23 =>
            refine wt_cmp ?_
            refine we_name 3 ?_
            refine we_str ?_
            walk_at "Eq"
            refine BoolP.of ?_
            exact eqb_rfl
          case ht23 =>
            skip
            first | done | exact absurd h (by decide +kernel) | (exfalso; revert h; decide +kernel)
          case hf23 =>
            skip
            try simp only [Bool.and_eq_true, Bool.or_eq_true, Bool.and_eq_false_iff, Bool.or_eq_false_iff, Bool.not_eq_true, Bool.not_eq_false, Bool.not_eq_true', Bool.not_eq_false', decide_eq_true_eq, decide_eq_false_iff_not] at h
            refine wss_nil ?_
            refine wss_cons ?_
            refine ws_ifP (B := ?B24) ?hc24 (fun h => ?ht24) (fun h => ?hf24)
            case hc24 =>
              refine wt_cmp ?_
              refine we_name 3 ?_
              refine we_str ?_
              walk_at "Eq"
              refine BoolP.of ?_
              exact eqb_rfl
            case ht24 =>
              skip
              first | done | exact absurd h (by decide +kernel) | (exfalso; revert h; decide +kernel)
            case hf24 =>
              skip
              try simp only [Bool.and_eq_true, Bool.or_eq_true, Bool.and_eq_false_iff, Bool.or_eq_false_iff, Bool.not_eq_true, Bool.not_eq_false, Bool.not_eq_true', Bool.not_eq_false', decide_eq_true_eq, decide_eq_false_iff_not] at h
              refine wss_nil ?_
              refine wss_cons ?_
              refine ws_ifP (B := ?B25) ?hc25 (fun h => ?ht25) (fun h => ?hf25)
              case hc25 =>
                refine wt_cmp ?_
                refine we_name 3 ?_
                refine we_str ?_
                walk_at "Eq"
                refine BoolP.of ?_
                exact eqb_rfl
              case ht25 =>
                skip
                try simp only [Bool.and_eq_true, Bool.or_eq_true, Bool.and_eq_false_iff, Bool.or_eq_false_iff, Bool.not_eq_true, Bool.not_eq_false, Bool.not_eq_true', Bool.not_eq_false', decide_eq_true_eq, decide_eq_false_iff_not] at h
                refine wss_one ?_
                refine ws_ret ?_
                refine we_list ?_
                refine wa_cons ?_
                refine we_str ?_
                refine wa_cons ?_
                refine we_ifP (B := ?B26) ?hc26 (fun h => ?ht26) (fun h => ?hf26)
                case hc26 =>
                  refine wt_cmp ?_
                  refine we_name 2 ?_
                  refine we_int ?_
                  walk_at "Eq"
                  refine BoolP.of ?_
                  exact eqb_rfl
                case ht26 =>
                  skip
                  try simp only [Bool.and_eq_true, Bool.or_eq_true, Bool.and_eq_false_iff, Bool.or_eq_false_iff, Bool.not_eq_true, Bool.not_eq_false, Bool.not_eq_true', Bool.not_eq_false', decide_eq_true_eq, decide_eq_false_iff_not] at h
                  refine we_meth (ok_Disk_settle T) hgd hr hx ?_
                  refine we_name 0 ?_
                  refine ⟨ins_own (i := 0) rfl rfl, ?_⟩
                  refine wa_cons ?_
                  refine we_name 4 ?_
                  refine wa_nil ?_
                  refine FrP.all ⟨v, a, S, _, rfl, rfl, fun w hw => by rw [List.mem_singleton.mp hw]; exact ⟨hin, hgd2.small⟩, hS6, trivial, fun hy => ?_, fun hn => ?_⟩
                  rotate_left 1
                  · have hn' : v.btw S.se S.sy = false := hn
                    refine ⟨false, T.mCS, (fun h => nomatch h), (fun _ => ⟨true, T.mCC, (fun _ ea dd oe pn2 hz hf => ?_), (fun h => nomatch h)⟩)⟩
                    refine wss_one ?_
                    refine ws_ret ?_
                    refine we_ifP (B := true) ?sc9 (fun _ => ?st9) (fun h => nomatch h)
                    case sc9 =>
                      refine wt_val ?_
                      refine we_callB (id := "isinstance") T.isinstance ?_ bt_isinstance
                      refine wa_cons ?_
                      refine we_name 5 ?_
                      refine wa_cons ?_
                      refine we_globR T.g_AlongError ?_
                      refine wa_nil ?_
                      refine isE T.eC hz hf T.kC ?_
                      refine BoolP.of ?_
                      exact eqb_rfl
                    case st9 =>
                      refine we_list ?_
                      refine wa_cons ?_
                      refine we_str ?_
                      refine wa_cons ?_
                      refine we_xf (y := xS CC v) T.xC T.nC hz hf ?_
                      refine we_name 5 ?_
                      refine ⟨rfl, _, rfl, ?_⟩
                      refine wa_nil ?_
                      refine ⟨by simp, .het ?_⟩
                      rw [st_settle0 hn'] at hpost
                      exact res_tv hpost rfl
                  refine wa_nil ?_
                  refine ⟨by first | decide | simp, ?_⟩
                  refine .het ?_
                  rw [st_settle1 hy] at hpost
                  exact res_tv hpost rfl
                case hf26 =>
                  skip
                  try simp only [Bool.and_eq_true, Bool.or_eq_true, Bool.and_eq_false_iff, Bool.or_eq_false_iff, Bool.not_eq_true, Bool.not_eq_false, Bool.not_eq_true', Bool.not_eq_false', decide_eq_true_eq, decide_eq_false_iff_not] at h
                  refine we_methK0 (ok_Disk_settleK T) hgd hr hx ?_
                  refine we_name 0 ?_
                  refine ⟨ins_own (i := 0) rfl rfl, ?_⟩
                  refine wk_cons ?_
                  refine we_name 4 ?_
                  refine wk_nil ?_
                  refine ⟨rfl, ?_⟩
                  refine FrP.all ⟨v, a, S, _, rfl, rfl, fun w hw => by rw [List.mem_singleton.mp hw]; exact ⟨hin, hgd2.small⟩, hS6, trivial, fun hy => ?_, fun hn => ?_⟩
                  rotate_left 1
                  · have hn' : v.btw S.se S.sy = false := hn
                    refine ⟨false, T.mCS, (fun h => nomatch h), (fun _ => ⟨true, T.mCC, (fun _ ea dd oe pn2 hz hf => ?_), (fun h => nomatch h)⟩)⟩
                    refine wss_one ?_
                    refine ws_ret ?_
                    refine we_ifP (B := true) ?sc10 (fun _ => ?st10) (fun h => nomatch h)
                    case sc10 =>
                      refine wt_val ?_
                      refine we_callB (id := "isinstance") T.isinstance ?_ bt_isinstance
                      refine wa_cons ?_
                      refine we_name 5 ?_
                      refine wa_cons ?_
                      refine we_globR T.g_AlongError ?_
                      refine wa_nil ?_
                      refine isE T.eC hz hf T.kC ?_
                      refine BoolP.of ?_
                      exact eqb_rfl
                    case st10 =>
                      refine we_list ?_
                      refine wa_cons ?_
                      refine we_str ?_
                      refine wa_cons ?_
                      refine we_xf (y := xS CC v) T.xC T.nC hz hf ?_
                      refine we_name 5 ?_
                      refine ⟨rfl, _, rfl, ?_⟩
                      refine wa_nil ?_
                      refine ⟨by simp, .het ?_⟩
                      rw [st_settle0 hn'] at hpost
                      exact res_tv hpost rfl
                  refine wa_nil ?_
                  refine ⟨by first | decide | simp, ?_⟩
                  refine .het ?_
                  rw [st_settle1 hy] at hpost
                  exact res_tv hpost rfl
              case hf25 =>
                skip
                first | done | exact absurd h (by decide +kernel) | (exfalso; revert h; decide +kernel)
  | swap v c =>
    have hin : v.In ((a, S.mvI CD) :: (v.mu ++ c.mu)) := Ov.in_of fun x hx => List.mem_cons_of_mem _ (List.mem_append_left _ hx)
    have hinc : c.In ((a, S.mvI CD) :: (v.mu ++ c.mu)) := Ov.in_of fun x hx => List.mem_cons_of_mem _ (List.mem_append_right _ hx)
    refine wss_cons ?_
    refine ws_par 3 4 ?_ rfl sc.nd
    refine wa_cons ?_
    refine we_ix ?_
    refine we_name 1 ?_
    refine we_int ?_
    walk_at "i"
    refine wa_cons ?_
    refine we_ix ?_
    refine we_bin ?_
    refine we_name 1 ?_
    refine we_list ?_
    refine wa_cons ?_
    refine we_none ?_
    refine wa_nil ?_
    refine ⟨by first | decide | simp, ?_⟩
    refine .het ?_
    refine add_lU lu_hl lu_hl (by simp [Dd.ts]) ?_
    refine we_int ?_
    walk_at "i"
    refine wa_nil ?_
    refine ⟨_, _, rfl, ?_⟩
    refine wss_one ?_
    refine ws_try (xp := noX) _ xt0 sc.nd (.cons ⟨rfl, by decide, .inl T.g_InvalidSigns⟩ (.yes (i := 5) rfl rfl) (.cons ⟨rfl, by decide, .inl T.g_InvalidCount⟩ (.yes (i := 5) rfl rfl) .nil)) fun B1 H1 pn xe hx po => ?_
    refine wss_cons ?_
    refine ws_ifP (B := ?B27) ?hc27 (fun h => ?ht27) (fun h => ?hf27)
    case hc27 =>
      refine wt_cmp ?_
      refine we_name 3 ?_
      refine we_str ?_
      walk_at "Eq"
      refine BoolP.of ?_
      exact eqb_rfl
    case ht27 =>
      skip
      first | done | exact absurd h (by decide +kernel) | (exfalso; revert h; decide +kernel)
    case hf27 =>
      skip
      try simp only [Bool.and_eq_true, Bool.or_eq_true, Bool.and_eq_false_iff, Bool.or_eq_false_iff, Bool.not_eq_true, Bool.not_eq_false, Bool.not_eq_true', Bool.not_eq_false', decide_eq_true_eq, decide_eq_false_iff_not] at h
      refine wss_nil ?_
      refine wss_cons ?_
      refine ws_ifP (B := ?B28) ?hc28 (fun h => ?ht28) (fun h => ?hf28)
      case hc28 =>
        refine wt_cmp ?_
        refine we_name 3 ?_
        refine we_str ?_
        walk_at "Eq"
        refine BoolP.of ?_
        exact eqb_rfl
      case ht28 =>
        skip
        first | done | exact absurd h (by decide +kernel) | (exfalso; revert h; decide +kernel)
      case hf28 =>
        skip
        try simp only [Bool.and_eq_true, Bool.or_eq_true, Bool.and_eq_false_iff, Bool.or_eq_false_iff, Bool.not_eq_true, Bool.not_eq_false, Bool.not_eq_true', Bool.not_eq_false', decide_eq_true_eq, decide_eq_false_iff_not] at h
        refine wss_nil ?_
        refine wss_cons ?_
        refine ws_ifP (B := ?B29) ?hc29 (fun h => ?ht29) (fun h => ?hf29)
        case hc29 =>
          refine wt_cmp ?_
          refine we_name 3 ?_
          refine we_str ?_
          walk_at "Eq"
          refine BoolP.of ?_
          exact eqb_rfl
        case ht29 =>
          skip
          first | done | exact absurd h (by decide +kernel) | (exfalso; revert h; decide +kernel)
        case hf29 =>
          skip
          try simp only [Bool.and_eq_true, Bool.or_eq_true, Bool.and_eq_false_iff, Bool.or_eq_false_iff, Bool.not_eq_true, Bool.not_eq_false, Bool.not_eq_true', Bool.not_eq_false', decide_eq_true_eq, decide_eq_false_iff_not] at h
          refine wss_nil ?_
          refine wss_cons ?_
          refine ws_ifP (B := ?B30) ?hc30 (fun h => ?ht30) (fun h => ?hf30)
          case hc30 =>
            refine wt_cmp ?_
            refine we_name 3 ?_
            refine we_str ?_
            walk_at "Eq"
            refine BoolP.of ?_
            exact eqb_rfl
          case ht30 =>
            skip
            first | done | exact absurd h (by decide +kernel) | (exfalso; revert h; decide +kernel)
          case hf30 =>
            skip
            try simp only [Bool.and_eq_true, Bool.or_eq_true, Bool.and_eq_false_iff, Bool.or_eq_false_iff, Bool.not_eq_true, Bool.not_eq_false, Bool.not_eq_true', Bool.not_eq_false', decide_eq_true_eq, decide_eq_false_iff_not] at h
            refine wss_nil ?_
            refine wss_cons ?_
            refine ws_ifP (B := ?B31) ?hc31 (fun h => ?ht31) (fun h => ?hf31)
            case hc31 =>
              refine wt_cmp ?_
              refine we_name 3 ?_
              refine we_str ?_
              walk_at "Eq"
              refine BoolP.of ?_
              exact eqb_rfl
            case ht31 =>
              skip
              first | done | exact absurd h (by decide +kernel) | (exfalso; revert h; decide +kernel)
            case hf31 =>
              skip
              try simp only [Bool.and_eq_true, Bool.or_eq_true, Bool.and_eq_false_iff, Bool.or_eq_false_iff, Bool.not_eq_true, Bool.not_eq_false, Bool.not_eq_true', Bool.not_eq_false', decide_eq_true_eq, decide_eq_false_iff_not] at h
              refine wss_nil ?_
              refine wss_cons ?_
              refine ws_ifP (B := ?B32) ?hc32 (fun h => ?ht32) (fun h => ?hf32)
              case hc32 =>
                refine wt_cmp ?_
                refine we_name 3 ?_
                refine we_str ?_
                walk_at "Eq"
                refine BoolP.of ?_
                exact eqb_rfl
              case ht32 =>
                skip
                first | done | exact absurd h (by decide +kernel) | (exfalso; revert h; decide +kernel)
              case hf32 =>
                skip
                try simp only [Bool.and_eq_true, Bool.or_eq_true, Bool.and_eq_false_iff, Bool.or_eq_false_iff, Bool.not_eq_true, Bool.not_eq_false, Bool.not_eq_true', Bool.not_eq_false', decide_eq_true_eq, decide_eq_false_iff_not] at h
                refine wss_nil ?_
                refine wss_one ?_
                refine ws_ret ?_
                refine we_list ?_
                refine wa_cons ?_
                refine we_str ?_
                refine wa_cons ?_
                refine we_ifP (B := ?B33) ?hc33 (fun h => ?ht33) (fun h => ?hf33)
                case hc33 =>
                  refine wt_cmp ?_
                  refine we_name 2 ?_
                  refine we_int ?_
                  walk_at "Eq"
                  refine BoolP.of ?_
                  exact eqb_rfl
                case ht33 =>
                  skip
                  try simp only [Bool.and_eq_true, Bool.or_eq_true, Bool.and_eq_false_iff, Bool.or_eq_false_iff, Bool.not_eq_true, Bool.not_eq_false, Bool.not_eq_true', Bool.not_eq_false', decide_eq_true_eq, decide_eq_false_iff_not] at h
                  refine we_meth (ok_Disk_swap T) hgd hr hx ?_
                  refine we_name 0 ?_
                  refine ⟨ins_own (i := 0) rfl rfl, ?_⟩
                  refine wa_cons ?_
                  refine we_name 4 ?_
                  refine wa_cons ?_
                  refine we_ix ?_
                  refine we_name 1 ?_
                  refine we_int ?_
                  walk_at "i"
                  refine wa_nil ?_
                  refine FrP.all ⟨v, c, a, S, _, rfl, rfl, fun w hw => ?_, hS6, trivial, fun hy => ?_, fun hn => ?_⟩
                  · rcases List.mem_cons.mp hw with e | hw
                    · rw [e]; exact ⟨hin, hgd2.1.small⟩
                    · rw [List.mem_singleton.mp hw]; exact ⟨hinc, hgd2.2.small⟩
                  rotate_left 1
                  · have hn' : (v.isSg && c.btw 0 v.s.length) = false := hn
                    by_cases hs : v.isSg = true
                    · rw [hs, Bool.true_and] at hn'
                      rw [if_pos hs]
                      refine ⟨false, T.mCS, (fun h => nomatch h), (fun _ => ⟨true, T.mCC, (fun _ ea dd oe pn2 hz hf => ?_), (fun h => nomatch h)⟩)⟩
                      refine wss_one ?_
                      refine ws_ret ?_
                      refine we_ifP (B := true) ?sc11 (fun _ => ?st11) (fun h => nomatch h)
                      case sc11 =>
                        refine wt_val ?_
                        refine we_callB (id := "isinstance") T.isinstance ?_ bt_isinstance
                        refine wa_cons ?_
                        refine we_name 5 ?_
                        refine wa_cons ?_
                        refine we_globR T.g_AlongError ?_
                        refine wa_nil ?_
                        refine isE T.eC hz hf T.kC ?_
                        refine BoolP.of ?_
                        exact eqb_rfl
                      case st11 =>
                        refine we_list ?_
                        refine wa_cons ?_
                        refine we_str ?_
                        refine wa_cons ?_
                        refine we_xf (y := xS CC c) T.xC T.nC hz hf ?_
                        refine we_name 5 ?_
                        refine ⟨rfl, _, rfl, ?_⟩
                        refine wa_nil ?_
                        refine ⟨by simp, .het ?_⟩
                        rw [st_swapC hs hn'] at hpost
                        exact res_tv hpost rfl
                    · have hs' : v.isSg = false := by simpa using hs
                      rw [if_neg hs]
                      refine ⟨true, T.mSS, fun _ ea dd oe pn2 hz hf => ?_, fun h => nomatch h⟩
                      refine wss_one ?_
                      refine ws_ret ?_
                      refine we_ifP (B := true) ?sc12 (fun _ => ?st12) (fun h => nomatch h)
                      case sc12 =>
                        refine wt_val ?_
                        refine we_callB (id := "isinstance") T.isinstance ?_ bt_isinstance
                        refine wa_cons ?_
                        refine we_name 5 ?_
                        refine wa_cons ?_
                        refine we_globR T.g_AlongError ?_
                        refine wa_nil ?_
                        refine isE T.eS hz hf T.kS ?_
                        refine BoolP.of ?_
                        exact eqb_rfl
                      case st12 =>
                        refine we_list ?_
                        refine wa_cons ?_
                        refine we_str ?_
                        refine wa_cons ?_
                        refine we_xf (y := xS CS v) T.xS T.nS hz hf ?_
                        refine we_name 5 ?_
                        refine ⟨rfl, _, rfl, ?_⟩
                        refine wa_nil ?_
                        refine ⟨by simp, .het ?_⟩
                        rw [st_swap0 hs'] at hpost
                        exact res_tv hpost rfl
                  have hy' := Bool.and_eq_true_iff.mp (show (v.isSg && c.btw 0 v.s.length) = true from hy)
                  refine wa_nil ?_
                  refine ⟨by first | decide | simp, ?_⟩
                  refine .het ?_
                  rw [st_swap1 hy'.1 hy'.2] at hpost
                  exact res_tv hpost rfl
                case hf33 =>
                  skip
                  try simp only [Bool.and_eq_true, Bool.or_eq_true, Bool.and_eq_false_iff, Bool.or_eq_false_iff, Bool.not_eq_true, Bool.not_eq_false, Bool.not_eq_true', Bool.not_eq_false', decide_eq_true_eq, decide_eq_false_iff_not] at h
                  refine we_methK0 (ok_Disk_swapK T) hgd hr hx ?_
                  refine we_name 0 ?_
                  refine ⟨ins_own (i := 0) rfl rfl, ?_⟩
                  refine wk_cons ?_
                  refine we_ix ?_
                  refine we_name 1 ?_
                  refine we_int ?_
                  walk_at "i"
                  refine wk_cons ?_
                  refine we_name 4 ?_
                  refine wk_nil ?_
                  refine ⟨rfl, ?_⟩
                  refine FrP.all ⟨v, c, a, S, _, rfl, rfl, fun w hw => ?_, hS6, trivial, fun hy => ?_, fun hn => ?_⟩
                  · rcases List.mem_cons.mp hw with e | hw
                    · rw [e]; exact ⟨hin, hgd2.1.small⟩
                    · rw [List.mem_singleton.mp hw]; exact ⟨hinc, hgd2.2.small⟩
                  rotate_left 1
                  · have hn' : (v.isSg && c.btw 0 v.s.length) = false := hn
                    by_cases hs : v.isSg = true
                    · rw [hs, Bool.true_and] at hn'
                      rw [if_pos hs]
                      refine ⟨false, T.mCS, (fun h => nomatch h), (fun _ => ⟨true, T.mCC, (fun _ ea dd oe pn2 hz hf => ?_), (fun h => nomatch h)⟩)⟩
                      refine wss_one ?_
                      refine ws_ret ?_
                      refine we_ifP (B := true) ?sc13 (fun _ => ?st13) (fun h => nomatch h)
                      case sc13 =>
                        refine wt_val ?_
                        refine we_callB (id := "isinstance") T.isinstance ?_ bt_isinstance
                        refine wa_cons ?_
                        refine we_name 5 ?_
                        refine wa_cons ?_
                        refine we_globR T.g_AlongError ?_
                        refine wa_nil ?_
                        refine isE T.eC hz hf T.kC ?_
                        refine BoolP.of ?_
                        exact eqb_rfl
                      case st13 =>
                        refine we_list ?_
                        refine wa_cons ?_
                        refine we_str ?_
                        refine wa_cons ?_
                        refine we_xf (y := xS CC c) T.xC T.nC hz hf ?_
                        refine we_name 5 ?_
                        refine ⟨rfl, _, rfl, ?_⟩
                        refine wa_nil ?_
                        refine ⟨by simp, .het ?_⟩
                        rw [st_swapC hs hn'] at hpost
                        exact res_tv hpost rfl
                    · have hs' : v.isSg = false := by simpa using hs
                      rw [if_neg hs]
                      refine ⟨true, T.mSS, fun _ ea dd oe pn2 hz hf => ?_, fun h => nomatch h⟩
                      refine wss_one ?_
                      refine ws_ret ?_
                      refine we_ifP (B := true) ?sc14 (fun _ => ?st14) (fun h => nomatch h)
                      case sc14 =>
                        refine wt_val ?_
                        refine we_callB (id := "isinstance") T.isinstance ?_ bt_isinstance
                        refine wa_cons ?_
                        refine we_name 5 ?_
                        refine wa_cons ?_
                        refine we_globR T.g_AlongError ?_
                        refine wa_nil ?_
                        refine isE T.eS hz hf T.kS ?_
                        refine BoolP.of ?_
                        exact eqb_rfl
                      case st14 =>
                        refine we_list ?_
                        refine wa_cons ?_
                        refine we_str ?_
                        refine wa_cons ?_
                        refine we_xf (y := xS CS v) T.xS T.nS hz hf ?_
                        refine we_name 5 ?_
                        refine ⟨rfl, _, rfl, ?_⟩
                        refine wa_nil ?_
                        refine ⟨by simp, .het ?_⟩
                        rw [st_swap0 hs'] at hpost
                        exact res_tv hpost rfl
                  have hy' := Bool.and_eq_true_iff.mp (show (v.isSg && c.btw 0 v.s.length) = true from hy)
                  refine wa_nil ?_
                  refine ⟨by first | decide | simp, ?_⟩
                  refine .het ?_
                  rw [st_swap1 hy'.1 hy'.2] at hpost
                  exact res_tv hpost rfl
end
end K05


set_option Elab.async false
set_option linter.all false
set_option maxRecDepth 100000
set_option maxHeartbeats 4000000
namespace K05
open PySem PySem.Spec PyProof.Rows L2 Ty
local macro_rules | `(tactic| walk_at "side") => `(tactic| first | omega | decide | assumption | (simp; done))
local macro_rules | `(tactic| walk_at "mul") => `(tactic| first | exact Or.inl ⟨by omega, by omega⟩ | exact Or.inr ⟨by omega, by omega⟩ | exact Or.inl ⟨by decide, by decide⟩)
local macro_rules | `(tactic| walk_at "pow") => `(tactic| first | exact ⟨by decide, by decide, by decide⟩ | exact ⟨by decide, by decide, by omega⟩ | exact ⟨by omega, by omega, by omega⟩)
local macro_rules | `(tactic| walk_at "Add") => `(tactic| first | refine add_ii ?_ | refine add_ss (by walk_at "side") ?_)
local macro_rules | `(tactic| walk_at "Sub") => `(tactic| refine sub_ii ?_)
local macro_rules | `(tactic| walk_at "Mult") => `(tactic| refine mul_ii (by walk_at "mul") ?_)
local macro_rules | `(tactic| walk_at "FloorDiv") => `(tactic| refine fdiv_ii (by constructor <;> walk_at "side") ?_)
local macro_rules | `(tactic| walk_at "Mod") => `(tactic| refine mod_ii (by walk_at "side") ?_)
local macro_rules | `(tactic| walk_at "Pow") => `(tactic| refine pow_ii (by walk_at "pow") ?_)
local macro_rules | `(tactic| walk_at "Lt") => `(tactic| refine lt_ii ?_)
local macro_rules | `(tactic| walk_at "LtE") => `(tactic| first | refine le_ii ?_ | refine le_ss ?_)
local macro_rules | `(tactic| walk_at "Gt") => `(tactic| refine gt_ii ?_)
local macro_rules | `(tactic| walk_at "GtE") => `(tactic| refine ge_ii ?_)
local macro_rules | `(tactic| walk_at "Eq") => `(tactic| first | refine eq_ii ?_ | refine eq_ss ?_)
local macro_rules | `(tactic| walk_at "NotEq") => `(tactic| first | refine ne_ii ?_ | refine ne_ss ?_)
local macro_rules | `(tactic| walk_at "In") => `(tactic| first | refine in_cs ?_ | refine in_il ?_ | refine in_sl ?_)
local macro_rules | `(tactic| walk_at "NotIn") => `(tactic| first | refine notIn_cs ?_)
local macro_rules | `(tactic| walk_at "Is") => `(tactic| first | refine isN none_unit ?_ | refine isN none_int ?_ | refine isN none_str ?_ | refine isN none_bool ?_ | refine isN none_list ?_ | refine isN none_ref ?_)
local macro_rules | `(tactic| walk_at "IsNot") => `(tactic| first | refine notN none_unit ?_ | refine notN none_int ?_ | refine notN none_str ?_)
local macro_rules | `(tactic| walk_at "i") => `(tactic| first
  | refine ix_own (n := 0) rfl rfl ?_ | refine ix_own (n := 1) rfl rfl ?_ | refine ix_own (n := 2) rfl rfl ?_ | refine ix_lU lu_hl rfl ?_ | refine ix_tupU tupU2 rfl ?_ | refine ix_tupU tupU4 rfl ?_ | refine ix_s (by walk_at "side") (by walk_at "at") ?_ | refine ix_l (by walk_at "at") ?_)
local macro_rules | `(tactic| walk_at "at") => `(tactic| first | rfl | assumption)
local macro_rules | `(tactic| walk_at "s") => `(tactic| first | refine sl_s (by walk_at "side") ?_ | refine sl_l ?_)
local macro_rules | `(tactic| walk_at "b int") => `(tactic| refine int_i ?_)
local macro_rules | `(tactic| walk_at "b abs") => `(tactic| refine abs_i ?_)
local macro_rules | `(tactic| walk_at "b max") => `(tactic| refine max_ii rfl ?_)
local macro_rules | `(tactic| walk_at "b min") => `(tactic| refine min_ii rfl ?_)
local macro_rules | `(tactic| walk_at "b len") => `(tactic| first | refine len_s (by walk_at "side") ?_ | refine len_l ?_ | refine len_own (n := 0) rfl ?_ | refine len_own (n := 1) rfl ?_ | refine len_own (n := 2) rfl ?_)
local macro_rules | `(tactic| walk_at "b sum") => `(tactic| refine sum_l rfl ?_)
local macro_rules | `(tactic| walk_at "b all") => `(tactic| refine all_l rfl ?_)
local macro_rules | `(tactic| walk_at "b any") => `(tactic| refine any_l rfl ?_)
local macro_rules | `(tactic| walk_at "b isinstance") => `(tactic| first | refine isi ty_int ?_ | refine isi ty_bool ?_ | refine isi ty_str ?_ | refine isi ty_none ?_ | refine isi ty_list ?_)
local macro_rules | `(tactic| walk_at "l") => `(tactic| first | refine .data (ys := [_]) rfl ?_ | refine .data (ys := [_, _]) rfl ?_ | refine .data (ys := [_, _, _]) rfl ?_ | refine .data (ys := [_, _, _, _]) rfl ?_ | refine .data (ys := [_, _, _, _, _]) rfl ?_ | refine .data (ys := [_, _, _, _, _, _]) rfl ?_ | refine .data (ys := [_, _, _, _, _, _, _]) rfl ?_ | refine .data (ys := [_, _, _, _, _, _, _, _, _, _]) rfl ?_ | refine .het ?_)
local macro_rules | `(tactic| walk_at "t") => `(tactic| first | refine tup2 ?_ | refine tup3 ?_ | refine tup4 ?_)
local macro_rules | `(tactic| walk_at "ty str") => `(tactic| refine ⟨ty_s, ?_⟩)
local macro_rules | `(tactic| walk_at "ty list") => `(tactic| first | refine ⟨ty_lU lu_l, ?_⟩ | refine ⟨ty_lU lu_hl, ?_⟩ | refine ⟨ty_lU (lu_own (n := 0) rfl), ?_⟩ | refine ⟨ty_lU (lu_own (n := 1) rfl), ?_⟩)


/-! ### three disks, three states -/
structure Wd where
  a0 : Addr
  a1 : Addr
  a2 : Addr
  s0 : Addr
  s1 : Addr
  s2 : Addr
  A0 : Sd
  A1 : Sd
  A2 : Sd
  S0 : Sd
  S1 : Sd
  S2 : Sd
namespace Wd
def mu (CD : Addr) (w : Wd) : Mu := [(w.a0, w.A0.mvI CD), (w.a1, w.A1.mvI CD), (w.a2, w.A2.mvI CD), (w.s0, w.S0.mv), (w.s1, w.S1.mv), (w.s2, w.S2.mv)]
def disks (w : Wd) : TV := tv ([Ref.mk w.a0, Ref.mk w.a1, Ref.mk w.a2] : List Ref)
def states (w : Wd) : TV := tv ([Ref.mk w.s0, Ref.mk w.s1, Ref.mk w.s2] : List Ref)
structure Ok (w : Wd) (n : Nat) : Prop where
  o0 : w.A0.Ok n
  o1 : w.A1.Ok n
  o2 : w.A2.Ok n
  e0 : w.A0 = w.S0
  e1 : w.A1 = w.S1
  e2 : w.A2 = w.S2
end Wd
def Sd.d (S : Sd) : PyData := .list [.str S.text, .int S.sy, .int S.se]
theorem Sd.eqv (S : Sd) : PyData.eqv S.d S.d = true := by simp [Sd.d, PyData.eqv, PyData.eqvAll]
theorem Sd.Ok.shaped {S : Sd} {n : Nat} (h : S.Ok n) : SeqAt.shaped S.d = true := by
  have e : PyData.strOk S.text = true := by
    unfold PyData.strOk
    rw [← Array.all_toList, List.all_eq_true]
    exact fun c hc => decide_eq_true (by have := prB_iff.mp h.pr c hc; omega)
  unfold SeqAt.shaped Sd.d
  simp only [PyData.canLay0, PyData.canLayAll0, PyData.depth, PyData.depthAll, e]
  rfl
theorem Sd.Ok.fine {S : Sd} {n : Nat} (h : S.Ok n) (hn : n ≤ 100000) : Fine 1 100300 S.d := by
  have h1 := h.len
  have h2 := h.e0
  have h3 := h.ey
  have h4 := h.yl
  refine (fine_list (fines_cons (fine_str fun c hc => by have := prB_iff.mp h.pr c hc; omega) (fines_cons (fine_int (i := S.sy) (by omega)) (fines_cons (fine_int (i := S.se) (by omega)) fines_nil)))).mono (by decide) (by omega)
theorem asd_sd {m : Mu} {S : Sd} {t : TV} (hu : LstU m t [tv S.text, tv S.sy, tv S.se]) : AsD m t S.d := asd_list hu (.cons asd_str (.cons asd_int (.cons asd_int .nil)))
def T_is (CD : Addr) : TSpec := fun xs m post _ => ∃ (w : Wd) (L : Mu), xs = [w.disks, w.states] ∧ m = w.mu CD ++ L ∧ w.Ok 100000 ∧ post (tv true) m

section
variable {P : Program} {w : World} {K : PySem.W.Frag} {mg : Str → Option Value} {base : Heap} {CE CS CC CD : Addr}

theorem ok_l_is (T : Tx K mg base CE CS CC CD) : DefK P w K mg base "_law_is" 1 (T_is CD) [] := by
  obtain ⟨f, fd, F, hm⟩ := T.f_l_is
  have sc := sc_l_is
  refine defK_mk F (fn_ok F sc_l_is (fun xs m post xp h => ?_) fun cdv A outer s H E B0 H0 xs m post xp hgd hr hT hx => ?_) hm (fun kV doc pm an cdv ct us hl => match us, hl with | [a0, a1], _ => rfl)
  · obtain ⟨_, _, h, _⟩ := h; subst h; rfl
  obtain ⟨w0, L, rfl, rfl, hw, hpost⟩ := hT
  obtain ⟨ho0, ho1, ho2, hw0, hw1, hw2⟩ := id hw
  obtain ⟨a0, a1, a2, s0, s1, s2, A0, A1, A2, S0, S1, S2⟩ := w0
  dsimp only at hw0 hw1 hw2
  subst hw0 hw1 hw2
  let w0 : Wd := Wd.mk a0 a1 a2 s0 s1 s2 A0 A1 A2 A0 A1 A2
  refine wss_cons ?_
  refine ws_for ?_ own_passes rfl
  refine wi_range1 T.range ?_
  refine we_int ?_
  refine ⟨_, rfl, by decide, by decide, ?_⟩
  refine forp_rng (fun i ρ' m' => ∃ x y, ρ' = [some w0.disks, some w0.states, x, y] ∧ m' = w0.mu CD ++ L) ⟨_, _, rfl, rfl⟩ (fun i ρ' m' hi hI => ?_) (fun ρ' m' hI => ?_)
  · obtain ⟨x, y, rfl, rfl⟩ := hI
    refine wg_name 2 ?_ sc.nd
    obtain rfl | rfl | rfl : i = 0 ∨ i = 1 ∨ i = 2 := by
      have : i < 3 := hi
      omega
    · skip
      refine wss_cons ?_
      refine ws_set 3 ?_ sc.nd
      refine we_list ?_
      refine wa_cons ?_
      refine we_fld ?_ -- .text
      refine we_ix ?_
      refine we_name 0 ?_
      refine we_name 2 ?_
      refine ix_l (e := Ref.mk w0.a0) rfl ?_
      refine ⟨_, _, 0, _, _, rfl, rfl, look_text, T.cD, T.aT, ?_⟩
      refine wa_cons ?_
      refine we_fld ?_ -- .synced
      refine we_ix ?_
      refine we_name 0 ?_
      refine we_name 2 ?_
      refine ix_l (e := Ref.mk w0.a0) rfl ?_
      refine ⟨_, _, 0, _, _, rfl, rfl, look_sync, T.cD, T.aY, ?_⟩
      refine wa_cons ?_
      refine we_fld ?_ -- .settled
      refine we_ix ?_
      refine we_name 0 ?_
      refine we_name 2 ?_
      refine ix_l (e := Ref.mk w0.a0) rfl ?_
      refine ⟨_, _, 0, _, _, rfl, rfl, look_sett, T.cD, T.aE, ?_⟩
      refine wa_nil ?_
      refine ⟨by first | decide | simp, ?_⟩
      refine .het ?_
      refine wss_one ?_
      refine ws_ifP (B := ?B1) ?hc1 (fun h => ?ht1) (fun h => ?hf1)
      case hc1 =>
        refine wt_bool ?_
        refine ww_orQ (A := ?A2) (R := ?R2) ?ha2 ?hb2
        case ha2 =>
          refine wt_cmp ?_
          refine we_name 3 ?_
          refine we_ix ?_
          refine we_name 1 ?_
          refine we_name 2 ?_
          refine ix_l (e := Ref.mk w0.s0) rfl ?_
          refine ne_d (d := w0.S0.d) (e := w0.S0.d) (asd_sd lu_hl) (asd_sd (lu_own (n := 3) rfl)) hr T.sys ho0.shaped ho0.shaped ?_
          refine BoolP.of ?_
          exact eqb_rfl
        case hb2 =>
          refine ww_or1 ?_
          refine wt_cmp ?_
          refine we_callB (id := "repr") T.repr ?_ bt_repr
          refine wa_cons ?_
          refine we_name 3 ?_
          refine wa_nil ?_
          refine repr_f (d := w0.S0.d) (asd_sd lu_hl) hgd hr T.sys rfl (ho0.fine (by decide)) ?_
          refine we_callB (id := "repr") T.repr ?_ bt_repr
          refine wa_cons ?_
          refine we_ix ?_
          refine we_name 1 ?_
          refine we_name 2 ?_
          refine ix_l (e := Ref.mk w0.s0) rfl ?_
          refine wa_nil ?_
          refine repr_f (d := w0.S0.d) (asd_sd (lu_own (n := 3) rfl)) hgd hr T.sys rfl (ho0.fine (by decide)) ?_
          refine ne_ss ?_
          refine BoolP.of ?_
          exact eqb_rfl
      case ht1 =>
        skip
        exfalso
        revert h
        rw [Sd.eqv]
        simp
      case hf1 =>
        skip
        skip
        refine wss_nil ?_
        exact ⟨_, _, rfl, rfl⟩
    · skip
      refine wss_cons ?_
      refine ws_set 3 ?_ sc.nd
      refine we_list ?_
      refine wa_cons ?_
      refine we_fld ?_ -- .text
      refine we_ix ?_
      refine we_name 0 ?_
      refine we_name 2 ?_
      refine ix_l (e := Ref.mk w0.a1) rfl ?_
      refine ⟨_, _, 1, _, _, rfl, rfl, look_text, T.cD, T.aT, ?_⟩
      refine wa_cons ?_
      refine we_fld ?_ -- .synced
      refine we_ix ?_
      refine we_name 0 ?_
      refine we_name 2 ?_
      refine ix_l (e := Ref.mk w0.a1) rfl ?_
      refine ⟨_, _, 1, _, _, rfl, rfl, look_sync, T.cD, T.aY, ?_⟩
      refine wa_cons ?_
      refine we_fld ?_ -- .settled
      refine we_ix ?_
      refine we_name 0 ?_
      refine we_name 2 ?_
      refine ix_l (e := Ref.mk w0.a1) rfl ?_
      refine ⟨_, _, 1, _, _, rfl, rfl, look_sett, T.cD, T.aE, ?_⟩
      refine wa_nil ?_
      refine ⟨by first | decide | simp, ?_⟩
      refine .het ?_
      refine wss_one ?_
      refine ws_ifP (B := ?B3) ?hc3 (fun h => ?ht3) (fun h => ?hf3)
      case hc3 =>
        refine wt_bool ?_
        refine ww_orQ (A := ?A4) (R := ?R4) ?ha4 ?hb4
        case ha4 =>
          refine wt_cmp ?_
          refine we_name 3 ?_
          refine we_ix ?_
          refine we_name 1 ?_
          refine we_name 2 ?_
          refine ix_l (e := Ref.mk w0.s1) rfl ?_
          refine ne_d (d := w0.S1.d) (e := w0.S1.d) (asd_sd lu_hl) (asd_sd (lu_own (n := 4) rfl)) hr T.sys ho1.shaped ho1.shaped ?_
          refine BoolP.of ?_
          exact eqb_rfl
        case hb4 =>
          refine ww_or1 ?_
          refine wt_cmp ?_
          refine we_callB (id := "repr") T.repr ?_ bt_repr
          refine wa_cons ?_
          refine we_name 3 ?_
          refine wa_nil ?_
          refine repr_f (d := w0.S1.d) (asd_sd lu_hl) hgd hr T.sys rfl (ho1.fine (by decide)) ?_
          refine we_callB (id := "repr") T.repr ?_ bt_repr
          refine wa_cons ?_
          refine we_ix ?_
          refine we_name 1 ?_
          refine we_name 2 ?_
          refine ix_l (e := Ref.mk w0.s1) rfl ?_
          refine wa_nil ?_
          refine repr_f (d := w0.S1.d) (asd_sd (lu_own (n := 4) rfl)) hgd hr T.sys rfl (ho1.fine (by decide)) ?_
          refine ne_ss ?_
          refine BoolP.of ?_
          exact eqb_rfl
      case ht3 =>
        skip
        exfalso
        revert h
        rw [Sd.eqv]
        simp
      case hf3 =>
        skip
        skip
        refine wss_nil ?_
        exact ⟨_, _, rfl, rfl⟩
    · skip
      refine wss_cons ?_
      refine ws_set 3 ?_ sc.nd
      refine we_list ?_
      refine wa_cons ?_
      refine we_fld ?_ -- .text
      refine we_ix ?_
      refine we_name 0 ?_
      refine we_name 2 ?_
      refine ix_l (e := Ref.mk w0.a2) rfl ?_
      refine ⟨_, _, 2, _, _, rfl, rfl, look_text, T.cD, T.aT, ?_⟩
      refine wa_cons ?_
      refine we_fld ?_ -- .synced
      refine we_ix ?_
      refine we_name 0 ?_
      refine we_name 2 ?_
      refine ix_l (e := Ref.mk w0.a2) rfl ?_
      refine ⟨_, _, 2, _, _, rfl, rfl, look_sync, T.cD, T.aY, ?_⟩
      refine wa_cons ?_
      refine we_fld ?_ -- .settled
      refine we_ix ?_
      refine we_name 0 ?_
      refine we_name 2 ?_
      refine ix_l (e := Ref.mk w0.a2) rfl ?_
      refine ⟨_, _, 2, _, _, rfl, rfl, look_sett, T.cD, T.aE, ?_⟩
      refine wa_nil ?_
      refine ⟨by first | decide | simp, ?_⟩
      refine .het ?_
      refine wss_one ?_
      refine ws_ifP (B := ?B5) ?hc5 (fun h => ?ht5) (fun h => ?hf5)
      case hc5 =>
        refine wt_bool ?_
        refine ww_orQ (A := ?A6) (R := ?R6) ?ha6 ?hb6
        case ha6 =>
          refine wt_cmp ?_
          refine we_name 3 ?_
          refine we_ix ?_
          refine we_name 1 ?_
          refine we_name 2 ?_
          refine ix_l (e := Ref.mk w0.s2) rfl ?_
          refine ne_d (d := w0.S2.d) (e := w0.S2.d) (asd_sd lu_hl) (asd_sd (lu_own (n := 5) rfl)) hr T.sys ho2.shaped ho2.shaped ?_
          refine BoolP.of ?_
          exact eqb_rfl
        case hb6 =>
          refine ww_or1 ?_
          refine wt_cmp ?_
          refine we_callB (id := "repr") T.repr ?_ bt_repr
          refine wa_cons ?_
          refine we_name 3 ?_
          refine wa_nil ?_
          refine repr_f (d := w0.S2.d) (asd_sd lu_hl) hgd hr T.sys rfl (ho2.fine (by decide)) ?_
          refine we_callB (id := "repr") T.repr ?_ bt_repr
          refine wa_cons ?_
          refine we_ix ?_
          refine we_name 1 ?_
          refine we_name 2 ?_
          refine ix_l (e := Ref.mk w0.s2) rfl ?_
          refine wa_nil ?_
          refine repr_f (d := w0.S2.d) (asd_sd (lu_own (n := 5) rfl)) hgd hr T.sys rfl (ho2.fine (by decide)) ?_
          refine ne_ss ?_
          refine BoolP.of ?_
          exact eqb_rfl
      case ht5 =>
        skip
        exfalso
        revert h
        rw [Sd.eqv]
        simp
      case hf5 =>
        skip
        skip
        refine wss_nil ?_
        exact ⟨_, _, rfl, rfl⟩
  · obtain ⟨x, y, rfl, rfl⟩ := hI
    refine wss_one ?_
    refine ws_ret ?_
    refine we_bool ?_
    exact hpost
end
end K05


set_option Elab.async false
set_option linter.all false
set_option maxRecDepth 100000
set_option maxHeartbeats 4000000
namespace K05
open PySem PySem.Spec PyProof.Rows L2 Ty
local macro_rules | `(tactic| walk_at "side") => `(tactic| first | omega | decide | assumption | (simp; done))
local macro_rules | `(tactic| walk_at "mul") => `(tactic| first | exact Or.inl ⟨by omega, by omega⟩ | exact Or.inr ⟨by omega, by omega⟩ | exact Or.inl ⟨by decide, by decide⟩)
local macro_rules | `(tactic| walk_at "pow") => `(tactic| first | exact ⟨by decide, by decide, by decide⟩ | exact ⟨by decide, by decide, by omega⟩ | exact ⟨by omega, by omega, by omega⟩)
local macro_rules | `(tactic| walk_at "Add") => `(tactic| first | refine add_ii ?_ | refine add_ss (by walk_at "side") ?_)
local macro_rules | `(tactic| walk_at "Sub") => `(tactic| refine sub_ii ?_)
local macro_rules | `(tactic| walk_at "Mult") => `(tactic| refine mul_ii (by walk_at "mul") ?_)
local macro_rules | `(tactic| walk_at "FloorDiv") => `(tactic| refine fdiv_ii (by constructor <;> walk_at "side") ?_)
local macro_rules | `(tactic| walk_at "Mod") => `(tactic| refine mod_ii (by walk_at "side") ?_)
local macro_rules | `(tactic| walk_at "Pow") => `(tactic| refine pow_ii (by walk_at "pow") ?_)
local macro_rules | `(tactic| walk_at "Lt") => `(tactic| refine lt_ii ?_)
local macro_rules | `(tactic| walk_at "LtE") => `(tactic| first | refine le_ii ?_ | refine le_ss ?_)
local macro_rules | `(tactic| walk_at "Gt") => `(tactic| refine gt_ii ?_)
local macro_rules | `(tactic| walk_at "GtE") => `(tactic| refine ge_ii ?_)
local macro_rules | `(tactic| walk_at "Eq") => `(tactic| first | refine eq_ii ?_ | refine eq_ss ?_)
local macro_rules | `(tactic| walk_at "NotEq") => `(tactic| first | refine ne_ii ?_ | refine ne_ss ?_)
local macro_rules | `(tactic| walk_at "In") => `(tactic| first | refine in_cs ?_ | refine in_il ?_ | refine in_sl ?_)
local macro_rules | `(tactic| walk_at "NotIn") => `(tactic| first | refine notIn_cs ?_)
local macro_rules | `(tactic| walk_at "Is") => `(tactic| first | refine isN none_unit ?_ | refine isN none_int ?_ | refine isN none_str ?_ | refine isN none_bool ?_ | refine isN none_list ?_ | refine isN none_ref ?_)
local macro_rules | `(tactic| walk_at "IsNot") => `(tactic| first | refine notN none_unit ?_ | refine notN none_int ?_ | refine notN none_str ?_)
local macro_rules | `(tactic| walk_at "i") => `(tactic| first
  | refine ix_own (n := 0) rfl rfl ?_ | refine ix_own (n := 1) rfl rfl ?_ | refine ix_own (n := 2) rfl rfl ?_ | refine ix_lU lu_hl rfl ?_ | refine ix_tupU tupU2 rfl ?_ | refine ix_tupU tupU4 rfl ?_ | refine ix_s (by walk_at "side") (by walk_at "at") ?_ | refine ix_l (by walk_at "at") ?_)
local macro_rules | `(tactic| walk_at "at") => `(tactic| first | rfl | assumption)
local macro_rules | `(tactic| walk_at "s") => `(tactic| first | refine sl_s (by walk_at "side") ?_ | refine sl_l ?_)
local macro_rules | `(tactic| walk_at "b int") => `(tactic| refine int_i ?_)
local macro_rules | `(tactic| walk_at "b abs") => `(tactic| refine abs_i ?_)
local macro_rules | `(tactic| walk_at "b max") => `(tactic| refine max_ii rfl ?_)
local macro_rules | `(tactic| walk_at "b min") => `(tactic| refine min_ii rfl ?_)
local macro_rules | `(tactic| walk_at "b len") => `(tactic| first | refine len_s (by walk_at "side") ?_ | refine len_l ?_ | refine len_own (n := 0) rfl ?_ | refine len_own (n := 1) rfl ?_ | refine len_own (n := 2) rfl ?_)
local macro_rules | `(tactic| walk_at "b sum") => `(tactic| refine sum_l rfl ?_)
local macro_rules | `(tactic| walk_at "b all") => `(tactic| refine all_l rfl ?_)
local macro_rules | `(tactic| walk_at "b any") => `(tactic| refine any_l rfl ?_)
local macro_rules | `(tactic| walk_at "b isinstance") => `(tactic| first | refine isi ty_int ?_ | refine isi ty_bool ?_ | refine isi ty_str ?_ | refine isi ty_none ?_ | refine isi ty_list ?_)
local macro_rules | `(tactic| walk_at "l") => `(tactic| first | refine .data (ys := [_]) rfl ?_ | refine .data (ys := [_, _]) rfl ?_ | refine .data (ys := [_, _, _]) rfl ?_ | refine .data (ys := [_, _, _, _]) rfl ?_ | refine .data (ys := [_, _, _, _, _]) rfl ?_ | refine .data (ys := [_, _, _, _, _, _]) rfl ?_ | refine .data (ys := [_, _, _, _, _, _, _]) rfl ?_ | refine .data (ys := [_, _, _, _, _, _, _, _, _, _]) rfl ?_ | refine .het ?_)
local macro_rules | `(tactic| walk_at "t") => `(tactic| first | refine tup2 ?_ | refine tup3 ?_ | refine tup4 ?_)
local macro_rules | `(tactic| walk_at "ty str") => `(tactic| refine ⟨ty_s, ?_⟩)
local macro_rules | `(tactic| walk_at "ty list") => `(tactic| first | refine ⟨ty_lU lu_l, ?_⟩ | refine ⟨ty_lU lu_hl, ?_⟩ | refine ⟨ty_lU (lu_own (n := 0) rfl), ?_⟩ | refine ⟨ty_lU (lu_own (n := 1) rfl), ?_⟩)


namespace Ov
/-- behind the loop that appends to lists -/
def more : Ov → Ov
  | .own p ts ds => .own p (ts ++ [Ty.tv (("more" : Str))]) (ds ++ [.str "more"])
  | v => v
def isOwn : Ov → Bool
  | .own _ _ _ => true
  | _ => false
theorem kitL (v : Ov) : kitB v.ty "list" = some v.isOwn := by cases v <;> (dsimp only [ty, isOwn]; decide +kernel)
theorem of_own {v : Ov} (h : v.isOwn = true) : ∃ p ts ds, v = .own p ts ds := by cases v <;> first | exact ⟨_, _, _, rfl⟩ | cases h
theorem more_not {v : Ov} (h : v.isOwn = false) : v.more = v := by cases v <;> first | rfl | cases h
theorem not_mu {v : Ov} (h : v.isOwn = false) : v.mu = [] := by cases v <;> first | rfl | cases h
end Ov
theorem asds_of {m : Mu} : ∀ {ts : List TV} {ds : List PyData}, AsBs ts ds → AsDs m ts ds
  | _, _, .nil => .nil
  | _, _, .cons h t => .cons (fun K B H v S r => Dr.mono S.ex _ _ (h K B v r)) (asds_of t)
theorem AsDs.snoc {m : Mu} {t : TV} {d : PyData} (h : AsD m t d) : ∀ {ts : List TV} {ds : List PyData}, AsDs m ts ds → AsDs m (ts ++ [t]) (ds ++ [d])
  | _, _, .nil => .cons h .nil
  | _, _, .cons a b => .cons a (AsDs.snoc h b)
theorem asd_more {m : Mu} {v : Ov} (hm : ∀ x ∈ v.more.mu, x ∈ m) (hg : v.Good) : AsD m v.tv v.more.d := by
  cases v with
  | str s => exact asd_str
  | int s => exact asd_int
  | bool s => exact asd_bool
  | none => exact asd_none
  | tup ds => exact asd_data
  | dct ds => exact asd_data
  | own p ts ds =>
    obtain ⟨i, hi⟩ := List.getElem?_of_mem (hm (p, mL (ts ++ [tv (("more" : Str))])) (List.mem_singleton.mpr rfl))
    exact asd_list (lu_own hi) (AsDs.snoc asd_str (asds_of hg.1))
theorem Ov.Good.fine {v : Ov} (h : v.Good) : Fine 3 3000 v.more.d := by
  cases v with
  | str s => exact (fine_str fun c hc => by have := h.2 c hc; omega).mono (by decide) (by have := h.1; omega)
  | int i => exact (fine_int (Nat.lt_of_le_of_lt (show i.natAbs ≤ 10 ^ 20 from h) (by decide))).mono (by decide) (by decide)
  | bool s => exact fine_bool.mono (by decide) (by decide)
  | none => exact fine_none.mono (by decide) (by decide)
  | tup ds => exact h
  | dct ds => exact h
  | own p ts ds => exact h.2.1
def Dd.vals : Dd → List Ov
  | .put v => [v]
  | .sync => []
  | .swap v c => [v, c]
  | .fall v => [v]
  | .lose v => [v]
  | .trim v => [v]
  | .settle v => [v]
theorem Dd.ts_vals (D : Dd) : cutT D.ts (some 1) none = D.vals.map Ov.tv := by cases D <;> rfl
theorem Dd.mu_vals (D : Dd) : D.mu = D.vals.flatMap Ov.mu := by cases D <;> simp [Dd.mu, Dd.vals]
theorem Dd.Good.vals {D : Dd} (h : D.Good) : ∀ v ∈ D.vals, v.Good := by
  cases D with
  | sync => intro v hv; cases hv
  | swap v c =>
    intro x hx
    rcases List.mem_cons.mp hx with e | hx
    · rw [e]; exact h.1
    · rw [List.mem_singleton.mp hx]; exact h.2
  | _ => intro x hx; rw [List.mem_singleton.mp hx]; exact h
def Res.val : Res → Option Ov
  | .told => none
  | .signs v => some v
  | .count v => some v
def Res.d : Res → PyData
  | .told => .list [.str "told", .none]
  | .signs v => .list [.str "signs", v.more.d]
  | .count v => .list [.str "count", v.more.d]
theorem res_vals {S : Sd} {D : Dd} {v : Ov} (h : (step S D).1.val = some v) : v ∈ D.vals := by
  cases D <;> (unfold step at h; dsimp only at h; repeat (split at h)) <;> first | (cases h; done) | (cases h; simp [Dd.vals])
theorem wide_told : ∀ c ∈ (("told" : Str)).cps.toList, c < 4294967296 := by decide +kernel
theorem wide_signs : ∀ c ∈ (("signs" : Str)).cps.toList, c < 4294967296 := by decide +kernel
theorem wide_count : ∀ c ∈ (("count" : Str)).cps.toList, c < 4294967296 := by decide +kernel
theorem res_fine {r : Res} (h : ∀ v, r.val = some v → v.Good) : Fine 4 3100 r.d := by
  cases r with
  | told => exact (fine_list (fines_cons (fine_str wide_told) (fines_cons fine_none fines_nil))).mono (by decide) (by decide)
  | signs v => exact (fine_list (fines_cons (fine_str wide_signs) (fines_cons (h v rfl).fine fines_nil))).mono (by decide) (by decide)
  | count v => exact (fine_list (fines_cons (fine_str wide_count) (fines_cons (h v rfl).fine fines_nil))).mono (by decide) (by decide)
theorem res_c {r : Res} : isC r.d = true := by cases r <;> rfl
theorem res_asd {m : Mu} {r : Res} (h : ∀ v, r.val = some v → v.Good) (hm : ∀ v, r.val = some v → ∀ x ∈ v.more.mu, x ∈ m) : AsD m r.tv r.d := by
  cases r with
  | told => exact asd_list lu_hl (.cons asd_str (.cons asd_none .nil))
  | signs v => exact asd_list lu_hl (.cons asd_str (.cons (asd_more (hm v rfl) (h v rfl)) .nil))
  | count v => exact asd_list lu_hl (.cons asd_str (.cons (asd_more (hm v rfl) (h v rfl)) .nil))
theorem pick {α : Type _} (l1 : List α) (x : α) (l2 L : List α) : ((l1 ++ x :: l2) ++ L).Perm ((x :: L) ++ (l1 ++ l2)) := by
  refine ((List.perm_middle (l₁ := l1) (l₂ := l2) (a := x)).append_right L).trans ?_
  show (x :: ((l1 ++ l2) ++ L)).Perm (x :: (L ++ (l1 ++ l2)))
  exact List.perm_append_comm.cons x
theorem more_at {W P1 P2 : Mu} {p : Addr} {c : MV} : (W ++ (P1 ++ ((p, c) :: P2)))[W.length + P1.length]? = some (p, c) := by
  rw [List.getElem?_append_right (by omega), Nat.add_sub_cancel_left, List.getElem?_append_right (Nat.le_refl _), Nat.sub_self]
  rfl
theorem more_set {W P1 P2 : Mu} {p : Addr} {c d : MV} : (W ++ (P1 ++ ((p, c) :: P2))).set (W.length + P1.length) (p, d) = W ++ (P1 ++ ((p, d) :: P2)) := by
  rw [List.set_append_right _ _ (by omega), Nat.add_sub_cancel_left, List.set_append_right _ _ (Nat.le_refl _), Nat.sub_self]
  rfl
def moreM (l : List Ov) : Mu := l.flatMap fun v => v.more.mu
def oldM (l : List Ov) : Mu := l.flatMap Ov.mu
theorem drop_old {l : List Ov} {i : Nat} {v : Ov} (h : l[i]? = some v) : oldM (l.drop i) = v.mu ++ oldM (l.drop (i + 1)) := by
  have hi := (List.getElem?_eq_some_iff.mp h).1
  rw [List.drop_eq_getElem_cons hi, (List.getElem?_eq_some_iff.mp h).2]
  rfl
theorem take_more {l : List Ov} {i : Nat} {v : Ov} (h : l[i]? = some v) : moreM (l.take (i + 1)) = moreM (l.take i) ++ v.more.mu := by
  rw [List.take_add_one, h]
  simp [moreM]
namespace Wd
def at_ (w : Wd) : Fin 3 → Sd
  | 0 => w.S0
  | 1 => w.S1
  | 2 => w.S2
def set (w : Wd) (S : Sd) : Fin 3 → Wd
  | 0 => { w with A0 := S, S0 := S }
  | 1 => { w with A1 := S, S1 := S }
  | 2 => { w with A2 := S, S2 := S }
theorem Ok.at_ {w : Wd} {n : Nat} (h : w.Ok n) : ∀ i, (w.at_ i).Ok n
  | 0 => (show w.S0.Ok n from h.e0 ▸ h.o0)
  | 1 => (show w.S1.Ok n from h.e1 ▸ h.o1)
  | 2 => (show w.S2.Ok n from h.e2 ▸ h.o2)
theorem Ok.set {w : Wd} {n : Nat} {S : Sd} (h : w.Ok n) (hS : S.Ok n) : ∀ i, (w.set S i).Ok n
  | 0 => ⟨hS, h.o1, h.o2, rfl, h.e1, h.e2⟩
  | 1 => ⟨h.o0, hS, h.o2, h.e0, rfl, h.e2⟩
  | 2 => ⟨h.o0, h.o1, hS, h.e0, h.e1, rfl⟩
end Wd
def T_done (CD : Addr) : TSpec := fun xs m post _ => ∃ (w : Wd) (i : Fin 3) (D : Dd) (t : Int), xs = [w.disks, w.states, tv ((i.val : Nat) : Int), D.tv, tv t] ∧ m = w.mu CD ++ D.mu ∧ w.Ok 100000 ∧ D.Good ∧ (step (w.at_ i) D).2.Ok 100000 ∧
  post (tv true) ((w.set (step (w.at_ i) D).2 i).mu CD)

section
variable {P : Program} {w : World} {K : PySem.W.Frag} {mg : Str → Option Value} {base : Heap} {CE CS CC CD : Addr}

theorem ok_l_done (T : Tx K mg base CE CS CC CD) : DefK P w K mg base "_law_done" 7 (T_done CD) [] := by
  obtain ⟨f, fd, F, hm⟩ := T.f_l_done
  have sc := sc_l_done
  refine defK_mk F (fn_ok F sc_l_done (fun xs m post xp h => ?_) fun cdv A outer s H E B0 H0 xs m post xp hgd hr hT hx => ?_) hm (fun kV doc pm an cdv ct us hl => match us, hl with | [a0, a1, a2, a3, a4], _ => rfl)
  · obtain ⟨_, _, _, _, h, _⟩ := h; subst h; rfl
  obtain ⟨w0, i, D, t, rfl, rfl, hw, hgd2, hnx, hpost⟩ := hT
  obtain ⟨ho0, ho1, ho2, hw0, hw1, hw2⟩ := id hw
  obtain ⟨a0, a1, a2, s0, s1, s2, A0, A1, A2, S0, S1, S2⟩ := w0
  dsimp only at hw0 hw1 hw2
  subst hw0 hw1 hw2
  let w0 : Wd := Wd.mk a0 a1 a2 s0 s1 s2 A0 A1 A2 A0 A1 A2
  match i with

  | 0 =>
    refine wss_cons ?_
    refine ws_set 5 ?_ sc.nd
    refine we_call (ok_l_did T) hgd hr xt0 ?_
    refine wa_cons ?_
    refine we_ix ?_
    refine we_name 0 ?_
    refine we_name 2 ?_
    refine ix_l (e := Ref.mk w0.a0) rfl ?_
    refine wa_cons ?_
    refine we_name 3 ?_
    refine wa_cons ?_
    refine we_name 4 ?_
    refine wa_nil ?_
    refine .perm (mf := (w0.a0, w0.S0.mvI CD) :: D.mu) (r := [] ++ [(w0.a1, w0.A1.mvI CD), (w0.a2, w0.A2.mvI CD), (w0.s0, w0.S0.mv), (w0.s1, w0.S1.mv), (w0.s2, w0.S2.mv)]) (pick [] (w0.a0, w0.S0.mvI CD) [(w0.a1, w0.A1.mvI CD), (w0.a2, w0.A2.mvI CD), (w0.s0, w0.S0.mv), (w0.s1, w0.S1.mv), (w0.s2, w0.S2.mv)] D.mu) ⟨w0.a0, w0.S0, D, t, rfl, rfl, ho0, hgd2, _, (pick [] (w0.a0, (step w0.S0 D).2.mvI CD) [(w0.a1, w0.A1.mvI CD), (w0.a2, w0.A2.mvI CD), (w0.s0, w0.S0.mv), (w0.s1, w0.S1.mv), (w0.s2, w0.S2.mv)] D.mu).symm, ?_⟩
    refine wss_cons ?_
    refine ws_set 6 ?_ sc.nd
    refine we_call (ok_l_due T) hgd hr xt0 ?_
    refine wa_cons ?_
    refine we_ix ?_
    refine we_name 1 ?_
    refine we_name 2 ?_
    refine ix_l (e := Ref.mk w0.s0) rfl ?_
    refine wa_cons ?_
    refine we_name 3 ?_
    refine wa_nil ?_
    refine .perm (mf := (w0.s0, w0.S0.mv) :: D.mu) (r := [(w0.a0, (step w0.S0 D).2.mvI CD), (w0.a1, w0.A1.mvI CD), (w0.a2, w0.A2.mvI CD)] ++ [(w0.s1, w0.S1.mv), (w0.s2, w0.S2.mv)]) (pick [(w0.a0, (step w0.S0 D).2.mvI CD), (w0.a1, w0.A1.mvI CD), (w0.a2, w0.A2.mvI CD)] (w0.s0, w0.S0.mv) [(w0.s1, w0.S1.mv), (w0.s2, w0.S2.mv)] D.mu) ⟨w0.s0, w0.S0, D, rfl, rfl, ho0, hgd2, _, (pick [(w0.a0, (step w0.S0 D).2.mvI CD), (w0.a1, w0.A1.mvI CD), (w0.a2, w0.A2.mvI CD)] (w0.s0, (step w0.S0 D).2.mv) [(w0.s1, w0.S1.mv), (w0.s2, w0.S2.mv)] D.mu).symm, ?_⟩
    refine wss_cons ?_
    refine ws_for ?_ own_passes rfl
    refine wi_lU ?_
    refine we_slice ?_
    refine we_name 3 ?_
    refine wo_some ?_
    refine we_int ?_
    refine ⟨_, rfl, ?_⟩
    refine wo_none ?_
    refine sl_lU lu_hl ?_
    refine ⟨_, lu_hl, ?_⟩
    rw [Dd.ts_vals]
    refine ⟨fun i ρ' m' => ∃ x, ρ' = [some w0.disks, some w0.states, some (tv ((0 : Nat) : Int)), some D.tv, some (tv t), some (step w0.S0 D).1.tv, some (step w0.S0 D).1.tv, x] ∧ m' = (w0.set (step w0.S0 D).2 0).mu CD ++ (moreM (D.vals.take i) ++ oldM (D.vals.drop i)), ⟨_, rfl, ?_⟩, fun _ _ _ _ => lu_hl, fun i t1 ρ' m' ht hI => ?_, fun ρ' m' hI => ?_⟩
    · rw [List.take_zero, List.drop_zero, show oldM D.vals = D.mu from (Dd.mu_vals D).symm]; rfl
    · obtain ⟨x, rfl, rfl⟩ := hI
      obtain ⟨v, hv, rfl⟩ := get_map ht
      refine wg_name 7 ?_ sc.nd
      rw [drop_old hv]
      have hin : v.In ((w0.set (step w0.S0 D).2 0).mu CD ++ (moreM (D.vals.take i) ++ (v.mu ++ oldM (D.vals.drop (i + 1))))) := Ov.in_of fun x hx => List.mem_append_right _ (List.mem_append_right _ (List.mem_append_left _ hx))
      refine wss_one ?_
      refine ws_ifP (B := ?B1) ?hc1 (fun h => ?ht1) (fun h => ?hf1)
      case hc1 =>
        refine wt_val ?_
        refine we_callB (id := "isinstance") T.isinstance ?_ bt_isinstance
        refine wa_cons ?_
        refine we_name 7 ?_
        refine wa_cons ?_
        refine we_type (T := "list") T.list ?_ bt_list
        refine wa_nil ?_
        refine isiM (Ov.tym hin) ?_ (Ov.kitL v)
        refine BoolP.of ?_
        exact eqb_rfl
      case ht1 =>
        skip
        obtain ⟨p, ts, ds, rfl⟩ := Ov.of_own h
        refine wss_one ?_
        refine ws_expr ?_
        refine we_bm PySem.F.plainAttrs_list PySem.F.slot_list_append ?_
        refine we_name 7 ?_
        refine ⟨ty_lU (lu_own more_at), ?_⟩
        refine wa_cons ?_
        refine we_str ?_
        refine wa_nil ?_
        refine append_o more_at (by have := (hgd2.vals _ (List.mem_of_getElem? hv)).2.2; omega) ?_
        refine ⟨_, rfl, (more_set (p := p)).trans ?_⟩
        rw [take_more hv, List.append_assoc]
        rfl
      case hf1 =>
        skip
        skip
        refine wss_nil ?_
        refine ⟨_, rfl, ?_⟩
        rw [take_more hv, Ov.more_not h, Ov.not_mu h, List.append_nil, List.nil_append]
    · obtain ⟨x, rfl, rfl⟩ := hI
      rw [List.length_map, List.take_length, List.drop_length, show oldM [] = [] from rfl, List.append_nil]
      refine wss_one ?_
      refine ws_ret ?_
      refine we_drop ?_
      have hrg : ∀ v, (step w0.S0 D).1.val = some v → v.Good := fun v hv => hgd2.vals v (res_vals hv)
      have hrm : ∀ v, (step w0.S0 D).1.val = some v → ∀ x ∈ v.more.mu, x ∈ (w0.set (step w0.S0 D).2 0).mu CD ++ moreM D.vals := fun v hv x hx => List.mem_append_right _ (List.mem_flatMap.mpr ⟨v, res_vals hv, hx⟩)
      refine we_and ?_
      refine we_cmp ?_
      refine we_callB (id := "repr") T.repr ?_ bt_repr
      refine wa_cons ?_
      refine we_name 5 ?_
      refine wa_nil ?_
      refine repr_f (d := (step w0.S0 D).1.d) (res_asd hrg hrm) hgd hr T.sys res_c (res_fine hrg) ?_
      refine we_callB (id := "repr") T.repr ?_ bt_repr
      refine wa_cons ?_
      refine we_name 6 ?_
      refine wa_nil ?_
      refine repr_f (d := (step w0.S0 D).1.d) (res_asd hrg hrm) hgd hr T.sys res_c (res_fine hrg) ?_
      refine eq_ss ?_
      refine BoolP.of ?_
      refine ⟨fun h => ?_, fun h => ?_⟩
      · skip
        refine we_one ?_
        refine we_call (ok_l_is T) hgd hr xt0 ?_
        refine wa_cons ?_
        refine we_name 0 ?_
        refine wa_cons ?_
        refine we_name 1 ?_
        refine wa_nil ?_
        refine FrP.all ⟨(w0.set (step w0.S0 D).2 0), moreM D.vals, rfl, rfl, hw.set hnx 0, ?_⟩
        exact ⟨_, List.sublist_append_left _ _, hpost⟩
      · skip
        exact absurd h (by rw [decide_eq_true rfl]; decide)
  | 1 =>
    refine wss_cons ?_
    refine ws_set 5 ?_ sc.nd
    refine we_call (ok_l_did T) hgd hr xt0 ?_
    refine wa_cons ?_
    refine we_ix ?_
    refine we_name 0 ?_
    refine we_name 2 ?_
    refine ix_l (e := Ref.mk w0.a1) rfl ?_
    refine wa_cons ?_
    refine we_name 3 ?_
    refine wa_cons ?_
    refine we_name 4 ?_
    refine wa_nil ?_
    refine .perm (mf := (w0.a1, w0.S1.mvI CD) :: D.mu) (r := [(w0.a0, w0.A0.mvI CD)] ++ [(w0.a2, w0.A2.mvI CD), (w0.s0, w0.S0.mv), (w0.s1, w0.S1.mv), (w0.s2, w0.S2.mv)]) (pick [(w0.a0, w0.A0.mvI CD)] (w0.a1, w0.S1.mvI CD) [(w0.a2, w0.A2.mvI CD), (w0.s0, w0.S0.mv), (w0.s1, w0.S1.mv), (w0.s2, w0.S2.mv)] D.mu) ⟨w0.a1, w0.S1, D, t, rfl, rfl, ho1, hgd2, _, (pick [(w0.a0, w0.A0.mvI CD)] (w0.a1, (step w0.S1 D).2.mvI CD) [(w0.a2, w0.A2.mvI CD), (w0.s0, w0.S0.mv), (w0.s1, w0.S1.mv), (w0.s2, w0.S2.mv)] D.mu).symm, ?_⟩
    refine wss_cons ?_
    refine ws_set 6 ?_ sc.nd
    refine we_call (ok_l_due T) hgd hr xt0 ?_
    refine wa_cons ?_
    refine we_ix ?_
    refine we_name 1 ?_
    refine we_name 2 ?_
    refine ix_l (e := Ref.mk w0.s1) rfl ?_
    refine wa_cons ?_
    refine we_name 3 ?_
    refine wa_nil ?_
    refine .perm (mf := (w0.s1, w0.S1.mv) :: D.mu) (r := [(w0.a0, w0.A0.mvI CD), (w0.a1, (step w0.S1 D).2.mvI CD), (w0.a2, w0.A2.mvI CD), (w0.s0, w0.S0.mv)] ++ [(w0.s2, w0.S2.mv)]) (pick [(w0.a0, w0.A0.mvI CD), (w0.a1, (step w0.S1 D).2.mvI CD), (w0.a2, w0.A2.mvI CD), (w0.s0, w0.S0.mv)] (w0.s1, w0.S1.mv) [(w0.s2, w0.S2.mv)] D.mu) ⟨w0.s1, w0.S1, D, rfl, rfl, ho1, hgd2, _, (pick [(w0.a0, w0.A0.mvI CD), (w0.a1, (step w0.S1 D).2.mvI CD), (w0.a2, w0.A2.mvI CD), (w0.s0, w0.S0.mv)] (w0.s1, (step w0.S1 D).2.mv) [(w0.s2, w0.S2.mv)] D.mu).symm, ?_⟩
    refine wss_cons ?_
    refine ws_for ?_ own_passes rfl
    refine wi_lU ?_
    refine we_slice ?_
    refine we_name 3 ?_
    refine wo_some ?_
    refine we_int ?_
    refine ⟨_, rfl, ?_⟩
    refine wo_none ?_
    refine sl_lU lu_hl ?_
    refine ⟨_, lu_hl, ?_⟩
    rw [Dd.ts_vals]
    refine ⟨fun i ρ' m' => ∃ x, ρ' = [some w0.disks, some w0.states, some (tv ((1 : Nat) : Int)), some D.tv, some (tv t), some (step w0.S1 D).1.tv, some (step w0.S1 D).1.tv, x] ∧ m' = (w0.set (step w0.S1 D).2 1).mu CD ++ (moreM (D.vals.take i) ++ oldM (D.vals.drop i)), ⟨_, rfl, ?_⟩, fun _ _ _ _ => lu_hl, fun i t1 ρ' m' ht hI => ?_, fun ρ' m' hI => ?_⟩
    · rw [List.take_zero, List.drop_zero, show oldM D.vals = D.mu from (Dd.mu_vals D).symm]; rfl
    · obtain ⟨x, rfl, rfl⟩ := hI
      obtain ⟨v, hv, rfl⟩ := get_map ht
      refine wg_name 7 ?_ sc.nd
      rw [drop_old hv]
      have hin : v.In ((w0.set (step w0.S1 D).2 1).mu CD ++ (moreM (D.vals.take i) ++ (v.mu ++ oldM (D.vals.drop (i + 1))))) := Ov.in_of fun x hx => List.mem_append_right _ (List.mem_append_right _ (List.mem_append_left _ hx))
      refine wss_one ?_
      refine ws_ifP (B := ?B2) ?hc2 (fun h => ?ht2) (fun h => ?hf2)
      case hc2 =>
        refine wt_val ?_
        refine we_callB (id := "isinstance") T.isinstance ?_ bt_isinstance
        refine wa_cons ?_
        refine we_name 7 ?_
        refine wa_cons ?_
        refine we_type (T := "list") T.list ?_ bt_list
        refine wa_nil ?_
        refine isiM (Ov.tym hin) ?_ (Ov.kitL v)
        refine BoolP.of ?_
        exact eqb_rfl
      case ht2 =>
        skip
        obtain ⟨p, ts, ds, rfl⟩ := Ov.of_own h
        refine wss_one ?_
        refine ws_expr ?_
        refine we_bm PySem.F.plainAttrs_list PySem.F.slot_list_append ?_
        refine we_name 7 ?_
        refine ⟨ty_lU (lu_own more_at), ?_⟩
        refine wa_cons ?_
        refine we_str ?_
        refine wa_nil ?_
        refine append_o more_at (by have := (hgd2.vals _ (List.mem_of_getElem? hv)).2.2; omega) ?_
        refine ⟨_, rfl, (more_set (p := p)).trans ?_⟩
        rw [take_more hv, List.append_assoc]
        rfl
      case hf2 =>
        skip
        skip
        refine wss_nil ?_
        refine ⟨_, rfl, ?_⟩
        rw [take_more hv, Ov.more_not h, Ov.not_mu h, List.append_nil, List.nil_append]
    · obtain ⟨x, rfl, rfl⟩ := hI
      rw [List.length_map, List.take_length, List.drop_length, show oldM [] = [] from rfl, List.append_nil]
      refine wss_one ?_
      refine ws_ret ?_
      refine we_drop ?_
      have hrg : ∀ v, (step w0.S1 D).1.val = some v → v.Good := fun v hv => hgd2.vals v (res_vals hv)
      have hrm : ∀ v, (step w0.S1 D).1.val = some v → ∀ x ∈ v.more.mu, x ∈ (w0.set (step w0.S1 D).2 1).mu CD ++ moreM D.vals := fun v hv x hx => List.mem_append_right _ (List.mem_flatMap.mpr ⟨v, res_vals hv, hx⟩)
      refine we_and ?_
      refine we_cmp ?_
      refine we_callB (id := "repr") T.repr ?_ bt_repr
      refine wa_cons ?_
      refine we_name 5 ?_
      refine wa_nil ?_
      refine repr_f (d := (step w0.S1 D).1.d) (res_asd hrg hrm) hgd hr T.sys res_c (res_fine hrg) ?_
      refine we_callB (id := "repr") T.repr ?_ bt_repr
      refine wa_cons ?_
      refine we_name 6 ?_
      refine wa_nil ?_
      refine repr_f (d := (step w0.S1 D).1.d) (res_asd hrg hrm) hgd hr T.sys res_c (res_fine hrg) ?_
      refine eq_ss ?_
      refine BoolP.of ?_
      refine ⟨fun h => ?_, fun h => ?_⟩
      · skip
        refine we_one ?_
        refine we_call (ok_l_is T) hgd hr xt0 ?_
        refine wa_cons ?_
        refine we_name 0 ?_
        refine wa_cons ?_
        refine we_name 1 ?_
        refine wa_nil ?_
        refine FrP.all ⟨(w0.set (step w0.S1 D).2 1), moreM D.vals, rfl, rfl, hw.set hnx 1, ?_⟩
        exact ⟨_, List.sublist_append_left _ _, hpost⟩
      · skip
        exact absurd h (by rw [decide_eq_true rfl]; decide)
  | 2 =>
    refine wss_cons ?_
    refine ws_set 5 ?_ sc.nd
    refine we_call (ok_l_did T) hgd hr xt0 ?_
    refine wa_cons ?_
    refine we_ix ?_
    refine we_name 0 ?_
    refine we_name 2 ?_
    refine ix_l (e := Ref.mk w0.a2) rfl ?_
    refine wa_cons ?_
    refine we_name 3 ?_
    refine wa_cons ?_
    refine we_name 4 ?_
    refine wa_nil ?_
    refine .perm (mf := (w0.a2, w0.S2.mvI CD) :: D.mu) (r := [(w0.a0, w0.A0.mvI CD), (w0.a1, w0.A1.mvI CD)] ++ [(w0.s0, w0.S0.mv), (w0.s1, w0.S1.mv), (w0.s2, w0.S2.mv)]) (pick [(w0.a0, w0.A0.mvI CD), (w0.a1, w0.A1.mvI CD)] (w0.a2, w0.S2.mvI CD) [(w0.s0, w0.S0.mv), (w0.s1, w0.S1.mv), (w0.s2, w0.S2.mv)] D.mu) ⟨w0.a2, w0.S2, D, t, rfl, rfl, ho2, hgd2, _, (pick [(w0.a0, w0.A0.mvI CD), (w0.a1, w0.A1.mvI CD)] (w0.a2, (step w0.S2 D).2.mvI CD) [(w0.s0, w0.S0.mv), (w0.s1, w0.S1.mv), (w0.s2, w0.S2.mv)] D.mu).symm, ?_⟩
    refine wss_cons ?_
    refine ws_set 6 ?_ sc.nd
    refine we_call (ok_l_due T) hgd hr xt0 ?_
    refine wa_cons ?_
    refine we_ix ?_
    refine we_name 1 ?_
    refine we_name 2 ?_
    refine ix_l (e := Ref.mk w0.s2) rfl ?_
    refine wa_cons ?_
    refine we_name 3 ?_
    refine wa_nil ?_
    refine .perm (mf := (w0.s2, w0.S2.mv) :: D.mu) (r := [(w0.a0, w0.A0.mvI CD), (w0.a1, w0.A1.mvI CD), (w0.a2, (step w0.S2 D).2.mvI CD), (w0.s0, w0.S0.mv), (w0.s1, w0.S1.mv)] ++ []) (pick [(w0.a0, w0.A0.mvI CD), (w0.a1, w0.A1.mvI CD), (w0.a2, (step w0.S2 D).2.mvI CD), (w0.s0, w0.S0.mv), (w0.s1, w0.S1.mv)] (w0.s2, w0.S2.mv) [] D.mu) ⟨w0.s2, w0.S2, D, rfl, rfl, ho2, hgd2, _, (pick [(w0.a0, w0.A0.mvI CD), (w0.a1, w0.A1.mvI CD), (w0.a2, (step w0.S2 D).2.mvI CD), (w0.s0, w0.S0.mv), (w0.s1, w0.S1.mv)] (w0.s2, (step w0.S2 D).2.mv) [] D.mu).symm, ?_⟩
    refine wss_cons ?_
    refine ws_for ?_ own_passes rfl
    refine wi_lU ?_
    refine we_slice ?_
    refine we_name 3 ?_
    refine wo_some ?_
    refine we_int ?_
    refine ⟨_, rfl, ?_⟩
    refine wo_none ?_
    refine sl_lU lu_hl ?_
    refine ⟨_, lu_hl, ?_⟩
    rw [Dd.ts_vals]
    refine ⟨fun i ρ' m' => ∃ x, ρ' = [some w0.disks, some w0.states, some (tv ((2 : Nat) : Int)), some D.tv, some (tv t), some (step w0.S2 D).1.tv, some (step w0.S2 D).1.tv, x] ∧ m' = (w0.set (step w0.S2 D).2 2).mu CD ++ (moreM (D.vals.take i) ++ oldM (D.vals.drop i)), ⟨_, rfl, ?_⟩, fun _ _ _ _ => lu_hl, fun i t1 ρ' m' ht hI => ?_, fun ρ' m' hI => ?_⟩
    · rw [List.take_zero, List.drop_zero, show oldM D.vals = D.mu from (Dd.mu_vals D).symm]; rfl
    · obtain ⟨x, rfl, rfl⟩ := hI
      obtain ⟨v, hv, rfl⟩ := get_map ht
      refine wg_name 7 ?_ sc.nd
      rw [drop_old hv]
      have hin : v.In ((w0.set (step w0.S2 D).2 2).mu CD ++ (moreM (D.vals.take i) ++ (v.mu ++ oldM (D.vals.drop (i + 1))))) := Ov.in_of fun x hx => List.mem_append_right _ (List.mem_append_right _ (List.mem_append_left _ hx))
      refine wss_one ?_
      refine ws_ifP (B := ?B3) ?hc3 (fun h => ?ht3) (fun h => ?hf3)
      case hc3 =>
        refine wt_val ?_
        refine we_callB (id := "isinstance") T.isinstance ?_ bt_isinstance
        refine wa_cons ?_
        refine we_name 7 ?_
        refine wa_cons ?_
        refine we_type (T := "list") T.list ?_ bt_list
        refine wa_nil ?_
        refine isiM (Ov.tym hin) ?_ (Ov.kitL v)
        refine BoolP.of ?_
        exact eqb_rfl
      case ht3 =>
        skip
        obtain ⟨p, ts, ds, rfl⟩ := Ov.of_own h
        refine wss_one ?_
        refine ws_expr ?_
        refine we_bm PySem.F.plainAttrs_list PySem.F.slot_list_append ?_
        refine we_name 7 ?_
        refine ⟨ty_lU (lu_own more_at), ?_⟩
        refine wa_cons ?_
        refine we_str ?_
        refine wa_nil ?_
        refine append_o more_at (by have := (hgd2.vals _ (List.mem_of_getElem? hv)).2.2; omega) ?_
        refine ⟨_, rfl, (more_set (p := p)).trans ?_⟩
        rw [take_more hv, List.append_assoc]
        rfl
      case hf3 =>
        skip
        skip
        refine wss_nil ?_
        refine ⟨_, rfl, ?_⟩
        rw [take_more hv, Ov.more_not h, Ov.not_mu h, List.append_nil, List.nil_append]
    · obtain ⟨x, rfl, rfl⟩ := hI
      rw [List.length_map, List.take_length, List.drop_length, show oldM [] = [] from rfl, List.append_nil]
      refine wss_one ?_
      refine ws_ret ?_
      refine we_drop ?_
      have hrg : ∀ v, (step w0.S2 D).1.val = some v → v.Good := fun v hv => hgd2.vals v (res_vals hv)
      have hrm : ∀ v, (step w0.S2 D).1.val = some v → ∀ x ∈ v.more.mu, x ∈ (w0.set (step w0.S2 D).2 2).mu CD ++ moreM D.vals := fun v hv x hx => List.mem_append_right _ (List.mem_flatMap.mpr ⟨v, res_vals hv, hx⟩)
      refine we_and ?_
      refine we_cmp ?_
      refine we_callB (id := "repr") T.repr ?_ bt_repr
      refine wa_cons ?_
      refine we_name 5 ?_
      refine wa_nil ?_
      refine repr_f (d := (step w0.S2 D).1.d) (res_asd hrg hrm) hgd hr T.sys res_c (res_fine hrg) ?_
      refine we_callB (id := "repr") T.repr ?_ bt_repr
      refine wa_cons ?_
      refine we_name 6 ?_
      refine wa_nil ?_
      refine repr_f (d := (step w0.S2 D).1.d) (res_asd hrg hrm) hgd hr T.sys res_c (res_fine hrg) ?_
      refine eq_ss ?_
      refine BoolP.of ?_
      refine ⟨fun h => ?_, fun h => ?_⟩
      · skip
        refine we_one ?_
        refine we_call (ok_l_is T) hgd hr xt0 ?_
        refine wa_cons ?_
        refine we_name 0 ?_
        refine wa_cons ?_
        refine we_name 1 ?_
        refine wa_nil ?_
        refine FrP.all ⟨(w0.set (step w0.S2 D).2 2), moreM D.vals, rfl, rfl, hw.set hnx 2, ?_⟩
        exact ⟨_, List.sublist_append_left _ _, hpost⟩
      · skip
        exact absurd h (by rw [decide_eq_true rfl]; decide)
end
end K05


set_option Elab.async false
set_option linter.all false
set_option maxRecDepth 100000
set_option maxHeartbeats 4000000
namespace K05
open PySem PySem.Spec PyProof.Rows L2 Ty
local macro_rules | `(tactic| walk_at "side") => `(tactic| first | omega | decide | assumption | (simp; done))
local macro_rules | `(tactic| walk_at "mul") => `(tactic| first | exact Or.inl ⟨by omega, by omega⟩ | exact Or.inr ⟨by omega, by omega⟩ | exact Or.inl ⟨by decide, by decide⟩)
local macro_rules | `(tactic| walk_at "pow") => `(tactic| first | exact ⟨by decide, by decide, by decide⟩ | exact ⟨by decide, by decide, by omega⟩ | exact ⟨by omega, by omega, by omega⟩)
local macro_rules | `(tactic| walk_at "Add") => `(tactic| first | refine add_ii ?_ | refine add_ss (by walk_at "side") ?_)
local macro_rules | `(tactic| walk_at "Sub") => `(tactic| refine sub_ii ?_)
local macro_rules | `(tactic| walk_at "Mult") => `(tactic| refine mul_ii (by walk_at "mul") ?_)
local macro_rules | `(tactic| walk_at "FloorDiv") => `(tactic| refine fdiv_ii (by constructor <;> walk_at "side") ?_)
local macro_rules | `(tactic| walk_at "Mod") => `(tactic| refine mod_ii (by walk_at "side") ?_)
local macro_rules | `(tactic| walk_at "Pow") => `(tactic| refine pow_ii (by walk_at "pow") ?_)
local macro_rules | `(tactic| walk_at "Lt") => `(tactic| refine lt_ii ?_)
local macro_rules | `(tactic| walk_at "LtE") => `(tactic| first | refine le_ii ?_ | refine le_ss ?_)
local macro_rules | `(tactic| walk_at "Gt") => `(tactic| refine gt_ii ?_)
local macro_rules | `(tactic| walk_at "GtE") => `(tactic| refine ge_ii ?_)
local macro_rules | `(tactic| walk_at "Eq") => `(tactic| first | refine eq_ii ?_ | refine eq_ss ?_)
local macro_rules | `(tactic| walk_at "NotEq") => `(tactic| first | refine ne_ii ?_ | refine ne_ss ?_)
local macro_rules | `(tactic| walk_at "In") => `(tactic| first | refine in_cs ?_ | refine in_il ?_ | refine in_sl ?_)
local macro_rules | `(tactic| walk_at "NotIn") => `(tactic| first | refine notIn_cs ?_)
local macro_rules | `(tactic| walk_at "Is") => `(tactic| first | refine isN none_unit ?_ | refine isN none_int ?_ | refine isN none_str ?_ | refine isN none_bool ?_ | refine isN none_list ?_ | refine isN none_ref ?_)
local macro_rules | `(tactic| walk_at "IsNot") => `(tactic| first | refine notN none_unit ?_ | refine notN none_int ?_ | refine notN none_str ?_)
local macro_rules | `(tactic| walk_at "i") => `(tactic| first
  | refine ix_own (n := 0) rfl rfl ?_ | refine ix_own (n := 1) rfl rfl ?_ | refine ix_own (n := 2) rfl rfl ?_ | refine ix_lU lu_hl rfl ?_ | refine ix_tupU tupU2 rfl ?_ | refine ix_tupU tupU4 rfl ?_ | refine ix_s (by walk_at "side") (by walk_at "at") ?_ | refine ix_l (by walk_at "at") ?_)
local macro_rules | `(tactic| walk_at "at") => `(tactic| first | rfl | assumption)
local macro_rules | `(tactic| walk_at "s") => `(tactic| first | refine sl_s (by walk_at "side") ?_ | refine sl_l ?_)
local macro_rules | `(tactic| walk_at "b int") => `(tactic| refine int_i ?_)
local macro_rules | `(tactic| walk_at "b abs") => `(tactic| refine abs_i ?_)
local macro_rules | `(tactic| walk_at "b max") => `(tactic| refine max_ii rfl ?_)
local macro_rules | `(tactic| walk_at "b min") => `(tactic| refine min_ii rfl ?_)
local macro_rules | `(tactic| walk_at "b len") => `(tactic| first | refine len_s (by walk_at "side") ?_ | refine len_l ?_ | refine len_own (n := 0) rfl ?_ | refine len_own (n := 1) rfl ?_ | refine len_own (n := 2) rfl ?_)
local macro_rules | `(tactic| walk_at "b sum") => `(tactic| refine sum_l rfl ?_)
local macro_rules | `(tactic| walk_at "b all") => `(tactic| refine all_l rfl ?_)
local macro_rules | `(tactic| walk_at "b any") => `(tactic| refine any_l rfl ?_)
local macro_rules | `(tactic| walk_at "b isinstance") => `(tactic| first | refine isi ty_int ?_ | refine isi ty_bool ?_ | refine isi ty_str ?_ | refine isi ty_none ?_ | refine isi ty_list ?_)
local macro_rules | `(tactic| walk_at "l") => `(tactic| first | refine .data (ys := [_]) rfl ?_ | refine .data (ys := [_, _]) rfl ?_ | refine .data (ys := [_, _, _]) rfl ?_ | refine .data (ys := [_, _, _, _]) rfl ?_ | refine .data (ys := [_, _, _, _, _]) rfl ?_ | refine .data (ys := [_, _, _, _, _, _]) rfl ?_ | refine .data (ys := [_, _, _, _, _, _, _]) rfl ?_ | refine .data (ys := [_, _, _, _, _, _, _, _, _, _]) rfl ?_ | refine .het ?_)
local macro_rules | `(tactic| walk_at "t") => `(tactic| first | refine tup2 ?_ | refine tup3 ?_ | refine tup4 ?_)
local macro_rules | `(tactic| walk_at "ty str") => `(tactic| refine ⟨ty_s, ?_⟩)
local macro_rules | `(tactic| walk_at "ty list") => `(tactic| first | refine ⟨ty_lU lu_l, ?_⟩ | refine ⟨ty_lU lu_hl, ?_⟩ | refine ⟨ty_lU (lu_own (n := 0) rfl), ?_⟩ | refine ⟨ty_lU (lu_own (n := 1) rfl), ?_⟩)


theorem prB_app {x y : Str} (h1 : Ov.prB x = true) (h2 : Ov.prB y = true) : Ov.prB (x ++ y) = true := by
  unfold Ov.prB at *
  rw [app_list, List.all_append, h1, h2]
  rfl
theorem prB_slice {x : Str} {l u : Option Int} (h : Ov.prB x = true) : Ov.prB (Txt.slice x l u) = true := prB_iff.mpr fun c hc => prB_iff.mp h c (slice_mem hc)
theorem slice_to_len {x : Str} {j : Int} (h0 : 0 ≤ j) (h1 : j ≤ x.length) : ((Txt.slice x none (some j)).length : Int) = j := by
  rw [str_llen, slice_to_list h0 h1, List.length_take, ← str_llen]
  omega
theorem cut_ok {S : Sd} {n : Nat} {l : Int} (h : S.Ok n) (h1 : S.se ≤ l) (h2 : l ≤ S.text.length) : Sd.Ok ⟨Txt.slice S.text none (some l), l, S.se⟩ n :=
  ⟨prB_slice h.pr, Nat.le_trans (Txt.slice_le _ _ _) h.len, h.e0, h1, by
    have := h.e0
    show l ≤ _
    rw [slice_to_len (by omega) h2]
    exact Int.le_refl _⟩
theorem step_ok {S : Sd} {D : Dd} {n : Nat} (h : S.Ok n) (hf : D.Fit S n) : (step S D).2.Ok n := by
  have h1 := h.e0
  have h2 := h.ey
  have h3 := h.yl
  cases D with
  | put v =>
    cases hv : v.isSg with
    | false => rw [st_put0 hv]; exact h
    | true =>
      rw [st_put1 hv]
      obtain ⟨x, rfl⟩ := Ov.sg_str hv
      have hx : Ov.prB x = true := hv
      have := hf hx
      exact ⟨prB_app h.pr hx, by show (S.text ++ x).length ≤ n; rw [app_len]; exact this, h1, h2, by show S.sy ≤ ((S.text ++ x).length : Int); rw [app_len]; omega⟩
  | sync => exact ⟨h.pr, h.len, h1, by show S.se ≤ (S.text.length : Int); omega, Int.le_refl _⟩
  | swap v c =>
    cases hv : v.isSg with
    | false => rw [st_swap0 hv]; exact h
    | true =>
      obtain ⟨x, rfl⟩ := Ov.sg_str hv
      cases hc : c.btw 0 ((Ov.str x).s.length) with
      | false => rw [st_swapC hv hc]; exact h
      | true =>
        rw [st_swap1 hv hc]
        obtain ⟨z, rfl, hz1, hz2⟩ := Ov.btw_int hc
        exact ⟨hv, hf, hz1, hz2, Int.le_refl _⟩
  | fall v =>
    cases hv : v.isCount with
    | false => rw [st_fall0 hv]; exact h
    | true =>
      rw [st_fall1 hv]
      have q1 := Int.emod_nonneg v.i (b := (S.text.length : Int) - S.sy + 1) (by omega)
      have q2 := Int.emod_lt_of_pos v.i (b := (S.text.length : Int) - S.sy + 1) (by omega)
      exact cut_ok h (by omega) (by omega)
  | lose v =>
    cases hv : v.isCount with
    | false => rw [st_lose0 hv]; exact h
    | true => rw [st_lose1 hv]; exact cut_ok h (by omega) (by omega)
  | trim v =>
    cases hv : v.btw S.se S.text.length with
    | false => rw [st_trim0 hv]; exact h
    | true =>
      rw [st_trim1 hv]
      obtain ⟨x, rfl, hx1, hx2⟩ := Ov.btw_int hv
      exact cut_ok h hx1 hx2
  | settle v =>
    cases hv : v.btw S.se S.sy with
    | false => rw [st_settle0 hv]; exact h
    | true =>
      rw [st_settle1 hv]
      obtain ⟨x, rfl, hx1, hx2⟩ := Ov.btw_int hv
      exact ⟨h.pr, h.len, by show 0 ≤ x; omega, hx2, h3⟩
theorem Sd.Ok.mono {S : Sd} {n k : Nat} (h : S.Ok n) (e : n ≤ k) : S.Ok k := ⟨h.pr, Nat.le_trans h.len e, h.e0, h.ey, h.yl⟩
theorem Wd.Ok.mono {w : Wd} {n k : Nat} (h : w.Ok n) (e : n ≤ k) : w.Ok k := ⟨h.o0.mono e, h.o1.mono e, h.o2.mono e, h.e0, h.e1, h.e2⟩
namespace Wd
def sa (w : Wd) : Fin 3 → Addr
  | 0 => w.s0
  | 1 => w.s1
  | 2 => w.s2
def rest (CD : Addr) (w : Wd) : Fin 3 → Mu
  | 0 => [(w.a0, w.A0.mvI CD), (w.a1, w.A1.mvI CD), (w.a2, w.A2.mvI CD)] ++ [(w.s1, w.S1.mv), (w.s2, w.S2.mv)]
  | 1 => [(w.a0, w.A0.mvI CD), (w.a1, w.A1.mvI CD), (w.a2, w.A2.mvI CD), (w.s0, w.S0.mv)] ++ [(w.s2, w.S2.mv)]
  | 2 => [(w.a0, w.A0.mvI CD), (w.a1, w.A1.mvI CD), (w.a2, w.A2.mvI CD), (w.s0, w.S0.mv), (w.s1, w.S1.mv)] ++ []
theorem pickS (CD : Addr) (w : Wd) (z : Addr × MV) : ∀ i, (z :: w.mu CD).Perm ([z, (w.sa i, (w.at_ i).mv)] ++ w.rest CD i)
  | 0 => (List.perm_middle (l₁ := [(w.a0, w.A0.mvI CD), (w.a1, w.A1.mvI CD), (w.a2, w.A2.mvI CD)]) (l₂ := [(w.s1, w.S1.mv), (w.s2, w.S2.mv)]) (a := (w.s0, w.S0.mv))).cons z
  | 1 => (List.perm_middle (l₁ := [(w.a0, w.A0.mvI CD), (w.a1, w.A1.mvI CD), (w.a2, w.A2.mvI CD), (w.s0, w.S0.mv)]) (l₂ := [(w.s2, w.S2.mv)]) (a := (w.s1, w.S1.mv))).cons z
  | 2 => (List.perm_middle (l₁ := [(w.a0, w.A0.mvI CD), (w.a1, w.A1.mvI CD), (w.a2, w.A2.mvI CD), (w.s0, w.S0.mv), (w.s1, w.S1.mv)]) (l₂ := []) (a := (w.s2, w.S2.mv))).cons z
theorem backS (CD : Addr) (w : Wd) (z : Addr × MV) (i : Fin 3) (L : Mu) : (([z, (w.sa i, (w.at_ i).mv)] ++ L) ++ w.rest CD i).Perm ([z] ++ (w.mu CD ++ L)) := by
  have h1 := (w.pickS CD z i).symm.append_right L
  refine List.Perm.trans ?_ h1
  rw [List.append_assoc, List.append_assoc]
  exact List.perm_append_comm.append_left _
theorem st_at (w : Wd) : ∀ i : Fin 3, Ty.atT ([Ref.mk w.s0, Ref.mk w.s1, Ref.mk w.s2] : List Ref) ((i.val : Nat) : Int) = some (Ref.mk (w.sa i))
  | 0 => rfl
  | 1 => rfl
  | 2 => rfl
theorem st_m (CD : Addr) (w : Wd) (z : Addr × MV) : ∀ i : Fin 3, (z :: w.mu CD)[4 + i.val]? = some (w.sa i, mL [Ty.tv (w.at_ i).text, Ty.tv (w.at_ i).sy, Ty.tv (w.at_ i).se])
  | 0 => rfl
  | 1 => rfl
  | 2 => rfl
theorem set_disks (w : Wd) (S : Sd) : ∀ i : Fin 3, (w.set S i).disks = w.disks
  | 0 => rfl
  | 1 => rfl
  | 2 => rfl
theorem set_states (w : Wd) (S : Sd) : ∀ i : Fin 3, (w.set S i).states = w.states
  | 0 => rfl
  | 1 => rfl
  | 2 => rfl
end Wd
theorem fin3 {r : Int} (h0 : 0 ≤ r) (h1 : r < 3) : ∃ i : Fin 3, r = ((i.val : Nat) : Int) := ⟨⟨r.toNat, by omega⟩, by show r = ((r.toNat : Nat) : Int); omega⟩
theorem ok_start : Sd.Ok ⟨"", 0, 0⟩ 3300 := ⟨by decide +kernel, by decide +kernel, Int.le_refl _, Int.le_refl _, by decide +kernel⟩
theorem ix_lUE {X : Cx} {Z : Zs} {m : Mu} {P : TV → Mu → Prop} {α : Type _} {g : α → TV} {t : TV} {ts : List TV} {i : Int} (Q : α → Prop) (hu : LstU m t ts) (hi : ∃ e, Ty.atT ts i = some (g e) ∧ Q e) (h : ∀ e, Q e → P (g e) m) (hK : X.K = Z.K := by rfl) : IxP X Z t (tv i) m P :=
  let ⟨e, h1, h2⟩ := hi
  ix_lU hu h1 (h e h2) hK
def T_right : TSpec := fun xs m post _ => ∃ (p : Addr) (b : Box), xs = [tv (Ref.mk p)] ∧ m = [(p, b.mv)] ∧ b.Ok 0 ∧ post (tv true) []
def T_law : TSpec := fun xs m post _ => ∃ l : List Int, xs = [tv (Scr.mk l)] ∧ post (tv true) m

section
variable {P : Program} {w : World} {K : PySem.W.Frag} {mg : Str → Option Value} {base : Heap} {CE CS CC CD : Addr}

theorem ok_l_right (T : Tx K mg base CE CS CC CD) : DefK P w K mg base "_law_right" 8 T_right [] := by
  obtain ⟨f, fd, F, hm⟩ := T.f_l_right
  have sc := sc_l_right
  refine defK_mk F (fn_ok F sc_l_right (fun xs m post xp h => ?_) fun cdv A outer s H E B0 H0 xs m post xp hgd hr hT hx => ?_) hm (fun kV doc pm an cdv ct us hl => match us, hl with | [a0], _ => rfl)
  · obtain ⟨_, _, h, _⟩ := h; subst h; rfl
  obtain ⟨p, b, rfl, rfl, hb, hpost⟩ := hT
  refine wss_cons ?_
  refine ws_par 1 2 ?_ rfl sc.nd
  refine wa_cons ?_
  refine we_list ?_
  refine wa_cons ?_
  refine we_make0 (ok_Disk T) hgd hr xt0 ?_
  refine fun a0 => FrP.last ⟨a0, rfl, rfl, ⟨rfl, ?_⟩⟩
  refine wa_cons ?_
  refine we_make0 (ok_Disk T) hgd hr xt0 ?_
  refine fun a1 => FrP.last ⟨a1, rfl, rfl, ⟨rfl, ?_⟩⟩
  refine wa_cons ?_
  refine we_make0 (ok_Disk T) hgd hr xt0 ?_
  refine fun a2 => FrP.last ⟨a2, rfl, rfl, ⟨rfl, ?_⟩⟩
  refine wa_nil ?_
  refine ⟨by first | decide | simp, ?_⟩
  refine .data (α := Ref) (ys := [⟨a0⟩, ⟨a1⟩, ⟨a2⟩]) rfl ?_
  refine wa_cons ?_
  refine we_list ?_
  refine wa_cons ?_
  refine we_list ?_
  refine wa_cons ?_
  refine we_str ?_
  refine wa_cons ?_
  refine we_int ?_
  refine wa_cons ?_
  refine we_int ?_
  refine wa_nil ?_
  refine ⟨by first | decide | simp, ?_⟩
  refine .own fun s0 => ?_
  refine wa_cons ?_
  refine we_list ?_
  refine wa_cons ?_
  refine we_str ?_
  refine wa_cons ?_
  refine we_int ?_
  refine wa_cons ?_
  refine we_int ?_
  refine wa_nil ?_
  refine ⟨by first | decide | simp, ?_⟩
  refine .own fun s1 => ?_
  refine wa_cons ?_
  refine we_list ?_
  refine wa_cons ?_
  refine we_str ?_
  refine wa_cons ?_
  refine we_int ?_
  refine wa_cons ?_
  refine we_int ?_
  refine wa_nil ?_
  refine ⟨by first | decide | simp, ?_⟩
  refine .own fun s2 => ?_
  refine wa_nil ?_
  refine ⟨by first | decide | simp, ?_⟩
  refine .data (α := Ref) (ys := [⟨s0⟩, ⟨s1⟩, ⟨s2⟩]) rfl ?_
  refine wa_nil ?_
  refine ⟨_, _, rfl, ?_⟩
  refine wss_cons ?_
  refine ws_if ?_
  refine wt_not ?_
  refine wt_val ?_
  refine we_call (ok_l_is T) hgd hr xt0 ?_
  refine wa_cons ?_
  refine we_name 1 ?_
  refine wa_cons ?_
  refine we_name 2 ?_
  refine wa_nil ?_
  refine .part (l1 := [(p, b.mv)]) (mf := (Wd.mk a0 a1 a2 s0 s1 s2 ⟨"", 0, 0⟩ ⟨"", 0, 0⟩ ⟨"", 0, 0⟩ ⟨"", 0, 0⟩ ⟨"", 0, 0⟩ ⟨"", 0, 0⟩).mu CD ++ []) (l2 := []) rfl ⟨(Wd.mk a0 a1 a2 s0 s1 s2 ⟨"", 0, 0⟩ ⟨"", 0, 0⟩ ⟨"", 0, 0⟩ ⟨"", 0, 0⟩ ⟨"", 0, 0⟩ ⟨"", 0, 0⟩), [], rfl, rfl, Wd.Ok.mono (n := 3300) ⟨ok_start, ok_start, ok_start, rfl, rfl, rfl⟩ (by decide), ?_⟩
  refine BoolP.of ?_
  refine ⟨fun h => ?_, fun h => ?_⟩
  · skip
    exact absurd h (by decide)
  · skip
    try simp only [Bool.and_eq_true, Bool.or_eq_true, Bool.and_eq_false_iff, Bool.or_eq_false_iff, Bool.not_eq_true, Bool.not_eq_false, Bool.not_eq_true', Bool.not_eq_false', decide_eq_true_eq, decide_eq_false_iff_not] at h
    refine wss_nil ?_
    refine wss_cons ?_
    refine ws_for ?_ own_passes rfl
    refine wi_range1 T.range ?_
    refine we_int ?_
    refine ⟨_, rfl, by decide, by decide, ?_⟩
    refine forp_rng (fun i ρ' m' => ∃ (w : Wd) (b : Box) (x3 x4 x5 x6 x7 x8 x9 x10 : Option TV), ρ' = [some (tv (Ref.mk p)), some w.disks, some w.states, x3, x4, x5, x6, x7, x8, x9, x10] ∧ m' = (p, b.mv) :: w.mu CD ∧ w.Ok (3300) ∧ b.Ok (32 * i)) ?inv1 (fun j ρ' m' hj hI => ?body1) (fun ρ' m' hI => ?rest1)
    case inv1 => exact ⟨(Wd.mk a0 a1 a2 s0 s1 s2 ⟨"", 0, 0⟩ ⟨"", 0, 0⟩ ⟨"", 0, 0⟩ ⟨"", 0, 0⟩ ⟨"", 0, 0⟩ ⟨"", 0, 0⟩), b, _, _, _, _, _, _, _, _, rfl, rfl, ⟨ok_start, ok_start, ok_start, rfl, rfl, rfl⟩, hb⟩
    case body1 =>
      obtain ⟨w, b, x3, x4, x5, x6, x7, x8, x9, x10, rfl, rfl, hw, hb⟩ := hI
      have hj' : j < 44 := hj
      refine wg_name 3 ?_ sc.nd
      refine wss_cons ?_
      refine ws_par 4 5 ?_ rfl sc.nd
      refine wa_cons ?_
      refine we_call (ok_l_take T) hgd hr xt0 ?_
      refine wa_cons ?_
      refine we_name 0 ?_
      refine wa_cons ?_
      refine we_int ?_
      refine wa_nil ?_
      refine FrP.one ⟨_, _, _, _, rfl, rfl, by omega, by omega, hb, by omega, fun r1 b h1a h1b hb => ?_⟩
      refine wa_cons ?_
      refine we_call (ok_l_take T) hgd hr xt0 ?_
      refine wa_cons ?_
      refine we_name 0 ?_
      refine wa_cons ?_
      refine we_int ?_
      refine wa_nil ?_
      refine FrP.one ⟨_, _, _, _, rfl, rfl, by omega, by omega, hb, by omega, fun r2 b h2a h2b hb => ?_⟩
      refine wa_nil ?_
      refine ⟨_, _, rfl, ?_⟩
      refine wss_one ?_
      refine ws_if ?_
      refine wt_not ?_
      refine wt_val ?_
      refine we_call (ok_l_done T) hgd hr xt0 ?_
      refine wa_cons ?_
      refine we_name 1 ?_
      refine wa_cons ?_
      refine we_name 2 ?_
      refine wa_cons ?_
      refine we_name 4 ?_
      refine wa_cons ?_
      refine we_call (ok_l_deed T) hgd hr xt0 ?_
      refine wa_cons ?_
      refine we_name 0 ?_
      refine wa_cons ?_
      refine we_ix ?_
      refine we_name 2 ?_
      refine we_name 4 ?_
      obtain ⟨i, rfl⟩ := fin3 h1a h1b
      refine ix_l (w.st_at i) ?_
      refine wa_nil ?_
      refine .perm (mf := [(p, b.mv), (w.sa i, (w.at_ i).mv)]) (r := w.rest CD i) (w.pickS CD _ i) ⟨p, w.sa i, b, w.at_ i, _, rfl, rfl, hb, by omega, (hw.at_ i).mono (by decide), fun D b hD hf hb => ⟨_, w.backS CD _ i D.mu, ?_⟩⟩
      refine wa_cons ?_
      refine we_name 5 ?_
      refine wa_nil ?_
      refine .part (l1 := [(p, b.mv)]) (mf := w.mu CD ++ D.mu) (l2 := []) (by simp) ⟨w, i, D, _, rfl, rfl, hw.mono (by omega), hD, (step_ok (hw.at_ i) hf).mono (by omega), ?_⟩
      refine BoolP.of ?_
      refine ⟨fun h => ?_, fun h => ?_⟩
      · skip
        exact absurd h (by decide)
      · skip
        try simp only [Bool.and_eq_true, Bool.or_eq_true, Bool.and_eq_false_iff, Bool.or_eq_false_iff, Bool.not_eq_true, Bool.not_eq_false, Bool.not_eq_true', Bool.not_eq_false', decide_eq_true_eq, decide_eq_false_iff_not] at h
        refine wss_nil ?_
        rw [← Wd.set_disks w (step (w.at_ i) D).2 i, ← Wd.set_states w (step (w.at_ i) D).2 i]
        exact ⟨w.set (step (w.at_ i) D).2 i, b, _, _, _, _, _, _, _, _, rfl, List.append_nil _, hw.set (step_ok (hw.at_ i) hf) i, hb.mono (by omega)⟩
    case rest1 =>
      obtain ⟨w, b, x3, x4, x5, x6, x7, x8, x9, x10, rfl, rfl, hw, hb⟩ := hI
      have hb : b.Ok 1500 := hb.mono (by show 32 * (Int.toNat 44) ≤ _; decide)
      refine wss_cons ?_
      refine ws_for ?_ own_passes rfl
      refine wi_range1 T.range ?_
      refine we_int ?_
      refine ⟨_, rfl, by decide, by decide, ?_⟩
      refine forp_rng (fun i ρ' m' => ∃ (w : Wd) (b : Box) (x3 x4 x5 x6 x7 x8 x9 x10 : Option TV), ρ' = [some (tv (Ref.mk p)), some w.disks, some w.states, x3, x4, x5, x6, x7, x8, x9, x10] ∧ m' = (p, b.mv) :: w.mu CD ∧ w.Ok (3300 + 10 * i) ∧ b.Ok (1500 + i)) ?inv2 (fun j ρ' m' hj hI => ?body2) (fun ρ' m' hI => ?rest2)
      case inv2 => exact ⟨w, b, _, _, _, _, _, _, _, _, rfl, rfl, hw, hb⟩
      case body2 =>
        obtain ⟨w, b, x3, x4, x5, x6, x7, x8, x9, x10, rfl, rfl, hw, hb⟩ := hI
        have hj' : j < 21 := hj
        obtain ⟨i, hi⟩ := fin3 (r := (0 + (j : Int)) % 3) (by omega) (by omega)
        have hS := hw.at_ i
        have hl1 := hS.len
        have hl2 := hS.e0
        have hl3 := hS.ey
        have hl4 := hS.yl
        refine wg_name 3 ?_ sc.nd
        refine wss_cons ?_
        refine ws_par3 4 6 7 ?_ rfl sc.nd
        refine wa_cons ?_
        refine we_bin ?_
        refine we_callT (T := "int") T.int ?_ bt_int
        refine wa_cons ?_
        refine we_name 3 ?_
        refine wa_nil ?_
        walk_at "b int"
        refine we_int ?_
        walk_at "Mod"
        refine wa_cons ?_
        refine we_callB (id := "len") T.len ?_ bt_len
        refine wa_cons ?_
        refine we_ix ?_
        refine we_ix ?_
        refine we_name 2 ?_
        refine we_bin ?_
        refine we_callT (T := "int") T.int ?_ bt_int
        refine wa_cons ?_
        refine we_name 3 ?_
        refine wa_nil ?_
        walk_at "b int"
        refine we_int ?_
        walk_at "Mod"
        try rw [hi]
        refine ix_l (w.st_at i) ?_
        refine we_int ?_
        refine ix_own (n := 4 + i.val) (w.st_m CD _ i) rfl ?_
        refine wa_nil ?_
        refine len_s (by omega) ?_
        refine wa_cons ?_
        refine we_ix ?_
        refine we_ix ?_
        refine we_name 2 ?_
        refine we_bin ?_
        refine we_callT (T := "int") T.int ?_ bt_int
        refine wa_cons ?_
        refine we_name 3 ?_
        refine wa_nil ?_
        walk_at "b int"
        refine we_int ?_
        walk_at "Mod"
        try rw [hi]
        refine ix_l (w.st_at i) ?_
        refine we_int ?_
        refine ix_own (n := 4 + i.val) (w.st_m CD _ i) rfl ?_
        refine wa_nil ?_
        refine ⟨_, _, _, rfl, ?_⟩
        refine wss_cons ?_
        refine ws_set 8 ?_ sc.nd
        refine we_ix ?_
        refine we_ix ?_
        refine we_name 2 ?_
        refine we_name 4 ?_
        try rw [hi]
        refine ix_l (w.st_at i) ?_
        refine we_int ?_
        refine ix_own (n := 4 + i.val) (w.st_m CD _ i) rfl ?_
        refine wss_cons ?_
        refine ws_set 9 ?_ sc.nd
        refine we_list ?_
        refine wa_cons ?_
        refine we_list ?_
        refine wa_cons ?_
        refine we_str ?_
        refine wa_cons ?_
        refine we_str ?_
        refine wa_nil ?_
        refine ⟨by first | decide | simp, ?_⟩
        refine .het ?_
        refine wa_cons ?_
        refine we_list ?_
        refine wa_cons ?_
        refine we_str ?_
        refine wa_cons ?_
        refine we_bin ?_
        refine we_name 6 ?_
        refine we_int ?_
        walk_at "Add"
        refine wa_nil ?_
        refine ⟨by first | decide | simp, ?_⟩
        refine .het ?_
        refine wa_cons ?_
        refine we_list ?_
        refine wa_cons ?_
        refine we_str ?_
        refine wa_cons ?_
        refine we_str ?_
        refine wa_nil ?_
        refine ⟨by first | decide | simp, ?_⟩
        refine .het ?_
        refine wa_cons ?_
        refine we_list ?_
        refine wa_cons ?_
        refine we_str ?_
        refine wa_cons ?_
        refine we_bin ?_
        refine we_name 6 ?_
        refine we_int ?_
        walk_at "FloorDiv"
        refine wa_nil ?_
        refine ⟨by first | decide | simp, ?_⟩
        refine .het ?_
        refine wa_cons ?_
        refine we_list ?_
        refine wa_cons ?_
        refine we_str ?_
        refine wa_cons ?_
        refine we_bin ?_
        refine we_name 8 ?_
        refine we_bin ?_
        refine we_bin ?_
        refine we_name 7 ?_
        refine we_name 8 ?_
        walk_at "Sub"
        refine we_int ?_
        walk_at "FloorDiv"
        walk_at "Add"
        refine wa_nil ?_
        refine ⟨by first | decide | simp, ?_⟩
        refine .het ?_
        refine wa_nil ?_
        refine ⟨by first | decide | simp, ?_⟩
        refine .het ?_
        refine wss_cons ?_
        refine ws_set 10 ?_ sc.nd
        refine we_ix ?_
        refine we_bin ?_
        refine we_name 9 ?_
        refine we_list ?_
        refine wa_cons ?_
        refine we_list ?_
        refine wa_cons ?_
        refine we_str ?_
        refine wa_cons ?_
        refine we_int ?_
        refine wa_nil ?_
        refine ⟨by first | decide | simp, ?_⟩
        refine .het ?_
        refine wa_cons ?_
        refine we_list ?_
        refine wa_cons ?_
        refine we_str ?_
        refine wa_cons ?_
        refine we_name 6 ?_
        refine wa_nil ?_
        refine ⟨by first | decide | simp, ?_⟩
        refine .het ?_
        refine wa_nil ?_
        refine ⟨by first | decide | simp, ?_⟩
        refine .het ?_
        refine add_lU lu_hl lu_hl (by simp) ?_
        refine we_bin ?_
        refine we_name 3 ?_
        refine we_int ?_
        walk_at "FloorDiv"
        refine ix_lUE (g := Dd.tv) (fun D : Dd => D.Good ∧ D.mu = [] ∧ D.Fit (w.at_ i) (3300 + 10 * j + 10)) lu_hl ?_ fun D hD3 => ?_
        · rcases (show (0 + (j : Int)) / 3 = 0 ∨ (0 + (j : Int)) / 3 = 1 ∨ (0 + (j : Int)) / 3 = 2 ∨ (0 + (j : Int)) / 3 = 3 ∨ (0 + (j : Int)) / 3 = 4 ∨ (0 + (j : Int)) / 3 = 5 ∨ (0 + (j : Int)) / 3 = 6 from by omega) with h7 | h7 | h7 | h7 | h7 | h7 | h7
          · rw [h7]; exact ⟨.put (.str " ab c "), rfl, ⟨by decide +kernel, by decide +kernel⟩, rfl, fun _ => by show _ + 6 ≤ _; omega⟩
          · rw [h7]; exact ⟨.fall (.int _), rfl, by show Int.natAbs _ ≤ 10 ^ 20; omega, rfl, trivial⟩
          · rw [h7]; exact ⟨.put (.str "x "), rfl, ⟨by decide +kernel, by decide +kernel⟩, rfl, fun _ => by show _ + 2 ≤ _; omega⟩
          · rw [h7]; exact ⟨.lose (.int _), rfl, by show Int.natAbs _ ≤ 10 ^ 20; omega, rfl, trivial⟩
          · rw [h7]; exact ⟨.settle (.int _), rfl, by show Int.natAbs _ ≤ 10 ^ 20; omega, rfl, trivial⟩
          · rw [h7]; exact ⟨.lose (.int 0), rfl, by show Int.natAbs _ ≤ 10 ^ 20; decide, rfl, trivial⟩
          · rw [h7]; exact ⟨.trim (.int _), rfl, by show Int.natAbs _ ≤ 10 ^ 20; omega, rfl, trivial⟩
        obtain ⟨hD, hDm, hf⟩ := hD3
        refine wss_one ?_
        refine ws_if ?_
        refine wt_not ?_
        refine wt_val ?_
        refine we_call (ok_l_done T) hgd hr xt0 ?_
        refine wa_cons ?_
        refine we_name 1 ?_
        refine wa_cons ?_
        refine we_name 2 ?_
        refine wa_cons ?_
        refine we_name 4 ?_
        refine wa_cons ?_
        refine we_name 10 ?_
        refine wa_cons ?_
        refine we_call (ok_l_take T) hgd hr xt0 ?_
        refine wa_cons ?_
        refine we_name 0 ?_
        refine wa_cons ?_
        refine we_int ?_
        refine wa_nil ?_
        refine FrP.one ⟨_, _, _, _, rfl, rfl, by omega, by omega, hb, by omega, fun r3 b h3a h3b hb => ?_⟩
        refine wa_nil ?_
        refine .part (l1 := [(p, b.mv)]) (mf := w.mu CD ++ D.mu) (l2 := []) (by simp [hDm]) ⟨w, i, D, _, rfl, rfl, hw.mono (by omega), hD, (step_ok ((hw.at_ i).mono (Nat.le_add_right _ 10)) hf).mono (by omega), ?_⟩
        refine BoolP.of ?_
        refine ⟨fun h => ?_, fun h => ?_⟩
        · skip
          exact absurd h (by decide)
        · skip
          try simp only [Bool.and_eq_true, Bool.or_eq_true, Bool.and_eq_false_iff, Bool.or_eq_false_iff, Bool.not_eq_true, Bool.not_eq_false, Bool.not_eq_true', Bool.not_eq_false', decide_eq_true_eq, decide_eq_false_iff_not] at h
          refine wss_nil ?_
          rw [← Wd.set_disks w (step (w.at_ i) D).2 i, ← Wd.set_states w (step (w.at_ i) D).2 i]
          exact ⟨w.set (step (w.at_ i) D).2 i, b, _, _, _, _, _, _, _, _, rfl, List.append_nil _, (hw.mono (Nat.le_add_right _ 10)).set (step_ok ((hw.at_ i).mono (Nat.le_add_right _ 10)) hf) i, hb.mono (by omega)⟩
      case rest2 =>
        obtain ⟨w, b, x3, x4, x5, x6, x7, x8, x9, x10, rfl, rfl, hw, hb⟩ := hI
        refine wss_one ?_
        refine ws_ret ?_
        refine we_drop ?_
        refine we_bool ?_
        exact ⟨[], List.nil_sublist _, hpost⟩
theorem g_law (T : Tx K mg base CE CS CC CD) {f : Addr} {fd : FuncData} (F : FunD K "law" "law" (defArgs s_law) (defBody s_law) (defScope s_law) [] [] f fd) : FnG P w K mg base 9 f fd ["script"] T_law := by
  have sc := sc_law
  refine fn_ok F sc_law (fun xs m post xp h => ?_) fun cdv A outer s H E B0 H0 xs m post xp hgd hr hT hx => ?_
  · obtain ⟨_, h, _⟩ := h; subst h; rfl
  obtain ⟨l, rfl, hpost⟩ := hT
  refine wss_cons ?_
  refine ws_for ?_ own_passes rfl
  refine wi_range1 T.range ?_
  refine we_callB (id := "max") T.max ?_ bt_max
  refine wa_cons ?_
  refine we_int ?_
  refine wa_cons ?_
  refine we_callB (id := "min") T.min ?_ bt_min
  refine wa_cons ?_
  refine we_int ?_
  refine wa_cons ?_
  refine we_callB (id := "len") T.len ?_ bt_len
  refine wa_cons ?_
  refine we_name 0 ?_
  refine wa_nil ?_
  refine len_scr ?_
  refine wa_nil ?_
  refine min_ii rfl ?_
  refine wa_nil ?_
  refine max_ii rfl ?_
  refine ⟨_, rfl, by omega, by omega, ?_⟩
  refine forp_rng (fun i ρ' m' => ∃ x, ρ' = [some (tv (Scr.mk l)), x] ∧ m' = m) ⟨_, rfl, rfl⟩ (fun j ρ' m' hj hI => ?lbody) (fun ρ' m' hI => ?lrest)
  case lbody =>
    obtain ⟨x, rfl, rfl⟩ := hI
    refine wg_name 1 ?_ sc.nd
    refine wss_one ?_
    refine ws_if ?_
    refine wt_not ?_
    refine wt_val ?_
    refine we_call (ok_l_right T) hgd hr xt0 ?_
    refine wa_cons ?_
    refine we_call (ok_l_box T) hgd hr xt0 ?_
    refine wa_cons ?_
    refine we_call (ok_l_cell T) hgd hr xt0 ?_
    refine wa_cons ?_
    refine we_name 0 ?_
    refine wa_cons ?_
    refine we_name 1 ?_
    refine wa_nil ?_
    refine FrP.all ⟨l, _, rfl, by omega, fun g => ?_⟩
    refine wa_nil ?_
    refine FrP.none ⟨g, rfl, rfl, fun p b hb => ?_⟩
    refine wa_nil ?_
    refine FrP.last ⟨p, b, rfl, rfl, hb, ?_⟩
    refine BoolP.of ?_
    refine ⟨fun h => ?_, fun h => ?_⟩
    · skip
      exact absurd h (by decide)
    · skip
      try simp only [Bool.and_eq_true, Bool.or_eq_true, Bool.and_eq_false_iff, Bool.or_eq_false_iff, Bool.not_eq_true, Bool.not_eq_false, Bool.not_eq_true', Bool.not_eq_false', decide_eq_true_eq, decide_eq_false_iff_not] at h
      refine wss_nil ?_
      exact ⟨_, rfl, List.append_nil _⟩
  case lrest =>
    obtain ⟨x, rfl, rfl⟩ := hI
    refine wss_one ?_
    refine ws_ret ?_
    refine we_bool ?_
    exact hpost
end
end K05


set_option Elab.async false
set_option linter.all false
set_option maxRecDepth 100000
set_option maxHeartbeats 0
namespace K05
open PySem PySem.Spec PyProof.Rows L2 Ty

def d_InvalidSigns_init : He.DefD := ⟨("InvalidSigns", some "__init__"), "__init__", "InvalidSigns.__init__", defArgs s_InvalidSigns_init, defBody s_InvalidSigns_init, defScope s_InvalidSigns_init, [], []⟩
def d_InvalidCount_init : He.DefD := ⟨("InvalidCount", some "__init__"), "__init__", "InvalidCount.__init__", defArgs s_InvalidCount_init, defBody s_InvalidCount_init, defScope s_InvalidCount_init, [], []⟩
def d_is_integer : He.DefD := ⟨("is_integer", none), "is_integer", "is_integer", defArgs s_is_integer, defBody s_is_integer, defScope s_is_integer, [], []⟩
def d_is_count : He.DefD := ⟨("is_count", none), "is_count", "is_count", defArgs s_is_count, defBody s_is_count, defScope s_is_count, [], []⟩
def d_is_signs : He.DefD := ⟨("is_signs", none), "is_signs", "is_signs", defArgs s_is_signs, defBody s_is_signs, defScope s_is_signs, [.non], []⟩
def d_is_between : He.DefD := ⟨("is_between", none), "is_between", "is_between", defArgs s_is_between, defBody s_is_between, defScope s_is_between, [], []⟩
def d_Disk_init : He.DefD := ⟨("Disk", some "__init__"), "__init__", "Disk.__init__", defArgs s_Disk_init, defBody s_Disk_init, defScope s_Disk_init, [], []⟩
def d_Disk_put : He.DefD := ⟨("Disk", some "put"), "put", "Disk.put", defArgs s_Disk_put, defBody s_Disk_put, defScope s_Disk_put, [], []⟩
def d_Disk_sync : He.DefD := ⟨("Disk", some "sync"), "sync", "Disk.sync", defArgs s_Disk_sync, defBody s_Disk_sync, defScope s_Disk_sync, [], []⟩
def d_Disk_trim : He.DefD := ⟨("Disk", some "trim"), "trim", "Disk.trim", defArgs s_Disk_trim, defBody s_Disk_trim, defScope s_Disk_trim, [], []⟩
def d_Disk_fall : He.DefD := ⟨("Disk", some "fall"), "fall", "Disk.fall", defArgs s_Disk_fall, defBody s_Disk_fall, defScope s_Disk_fall, [], []⟩
def d_Disk_lose : He.DefD := ⟨("Disk", some "lose"), "lose", "Disk.lose", defArgs s_Disk_lose, defBody s_Disk_lose, defScope s_Disk_lose, [], []⟩
def d_Disk_settle : He.DefD := ⟨("Disk", some "settle"), "settle", "Disk.settle", defArgs s_Disk_settle, defBody s_Disk_settle, defScope s_Disk_settle, [], []⟩
def d_Disk_swap : He.DefD := ⟨("Disk", some "swap"), "swap", "Disk.swap", defArgs s_Disk_swap, defBody s_Disk_swap, defScope s_Disk_swap, [], []⟩
def d_l_cell : He.DefD := ⟨("_law_cell", none), "_law_cell", "_law_cell", defArgs s_l_cell, defBody s_l_cell, defScope s_l_cell, [], []⟩
def d_l_box : He.DefD := ⟨("_law_box", none), "_law_box", "_law_box", defArgs s_l_box, defBody s_l_box, defScope s_l_box, [], []⟩
def d_l_take : He.DefD := ⟨("_law_take", none), "_law_take", "_law_take", defArgs s_l_take, defBody s_l_take, defScope s_l_take, [], []⟩
def d_l_signs : He.DefD := ⟨("_law_signs", none), "_law_signs", "_law_signs", defArgs s_l_signs, defBody s_l_signs, defScope s_l_signs, [], []⟩
def d_l_odd_signs : He.DefD := ⟨("_law_odd_signs", none), "_law_odd_signs", "_law_odd_signs", defArgs s_l_odd_signs, defBody s_l_odd_signs, defScope s_l_odd_signs, [], []⟩
def d_l_odd_count : He.DefD := ⟨("_law_odd_count", none), "_law_odd_count", "_law_odd_count", defArgs s_l_odd_count, defBody s_l_odd_count, defScope s_l_odd_count, [], []⟩
def d_l_count : He.DefD := ⟨("_law_count", none), "_law_count", "_law_count", defArgs s_l_count, defBody s_l_count, defScope s_l_count, [], []⟩
def d_l_deed : He.DefD := ⟨("_law_deed", none), "_law_deed", "_law_deed", defArgs s_l_deed, defBody s_l_deed, defScope s_l_deed, [], []⟩
def d_l_is_count : He.DefD := ⟨("_law_is_count", none), "_law_is_count", "_law_is_count", defArgs s_l_is_count, defBody s_l_is_count, defScope s_l_is_count, [], []⟩
def d_l_is_signs : He.DefD := ⟨("_law_is_signs", none), "_law_is_signs", "_law_is_signs", defArgs s_l_is_signs, defBody s_l_is_signs, defScope s_l_is_signs, [], []⟩
def d_l_due : He.DefD := ⟨("_law_due", none), "_law_due", "_law_due", defArgs s_l_due, defBody s_l_due, defScope s_l_due, [], []⟩
def d_l_did : He.DefD := ⟨("_law_did", none), "_law_did", "_law_did", defArgs s_l_did, defBody s_l_did, defScope s_l_did, [], []⟩
def d_l_is : He.DefD := ⟨("_law_is", none), "_law_is", "_law_is", defArgs s_l_is, defBody s_l_is, defScope s_l_is, [], []⟩
def d_l_done : He.DefD := ⟨("_law_done", none), "_law_done", "_law_done", defArgs s_l_done, defBody s_l_done, defScope s_l_done, [], []⟩
def d_l_right : He.DefD := ⟨("_law_right", none), "_law_right", "_law_right", defArgs s_l_right, defBody s_l_right, defScope s_l_right, [], []⟩
def d_law : He.DefD := ⟨("law", none), "law", "law", defArgs s_law, defBody s_law, defScope s_law, [], []⟩
def fn : List He.DefD := [d_InvalidSigns_init, d_InvalidCount_init, d_is_integer, d_is_count, d_is_signs, d_is_between, d_Disk_init, d_Disk_put, d_Disk_sync, d_Disk_trim, d_Disk_fall, d_Disk_lose, d_Disk_settle, d_Disk_swap, d_l_cell, d_l_box, d_l_take, d_l_signs, d_l_odd_signs, d_l_odd_count, d_l_count, d_l_deed, d_l_is_count, d_l_is_signs, d_l_due, d_l_did, d_l_is, d_l_done, d_l_right, d_law]
def fa : List He.Fa := [.glo "AlongError", .glo "InvalidSigns", .glo "InvalidCount", .glo "is_integer", .glo "is_count", .glo "is_signs", .glo "is_between", .glo "Disk", .glo "_law_cell", .glo "_law_box", .glo "_law_take", .glo "_law_signs", .glo "_law_odd_signs", .glo "_law_odd_count", .glo "_law_count", .glo "_law_deed", .glo "_law_is_count", .glo "_law_is_signs", .glo "_law_due", .glo "_law_did", .glo "_law_is", .glo "_law_done", .glo "_law_right", .glo "law", .free "abs", .free "all", .free "bool", .free "int", .free "isinstance", .free "len", .free "list", .free "max", .free "min", .free "range", .free "repr", .free "str", .free "sum", .cls "Disk", .mkr "Disk", .noat "Disk" "text", .noat "Disk" "synced", .noat "Disk" "settled", .meth "Disk" "put", .meth "Disk" "sync", .meth "Disk" "trim", .meth "Disk" "fall", .meth "Disk" "lose", .meth "Disk" "settle", .meth "Disk" "swap", .exm "InvalidSigns" "InvalidSigns" true, .exm "InvalidCount" "InvalidSigns" false, .exm "InvalidCount" "InvalidCount" true, .noat "InvalidSigns" "given", .noat "InvalidCount" "given"]
def iniB (K : PySem.W.Frag) (C : Str) : Bool := He.eqO (PySem.W.findIn K (.ref (He.ga K C)) "__init__") (some (some (.ref (He.ma K (He.ga K C) "__init__")))) && decide (PySem.W.typeIn K (.ref (He.ma K (He.ga K C) "__init__")) = some (.type "function"))
def sysB (K : PySem.W.Frag) : Bool := match K.lookup sysModules with
  | some ⟨_, _, .dict _ _, _⟩ => true
  | _ => false
def ex (K : PySem.W.Frag) : Bool := sysB K && (supB K (He.ga K "AlongError") && (oexB K (He.ga K "InvalidSigns") && (oexB K (He.ga K "InvalidCount") && (iniB K "InvalidSigns" && (iniB K "InvalidCount" && (xfB K (He.ga K "InvalidSigns") && (xfB K (He.ga K "InvalidCount") && (excB K (He.ga K "InvalidSigns") && (excB K (He.ga K "InvalidCount") &&
  (decide (PySem.W.kitOne K (.ref (He.ga K "InvalidSigns")) (.ref (He.ga K "AlongError")) = some true) && decide (PySem.W.kitOne K (.ref (He.ga K "InvalidCount")) (.ref (He.ga K "AlongError")) = some true)))))))))))
abbrev R : PySem.W.OpenRow := PySem.W.OpenLaw.row PySem.Challenge.rw_allalong_k05_disks
abbrev hk : PySem.W.Hook := hookX 4 fa fn ex
def ob (s : PySem.W.SharedT) : He.AlD := obX 4 fa fn ex (HandSHeadRun.getT s)
theorem ob_eq (s : PySem.W.SharedT) : ob s = hk.obs s.abs := obX_eq (HandSHeadRun.getT_eq s)
theorem run (w : World) : HandSHeadRun.RunEq R (PySem.W.view R.prog [27]) hk ob 4000 ["AlongError", "InvalidSigns", "InvalidCount", "is_integer", "is_count", "is_signs", "is_between", "Disk", "_law_cell", "_law_box", "_law_take", "_law_signs", "_law_odd_signs", "_law_odd_count", "_law_count", "_law_deed", "_law_is_count", "_law_is_signs", "_law_due", "_law_did", "_law_is", "_law_done", "_law_right"] w := by
  intro os
  kernel_rfl
end K05
namespace K05
open PySem PySem.Spec PyProof.Rows L2 Ty
theorem iniB_ok {K : PySem.W.Frag} {C : Str} (h : iniB K C = true) : PySem.W.findIn K (.ref (He.ga K C)) "__init__" = some (some (.ref (He.ma K (He.ga K C) "__init__"))) ∧ PySem.W.typeIn K (.ref (He.ma K (He.ga K C) "__init__")) = some (.type "function") :=
  ⟨He.eqO_ok (Bool.and_eq_true_iff.mp h).1, of_decide_eq_true (Bool.and_eq_true_iff.mp h).2⟩
theorem sysB_ok {K : PySem.W.Frag} (h : sysB K = true) : ∃ o : Obj, K.lookup sysModules = some o ∧ ∃ es n, o.data = .dict es n := by
  unfold sysB at h
  split at h
  · rename_i e
    exact ⟨_, e, _, _, rfl⟩
  · cases h
theorem tx {K : PySem.W.Frag} {h : Heap} {mg : Str → Option Value} {base : Heap} (X : K.In h) (G : h.Ns mainGlobals mg) (c : He.SaysD fa fn K) (e : ex K = true) (hb : (base.get? sysModules).isSome = true) :
    Tx K mg base (He.ga K "AlongError") (He.ga K "InvalidSigns") (He.ga K "InvalidCount") (He.ga K "Disk") := by
  unfold ex at e
  simp only [Bool.and_eq_true] at e
  obtain ⟨e0, e1, e2, e3, e4, e5, e6, e7, e8, e9, e10, e11⟩ := e
  exact {
  f_is_integer := let ⟨fd, F⟩ := c.def_ 2 (d := d_is_integer) rfl; ⟨_, fd, F, He.glo_ok X G (c.fact 3 (f := .glo "is_integer") rfl)⟩
  f_is_count := let ⟨fd, F⟩ := c.def_ 3 (d := d_is_count) rfl; ⟨_, fd, F, He.glo_ok X G (c.fact 4 (f := .glo "is_count") rfl)⟩
  f_is_signs := let ⟨fd, F⟩ := c.def_ 4 (d := d_is_signs) rfl; ⟨_, fd, F, He.glo_ok X G (c.fact 5 (f := .glo "is_signs") rfl)⟩
  f_is_between := let ⟨fd, F⟩ := c.def_ 5 (d := d_is_between) rfl; ⟨_, fd, F, He.glo_ok X G (c.fact 6 (f := .glo "is_between") rfl)⟩
  f_l_cell := let ⟨fd, F⟩ := c.def_ 14 (d := d_l_cell) rfl; ⟨_, fd, F, He.glo_ok X G (c.fact 8 (f := .glo "_law_cell") rfl)⟩
  f_l_box := let ⟨fd, F⟩ := c.def_ 15 (d := d_l_box) rfl; ⟨_, fd, F, He.glo_ok X G (c.fact 9 (f := .glo "_law_box") rfl)⟩
  f_l_take := let ⟨fd, F⟩ := c.def_ 16 (d := d_l_take) rfl; ⟨_, fd, F, He.glo_ok X G (c.fact 10 (f := .glo "_law_take") rfl)⟩
  f_l_signs := let ⟨fd, F⟩ := c.def_ 17 (d := d_l_signs) rfl; ⟨_, fd, F, He.glo_ok X G (c.fact 11 (f := .glo "_law_signs") rfl)⟩
  f_l_odd_signs := let ⟨fd, F⟩ := c.def_ 18 (d := d_l_odd_signs) rfl; ⟨_, fd, F, He.glo_ok X G (c.fact 12 (f := .glo "_law_odd_signs") rfl)⟩
  f_l_odd_count := let ⟨fd, F⟩ := c.def_ 19 (d := d_l_odd_count) rfl; ⟨_, fd, F, He.glo_ok X G (c.fact 13 (f := .glo "_law_odd_count") rfl)⟩
  f_l_count := let ⟨fd, F⟩ := c.def_ 20 (d := d_l_count) rfl; ⟨_, fd, F, He.glo_ok X G (c.fact 14 (f := .glo "_law_count") rfl)⟩
  f_l_deed := let ⟨fd, F⟩ := c.def_ 21 (d := d_l_deed) rfl; ⟨_, fd, F, He.glo_ok X G (c.fact 15 (f := .glo "_law_deed") rfl)⟩
  f_l_is_count := let ⟨fd, F⟩ := c.def_ 22 (d := d_l_is_count) rfl; ⟨_, fd, F, He.glo_ok X G (c.fact 16 (f := .glo "_law_is_count") rfl)⟩
  f_l_is_signs := let ⟨fd, F⟩ := c.def_ 23 (d := d_l_is_signs) rfl; ⟨_, fd, F, He.glo_ok X G (c.fact 17 (f := .glo "_law_is_signs") rfl)⟩
  f_l_due := let ⟨fd, F⟩ := c.def_ 24 (d := d_l_due) rfl; ⟨_, fd, F, He.glo_ok X G (c.fact 18 (f := .glo "_law_due") rfl)⟩
  f_l_did := let ⟨fd, F⟩ := c.def_ 25 (d := d_l_did) rfl; ⟨_, fd, F, He.glo_ok X G (c.fact 19 (f := .glo "_law_did") rfl)⟩
  f_l_is := let ⟨fd, F⟩ := c.def_ 26 (d := d_l_is) rfl; ⟨_, fd, F, He.glo_ok X G (c.fact 20 (f := .glo "_law_is") rfl)⟩
  f_l_done := let ⟨fd, F⟩ := c.def_ 27 (d := d_l_done) rfl; ⟨_, fd, F, He.glo_ok X G (c.fact 21 (f := .glo "_law_done") rfl)⟩
  f_l_right := let ⟨fd, F⟩ := c.def_ 28 (d := d_l_right) rfl; ⟨_, fd, F, He.glo_ok X G (c.fact 22 (f := .glo "_law_right") rfl)⟩
  f_law := let ⟨fd, F⟩ := c.def_ 29 (d := d_law) rfl; ⟨_, fd, F, He.glo_ok X G (c.fact 23 (f := .glo "law") rfl)⟩
  abs := He.free_ok X G (c.fact 24 (f := .free "abs") rfl)
  all := He.free_ok X G (c.fact 25 (f := .free "all") rfl)
  bool := He.free_ok X G (c.fact 26 (f := .free "bool") rfl)
  int := He.free_ok X G (c.fact 27 (f := .free "int") rfl)
  isinstance := He.free_ok X G (c.fact 28 (f := .free "isinstance") rfl)
  len := He.free_ok X G (c.fact 29 (f := .free "len") rfl)
  list := He.free_ok X G (c.fact 30 (f := .free "list") rfl)
  max := He.free_ok X G (c.fact 31 (f := .free "max") rfl)
  min := He.free_ok X G (c.fact 32 (f := .free "min") rfl)
  range := He.free_ok X G (c.fact 33 (f := .free "range") rfl)
  repr := He.free_ok X G (c.fact 34 (f := .free "repr") rfl)
  str := He.free_ok X G (c.fact 35 (f := .free "str") rfl)
  sum := He.free_ok X G (c.fact 36 (f := .free "sum") rfl)
  g_AlongError := He.glo_ok X G (c.fact 0 (f := .glo "AlongError") rfl)
  g_InvalidSigns := He.glo_ok X G (c.fact 1 (f := .glo "InvalidSigns") rfl)
  g_InvalidCount := He.glo_ok X G (c.fact 2 (f := .glo "InvalidCount") rfl)
  g_Disk := He.glo_ok X G (c.fact 7 (f := .glo "Disk") rfl)
  sys := hb
  sup_AlongError := supB_ok e1
  oS := oexB_ok e2
  oC := oexB_ok e3
  xS := xfB_ok e6
  xC := xfB_ok e7
  eS := excB_ok e8
  eC := excB_ok e9
  kS := of_decide_eq_true e10
  kC := of_decide_eq_true e11
  mSS := He.exm_ok (c.fact 49 (f := .exm "InvalidSigns" "InvalidSigns" true) rfl)
  mCS := He.exm_ok (c.fact 50 (f := .exm "InvalidCount" "InvalidSigns" false) rfl)
  mCC := He.exm_ok (c.fact 51 (f := .exm "InvalidCount" "InvalidCount" true) rfl)
  aT := He.noat_ok (c.fact 39 (f := .noat "Disk" "text") rfl)
  aY := He.noat_ok (c.fact 40 (f := .noat "Disk" "synced") rfl)
  aE := He.noat_ok (c.fact 41 (f := .noat "Disk" "settled") rfl)
  nS := He.noat_ok (c.fact 52 (f := .noat "InvalidSigns" "given") rfl)
  nC := He.noat_ok (c.fact 53 (f := .noat "InvalidCount" "given") rfl)
  cD := He.cls_ok (c.fact 37 (f := .cls "Disk") rfl)
  iD := let ⟨fd, F⟩ := c.def_ 6 (d := d_Disk_init) rfl; ⟨_, fd, F, He.mkr_ok (c.fact 38 (f := .mkr "Disk") rfl)⟩
  m_put := let ⟨fd, F⟩ := c.def_ 7 (d := d_Disk_put) rfl; ⟨_, fd, F, He.meth_ok (c.fact 42 (f := .meth "Disk" "put") rfl)⟩
  m_sync := let ⟨fd, F⟩ := c.def_ 8 (d := d_Disk_sync) rfl; ⟨_, fd, F, He.meth_ok (c.fact 43 (f := .meth "Disk" "sync") rfl)⟩
  m_trim := let ⟨fd, F⟩ := c.def_ 9 (d := d_Disk_trim) rfl; ⟨_, fd, F, He.meth_ok (c.fact 44 (f := .meth "Disk" "trim") rfl)⟩
  m_fall := let ⟨fd, F⟩ := c.def_ 10 (d := d_Disk_fall) rfl; ⟨_, fd, F, He.meth_ok (c.fact 45 (f := .meth "Disk" "fall") rfl)⟩
  m_lose := let ⟨fd, F⟩ := c.def_ 11 (d := d_Disk_lose) rfl; ⟨_, fd, F, He.meth_ok (c.fact 46 (f := .meth "Disk" "lose") rfl)⟩
  m_settle := let ⟨fd, F⟩ := c.def_ 12 (d := d_Disk_settle) rfl; ⟨_, fd, F, He.meth_ok (c.fact 47 (f := .meth "Disk" "settle") rfl)⟩
  m_swap := let ⟨fd, F⟩ := c.def_ 13 (d := d_Disk_swap) rfl; ⟨_, fd, F, He.meth_ok (c.fact 48 (f := .meth "Disk" "swap") rfl)⟩
  iS := let ⟨fd, F⟩ := c.def_ 0 (d := d_InvalidSigns_init) rfl; ⟨_, fd, F, (iniB_ok e4).1, (iniB_ok e4).2⟩
  iC := let ⟨fd, F⟩ := c.def_ 1 (d := d_InvalidCount_init) rfl; ⟨_, fd, F, (iniB_ok e5).1, (iniB_ok e5).2⟩
  }
end K05
open PySem PySem.W PySem.Calls PyProof.Rows
theorem PySem.Challenge.cw_allalong_k05_disks_holds : PySem.Challenge.rw_allalong_k05_disks.Holds := by
  w_on; o_law
  refine HandSHeadRun.head_any (r := OpenLaw.row PySem.Challenge.rw_allalong_k05_disks) (q := view (OpenLaw.row PySem.Challenge.rw_allalong_k05_disks).prog [27]) (H := K05.hk) (ob := K05.ob) (M := 4000) (loose := ["AlongError", "InvalidSigns", "InvalidCount", "is_integer", "is_count", "is_signs", "is_between", "Disk", "_law_cell", "_law_box", "_law_take", "_law_signs", "_law_odd_signs", "_law_odd_count", "_law_count", "_law_deed", "_law_is_count", "_law_is_signs", "_law_due", "_law_did", "_law_is", "_law_done", "_law_right"]) (d := HandSHeadRun.topDef (OpenLaw.row PySem.Challenge.rw_allalong_k05_disks).prog 27) (kwd := []) K05.ob_eq
    (by kernel_rfl) (fun s => by kernel_rfl) K05.run (by kernel_rfl) (by kernel_rfl) (by kernel_rfl) (by rfl) (by first | assumption | decide +kernel) (by decide +kernel) ⟨rfl, rfl, rfl, rfl, rfl, by decide +kernel⟩ ?hw ?hc
  case hw => w_witness2
  case hc =>
    refine Ty.walk_law (l := PySem.Challenge.rw_allalong_k05_disks) (n := 63) (k := 9) (x := "script") rfl (by decide) (by kernel_rfl) ⟨rfl, by decide, by decide⟩ ?F
    intro w mg fa h Y G hmg0
    obtain ⟨K, KX, c, e⟩ := Y
    have hmg : mg ("law" : PySem.Str) = some (.ref fa) := by
      have e : (HandSHeadRun.topDef (OpenLaw.row PySem.Challenge.rw_allalong_k05_disks).prog 27).name = ("law" : PySem.Str) := by kernel_rfl
      rw [← e]
      exact hmg0
    obtain ⟨fd, F⟩ := c.def_ 29 (d := K05.d_law) rfl
    have e1 := hmg.symm.trans (He.glo_ok KX G (c.fact 23 (f := .glo "law") rfl))
    cases e1
    have b := L2.FunD.bindsA (ps := ["script"]) F fun _ _ _ _ _ _ us hl => match us, hl with | [_], _ => rfl
    have e' : K05.ex K = true := e
    unfold K05.ex at e'
    exact ⟨K, fd, K05.T_law, KX, K05.sysB_ok (Bool.and_eq_true_iff.mp e').1, fun s v => b s [v] rfl, fun ns _ => ⟨ns, rfl, rfl⟩, fun base _ _ hb => K05.g_law (K05.tx KX G c e hb) F⟩

