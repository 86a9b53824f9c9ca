import PyProof.Rows.All
import Wide.All
import OpenK.AllK
import Wide.FinOn
import HandS.ForMost
import HandS.Exc
import HandS.TryOnly
import HandS.ExcOwn
import HandS.WordsExc
import HandS.Defaults
import HandS.Style
import HandS.MakeKwOnly
import HandS.IsInst
import HandS.Codes
import HandS.Text
import HandS.ExcInit
import HandS.ExcField
import HandS.ExcIs
import HandS.TryMany
import PyProof.ReprRoads
import HandS.Dict
import HandS.RaiseMore
import PyProof.StrBlock2
import KE.KExcIs
import HandS.Iter
import PyProof.ReprLen
import PyProof.Rows.StrClose
import PyProof.Rows.StrJoinRep
import PyProof.Rows.ReprOcc
import Lean
import HandS.Ends
import HandS.Head0
import HandS.Head1
import HandS.Head2
import HandS.HeadEnd
import HandS.HeadHook1
import HandS.HeadHook2
import HandS.FStr
import HandS.StrSplit
import HandS.TupAny
import HandS.More
import HandS.OwnEq
import HandS.Replace
import PySem.Challenge.RW_allalong_k01_lines_and_texts
set_option Elab.async false
set_option linter.all false
set_option maxRecDepth 100000
set_option maxHeartbeats 2000000
namespace Ty
open PySem PySem.Spec PyProof.Rows L2

/-! ### growth of the abstract heap -/
def Ex (H H' : Hp) : Prop := ∀ a o, H a = some o → H' a = some o
theorem Ex.refl (H : Hp) : Ex H H := fun _ _ h => h
theorem Ex.trans {H H1 H2 : Hp} (a : Ex H H1) (b : Ex H1 H2) : Ex H H2 := fun x o h => b x o (a x o h)
theorem Ex.new {H : Hp} {p : Addr} {o : HO} (h : H p = none) : Ex H (upd H p o) := fun a u e => by
  rw [upd_ne (ne_of_none e h)]
  exact e
theorem Ex.nil {H H' : Hp} {p : Addr} (e : Ex H H') (h : H' p = none) : H p = none := by
  cases q : H p with
  | none => rfl
  | some o => rw [e p o q] at h; cases h
theorem Ex.both {B H : Hp} {p : Addr} {o : HO} (e : Ex B H) (h : H p = none) : Ex (upd B p o) (upd H p o) := fun a u q => by
  by_cases ha : a = p
  · subst ha; rw [upd_same] at q ⊢; exact q
  · rw [upd_ne ha] at q ⊢; exact e a u q
theorem Ex.off {B H : Hp} {p : Addr} {o : HO} (e : Ex B H) (h : B p = none) : Ex B (upd H p o) := fun a u q => by
  rw [upd_ne (ne_of_none q h)]; exact e a u q
theorem Ex.seqL {K : PySem.W.Frag} {H H' : Hp} {a : Addr} {xs : List V} (e : Ex H H') (h : SqL K H a xs) : SqL K H' a xs := by
  rcases h with (h | ⟨o, h⟩) | h
  · exact .inl (.inl (e _ _ h))
  · exact .inl (.inr ⟨o, e _ _ h⟩)
  · exact .inr h
theorem Ex.seqT {K : PySem.W.Frag} {H H' : Hp} {a : Addr} {xs : List V} (e : Ex H H') (h : SqT K H a xs) : SqT K H' a xs := by
  rcases h with (h | ⟨o, h⟩) | h
  · exact .inl (.inl (e _ _ h))
  · exact .inl (.inr ⟨o, e _ _ h⟩)
  · exact .inr h

/-! ### what a value stands for -/
class Rep (α : Type) where
  rep : PySem.W.Frag → Hp → V → α → Prop
  mono : ∀ {K : PySem.W.Frag} {B B' : Hp} {v : V} {x : α}, Ex B B' → rep K B v x → rep K B' v x
structure TV where
  α : Type
  inst : Rep α
  x : α
abbrev tv {α : Type} [i : Rep α] (x : α) : TV := ⟨α, i, x⟩
def TV.rep (K : PySem.W.Frag) (B : Hp) (v : V) (t : TV) : Prop := t.inst.rep K B v t.x
theorem TV.mono {K : PySem.W.Frag} {B B' : Hp} {v : V} {t : TV} (e : Ex B B') (h : t.rep K B v) : t.rep K B' v := t.inst.mono e h
inductive Reps (K : PySem.W.Frag) (B : Hp) : List V → List TV → Prop
  | nil : Reps K B [] []
  | cons {v : V} {vs : List V} {x : TV} {xs : List TV} : x.rep K B v → Reps K B vs xs → Reps K B (v :: vs) (x :: xs)
theorem Reps.mono {K : PySem.W.Frag} {B B' : Hp} (e : Ex B B') : ∀ {vs : List V} {xs : List TV}, Reps K B vs xs → Reps K B' vs xs
  | _, _, .nil => .nil
  | _, _, .cons a b => .cons (TV.mono e a) (Reps.mono e b)
theorem Reps.length {K : PySem.W.Frag} {B : Hp} : ∀ {vs : List V} {xs : List TV}, Reps K B vs xs → vs.length = xs.length
  | _, _, .nil => rfl
  | _, _, .cons _ b => congrArg Nat.succ (Reps.length b)
theorem Reps.append {K : PySem.W.Frag} {B : Hp} : ∀ {vs ws : List V} {xs ys : List TV}, Reps K B vs xs → Reps K B ws ys → Reps K B (vs ++ ws) (xs ++ ys)
  | _, _, _, _, .nil, h => h
  | _, _, _, _, .cons a b, h => .cons a (Reps.append b h)
/-- what stands at an address that may change -/
structure MV where
  ok : PySem.W.Frag → Hp → HO → Prop
  mono : ∀ {K : PySem.W.Frag} {B B' : Hp} {o : HO}, Ex B B' → ok K B o → ok K B' o
abbrev Mu := List (Addr × MV)
abbrev TEnv := List (Option TV)
def keys (m : Mu) : List Addr := m.map (·.1)

structure Go (B H : Hp) (m : Mu) (B' H' : Hp) (m' : Mu) : Prop where
  ext : Ex B B'
  keep : ∀ a o, H a = some o → a ∉ keys m → H' a = some o
  dom : ∀ a, H a ≠ none → H' a ≠ none
  nw : ∀ a, B' a ≠ none → B a ≠ none ∨ H a = none ∨ a ∈ keys m
  ks : ∀ p, p ∈ keys m' → p ∈ keys m ∨ H p = none
theorem Go.refl {B H : Hp} {m : Mu} : Go B H m B H m := ⟨Ex.refl _, fun _ _ h _ => h, fun _ h => h, fun _ h => .inl h, fun _ h => .inl h⟩
theorem Go.trans {B H B1 H1 B2 H2 : Hp} {m m1 m2 : Mu} (a : Go B H m B1 H1 m1) (b : Go B1 H1 m1 B2 H2 m2) : Go B H m B2 H2 m2 where
  ext := a.ext.trans b.ext
  keep := fun x o h hx => b.keep x o (a.keep x o h hx) fun z => by
    rcases a.ks x z with q | q
    · exact hx q
    · rw [h] at q; cases q
  dom := fun x h => b.dom x (a.dom x h)
  nw := fun x h => by
    have back : H1 x = none → H x = none := fun z => by
      cases q : H x with
      | none => rfl
      | some o => exact absurd z (a.dom x (by rw [q]; exact fun w => nomatch w))
    rcases b.nw x h with q | q | q
    · exact a.nw x q
    · exact .inr (.inl (back q))
    · rcases a.ks x q with z | z
      · exact .inr (.inr z)
      · exact .inr (.inl z)
  ks := fun p h => by
    have back : H1 p = none → H p = none := fun z => by
      cases q : H p with
      | none => rfl
      | some o => exact absurd z (a.dom p (by rw [q]; exact fun w => nomatch w))
    rcases b.ks p h with q | q
    · exact a.ks p q
    · exact .inr (back q)
structure HpOk (K : PySem.W.Frag) (B H : Hp) (m : Mu) : Prop where
  ex : Ex B H
  nd : (keys m).Nodup
  at_ : ∀ (i : Nat) p c, m[i]? = some (p, c) → B p = none ∧ ∃ o, H p = some o ∧ c.ok K B o
structure EnvOk (K : PySem.W.Frag) (B : Hp) (σ : L2.St) (ρ : TEnv) : Prop where
  len : σ.length = ρ.length
  sl : ∀ (i : Nat) (t : TV), ρ[i]? = some (some t) → ∃ v, σ[i]? = some (some v) ∧ t.rep K B v
theorem EnvOk.mono {K : PySem.W.Frag} {B B' : Hp} {σ : L2.St} {ρ : TEnv} (h : EnvOk K B σ ρ) (e : Ex B B') : EnvOk K B' σ ρ :=
  ⟨h.len, fun i t q => let ⟨v, a, b⟩ := h.sl i t q; ⟨v, a, TV.mono e b⟩⟩
theorem EnvOk.set {K : PySem.W.Frag} {B : Hp} {σ : L2.St} {ρ : TEnv} {v : V} {t : TV} (h : EnvOk K B σ ρ) (i : Nat) (r : t.rep K B v) : EnvOk K B (σ.set i (some v)) (ρ.set i (some t)) := by
  refine ⟨by rw [List.length_set, List.length_set]; exact h.len, fun j u q => ?_⟩
  by_cases e : i = j
  · subst e
    by_cases hi : i < ρ.length
    · rw [List.getElem?_set_self hi] at q
      cases q
      exact ⟨v, List.getElem?_set_self (by rw [h.len]; exact hi), r⟩
    · rw [List.getElem?_eq_none (by rw [List.length_set]; omega)] at q
      cases q
  · rw [List.getElem?_set_ne e] at q ⊢
    exact h.sl j u q
structure Zs where
  K : PySem.W.Frag
  B0 : Hp
  H0 : Hp
  m0 : Mu
structure Sta (Z : Zs) (B H : Hp) (m : Mu) : Prop where
  hp : HpOk Z.K B H m
  go : Go Z.B0 Z.H0 Z.m0 B H m
section
variable {Z : Zs} {B H : Hp} {m : Mu} {p : Addr} {o : HO}
theorem Sta.ex (S : Sta Z B H m) : Ex B H := S.hp.ex
theorem Sta.noneB (S : Sta Z B H m) (h : H p = none) : B p = none := S.ex.nil h
theorem HpOk.mem {K : PySem.W.Frag} (S : HpOk K B H m) (h : p ∈ keys m) : B p = none ∧ H p ≠ none := by
  obtain ⟨q, hq, e⟩ := List.mem_map.mp h
  obtain ⟨i, hi⟩ := List.getElem?_of_mem hq
  obtain ⟨q1, c⟩ := q
  obtain ⟨a, o, b, _⟩ := S.at_ i q1 c hi
  have e' : q1 = p := e
  subst e'
  exact ⟨a, by rw [b]; exact fun z => nomatch z⟩
/-- a new thing that never changes -/
theorem Sta.newB (S : Sta Z B H m) (hp : H p = none) : Sta Z (upd B p o) (upd H p o) m := by
  have hb := S.noneB hp
  refine ⟨⟨S.ex.both hp, S.hp.nd, fun i q c h => ?_⟩, ⟨S.go.ext.trans (Ex.new hb), fun a u q hq => ?_, fun a q => ?_, fun a q => ?_, S.go.ks⟩⟩
  · obtain ⟨h1, u, h2, h3⟩ := S.hp.at_ i q c h
    have ne : q ≠ p := fun z => by subst z; rw [hp] at h2; cases h2
    exact ⟨by rw [upd_ne ne]; exact h1, u, by rw [upd_ne ne]; exact h2, c.mono (Ex.new hb) h3⟩
  · have := S.go.keep a u q hq
    rw [upd_ne (ne_of_none this hp)]; exact this
  · by_cases e : a = p
    · subst e; rw [upd_same]; exact fun z => nomatch z
    · rw [upd_ne e]; exact S.go.dom a q
  · by_cases e : a = p
    · subst e
      refine .inr (.inl ?_)
      cases q' : Z.H0 a with
      | none => rfl
      | some u => exact absurd hp (S.go.dom a (by rw [q']; exact fun z => nomatch z))
    · rw [upd_ne e] at q; exact S.go.nw a q
/-- a new thing that may change -/
theorem Sta.newM (S : Sta Z B H m) (hp : H p = none) {c : MV} (hc : c.ok Z.K B o) : Sta Z B (upd H p o) (m ++ [(p, c)]) := by
  have hb := S.noneB hp
  have nk : p ∉ keys m := fun z => (S.hp.mem z).2 hp
  have H0 : Z.H0 p = none := by
    cases q' : Z.H0 p with
    | none => rfl
    | some u => exact absurd hp (S.go.dom p (by rw [q']; exact fun z => nomatch z))
  refine ⟨⟨S.ex.off hb, ?_, fun i q d h => ?_⟩, ⟨S.go.ext, fun a u q hq => ?_, fun a q => ?_, S.go.nw, fun q h => ?_⟩⟩
  · unfold keys
    rw [List.map_append]
    refine List.nodup_append.mpr ⟨S.hp.nd, by simp, fun a ha b hb => ?_⟩
    simp at hb
    subst hb
    rintro rfl
    exact nk ha
  · by_cases hi : i < m.length
    · rw [List.getElem?_append_left hi] at h
      obtain ⟨h1, u, h2, h3⟩ := S.hp.at_ i q d h
      exact ⟨h1, u, by rw [upd_ne (ne_of_none h2 hp)]; exact h2, h3⟩
    · rw [List.getElem?_append_right (by omega)] at h
      have e : i - m.length = 0 := by
        by_cases z : i - m.length = 0
        · exact z
        · rw [List.getElem?_eq_none (by simp; omega)] at h; cases h
      rw [e] at h
      simp at h
      obtain ⟨rfl, rfl⟩ := h
      exact ⟨hb, o, upd_same, hc⟩
  · have := S.go.keep a u q hq
    rw [upd_ne (ne_of_none this hp)]; exact this
  · by_cases e : a = p
    · subst e; rw [upd_same]; exact fun z => nomatch z
    · rw [upd_ne e]; exact S.go.dom a q
  · unfold keys at h
    rw [List.map_append] at h
    rcases List.mem_append.mp h with h | h
    · exact S.go.ks q h
    · simp at h; subst h; exact .inr H0
theorem keys_set {m : Mu} {i : Nat} {p : Addr} {c d : MV} (h : m[i]? = some (p, c)) : keys (m.set i (p, d)) = keys m := by
  unfold keys
  rw [List.map_set]
  refine List.ext_getElem? fun j => ?_
  by_cases e : i = j
  · subst e
    have hi : i < m.length := (List.getElem?_eq_some_iff.mp h).1
    rw [List.getElem?_set_self (by simpa using hi), List.getElem?_map, h]
    rfl
  · rw [List.getElem?_set_ne e]
theorem keys_inj {m : Mu} (nd : (keys m).Nodup) {i j : Nat} {p : Addr} {c d : MV} (h : m[i]? = some (p, c)) (h' : m[j]? = some (p, d)) : i = j := by
  have e1 : (keys m)[i]? = some p := by unfold keys; rw [List.getElem?_map, h]; rfl
  have e2 : (keys m)[j]? = some p := by unfold keys; rw [List.getElem?_map, h']; rfl
  exact nd_ix nd e1 e2
/-- what may change changes -/
theorem Sta.write (S : Sta Z B H m) {i : Nat} {c d : MV} (h : m[i]? = some (p, c)) (hd : d.ok Z.K B o) : Sta Z B (upd H p o) (m.set i (p, d)) := by
  obtain ⟨hb, u, hu, _⟩ := S.hp.at_ i p c h
  have pk : p ∈ keys m := List.mem_map.mpr ⟨(p, c), List.mem_of_getElem? h, rfl⟩
  refine ⟨⟨S.ex.off hb, by rw [keys_set h]; exact S.hp.nd, fun j q e hj => ?_⟩, ⟨S.go.ext, fun a w q hq => ?_, fun a q => ?_, S.go.nw, fun q hq => ?_⟩⟩
  · by_cases z : i = j
    · subst z
      have hi : i < m.length := (List.getElem?_eq_some_iff.mp h).1
      rw [List.getElem?_set_self hi] at hj
      cases hj
      exact ⟨hb, o, upd_same, hd⟩
    · rw [List.getElem?_set_ne z] at hj
      obtain ⟨h1, w, h2, h3⟩ := S.hp.at_ j q e hj
      have ne : q ≠ p := fun y => by subst y; exact z (keys_inj S.hp.nd h hj)
      exact ⟨h1, w, by rw [upd_ne ne]; exact h2, h3⟩
  · have k := S.go.keep a w q hq
    have ne : a ≠ p := fun y => by
      subst y
      rcases S.go.ks a pk with z | z
      · exact hq z
      · rw [q] at z; cases z
    rw [upd_ne ne]; exact k
  · by_cases e : a = p
    · subst e; rw [upd_same]; exact fun z => nomatch z
    · rw [upd_ne e]; exact S.go.dom a q
  · rw [keys_set h] at hq; exact S.go.ks q hq
/-- what may change is kept for good: it becomes data -/
theorem Sta.freeze (S : Sta Z B H m) {i : Nat} {c : MV} (h : m[i]? = some (p, c)) (ho : H p = some o) : Sta Z (upd B p o) H (m.eraseIdx i) := by
  obtain ⟨hb, _⟩ := S.hp.at_ i p c h
  have pk : p ∈ keys m := List.mem_map.mpr ⟨(p, c), List.mem_of_getElem? h, rfl⟩
  have sub : ∀ q, q ∈ keys (m.eraseIdx i) → q ∈ keys m := fun q hq => by
    obtain ⟨x, hx, e⟩ := List.mem_map.mp hq
    exact List.mem_map.mpr ⟨x, List.mem_of_mem_eraseIdx hx, e⟩
  refine ⟨⟨fun a u q => ?_, ?_, fun j q e hj => ?_⟩, ⟨S.go.ext.trans (Ex.new hb), S.go.keep, S.go.dom, fun a q => ?_, fun q hq => S.go.ks q (sub q hq)⟩⟩
  · by_cases z : a = p
    · subst z; rw [upd_same] at q; cases q; exact ho
    · rw [upd_ne z] at q; exact S.ex a u q
  · unfold keys
    exact S.hp.nd.sublist (List.Sublist.map _ (List.eraseIdx_sublist _ _))
  · have hj' : ∃ k, k ≠ i ∧ m[k]? = some (q, e) := by
      by_cases z : j < i
      · rw [List.getElem?_eraseIdx_of_lt z] at hj
        exact ⟨j, by omega, hj⟩
      · rw [List.getElem?_eraseIdx_of_ge (by omega)] at hj
        exact ⟨j + 1, by omega, hj⟩
    obtain ⟨k, hk, hq⟩ := hj'
    obtain ⟨h1, w, h2, h3⟩ := S.hp.at_ k q e hq
    have ne : q ≠ p := fun y => by subst y; exact hk (keys_inj S.hp.nd hq h)
    exact ⟨by rw [upd_ne ne]; exact h1, w, h2, e.mono (Ex.new hb) h3⟩
  · by_cases e : a = p
    · subst e
      rcases S.go.ks a pk with z | z
      · exact .inr (.inr z)
      · exact .inr (.inl z)
    · rw [upd_ne e] at q; exact S.go.nw a q
end

/-! ### the judgements, over readings -/
def Wp (Z : Zs) (t : TE) (ρ : TEnv) (m : Mu) (P : TV → Mu → Prop) : Prop :=
  ∀ (σ : L2.St) (B H : Hp) (Q : VK), EnvOk Z.K B σ ρ → Sta Z B H m →
    (∀ v B' H' m' x, Ex B B' → Sta Z B' H' m' → TV.rep Z.K B' v x → P x m' → Q v H') → t σ H Q
def WpT (Z : Zs) (t : TT) (ρ : TEnv) (m : Mu) (P : Bool → Mu → Prop) : Prop :=
  ∀ (σ : L2.St) (B H : Hp) (Q : Bool → Hp → Prop), EnvOk Z.K B σ ρ → Sta Z B H m →
    (∀ b B' H' m', Ex B B' → Sta Z B' H' m' → P b m' → Q b H') → t σ H Q
def WpA (Z : Zs) (t : TA) (ρ : TEnv) (m : Mu) (P : List TV → Mu → Prop) : Prop :=
  ∀ (σ : L2.St) (B H : Hp) (Q : List V → Hp → Prop), EnvOk Z.K B σ ρ → Sta Z B H m →
    (∀ vs B' H' m' xs, Ex B B' → Sta Z B' H' m' → Reps Z.K B' vs xs → P xs m' → Q vs H') → t σ H Q
structure DE where
  nx : TEnv → Mu → Prop
  rt : TV → Mu → Prop
  bk : TEnv → Mu → Prop := fun _ _ => False
  ct : TEnv → Mu → Prop := fun _ _ => False
structure EOk (Z : Zs) (B : Hp) (D : DE) (E : Ends) : Prop where
  nx : ∀ σ' B' H' ρ' m', Ex B B' → EnvOk Z.K B' σ' ρ' → Sta Z B' H' m' → D.nx ρ' m' → E.nx σ' H'
  rt : ∀ v B' H' m' x, Ex B B' → Sta Z B' H' m' → TV.rep Z.K B' v x → D.rt x m' → E.rt v H'
  bk : ∀ σ' B' H' ρ' m', Ex B B' → EnvOk Z.K B' σ' ρ' → Sta Z B' H' m' → D.bk ρ' m' → E.bk σ' H'
  ct : ∀ σ' B' H' ρ' m', Ex B B' → EnvOk Z.K B' σ' ρ' → Sta Z B' H' m' → D.ct ρ' m' → E.ct σ' H'
theorem EOk.mono {Z : Zs} {B B1 : Hp} {D : DE} {E : Ends} (h : EOk Z B D E) (e : Ex B B1) : EOk Z B1 D E :=
  ⟨fun s B' H' r m' a => h.nx s B' H' r m' (e.trans a), fun v B' H' m' x a => h.rt v B' H' m' x (e.trans a), fun s B' H' r m' a => h.bk s B' H' r m' (e.trans a), fun s B' H' r m' a => h.ct s B' H' r m' (e.trans a)⟩
def WpS (Z : Zs) (t : TS) (ρ : TEnv) (m : Mu) (D : DE) : Prop :=
  ∀ (σ : L2.St) (B H : Hp) (E : Ends), EnvOk Z.K B σ ρ → Sta Z B H m → EOk Z B D E → t E σ H
theorem Wp.imp {Z : Zs} {t : TE} {ρ : TEnv} {m : Mu} {P P' : TV → Mu → Prop} (h : Wp Z t ρ m P) (k : ∀ x m', P x m' → P' x m') : Wp Z t ρ m P' :=
  fun σ B H Q e s q => h σ B H Q e s fun v B' H' m' x a b c d => q v B' H' m' x a b c (k _ _ d)
theorem WpT.imp {Z : Zs} {t : TT} {ρ : TEnv} {m : Mu} {P P' : Bool → Mu → Prop} (h : WpT Z t ρ m P) (k : ∀ x m', P x m' → P' x m') : WpT Z t ρ m P' :=
  fun σ B H Q e s q => h σ B H Q e s fun b B' H' m' a c d => q b B' H' m' a c (k _ _ d)
theorem WpS.imp {Z : Zs} {t : TS} {ρ : TEnv} {m : Mu} {D D' : DE} (h : WpS Z t ρ m D) (k1 : ∀ r m', D.nx r m' → D'.nx r m') (k2 : ∀ x m', D.rt x m' → D'.rt x m')
    (k3 : ∀ r m', D.bk r m' → D'.bk r m') (k4 : ∀ r m', D.ct r m' → D'.ct r m') : WpS Z t ρ m D' :=
  fun σ B H E e s q => h σ B H E e s ⟨fun a b c d f g i j l => q.nx a b c d f g i j (k1 _ _ l), fun a b c d f g i j l => q.rt a b c d f g i j (k2 _ _ l), fun a b c d f g i j l => q.bk a b c d f g i j (k3 _ _ l), fun a b c d f g i j l => q.ct a b c d f g i j (k4 _ _ l)⟩

/-! ### over the syntax -/
def teS (X : Cx) (e : Expr) : TE := fun σ H Q => ∀ (pins : List (Addr × Obj)) (s : Shared), Inv X pins σ H s → wpAny (model X.prog X.w) X.A (eval e X.env) (EP X pins σ Q) X.xe s
def ttS (X : Cx) (e : Expr) : TT := fun σ H Q => ∀ (pins : List (Addr × Obj)) (s : Shared), Inv X pins σ H s → wpAny (model X.prog X.w) X.A (isTrue e X.env (eval e X.env)) (TP X pins σ Q) X.xe s
def twS (X : Cx) (e : Expr) : TT := fun σ H Q => ∀ (whole : Sem Value) (pins : List (Addr × Obj)) (s : Shared), Inv X pins σ H s → wpAny (model X.prog X.w) X.A (isTrue e X.env whole) (TP X pins σ Q) X.xe s
def taS (X : Cx) (es : List Expr) : TA := fun σ H Q => ∀ (pos : Pos) (pins : List (Addr × Obj)) (s : Shared), Inv X pins σ H s → wpAny (model X.prog X.w) X.A (spliced (backTo pos (starEach es X.env))) (AP X pins σ Q) X.xe s
def tsS (X : Cx) (st : Stmt) : TS := fun D σ H => ∀ (pins : List (Addr × Obj)) (s : Shared), Inv X pins σ H s → wpAny (model X.prog X.w) X.A (exec st X.env) (SP X pins D) X.xe s
def tssS (X : Cx) (st : List Stmt) : TS := fun D σ H => ∀ (pins : List (Addr × Obj)) (s : Shared), Inv X pins σ H s → wpAny (model X.prog X.w) X.A (execs st X.env) (SP X pins D) X.xe s
section
variable {X : Cx}
theorem pe_sem {e : Expr} : PE X e (teS X e) := ⟨fun pins s _ _ _ I h => h pins s I⟩
theorem pt_sem {e : Expr} : PT X e (ttS X e) := ⟨fun pins s _ _ _ I h => h pins s I⟩
theorem pw_sem {e : Expr} : PW X e (twS X e) := ⟨fun w pins s _ _ _ I h => h w pins s I⟩
theorem pa_sem {es : List Expr} : PA X es (taS X es) := ⟨fun pos pins s _ _ _ I h => h pos pins s I⟩
theorem ps_sem {st : Stmt} : PS X st (tsS X st) := ⟨fun pins s _ _ _ I h => h pins s I⟩
theorem pss_sem {st : List Stmt} : PSs X st (tssS X st) := ⟨fun pins s _ _ _ I h => h pins s I⟩
/-- expressions, tests, arguments, statements: the judgements -/
abbrev We (X : Cx) (Z : Zs) (e : Expr) (ρ : TEnv) (m : Mu) (P : TV → Mu → Prop) : Prop := Wp Z (teS X e) ρ m P
abbrev Wt (X : Cx) (Z : Zs) (e : Expr) (ρ : TEnv) (m : Mu) (P : Bool → Mu → Prop) : Prop := WpT Z (ttS X e) ρ m P
abbrev Ww (X : Cx) (Z : Zs) (e : Expr) (ρ : TEnv) (m : Mu) (P : Bool → Mu → Prop) : Prop := WpT Z (twS X e) ρ m P
abbrev Wa (X : Cx) (Z : Zs) (es : List Expr) (ρ : TEnv) (m : Mu) (P : List TV → Mu → Prop) : Prop := WpA Z (taS X es) ρ m P
abbrev Ws (X : Cx) (Z : Zs) (st : Stmt) (ρ : TEnv) (m : Mu) (D : DE) : Prop := WpS Z (tsS X st) ρ m D
abbrev Wss (X : Cx) (Z : Zs) (st : List Stmt) (ρ : TEnv) (m : Mu) (D : DE) : Prop := WpS Z (tssS X st) ρ m D
theorem We.of {Z : Zs} {e : Expr} {ρ : TEnv} {m : Mu} {P : TV → Mu → Prop} {t : TE} (h : PE X e t) (w : Wp Z t ρ m P) : We X Z e ρ m P :=
  fun σ B H Q a b c pins s I => h.run pins s σ H Q I (w σ B H Q a b c)
theorem Wt.of {Z : Zs} {e : Expr} {ρ : TEnv} {m : Mu} {P : Bool → Mu → Prop} {t : TT} (h : PT X e t) (w : WpT Z t ρ m P) : Wt X Z e ρ m P :=
  fun σ B H Q a b c pins s I => h.run pins s σ H Q I (w σ B H Q a b c)
theorem Ww.of {Z : Zs} {e : Expr} {ρ : TEnv} {m : Mu} {P : Bool → Mu → Prop} {t : TT} (h : PW X e t) (w : WpT Z t ρ m P) : Ww X Z e ρ m P :=
  fun σ B H Q a b c wh pins s I => h.run wh pins s σ H Q I (w σ B H Q a b c)
theorem Wa.of {Z : Zs} {es : List Expr} {ρ : TEnv} {m : Mu} {P : List TV → Mu → Prop} {t : TA} (h : PA X es t) (w : WpA Z t ρ m P) : Wa X Z es ρ m P :=
  fun σ B H Q a b c pos pins s I => h.run pos pins s σ H Q I (w σ B H Q a b c)
theorem Ws.of {Z : Zs} {st : Stmt} {ρ : TEnv} {m : Mu} {D : DE} {t : TS} (h : PS X st t) (w : WpS Z t ρ m D) : Ws X Z st ρ m D :=
  fun σ B H E a b c pins s I => h.run pins s σ H E I (w σ B H E a b c)
theorem Wss.of {Z : Zs} {st : List Stmt} {ρ : TEnv} {m : Mu} {D : DE} {t : TS} (h : PSs X st t) (w : WpS Z t ρ m D) : Wss X Z st ρ m D :=
  fun σ B H E a b c pins s I => h.run pins s σ H E I (w σ B H E a b c)
end
end Ty

set_option Elab.async false
set_option linter.all false
set_option maxRecDepth 100000
set_option maxHeartbeats 2000000
namespace Ty
open PySem PySem.Spec PyProof.Rows L2

/-! ### values -/
instance : Rep Unit := ⟨fun _ _ v _ => v = .non, fun _ h => h⟩
instance : Rep Int := ⟨fun _ _ v i => v = .int i, fun _ h => h⟩
instance : Rep Bool := ⟨fun _ _ v b => v = .bl b, fun _ h => h⟩
instance : Rep Str := ⟨fun _ _ v x => v = .str x, fun _ h => h⟩
/-- an object, by its address -/
structure Ref where
  a : Addr
instance : Rep Ref := ⟨fun _ _ v r => v = .ref r.a, fun _ h => h⟩
/-- a value as it is -/
structure Raw where
  v : V
instance : Rep Raw := ⟨fun _ _ v r => v = r.v, fun _ h => h⟩
theorem Paired.monoR {α : Type} [Rep α] {K : PySem.W.Frag} {B B' : Hp} (e : Ex B B') : ∀ {vs : List V} {xs : List α}, Paired (Rep.rep K B) vs xs → Paired (Rep.rep K B') vs xs
  | _, _, .nil => .nil
  | _, _, .cons a b => .cons (Rep.mono e a) (Paired.monoR e b)
instance {α : Type} [Rep α] : Rep (List α) := ⟨fun K B v xs => ∃ a vs, v = .ref a ∧ B a = some (.lst vs) ∧ Paired (Rep.rep K B) vs xs, fun e ⟨a, vs, h1, h2, h3⟩ => ⟨a, vs, h1, e _ _ h2, Paired.monoR e h3⟩⟩
/-- a tuple of things of one kind -/
structure Tup (α : Type) where
  l : List α
instance {α : Type} [Rep α] : Rep (Tup α) := ⟨fun K B v xs => ∃ a vs, v = .ref a ∧ SqT K B a vs ∧ Paired (Rep.rep K B) vs xs.l, fun e ⟨a, vs, h1, h2, h3⟩ => ⟨a, vs, h1, e.seqT h2, Paired.monoR e h3⟩⟩
instance {α β : Type} [Rep α] [Rep β] : Rep (α × β) := ⟨fun K B v p => ∃ a x y, v = .ref a ∧ SqT K B a [x, y] ∧ Rep.rep K B x p.1 ∧ Rep.rep K B y p.2, fun e ⟨a, x, y, h1, h2, h3, h4⟩ => ⟨a, x, y, h1, e.seqT h2, Rep.mono e h3, Rep.mono e h4⟩⟩
structure P3 (α β γ : Type) where
  a : α
  b : β
  c : γ
instance {α β γ : Type} [Rep α] [Rep β] [Rep γ] : Rep (P3 α β γ) := ⟨fun K B v p => ∃ a x y z, v = .ref a ∧ SqT K B a [x, y, z] ∧ Rep.rep K B x p.a ∧ Rep.rep K B y p.b ∧ Rep.rep K B z p.c,
  fun e ⟨a, x, y, z, h1, h2, h3, h4, h5⟩ => ⟨a, x, y, z, h1, e.seqT h2, Rep.mono e h3, Rep.mono e h4, Rep.mono e h5⟩⟩
structure P4 (α β γ δ : Type) where
  a : α
  b : β
  c : γ
  d : δ
instance {α β γ δ : Type} [Rep α] [Rep β] [Rep γ] [Rep δ] : Rep (P4 α β γ δ) := ⟨fun K B v p => ∃ a x y z w, v = .ref a ∧ SqT K B a [x, y, z, w] ∧ Rep.rep K B x p.a ∧ Rep.rep K B y p.b ∧ Rep.rep K B z p.c ∧ Rep.rep K B w p.d,
  fun e ⟨a, x, y, z, w, h1, h2, h3, h4, h5, h6⟩ => ⟨a, x, y, z, w, h1, e.seqT h2, Rep.mono e h3, Rep.mono e h4, Rep.mono e h5, Rep.mono e h6⟩⟩
/-- None or a thing -/
instance {α : Type} [Rep α] : Rep (Option α) := ⟨fun K B v o => match o with
  | none => v = .non
  | some x => Rep.rep K B v x, fun {K B B' v o} e h => by
    cases o with
    | none => exact h
    | some x => exact Rep.mono e h⟩
/-- one of two kinds -/
instance {α β : Type} [Rep α] [Rep β] : Rep (α ⊕ β) := ⟨fun K B v o => match o with
  | .inl x => Rep.rep K B v x
  | .inr y => Rep.rep K B v y, fun {K B B' v o} e h => by
    cases o with
    | inl x => exact Rep.mono e h
    | inr x => exact Rep.mono e h⟩
theorem rep_ints {K : PySem.W.Frag} {B : Hp} : ∀ {vs : List V} {xs : List Int}, Paired (Rep.rep K B) vs xs → vs = xs.map V.int
  | _, _, .nil => rfl
  | _, _, .cons a b => by rw [List.map_cons, ← rep_ints b]; exact congrArg (· :: _) a
theorem rep_strs {K : PySem.W.Frag} {B : Hp} : ∀ {vs : List V} {xs : List Str}, Paired (Rep.rep K B) vs xs → vs = xs.map V.str
  | _, _, .nil => rfl
  | _, _, .cons a b => by rw [List.map_cons, ← rep_strs b]; exact congrArg (· :: _) a
theorem rep_bls {K : PySem.W.Frag} {B : Hp} : ∀ {vs : List V} {xs : List Bool}, Paired (Rep.rep K B) vs xs → vs = xs.map V.bl
  | _, _, .nil => rfl
  | _, _, .cons a b => by rw [List.map_cons, ← rep_bls b]; exact congrArg (· :: _) a
theorem of_ints {K : PySem.W.Frag} {B : Hp} : ∀ {xs : List Int}, Paired (Rep.rep K B) (xs.map V.int) xs
  | [] => .nil
  | _ :: _ => .cons rfl of_ints
theorem of_strs {K : PySem.W.Frag} {B : Hp} : ∀ {xs : List Str}, Paired (Rep.rep K B) (xs.map V.str) xs
  | [] => .nil
  | _ :: _ => .cons rfl of_strs
theorem of_bls {K : PySem.W.Frag} {B : Hp} : ∀ {xs : List Bool}, Paired (Rep.rep K B) (xs.map V.bl) xs
  | [] => .nil
  | _ :: _ => .cons rfl of_bls
theorem Paired.at' {α β : Type} {F : α → β → Prop} : ∀ {l₁ : List α} {l₂ : List β} {i : Nat} {y : β}, Paired F l₁ l₂ → l₂[i]? = some y → ∃ x, l₁[i]? = some x ∧ F x y
  | _, _, _, _, .nil, e => by simp at e
  | _, _, 0, _, .cons r _, e => by simp at e; subst e; exact ⟨_, rfl, r⟩
  | _, _, i + 1, y, .cons _ t, e => by
    obtain ⟨u, h1, h2⟩ := Paired.at' (i := i) t (by simpa using e)
    exact ⟨u, by simpa using h1, h2⟩
theorem Reps.at' {K : PySem.W.Frag} {B : Hp} : ∀ {vs : List V} {xs : List TV} {i : Nat} {y : TV}, Reps K B vs xs → xs[i]? = some y → ∃ x, vs[i]? = some x ∧ y.rep K B x
  | _, _, _, _, .nil, e => by simp at e
  | _, _, 0, _, .cons r _, e => by simp at e; subst e; exact ⟨_, rfl, r⟩
  | _, _, i + 1, y, .cons _ t, e => by
    obtain ⟨u, h1, h2⟩ := Reps.at' (i := i) t (by simpa using e)
    exact ⟨u, by simpa using h1, h2⟩
theorem Reps.set {K : PySem.W.Frag} {B : Hp} {v : V} {x : TV} (r : x.rep K B v) : ∀ {vs : List V} {xs : List TV} (i : Nat), Reps K B vs xs → Reps K B (vs.set i v) (xs.set i x)
  | _, _, _, .nil => .nil
  | _, _, 0, .cons _ t => .cons r t
  | _, _, i + 1, .cons q t => .cons q (Reps.set r i t)
theorem Reps.of_paired {α : Type} [Rep α] {K : PySem.W.Frag} {B : Hp} : ∀ {vs : List V} {xs : List α}, Paired (Rep.rep K B) vs xs → Reps K B vs (xs.map fun x => tv x)
  | _, _, .nil => .nil
  | _, _, .cons a b => .cons a (Reps.of_paired b)
theorem Reps.to_paired {α : Type} [Rep α] {K : PySem.W.Frag} {B : Hp} : ∀ {vs : List V} {xs : List α}, Reps K B vs (xs.map fun x => tv x) → Paired (Rep.rep K B) vs xs
  | [], [], _ => .nil
  | _ :: _, _ :: _, .cons a b => .cons a (Reps.to_paired b)
theorem Paired.len {α β : Type} {F : α → β → Prop} {l₁ : List α} {l₂ : List β} (h : Paired F l₁ l₂) : l₁.length = l₂.length := Paired.length h

/-! ### what may change: a list, an instance -/
def mL (ts : List TV) : MV := ⟨fun K B o => ∃ vs, o = .lst vs ∧ Reps K B vs ts, fun e ⟨vs, h1, h2⟩ => ⟨vs, h1, h2.mono e⟩⟩
inductive FRep (K : PySem.W.Frag) (B : Hp) : List (Str × V) → List (Str × TV) → Prop
  | nil : FRep K B [] []
  | cons {f : Str} {v : V} {t : TV} {vs : List (Str × V)} {ts : List (Str × TV)} : t.rep K B v → FRep K B vs ts → FRep K B ((f, v) :: vs) ((f, t) :: ts)
theorem FRep.mono {K : PySem.W.Frag} {B B' : Hp} (e : Ex B B') : ∀ {vs : List (Str × V)} {ts : List (Str × TV)}, FRep K B vs ts → FRep K B' vs ts
  | _, _, .nil => .nil
  | _, _, .cons a b => .cons (TV.mono e a) (FRep.mono e b)
theorem FRep.look {K : PySem.W.Frag} {B : Hp} {f : Str} {t : TV} : ∀ {vs : List (Str × V)} {ts : List (Str × TV)}, FRep K B vs ts → ts.lookup f = some t → ∃ v, vs.lookup f = some v ∧ t.rep K B v
  | _, _, .nil, h => by cases h
  | _, _, .cons (f := g) a b, h => by
    unfold List.lookup at h ⊢
    split at h
    · rename_i e
      cases h
      exact ⟨_, rfl, a⟩
    · rename_i e
      exact FRep.look b h
def putT (f : Str) (t : TV) : List (Str × TV) → List (Str × TV)
  | [] => [(f, t)]
  | (g, x) :: r => if g = f then (g, t) :: r else (g, x) :: putT f t r
theorem FRep.put {K : PySem.W.Frag} {B : Hp} {f : Str} {t : TV} {v : V} (r : t.rep K B v) : ∀ {vs : List (Str × V)} {ts : List (Str × TV)}, FRep K B vs ts → FRep K B (putF f v vs) (putT f t ts)
  | _, _, .nil => .cons r .nil
  | _, _, .cons (f := g) a b => by
    unfold putF putT
    by_cases e : g = f
    · rw [if_pos e, if_pos e]; exact .cons r b
    · rw [if_neg e, if_neg e]; exact .cons a (FRep.put r b)
theorem FRep.length {K : PySem.W.Frag} {B : Hp} : ∀ {vs : List (Str × V)} {ts : List (Str × TV)}, FRep K B vs ts → vs.length = ts.length
  | _, _, .nil => rfl
  | _, _, .cons _ b => congrArg Nat.succ (FRep.length b)
def mI (C : Addr) (fs : List (Str × TV)) : MV := ⟨fun K B o => ∃ dx vs, o = .ins C dx vs ∧ FRep K B vs fs, fun e ⟨dx, vs, h1, h2⟩ => ⟨dx, vs, h1, h2.mono e⟩⟩

/-! ### expressions -/
section
variable {X : Cx} {Z : Zs} {ρ : TEnv} {m : Mu} {P : TV → Mu → Prop}
theorem we_sub {e : Expr} {R : TV → Mu → Prop} (h : We X Z e ρ m R) {σ : L2.St} {B H : Hp} {Q : VK} (he : EnvOk Z.K B σ ρ) (hs : Sta Z B H m)
    (k : ∀ v B' H' m' x, Ex B B' → EnvOk Z.K B' σ ρ → Sta Z B' H' m' → TV.rep Z.K B' v x → R x m' → Q v H') : teS X e σ H Q :=
  h σ B H Q he hs fun v B' H' m' x a b c d => k v B' H' m' x a (he.mono a) b c d
theorem we_name (i : Nat) {x : Str} {pos : Pos} {t : TV} (h : P t m) (hρ : ρ[i]? = some (some t) := by rfl) (hN : X.N[i]? = some x := by rfl) (hv : Vis X.env.scope x := by first | exact Or.inl rfl | exact Or.inr (Or.inl rfl) | exact Or.inr (Or.inr rfl))
    (hd : (x == ("__debug__" : Str)) = false := by decide) (hcd : (x == ("__classdict__" : Str)) = false := by decide) : We X Z (.Name x pos) ρ m P :=
  .of (pv i hN hv hd hcd) fun σ B H Q he hs k => let ⟨v, a, b⟩ := he.sl i t hρ; ⟨v, a, k v B H m t (Ex.refl _) hs b h⟩
theorem we_int {i : Int} {j : Nat} {pos : Pos} (h : P (tv i) m) : We X Z (.Constant (.int i) j pos) ρ m P := .of pe_int fun σ B H Q he hs k => k _ B H m (tv i) (Ex.refl _) hs (show V.int i = .int i from rfl) h
theorem we_bool {i : Bool} {j : Nat} {pos : Pos} (h : P (tv i) m) : We X Z (.Constant (.bool i) j pos) ρ m P := .of pe_bl fun σ B H Q he hs k => k _ B H m (tv i) (Ex.refl _) hs (show V.bl i = .bl i from rfl) h
theorem we_str {i : Str} {j : Nat} {pos : Pos} (h : P (tv i) m) : We X Z (.Constant (.str i) j pos) ρ m P := .of pe_str fun σ B H Q he hs k => k _ B H m (tv i) (Ex.refl _) hs (show V.str i = .str i from rfl) h
theorem we_none {j : Nat} {pos : Pos} (h : P (tv ()) m) : We X Z (.Constant .none j pos) ρ m P := .of pe_non fun σ B H Q he hs k => k _ B H m (tv ()) (Ex.refl _) hs (show V.non = .non from rfl) h
/-- a module's constant -/
theorem we_globI {x : Str} {pos : Pos} {i : Int} (hm : ∃ t, X.mg x = some (.int i t)) (h : P (tv i) m) (hg : Gl X x := by rfl) (hd : (x == ("__debug__" : Str)) = false := by decide) : We X Z (.Name x pos) ρ m P := by
  obtain ⟨t, hm⟩ := hm
  exact .of (pe_glob hg hm (v := .int i) ⟨t, rfl⟩ hd) fun σ B H Q he hs k => k _ B H m (tv i) (Ex.refl _) hs (show V.int i = .int i from rfl) h
theorem we_globS {x : Str} {pos : Pos} {i : Str} (hm : ∃ t, X.mg x = some (.str i t)) (h : P (tv i) m) (hg : Gl X x := by rfl) (hd : (x == ("__debug__" : Str)) = false := by decide) : We X Z (.Name x pos) ρ m P := by
  obtain ⟨t, hm⟩ := hm
  exact .of (pe_glob hg hm (v := .str i) ⟨t, rfl⟩ hd) fun σ B H Q he hs k => k _ B H m (tv i) (Ex.refl _) hs (show V.str i = .str i from rfl) h
theorem we_globR {x : Str} {pos : Pos} {a : Addr} (hm : X.mg x = some (.ref a)) (h : P (tv (Ref.mk a)) m) (hg : Gl X x := by rfl) (hd : (x == ("__debug__" : Str)) = false := by decide) : We X Z (.Name x pos) ρ m P :=
  .of (pe_glob hg hm (v := .ref a) rfl hd) fun σ B H Q he hs k => k _ B H m (tv (Ref.mk a)) (Ex.refl _) hs (show V.ref a = .ref a from rfl) h
/-- a built-in type as a value -/
structure Typ where
  n : String
instance : Rep Typ := ⟨fun _ _ v t => v = .ty t.n, fun _ h => h⟩
theorem we_type {x : Str} {pos : Pos} {T : String} (hm : X.mg x = none) (h : P (tv (Typ.mk T)) m) (hv : bootBuiltins x = some (.type T) := by decide +kernel) (hg : Gl X x := by rfl) (hn : x ≠ "__name__" := by decide) (hd : (x == ("__debug__" : Str)) = false := by decide) : We X Z (.Name x pos) ρ m P :=
  .of (pe_bltn hg hm hv (v := .ty T) rfl hn hd) fun σ B H Q he hs k => k _ B H m (tv (Typ.mk T)) (Ex.refl _) hs (show V.ty T = .ty T from rfl) h

/-! operations on values -/
def rSem (X : Cx) (f : Value → Value → Sem Value) : R2 := fun v u H Q => ∀ (pins : List (Addr × Obj)) (s : Shared) (σ : L2.St) (vv uu : Value), Inv X pins σ H s → RelV v vv → RelV u uu → wpAny (model X.prog X.w) X.A (f vv uu) (EP X pins σ Q) X.xe s
theorem op_sem {f : Value → Value → Sem Value} : OpR X f (rSem X f) := fun pins s σ _ _ _ v u _ I rx ry h => h pins s σ v u I rx ry
def R2P (Z : Zs) (r : R2) (x y : TV) (m : Mu) (P : TV → Mu → Prop) : Prop :=
  ∀ (B H : Hp) (Q : VK) (v u : V), Sta Z B H m → x.rep Z.K B v → y.rep Z.K B u → (∀ v' B' H' m' z, Ex B B' → Sta Z B' H' m' → TV.rep Z.K B' v' z → P z m' → Q v' H') → r v u H Q
def OpP (X : Cx) (Z : Zs) (f : Value → Value → Sem Value) (x y : TV) (m : Mu) (P : TV → Mu → Prop) : Prop := R2P Z (rSem X f) x y m P
theorem OpP.of {f : Value → Value → Sem Value} {x y : TV} {r : R2} (ho : OpR X f r) (h : R2P Z r x y m P) : OpP X Z f x y m P :=
  fun B H Q v u hs hv hu k pins s σ vv uu I rv ru => ho pins s σ H v u vv uu Q I rv ru (h B H Q v u hs hv hu k)
theorem wp_op {ta tb : TE} {r : R2} (h : Wp Z ta ρ m fun x m1 => Wp Z tb ρ m1 fun y m2 => R2P Z r x y m2 P) : Wp Z (tOp r ta tb) ρ m P := fun σ B H Q he hs k =>
  h σ B H _ he hs fun v B1 H1 m1 x e1 s1 r1 w1 => w1 σ B1 H1 _ (he.mono e1) s1 fun u B2 H2 m2 y e2 s2 r2 p2 =>
    p2 B2 H2 Q v u s2 (TV.mono e2 r1) r2 fun v' B' H' m' z e3 s3 r3 p3 => k v' B' H' m' z ((e1.trans e2).trans e3) s3 r3 p3
theorem we_bin {a b : Expr} {op : Operator} {pos : Pos} (h : We X Z a ρ m fun x m1 => We X Z b ρ m1 fun y m2 => OpP X Z (binaryOp op) x y m2 P) : We X Z (.BinOp a op b pos) ρ m P := .of (pe_op op_sem pe_sem pe_sem) (wp_op h)
theorem we_cmp {a b : Expr} {op : CmpOp} {pos : Pos} (h : We X Z a ρ m fun x m1 => We X Z b ρ m1 fun y m2 => OpP X Z (compareOp op) x y m2 P) (hm : behindInMarks op b = false := by first | exact nomark _ | rfl) : We X Z (.Compare a [op] [b] pos) ρ m P := .of (pe_cmpR op_sem pe_sem pe_sem hm) (wp_op h)
/-- a value that is True or False -/
def BoolP (P : Bool → Mu → Prop) : TV → Mu → Prop := fun t m => ∃ b : Bool, t = tv b ∧ P b m
theorem BoolP.of {P : Bool → Mu → Prop} {b : Bool} (h : P b m) : BoolP P (tv b) m := ⟨b, rfl, h⟩
variable {PB : Bool → Mu → Prop}
theorem wpt_bool {t : TE} (h : Wp Z t ρ m (BoolP PB)) : WpT Z (fun σ H Q => t σ H fun x H1 => ∃ c, x = .bl c ∧ Q c H1) ρ m PB := fun σ B H Q he hs k =>
  h σ B H _ he hs fun v B' H' m' x a b c d => by
    obtain ⟨q, rfl, p⟩ := d
    exact ⟨q, c, k q B' H' m' a b p⟩
/-- a test whose value is True or False (any expression but and, or, not, a comparison) -/
theorem wt_val {e : Expr} (h : We X Z e ρ m (BoolP PB)) (he : ∀ whole, isTrue e X.env whole = (do let v ← whole; standAt e.pos; holding [v] (truthy v)) := by intro _; rfl) : Wt X Z e ρ m PB := .of (pt_val pe_sem he) (wpt_bool h)
theorem wt_cmp {a b : Expr} {op : CmpOp} {pos : Pos} (h : We X Z a ρ m fun x m1 => We X Z b ρ m1 fun y m2 => OpP X Z (compareOp op) x y m2 (BoolP PB)) (hm : behindInMarks op b = false := by first | exact nomark _ | rfl) : Wt X Z (.Compare a [op] [b] pos) ρ m PB :=
  .of (pt_cmpR op_sem pe_sem pe_sem hm) (wpt_bool (wp_op h))
theorem wp_chain {ta tb tc : TE} {r r' : R2} (h : Wp Z ta ρ m fun x m1 => Wp Z tb ρ m1 fun y m2 => R2P Z r x y m2 (BoolP fun d m3 => (d = true → Wp Z tc ρ m3 fun z m4 => R2P Z r' y z m4 P) ∧ (d = false → P (tv false) m3))) : Wp Z (tChain r r' ta tb tc) ρ m P := fun σ B H Q he hs k =>
  h σ B H _ he hs fun v B1 H1 m1 x e1 s1 r1 w1 => w1 σ B1 H1 _ (he.mono e1) s1 fun u B2 H2 m2 y e2 s2 r2 p2 => p2 B2 H2 _ v u s2 (TV.mono e2 r1) r2 fun v' B3 H3 m3 z e3 s3 r3 p3 => by
    obtain ⟨d, rfl, q1, q2⟩ := p3
    refine ⟨d, r3, ?_⟩
    have e13 : Ex B B3 := (e1.trans e2).trans e3
    cases d with
    | false => exact iteF (k (.bl false) B3 H3 m3 (tv false) e13 s3 (show V.bl false = .bl false from rfl) (q2 rfl))
    | true => exact iteT (q1 rfl σ B3 H3 _ (he.mono e13) s3 fun w B4 H4 m4 z4 e4 s4 r4 p4 => p4 B4 H4 Q u w s4 (TV.mono (e3.trans e4) r2) r4 fun v5 B5 H5 m5 z5 e5 s5 r5 p5 => k v5 B5 H5 m5 z5 ((e13.trans e4).trans e5) s5 r5 p5)
theorem we_chain {a b c : Expr} {op op' : CmpOp} {pos : Pos} (h : We X Z a ρ m fun x m1 => We X Z b ρ m1 fun y m2 => OpP X Z (compareOp op) x y m2 (BoolP fun d m3 =>
      (d = true → We X Z c ρ m3 fun z m4 => OpP X Z (compareOp op') y z m4 P) ∧ (d = false → P (tv false) m3)))
    (hm : lastMarks [op, op'] [b, c] = false := by with_unfolding_all rfl) : We X Z (.Compare a [op, op'] [b, c] pos) ρ m P := .of (pe_chain op_sem op_sem pe_sem pe_sem pe_sem hm) (wp_chain h)
theorem wt_chain {a b c : Expr} {op op' : CmpOp} {pos : Pos} (h : We X Z a ρ m fun x m1 => We X Z b ρ m1 fun y m2 => OpP X Z (compareOp op) x y m2 (BoolP fun d m3 =>
      (d = true → We X Z c ρ m3 fun z m4 => OpP X Z (compareOp op') y z m4 (BoolP PB)) ∧ (d = false → PB false m3)))
    (hm : lastMarks [op, op'] [b, c] = false := by with_unfolding_all rfl) : Wt X Z (.Compare a [op, op'] [b, c] pos) ρ m PB :=
  .of (pt_chain op_sem op_sem pe_sem pe_sem pe_sem hm) (wpt_bool (wp_chain (h.imp fun x m1 h => h.imp fun y m2 h => fun B H Q v u a b c d => h B H Q v u a b c fun v' B' H' m' z a b c ⟨q, e, f1, f2⟩ => d v' B' H' m' z a b c ⟨q, e, f1, fun g => ⟨false, rfl, f2 g⟩⟩)))
/-! and, or, not, if -/
theorem ww_and1 {a : Expr} {pos : Pos} (h : Wt X Z a ρ m PB) : Ww X Z (.BoolOp .And [a] pos) ρ m PB := .of (pw_and1 pt_sem) h
theorem ww_or1 {a : Expr} {pos : Pos} (h : Wt X Z a ρ m PB) : Ww X Z (.BoolOp .Or [a] pos) ρ m PB := .of (pw_or1 pt_sem) h
theorem ww_and {a b : Expr} {rest : List Expr} {pos : Pos} (h : Wt X Z a ρ m fun c m1 => (c = true → Ww X Z (.BoolOp .And (b :: rest) pos) ρ m1 PB) ∧ (c = false → PB false m1)) : Ww X Z (.BoolOp .And (a :: b :: rest) pos) ρ m PB :=
  .of (pw_and pt_sem pw_sem) fun σ B H Q he hs k => h σ B H _ he hs fun c B1 H1 m1 e1 s1 p1 => by
    cases c with
    | true => exact iteT (p1.1 rfl σ B1 H1 Q (he.mono e1) s1 fun d B2 H2 m2 e2 s2 p2 => k d B2 H2 m2 (e1.trans e2) s2 p2)
    | false => exact iteF (k false B1 H1 m1 e1 s1 (p1.2 rfl))
theorem ww_or {a b : Expr} {rest : List Expr} {pos : Pos} (h : Wt X Z a ρ m fun c m1 => (c = true → PB true m1) ∧ (c = false → Ww X Z (.BoolOp .Or (b :: rest) pos) ρ m1 PB)) : Ww X Z (.BoolOp .Or (a :: b :: rest) pos) ρ m PB :=
  .of (pw_or pt_sem pw_sem) fun σ B H Q he hs k => h σ B H _ he hs fun c B1 H1 m1 e1 s1 p1 => by
    cases c with
    | true => exact iteT (k true B1 H1 m1 e1 s1 (p1.1 rfl))
    | false => exact iteF (p1.2 rfl σ B1 H1 Q (he.mono e1) s1 fun d B2 H2 m2 e2 s2 p2 => k d B2 H2 m2 (e1.trans e2) s2 p2)
theorem wt_bool {e : Expr} (h : Ww X Z e ρ m PB) : Wt X Z e ρ m PB := .of (PW.pt pw_sem) h
theorem wt_not {a : Expr} {pos : Pos} (h : Wt X Z a ρ m fun c m1 => PB (!c) m1) : Wt X Z (.UnaryOp .Not a pos) ρ m PB :=
  .of (pt_not pt_sem) fun σ B H Q he hs k => h σ B H _ he hs fun c B1 H1 m1 e1 s1 p1 => k (!c) B1 H1 m1 e1 s1 p1
theorem we_one {a : Expr} {op : BoolOp} {pos : Pos} (h : We X Z a ρ m P) : We X Z (.BoolOp op [a] pos) ρ m P := .of (pe_one pe_sem) h
theorem we_and {a b : Expr} {rest : List Expr} {pos : Pos} (h : We X Z a ρ m (BoolP fun c m1 => (c = true → We X Z (.BoolOp .And (b :: rest) pos) ρ m1 P) ∧ (c = false → P (tv false) m1))) : We X Z (.BoolOp .And (a :: b :: rest) pos) ρ m P :=
  .of (pe_and pe_sem pe_sem) fun σ B H Q he hs k => h σ B H _ he hs fun v B1 H1 m1 x e1 s1 r1 p1 => by
    obtain ⟨c, rfl, q1, q2⟩ := p1
    refine ⟨c, r1, ?_⟩
    cases c with
    | true => exact iteT (q1 rfl σ B1 H1 Q (he.mono e1) s1 fun d B2 H2 m2 y e2 s2 r2 p2 => k d B2 H2 m2 y (e1.trans e2) s2 r2 p2)
    | false => exact iteF (k (.bl false) B1 H1 m1 (tv false) e1 s1 (show V.bl false = .bl false from rfl) (q2 rfl))
theorem we_or {a b : Expr} {rest : List Expr} {pos : Pos} (h : We X Z a ρ m (BoolP fun c m1 => (c = true → P (tv true) m1) ∧ (c = false → We X Z (.BoolOp .Or (b :: rest) pos) ρ m1 P))) : We X Z (.BoolOp .Or (a :: b :: rest) pos) ρ m P :=
  .of (pe_or pe_sem pe_sem) fun σ B H Q he hs k => h σ B H _ he hs fun v B1 H1 m1 x e1 s1 r1 p1 => by
    obtain ⟨c, rfl, q1, q2⟩ := p1
    refine ⟨c, r1, ?_⟩
    cases c with
    | true => exact iteT (k (.bl true) B1 H1 m1 (tv true) e1 s1 (show V.bl true = .bl true from rfl) (q1 rfl))
    | false => exact iteF (q2 rfl σ B1 H1 Q (he.mono e1) s1 fun d B2 H2 m2 y e2 s2 r2 p2 => k d B2 H2 m2 y (e1.trans e2) s2 r2 p2)
theorem we_not {a : Expr} {pos : Pos} (h : We X Z a ρ m (BoolP fun c m1 => P (tv (!c)) m1)) : We X Z (.UnaryOp .Not a pos) ρ m P :=
  .of (pe_not pe_sem) fun σ B H Q he hs k => h σ B H _ he hs fun v B1 H1 m1 x e1 s1 r1 p1 => by
    obtain ⟨c, rfl, q1⟩ := p1
    exact ⟨c, r1, k (.bl (!c)) B1 H1 m1 (tv (!c)) e1 s1 (show V.bl (!c) = .bl (!c) from rfl) q1⟩
theorem we_if {c a b : Expr} {pos : Pos} (h : Wt X Z c ρ m fun d m1 => (d = true → We X Z a ρ m1 P) ∧ (d = false → We X Z b ρ m1 P)) : We X Z (.IfExp c a b pos) ρ m P :=
  .of (pe_ifExp pt_sem pe_sem pe_sem) fun σ B H Q he hs k => h σ B H _ he hs fun d B1 H1 m1 e1 s1 p1 => by
    cases d with
    | true => exact iteT (p1.1 rfl σ B1 H1 Q (he.mono e1) s1 fun d B2 H2 m2 y e2 s2 r2 p2 => k d B2 H2 m2 y (e1.trans e2) s2 r2 p2)
    | false => exact iteF (p1.2 rfl σ B1 H1 Q (he.mono e1) s1 fun d B2 H2 m2 y e2 s2 r2 p2 => k d B2 H2 m2 y (e1.trans e2) s2 r2 p2)
def rUSem (X : Cx) (f : Value → Sem Value) : V → Hp → VK → Prop := fun v H Q => ∀ (pins : List (Addr × Obj)) (s : Shared) (σ : L2.St) (vv : Value), Inv X pins σ H s → RelV v vv → wpAny (model X.prog X.w) X.A (f vv) (EP X pins σ Q) X.xe s
theorem we_neg {a : Expr} {pos : Pos} (h : We X Z a ρ m fun x m1 => ∃ i : Int, x = tv i ∧ P (tv (-i)) m1) : We X Z (.UnaryOp .USub a pos) ρ m P :=
  .of (pe_un un_neg pe_sem) fun σ B H Q he hs k => h σ B H _ he hs fun v B1 H1 m1 x e1 s1 r1 p1 => by
    obtain ⟨i, rfl, q⟩ := p1
    exact ⟨i, r1, k _ B1 H1 m1 (tv (-i)) e1 s1 (show V.int (-i) = .int (-i) from rfl) q⟩

/-! ### arguments, displays -/
theorem wa_nil {PA : List TV → Mu → Prop} (h : PA [] m) : Wa X Z [] ρ m PA := .of pa_nil fun σ B H Q he hs k => k [] B H m [] (Ex.refl _) hs .nil h
theorem wa_cons {PA : List TV → Mu → Prop} {e : Expr} {es : List Expr} (h : We X Z e ρ m fun x m1 => Wa X Z es ρ m1 fun xs m2 => PA (x :: xs) m2) (hs : starEach (e :: es) X.env = (false, eval e X.env) :: starEach es X.env := by rfl) : Wa X Z (e :: es) ρ m PA :=
  .of (pa_cons pe_sem pa_sem hs) fun σ B H Q he hS k => h σ B H _ he hS fun v B1 H1 m1 x e1 s1 r1 w1 => w1 σ B1 H1 _ (he.mono e1) s1 fun vs B2 H2 m2 xs e2 s2 r2 p2 =>
    k (v :: vs) B2 H2 m2 (x :: xs) (e1.trans e2) s2 (.cons (TV.mono e2 r1) r2) p2
/-- a list of things of many kinds -/
inductive HL (ts : List TV) : Type where
  | mk : HL ts
instance {ts : List TV} : Rep (HL ts) := ⟨fun K B v _ => ∃ a vs, v = .ref a ∧ B a = some (.lst vs) ∧ Reps K B vs ts, fun e ⟨a, vs, h1, h2, h3⟩ => ⟨a, vs, h1, e _ _ h2, h3.mono e⟩⟩
abbrev hl (ts : List TV) : TV := tv (HL.mk : HL ts)
/-- what a display of items is: a thing that never changes, or one that may -/
inductive LstP (P : TV → Mu → Prop) (xs : List TV) (m : Mu) : Prop
  | data {α : Type} [Rep α] {ys : List α} : xs = (ys.map fun y => tv y) → P (tv ys) m → LstP P xs m
  | het : P (hl xs) m → LstP P xs m
  | own : (∀ p, P (tv (Ref.mk p)) (m ++ [(p, mL xs)])) → LstP P xs m
theorem we_list {es : List Expr} {pos : Pos} (h : Wa X Z es ρ m fun xs m1 => xs.length ≤ 1000000 ∧ LstP P xs m1) : We X Z (.List es pos) ρ m P :=
  .of (pe_lst pa_sem) fun σ B H Q he hs k => h σ B H _ he hs fun vs B1 H1 m1 xs e1 s1 r1 p1 => by
    refine ⟨by rw [r1.length]; exact Nat.le_trans p1.1 (by decide), fun p hp => ?_⟩
    rcases p1.2 with @⟨α, ri, ys, ex, q⟩ | q | q
    · subst ex
      have hb := s1.noneB hp
      have hr : TV.rep Z.K (upd B1 p (.lst vs)) (.ref p) (tv ys) := ⟨p, vs, rfl, upd_same, Paired.monoR (Ex.new hb) (Reps.to_paired r1)⟩
      exact k (.ref p) _ _ m1 (tv ys) (e1.trans (Ex.new hb)) (s1.newB hp) hr q
    · have hb := s1.noneB hp
      exact k (.ref p) _ _ m1 (hl xs) (e1.trans (Ex.new hb)) (s1.newB hp) (show TV.rep Z.K (upd B1 p (.lst vs)) (.ref p) (hl xs) from ⟨p, vs, rfl, upd_same, r1.mono (Ex.new hb)⟩) q
    · exact k (.ref p) B1 _ _ (tv (Ref.mk p)) e1 (s1.newM hp (c := mL xs) ⟨vs, rfl, r1⟩) (show V.ref p = .ref p from rfl) (q p)
/-- what a tuple of items is -/
def TupP (P : TV → Mu → Prop) (xs : List TV) (m : Mu) : Prop := ∃ t : TV, (∀ K B a vs, SqT K B a vs → Reps K B vs xs → t.rep K B (.ref a)) ∧ P t m
theorem we_tuple {es : List Expr} {x1 : Nat} {pos : Pos} (h : Wa X Z es ρ m fun xs m1 => xs.length ≤ 1000000 ∧ TupP P xs m1) : We X Z (.Tuple es x1 pos) ρ m P :=
  .of (pe_tup pa_sem) fun σ B H Q he hs k => h σ B H _ he hs fun vs B1 H1 m1 xs e1 s1 r1 p1 => by
    refine ⟨by rw [r1.length]; exact Nat.le_trans p1.1 (by decide), fun p hp => ?_⟩
    obtain ⟨t, ht, q⟩ := p1.2
    have hb := s1.noneB hp
    exact k (.ref p) _ _ m1 t (e1.trans (Ex.new hb)) (s1.newB hp) (ht Z.K _ p vs (.inl (.inl upd_same)) (r1.mono (Ex.new hb))) q
theorem tup2 {α β : Type} [Rep α] [Rep β] {x : α} {y : β} (h : P (tv (x, y)) m) : TupP P [tv x, tv y] m := ⟨tv (x, y), fun K B a vs hs r => by
  cases r with
  | cons r1 r => cases r with
    | cons r2 r => cases r; exact ⟨a, _, _, rfl, hs, r1, r2⟩, h⟩
theorem tup3 {α β γ : Type} [Rep α] [Rep β] [Rep γ] {x : α} {y : β} {z : γ} (h : P (tv (P3.mk x y z)) m) : TupP P [tv x, tv y, tv z] m := ⟨tv (P3.mk x y z), fun K B a vs hs r => by
  cases r with
  | cons r1 r => cases r with
    | cons r2 r => cases r with
      | cons r3 r => cases r; exact ⟨a, _, _, _, rfl, hs, r1, r2, r3⟩, h⟩
theorem tup4 {α β γ δ : Type} [Rep α] [Rep β] [Rep γ] [Rep δ] {x : α} {y : β} {z : γ} {w : δ} (h : P (tv (P4.mk x y z w)) m) : TupP P [tv x, tv y, tv z, tv w] m := ⟨tv (P4.mk x y z w), fun K B a vs hs r => by
  cases r with
  | cons r1 r => cases r with
    | cons r2 r => cases r with
      | cons r3 r => cases r with
        | cons r4 r => cases r; exact ⟨a, _, _, _, _, rfl, hs, r1, r2, r3, r4⟩, h⟩
theorem tupN {α : Type} [Rep α] {xs : List α} (h : P (tv (Tup.mk xs)) m) : TupP P (xs.map fun x => tv x) m := ⟨tv (Tup.mk xs), fun K B a vs hs r => ⟨a, vs, rfl, hs, Reps.to_paired r⟩, h⟩
end
end Ty

set_option Elab.async false
set_option linter.all false
set_option maxRecDepth 100000
set_option maxHeartbeats 2000000
namespace Ty
open PySem PySem.Spec PyProof.Rows L2

/-! ### statements -/
section
variable {X : Cx} {Z : Zs} {ρ : TEnv} {m : Mu} {D : DE}
theorem wss_nil (h : D.nx ρ m) : Wss X Z [] ρ m D := .of pss_nil fun σ B H E he hs k => k.nx σ B H ρ m (Ex.refl _) he hs h
theorem wss_cons {st : Stmt} {rest : List Stmt} (h : Ws X Z st ρ m { D with nx := fun ρ' m' => Wss X Z rest ρ' m' D }) : Wss X Z (st :: rest) ρ m D :=
  .of (pss_cons ps_sem pss_sem) fun σ B H E he hs k => h σ B H _ he hs ⟨fun s' B' H' r' m' a b c d => d s' B' H' E b c (k.mono a), k.rt, k.bk, k.ct⟩
theorem wss_one {st : Stmt} (h : Ws X Z st ρ m D) : Wss X Z [st] ρ m D := .of (pss_one ps_sem) h
theorem ws_pass {pos : Pos} (h : D.nx ρ m) : Ws X Z (.Pass pos) ρ m D := .of ps_pass fun σ B H E he hs k => k.nx σ B H ρ m (Ex.refl _) he hs h
theorem ws_break {pos : Pos} (h : D.bk ρ m) : Ws X Z (.Break pos) ρ m D := .of ps_break fun σ B H E he hs k => k.bk σ B H ρ m (Ex.refl _) he hs h
theorem ws_continue {pos : Pos} (h : D.ct ρ m) : Ws X Z (.Continue pos) ρ m D := .of ps_continue fun σ B H E he hs k => k.ct σ B H ρ m (Ex.refl _) he hs h
theorem ws_expr {e : Expr} {pos : Pos} (h : We X Z e ρ m fun _ m' => D.nx ρ m') (hs : swapsWith e none pos.line X.env = pure false := by rfl) : Ws X Z (.Expr e pos) ρ m D :=
  .of (ps_expr pe_sem hs) fun σ B H E he hS k => we_sub h he hS fun v B' H' m' x a b c d e => k.nx σ B' H' ρ m' a b c e
theorem ws_ret {e : Expr} {pos : Pos} (h : We X Z e ρ m D.rt) : Ws X Z (.Return (some e) pos) ρ m D :=
  .of (ps_ret pe_sem) fun σ B H E he hS k => h σ B H _ he hS fun v B' H' m' x a b c d => k.rt v B' H' m' x a b c d
theorem ws_retN {pos : Pos} (h : D.rt (tv ()) m) : Ws X Z (.Return none pos) ρ m D := .of ps_retN fun σ B H E he hS k => k.rt .non B H m (tv ()) (Ex.refl _) hS (show V.non = .non from rfl) h
theorem ws_if {c : Expr} {a b : List Stmt} {pos : Pos} (h : Wt X Z c ρ m fun d m1 => (d = true → Wss X Z a ρ m1 D) ∧ (d = false → Wss X Z b ρ m1 D)) : Ws X Z (.If c a b pos) ρ m D :=
  .of (ps_if pt_sem pss_sem pss_sem) fun σ B H E he hs k => h σ B H _ he hs fun d B1 H1 m1 e1 s1 p1 => by
    cases d with
    | true => exact iteT (p1.1 rfl σ B1 H1 E (he.mono e1) s1 (k.mono e1))
    | false => exact iteF (p1.2 rfl σ B1 H1 E (he.mono e1) s1 (k.mono e1))
/-- a cut: what holds behind a statement -/
theorem ws_cut {st : Stmt} (I : TEnv → Mu → Prop) (h : Ws X Z st ρ m { D with nx := I }) (k : ∀ ρ' m', I ρ' m' → D.nx ρ' m') : Ws X Z st ρ m D := h.imp k (fun _ _ h => h) (fun _ _ h => h) fun _ _ h => h
theorem wss_cut {st : List Stmt} (I : TEnv → Mu → Prop) (h : Wss X Z st ρ m { D with nx := I }) (k : ∀ ρ' m', I ρ' m' → D.nx ρ' m') : Wss X Z st ρ m D := h.imp k (fun _ _ h => h) (fun _ _ h => h) fun _ _ h => h
theorem ws_set (i : Nat) {x : Str} {e : Expr} {pos pos' : Pos} (h : We X Z e ρ m fun t m' => D.nx (ρ.set i (some t)) m') (hN : X.N.Nodup) (hi : X.N[i]? = some x := by rfl) (hx : Loc X.env.scope x := by first | exact Or.inl rfl | exact Or.inr rfl)
    (hs : swapsWith e (some (.Name x pos')) pos.line X.env = pure false := by rfl) (hf : X.fn x = true ∨ X.env.scope.names.lookup x = some .local := by first | exact .inl rfl | exact .inr rfl) : Ws X Z (.Assign [.Name x pos'] e pos) ρ m D :=
  .of (ps_set hN hi hx pe_sem hs hf) fun σ B H E he hS k => we_sub h he hS fun v B' H' m' t a b c d e => k.nx _ B' H' _ m' a (b.set i d) c e

/-! ### targets -/
def WpG (Z : Zs) (g : TG) (t : TV) (ρ : TEnv) (m : Mu) (R : TEnv → Mu → Prop) : Prop := ∀ (σ : L2.St) (B H : Hp) (v : V) (Q : L2.St → Hp → Prop), EnvOk Z.K B σ ρ → Sta Z B H m → t.rep Z.K B v →
  (∀ σ' B' H' ρ' m', Ex B B' → EnvOk Z.K B' σ' ρ' → Sta Z B' H' m' → R ρ' m' → Q σ' H') → g v σ H Q
def WpGs (Z : Zs) (g : TGs) (ts : List TV) (ρ : TEnv) (m : Mu) (R : TEnv → Mu → Prop) : Prop := ∀ (σ : L2.St) (B H : Hp) (vs : List V) (Q : L2.St → Hp → Prop), EnvOk Z.K B σ ρ → Sta Z B H m → Reps Z.K B vs ts →
  (∀ σ' B' H' ρ' m', Ex B B' → EnvOk Z.K B' σ' ρ' → Sta Z B' H' m' → R ρ' m' → Q σ' H') → g vs σ H Q
def tgS (X : Cx) (target : Expr) : TG := fun v σ H Q => ∀ (pins : List (Addr × Obj)) (s : Shared) (u : Value), Inv X pins σ H s → RelV v u → wpAny (model X.prog X.w) X.A (assign target X.env u) (fun _ s' => ∃ σ' H', Inv X pins σ' H' s' ∧ Q σ' H') X.xe s
def tgsS (X : Cx) (ts : List Expr) : TGs := fun vs σ H Q => ∀ (pins : List (Addr × Obj)) (s : Shared) (us : List Value), Inv X pins σ H s → Vals vs us → wpAny (model X.prog X.w) X.A (assignInOrder ((assignEach ts X.env).map (·.2)) us) (fun _ s' => ∃ σ' H', Inv X pins σ' H' s' ∧ Q σ' H') X.xe s
theorem pg_sem {t : Expr} : PG X t (tgS X t) := ⟨fun pins s _ _ _ u _ I r h => h pins s u I r⟩
theorem pgs_sem {ts : List Expr} : PGs X ts (tgsS X ts) := ⟨fun pins s _ _ _ us _ I r h => h pins s us I r⟩
abbrev Wg (X : Cx) (Z : Zs) (target : Expr) (t : TV) (ρ : TEnv) (m : Mu) (R : TEnv → Mu → Prop) : Prop := WpG Z (tgS X target) t ρ m R
abbrev Wgs (X : Cx) (Z : Zs) (ts : List Expr) (xs : List TV) (ρ : TEnv) (m : Mu) (R : TEnv → Mu → Prop) : Prop := WpGs Z (tgsS X ts) xs ρ m R
theorem Wg.of {e : Expr} {g : TG} {t : TV} {R : TEnv → Mu → Prop} (h : PG X e g) (w : WpG Z g t ρ m R) : Wg X Z e t ρ m R := fun σ B H v Q a b c d pins s u I r => h.run pins s σ H v u Q I r (w σ B H v Q a b c d)
theorem Wgs.of {e : List Expr} {g : TGs} {t : List TV} {R : TEnv → Mu → Prop} (h : PGs X e g) (w : WpGs Z g t ρ m R) : Wgs X Z e t ρ m R := fun σ B H v Q a b c d pins s u I r => h.run pins s σ H v u Q I r (w σ B H v Q a b c d)
variable {R : TEnv → Mu → Prop}
theorem wg_name (i : Nat) {x : Str} {pos : Pos} {t : TV} (h : R (ρ.set i (some t)) m) (hN : X.N.Nodup) (hi : X.N[i]? = some x := by rfl) (hx : Loc X.env.scope x := by first | exact Or.inl rfl | exact Or.inr rfl)
    (hf : X.fn x = true ∨ X.env.scope.names.lookup x = some .local := by first | exact .inl rfl | exact .inr rfl) : Wg X Z (.Name x pos) t ρ m R :=
  .of (pg_name hN hi hx hf) fun σ B H v Q he hs r k => k _ B H _ m (Ex.refl _) (he.set i r) hs h
theorem wgs_nil (h : R ρ m) : Wgs X Z [] [] ρ m R := .of pgs_nil fun σ B H vs Q he hs r k => by
  cases r
  exact ⟨rfl, k σ B H ρ m (Ex.refl _) he hs h⟩
theorem wgs_cons {e : Expr} {es : List Expr} {t : TV} {ts : List TV} (h : Wg X Z e t ρ m fun ρ' m' => Wgs X Z es ts ρ' m' R) (hs : (assignEach (e :: es) X.env).map (·.2) = assign e X.env :: (assignEach es X.env).map (·.2) := by rfl) : Wgs X Z (e :: es) (t :: ts) ρ m R :=
  .of (pgs_cons pg_sem pgs_sem hs) fun σ B H vs Q he hS r k => by
    cases r with
    | cons r1 r2 => exact ⟨_, _, rfl, h σ B H _ _ he hS r1 fun s' B' H' p' m' a b c d => d s' B' H' _ Q b c (r2.mono a) fun s2 B2 H2 p2 m2 a2 => k s2 B2 H2 p2 m2 (a.trans a2)⟩
/-- a thing that is a tuple of such items -/
def TupU (t : TV) (ts : List TV) : Prop := ∀ K B v, t.rep K B v → ∃ a vs, v = .ref a ∧ SqT K B a vs ∧ Reps K B vs ts
theorem wg_tup {es : List Expr} {n : Nat} {pos : Pos} {t : TV} {ts : List TV} (ht : TupU t ts) (h : Wgs X Z es ts ρ m R) (hc : X.calm = true) (hn : (assignEach es X.env).length = ts.length := by rfl) (hst : (assignEach es X.env).findIdx? (·.1) = none := by rfl) (hK : X.K = Z.K := by rfl) : Wg X Z (.Tuple es n pos) t ρ m R :=
  .of (pg_tup (n := ts.length) hc pgs_sem hn hst) fun σ B H v Q he hs r k => by
    rw [hK]
    obtain ⟨a, vs, e, q, rr⟩ := ht _ _ _ r
    exact ⟨a, vs, e, hs.ex.seqT q, rr.length, h σ B H vs Q he hs rr k⟩
theorem tupU2 {α β : Type} [Rep α] [Rep β] {x : α} {y : β} : TupU (tv (x, y)) [tv x, tv y] := fun K B v ⟨a, u, w, h1, h2, h3, h4⟩ => ⟨a, _, h1, h2, .cons h3 (.cons h4 .nil)⟩
theorem tupU3 {α β γ : Type} [Rep α] [Rep β] [Rep γ] {x : α} {y : β} {z : γ} : TupU (tv (P3.mk x y z)) [tv x, tv y, tv z] := fun K B v ⟨a, u, w, w2, h1, h2, h3, h4, h5⟩ => ⟨a, _, h1, h2, .cons h3 (.cons h4 (.cons h5 .nil))⟩
theorem tupU4 {α β γ δ : Type} [Rep α] [Rep β] [Rep γ] [Rep δ] {x : α} {y : β} {z : γ} {w : δ} : TupU (tv (P4.mk x y z w)) [tv x, tv y, tv z, tv w] := fun K B v ⟨a, u, w, w2, w3, h1, h2, h3, h4, h5, h6⟩ => ⟨a, _, h1, h2, .cons h3 (.cons h4 (.cons h5 (.cons h6 .nil)))⟩
theorem ws_asg {tg e : Expr} {pos : Pos} (h : We X Z e ρ m fun t m' => Wg X Z tg t ρ m' D.nx) (hs : swapsWithSole [tg] e pos.line X.env = pure false := by rfl) (hw : swappedStores [tg] e X.env = pure none := by rfl)
    (h1 : (assignEach [tg] X.env).map (·.2) = [assign tg X.env] := by rfl) : Ws X Z (.Assign [tg] e pos) ρ m D :=
  .of (ps_asg pe_sem pg_sem hs hw h1) fun σ B H E he hS k => we_sub h he hS fun v B' H' m' t a b c d e => e σ B' H' v _ b c d fun s2 B2 H2 p2 m2 a2 b2 c2 d2 => k.nx s2 B2 H2 p2 m2 (a.trans a2) b2 c2 d2
/-- a, b = x, y -/
theorem ws_par (i j : Nat) {x y : Str} {a b : Expr} {px py pt pos pt2 : Pos} {kt k2 : Nat} (h : Wa X Z [a, b] ρ m fun ts m' => ∃ t u, ts = [t, u] ∧ D.nx ((ρ.set i (some t)).set j (some u)) m') (hc : X.calm = true) (hN : X.N.Nodup) (hi : X.N[i]? = some x := by rfl) (hj : X.N[j]? = some y := by rfl) (hij : i ≠ j := by decide)
    (hx : X.env.scope.names.lookup x = some .local := by rfl) (hy : X.env.scope.names.lookup y = some .local := by rfl)
    (hw : swappedStores [.Tuple [.Name x px, .Name y py] kt pt] (.Tuple [a, b] k2 pt2) X.env = pure (some [x, y]) := by rfl)
    (hs : swapsWithSole [.Tuple [.Name x px, .Name y py] kt pt] (.Tuple [a, b] k2 pt2) pos.line X.env = pure false := by rfl) : Ws X Z (.Assign [.Tuple [.Name x px, .Name y py] kt pt] (.Tuple [a, b] k2 pt2) pos) ρ m D :=
  .of (ps_par hc hN hi hj hij hx hy pa_sem hw hs) fun σ B H E he hS k => h σ B H _ he hS fun vs B' H' m' ts a b c d => by
    obtain ⟨t, u, rfl, q⟩ := d
    cases c with
    | cons r1 c => cases c with
      | cons r2 c =>
        cases c
        exact ⟨_, _, rfl, k.nx _ B' H' _ m' a (((he.mono a).set i r1).set j r2) b q⟩
theorem ws_par3 (i j l : Nat) {x y z : Str} {a b c : Expr} {px py pz pt pos pt2 : Pos} {kt k2 : Nat} (h : Wa X Z [a, b, c] ρ m fun ts m' => ∃ t u w, ts = [t, u, w] ∧ D.nx (((ρ.set i (some t)).set j (some u)).set l (some w)) m') (hc : X.calm = true) (hN : X.N.Nodup)
    (hi : X.N[i]? = some x := by rfl) (hj : X.N[j]? = some y := by rfl) (hl : X.N[l]? = some z := by rfl) (hij : i ≠ j := by decide) (hil : i ≠ l := by decide) (hjl : j ≠ l := by decide)
    (hx : X.env.scope.names.lookup x = some .local := by rfl) (hy : X.env.scope.names.lookup y = some .local := by rfl) (hz : X.env.scope.names.lookup z = some .local := by rfl)
    (hw : swappedStores [.Tuple [.Name x px, .Name y py, .Name z pz] kt pt] (.Tuple [a, b, c] k2 pt2) X.env = pure (some [x, y, z]) := by rfl)
    (hs : swapsWithSole [.Tuple [.Name x px, .Name y py, .Name z pz] kt pt] (.Tuple [a, b, c] k2 pt2) pos.line X.env = pure false := by rfl) : Ws X Z (.Assign [.Tuple [.Name x px, .Name y py, .Name z pz] kt pt] (.Tuple [a, b, c] k2 pt2) pos) ρ m D :=
  .of (ps_par3 hc hN hi hj hl hij hil hjl hx hy hz pa_sem hw hs) fun σ B H E he hS k => h σ B H _ he hS fun vs B' H' m' ts a b c d => by
    obtain ⟨t, u, w, rfl, q⟩ := d
    cases c with
    | cons r1 c => cases c with
      | cons r2 c => cases c with
        | cons r3 c =>
          cases c
          exact ⟨_, _, _, rfl, k.nx _ B' H' _ m' a ((((he.mono a).set i r1).set j r2).set l r3) b q⟩

/-! ### subscripts -/
def ixSem (X : Cx) : R2 := fun v u H Q => ∀ (value slice : Expr) (pins : List (Addr × Obj)) (s : Shared) (σ : L2.St) (vv uu : Value), Inv X pins σ H s → RelV v vv → RelV u uu →
  subscripted slice false vv uu = operate [vv, uu] (getItem vv uu) → wpAny (model X.prog X.w) X.A (subscriptTail value slice vv uu) (EP X pins σ Q) X.xe s
theorem ix_sem : IxR X (ixSem X) := fun value slice pins s σ H x y v u Q I rx ry h e => h value slice pins s σ v u I rx ry e
def IxP (X : Cx) (Z : Zs) (x y : TV) (m : Mu) (P : TV → Mu → Prop) : Prop := R2P Z (ixSem X) x y m P
variable {P : TV → Mu → Prop}
theorem IxP.of {x y : TV} {r : R2} (ho : IxR X r) (h : R2P Z r x y m P) : IxP X Z x y m P :=
  fun B H Q v u hs hv hu k value slice pins s σ vv uu I rv ru e => ho value slice pins s σ H v u vv uu Q I rv ru (h B H Q v u hs hv hu k) e
theorem we_ix {a b : Expr} {pos : Pos} (h : We X Z a ρ m fun x m1 => We X Z b ρ m1 fun y m2 => IxP X Z x y m2 P) (hs : PlainIx b := by exact fun _ _ => rfl) : We X Z (.Subscript a b pos) ρ m P := .of (pe_ix ix_sem pe_sem pe_sem hs) (wp_op h)
/-- slices: two ends, each written or not -/
def WpO (Z : Zs) (t : TO) (ρ : TEnv) (m : Mu) (R : Option Int → Mu → Prop) : Prop := ∀ (σ : L2.St) (B H : Hp) (Q : Option Int → Hp → Prop), EnvOk Z.K B σ ρ → Sta Z B H m → (∀ o B' H' m', Ex B B' → Sta Z B' H' m' → R o m' → Q o H') → t σ H Q
def toS (X : Cx) (e : Option Expr) : TO := match e with
  | none => tNoPart
  | some e => tPart (teS X e)
theorem po_sem {e : Option Expr} : PO X e (toS X e) := by
  cases e with
  | none => exact po_none
  | some e => exact po_some pe_sem
abbrev Wo (X : Cx) (Z : Zs) (e : Option Expr) (ρ : TEnv) (m : Mu) (R : Option Int → Mu → Prop) : Prop := WpO Z (toS X e) ρ m R
variable {RO : Option Int → Mu → Prop}
theorem wo_none (h : RO none m) : Wo X Z none ρ m RO := fun σ B H Q he hs k => k none B H m (Ex.refl _) hs h
theorem wo_some {e : Expr} (h : We X Z e ρ m fun t m' => ∃ i : Int, t = tv i ∧ RO (some i) m') : Wo X Z (some e) ρ m RO := fun σ B H Q he hs k => we_sub h he hs fun v B' H' m' x a b c d e => by
  obtain ⟨i, rfl, q⟩ := e
  exact ⟨i, d, k (some i) B' H' m' a c q⟩
def slSem (X : Cx) : V → Option Int → Option Int → Hp → VK → Prop := fun x lo hi H Q => ∀ (pins : List (Addr × Obj)) (s : Shared) (σ : L2.St) (v vl vu : Value) (sl : Addr), Inv X pins σ H s → RelV x v → s.heap.IsSliceOf sl vl vu .none → IsPart vl lo → IsPart vu hi →
    ∃ T id, typeLookup (.type T) "__getitem__" = pure (some (.builtin id)) ∧ s.TypeIs v T ∧ wpAny (model X.prog X.w) X.A (getItem v (.ref sl)) (EP X pins σ Q) X.xe s
theorem sl_sem : SlR X (slSem X) := fun pins s σ H x v vl vu lo hi sl Q I rx a b c h => h pins s σ v vl vu sl I rx a b c
def SlP (X : Cx) (Z : Zs) (x : TV) (lo hi : Option Int) (m : Mu) (P : TV → Mu → Prop) : Prop := ∀ (B H : Hp) (Q : VK) (v : V), Sta Z B H m → x.rep Z.K B v → (∀ v' B' H' m' z, Ex B B' → Sta Z B' H' m' → TV.rep Z.K B' v' z → P z m' → Q v' H') → slSem X v lo hi H Q
theorem SlP.of {x : TV} {lo hi : Option Int} {r : V → Option Int → Option Int → Hp → VK → Prop} (ho : SlR X r)
    (h : ∀ (B H : Hp) (Q : VK) (v : V), Sta Z B H m → x.rep Z.K B v → (∀ v' B' H' m' z, Ex B B' → Sta Z B' H' m' → TV.rep Z.K B' v' z → P z m' → Q v' H') → r v lo hi H Q) : SlP X Z x lo hi m P :=
  fun B H Q v hs hv k pins s σ vv vl vu sl I rv a b c => ho pins s σ H v vv vl vu lo hi sl Q I rv a b c (h B H Q v hs hv k)
theorem we_slice {e : Expr} {lo hi : Option Expr} {pos p2 : Pos} (h : We X Z e ρ m fun x m1 => Wo X Z lo ρ m1 fun l m2 => Wo X Z hi ρ m2 fun u m3 => SlP X Z x l u m3 P) : We X Z (.Subscript e (.Slice lo hi none p2) pos) ρ m P :=
  .of (pe_slice sl_sem pe_sem po_sem po_sem) fun σ B H Q he hs k => we_sub h he hs fun v B1 H1 m1 x a1 b1 c1 d1 e1 => e1 σ B1 H1 _ b1 c1 fun l B2 H2 m2 a2 c2 e2 => e2 σ B2 H2 _ (b1.mono a2) c2 fun u B3 H3 m3 a3 c3 e3 =>
    e3 B3 H3 Q v c3 (TV.mono (a2.trans a3) d1) fun v' B4 H4 m4 z a4 c4 d4 e4 => k v' B4 H4 m4 z (((a1.trans a2).trans a3).trans a4) c4 d4 e4

/-! ### calls of built-ins -/
def ccSem (X : Cx) (f : Value) : List V → Hp → VK → Prop := fun vs H Q => ∀ (pins : List (Addr × Obj)) (s : Shared) (σ : L2.St) (us : List Value), Inv X pins σ H s → Vals vs us → wpAny (model X.prog X.w) X.A (call f us) (EP X pins σ Q) X.xe s
theorem cc_sem {f : Value} : CallR X f (ccSem X f) := fun pins s σ H xs us Q I r h => h pins s σ us I r
def RcP (Z : Zs) (r : List V → Hp → VK → Prop) (xs : List TV) (m : Mu) (P : TV → Mu → Prop) : Prop :=
  ∀ (B H : Hp) (Q : VK) (vs : List V), Sta Z B H m → Reps Z.K B vs xs → (∀ v' B' H' m' z, Ex B B' → Sta Z B' H' m' → TV.rep Z.K B' v' z → P z m' → Q v' H') → r vs H Q
def CallP (X : Cx) (Z : Zs) (f : Value) (xs : List TV) (m : Mu) (P : TV → Mu → Prop) : Prop := RcP Z (ccSem X f) xs m P
theorem CallP.of {f : Value} {xs : List TV} {r : List V → Hp → VK → Prop} (ho : CallR X f r) (h : RcP Z r xs m P) : CallP X Z f xs m P :=
  fun B H Q vs hs hv k pins s σ us I rv => ho pins s σ H vs us Q I rv (h B H Q vs hs hv k)
theorem wp_cb {ta : TA} {r : List V → Hp → VK → Prop} (h : WpA Z ta ρ m fun xs m1 => RcP Z r xs m1 P) : Wp Z (tCB r ta) ρ m P := fun σ B H Q he hs k =>
  h σ B H _ he hs fun vs B1 H1 m1 xs e1 s1 r1 w1 => w1 B1 H1 Q vs s1 r1 fun v' B' H' m' z e3 s3 r3 p3 => k v' B' H' m' z (e1.trans e3) s3 r3 p3
/-- f(e, ..), f a built-in function; a built-in class -/
theorem we_callB {x : Str} {p pos : Pos} {e : Expr} {es : List Expr} {id : String} (hm : X.mg x = none) (h : Wa X Z (e :: es) ρ m fun xs m1 => CallP X Z (.builtin id) xs m1 P) (hv : bootBuiltins x = some (.builtin id) := by decide +kernel) (hg : Gl X x := by rfl) (hn : x ≠ "__name__" := by decide)
    (hdb : (x == ("__debug__" : Str)) = false := by decide) (he : starEach (e :: es) X.env = (false, eval e X.env) :: starEach es X.env := by rfl) (hpl : (backTo pos (starEach es X.env)).any (·.1) = false := by rfl) : We X Z (.Call (.Name x p) (e :: es) [] pos) ρ m P :=
  .of (pe_callB cc_sem hg hm hv pa_sem hn hdb he hpl) (wp_cb h)
theorem we_callT {x : Str} {p pos : Pos} {e : Expr} {es : List Expr} {T : String} (hm : X.mg x = none) (h : Wa X Z (e :: es) ρ m fun xs m1 => CallP X Z (.type T) xs m1 P) (hv : bootBuiltins x = some (.type T) := by decide +kernel) (hg : Gl X x := by rfl) (hn : x ≠ "__name__" := by decide)
    (hdb : (x == ("__debug__" : Str)) = false := by decide) (he : starEach (e :: es) X.env = (false, eval e X.env) :: starEach es X.env := by rfl) (hpl : (backTo pos (starEach es X.env)).any (·.1) = false := by rfl) : We X Z (.Call (.Name x p) (e :: es) [] pos) ρ m P :=
  .of (pe_callTy cc_sem hg hm hv pa_sem hn hdb he hpl) (wp_cb h)
/-- methods of built-in types, with arguments and without -/
def rbSem (X : Cx) (id : String) : V → List V → Hp → VK → Prop := fun x xs H Q => ∀ (pins : List (Addr × Obj)) (s : Shared) (σ : L2.St) (v : Value) (us : List Value), Inv X pins σ H s → RelV x v → Vals xs us → wpAny (model X.prog X.w) X.A (call (.builtin id) (v :: us)) (EP X pins σ Q) X.xe s
theorem rb_sem {id : String} : MtR X id (rbSem X id) := fun pins s σ H x xs v us Q I rx r h => h pins s σ v us I rx r
def MetP (X : Cx) (Z : Zs) (id : String) (t : TV) (xs : List TV) (m : Mu) (P : TV → Mu → Prop) : Prop :=
  ∀ (B H : Hp) (Q : VK) (v : V) (vs : List V), Sta Z B H m → t.rep Z.K B v → Reps Z.K B vs xs → (∀ v' B' H' m' z, Ex B B' → Sta Z B' H' m' → TV.rep Z.K B' v' z → P z m' → Q v' H') → rbSem X id v vs H Q
theorem MetP.of {id : String} {t : TV} {xs : List TV} {r : V → List V → Hp → VK → Prop} (ho : MtR X id r)
    (h : ∀ (B H : Hp) (Q : VK) (v : V) (vs : List V), Sta Z B H m → t.rep Z.K B v → Reps Z.K B vs xs → (∀ v' B' H' m' z, Ex B B' → Sta Z B' H' m' → TV.rep Z.K B' v' z → P z m' → Q v' H') → r v vs H Q) : MetP X Z id t xs m P :=
  fun B H Q v vs hs hv hx k pins s σ vv us I rv r => ho pins s σ H v vs vv us Q I rv r (h B H Q v vs hs hv hx k)
/-- a thing of that built-in type -/
def TyP (Z : Zs) (T : String) (t : TV) (m : Mu) : Prop := ∀ B H v, Sta Z B H m → t.rep Z.K B v → tyV Z.K T v H
theorem we_bm {o e : Expr} {es : List Expr} {name : Str} {apos cpos : Pos} {T id : String} (pa : PlainAttrs T) (slot : Slot T name id) (h : We X Z o ρ m fun t m1 => TyP Z T t m1 ∧ Wa X Z (e :: es) ρ m1 fun xs m2 => MetP X Z id t xs m2 P) (hty : typeOf (.builtin id) = pure (.type "method_descriptor") := by rfl)
    (hK : X.K = Z.K := by rfl) (hbase : attributeBase o name X.env (eval o X.env) = eval o X.env := by rfl)
    (hfew : ((backTo cpos (starEach (e :: es) X.env)).all (fun x => !x.1) && (backToKw cpos (keywordEach [] X.env)).all (fun x => x.1.isSome)
      && decide ((e :: es).length + ([] : List Keyword).length + (if ([] : List Keyword).isEmpty then 0 else 1) < 30)) = true := by rfl)
    (hline : (apos.endLine == cpos.line) = true := by rfl) (hs : starEach (e :: es) X.env = (false, eval e X.env) :: starEach es X.env := by rfl) (hplain : (backTo cpos (starEach es X.env)).any (·.1) = false := by rfl) :
    We X Z (.Call (.Attribute o name apos) (e :: es) [] cpos) ρ m P :=
  .of (pe_bm pa slot hty rb_sem pe_sem pa_sem hbase hfew hline hs hplain) fun σ B H Q he hS k => we_sub h he hS fun v B1 H1 m1 x a1 b1 c1 d1 e1 => by
    rw [hK]
    refine ⟨e1.1 B1 H1 v c1 d1, e1.2 σ B1 H1 _ b1 c1 fun vs B2 H2 m2 xs a2 c2 r2 e2 => ?_⟩
    exact e2 B2 H2 Q v vs c2 (TV.mono a2 d1) r2 fun v' B3 H3 m3 z a3 c3 d3 e3 => k v' B3 H3 m3 z ((a1.trans a2).trans a3) c3 d3 e3
theorem we_bm0 {o : Expr} {name : Str} {apos cpos : Pos} {T id : String} (pa : PlainAttrs T) (slot : Slot T name id) (h : We X Z o ρ m fun t m1 => TyP Z T t m1 ∧ MetP X Z id t [] m1 P) (hty : typeOf (.builtin id) = pure (.type "method_descriptor") := by rfl)
    (hK : X.K = Z.K := by rfl) (hbase : attributeBase o name X.env (eval o X.env) = eval o X.env := by rfl) (hline : (apos.endLine == cpos.line) = true := by rfl) : We X Z (.Call (.Attribute o name apos) [] [] cpos) ρ m P :=
  .of (pe_bm0 pa slot hty rb_sem pe_sem hbase hline) fun σ B H Q he hS k => we_sub h he hS fun v B1 H1 m1 x a1 b1 c1 d1 e1 => by
    rw [hK]
    exact ⟨e1.1 B1 H1 v c1 d1, e1.2 B1 H1 Q v [] c1 d1 .nil fun v' B3 H3 m3 z a3 c3 d3 e3 => k v' B3 H3 m3 z (a1.trans a3) c3 d3 e3⟩
end
end Ty

set_option Elab.async false
set_option linter.all false
set_option maxRecDepth 100000
set_option maxHeartbeats 2000000
namespace Ty
open PySem PySem.Spec PyProof.Rows L2

/-! ### what a def promises -/
/-- an exception: its class, its own attributes -/
structure XV where
  cls : Value
  fs : List (Str × TV)
def XV.rep (K : PySem.W.Frag) (B : Hp) (y : XV) (c : Value) (d : Option Addr) : Prop := c = y.cls ∧ ∃ dd vs, d = some dd ∧ B dd = some (.xd vs) ∧ FRep K B vs y.fs
abbrev TSpec := List TV → Mu → (TV → Mu → Prop) → (XV → Mu → Prop) → Prop
def spOf (K : PySem.W.Frag) (T : TSpec) : Sp := fun vs H Q E => ∃ (B : Hp) (m : Mu) (xs : List TV) (post : TV → Mu → Prop) (xpost : XV → Mu → Prop), HpOk K B H m ∧ Reps K B vs xs ∧ T xs m post xpost ∧
  (∀ v B' H' m' x, Go B H m B' H' m' → HpOk K B' H' m' → TV.rep K B' v x → post x m' → Q v H') ∧ (∀ c d B' H' m' y, Go B H m B' H' m' → HpOk K B' H' m' → XV.rep K B' y c d → xpost y m' → E c d H')
/-- what exceptions are taken here -/
def xk (Z : Zs) (ρ : TEnv) (xp : XV → TEnv → Mu → Prop) (σ : L2.St) : XK := fun c d H => ∃ B m y, EnvOk Z.K B σ ρ ∧ Sta Z B H m ∧ XV.rep Z.K B y c d ∧ xp y ρ m
def XT (X : Cx) (Z : Zs) (xp : XV → TEnv → Mu → Prop) : Prop := Takes X (fun c d σ H => ∃ ρ, xk Z ρ xp σ c d H)
def noX : XV → TEnv → Mu → Prop := fun _ _ _ => False
theorem xt0 {X : Cx} {Z : Zs} : XT X Z noX := fun _ _ x => by
  obtain ⟨_, _, _, _, _, _, _, _, _, _, _, _, _, _, _, _, _, _, _, _, _, _, _, z⟩ := x
  exact z.elim
theorem keys_app (a b : Mu) : keys (a ++ b) = keys a ++ keys b := List.map_append
theorem HpOk.part {K : PySem.W.Frag} {B H : Hp} {l1 mf l2 : Mu} (S : HpOk K B H (l1 ++ mf ++ l2)) : HpOk K B H mf := by
  refine ⟨S.ex, ?_, fun i p c h => S.at_ (l1.length + i) p c ?_⟩
  · have := S.nd
    rw [keys_app, keys_app] at this
    exact (List.nodup_append.mp (List.nodup_append.mp this).1).2.1
  · have hi : i < mf.length := (List.getElem?_eq_some_iff.mp h).1
    rw [List.append_assoc, List.getElem?_append_right (by omega), Nat.add_sub_cancel_left, List.getElem?_append_left hi]
    exact h
theorem HpOk.frame {K : PySem.W.Frag} {B H B' H' : Hp} {l1 mf l2 mf' : Mu} (S : HpOk K B H (l1 ++ mf ++ l2)) (g : Go B H mf B' H' mf') (h : HpOk K B' H' mf') : HpOk K B' H' (l1 ++ mf' ++ l2) := by
  have nd := S.nd
  rw [keys_app, keys_app] at nd
  obtain ⟨n12, n3, d3⟩ := List.nodup_append.mp nd
  obtain ⟨n1, n2, d2⟩ := List.nodup_append.mp n12
  have out : ∀ p, p ∈ keys l1 ∨ p ∈ keys l2 → p ∉ keys mf := fun p hp hm => by
    rcases hp with hp | hp
    · exact d2 p hp p hm rfl
    · exact d3 p (List.mem_append_right _ hm) p hp rfl
  have there : ∀ p, p ∈ keys l1 ∨ p ∈ keys l2 → B p = none ∧ H p ≠ none := fun p hp => S.mem (by
    rw [keys_app, keys_app]
    rcases hp with hp | hp
    · exact List.mem_append_left _ (List.mem_append_left _ hp)
    · exact List.mem_append_right _ hp)
  have out' : ∀ p, p ∈ keys l1 ∨ p ∈ keys l2 → p ∉ keys mf' := fun p hp hm => by
    rcases g.ks p hm with z | z
    · exact out p hp z
    · exact (there p hp).2 z
  have keep : ∀ p c, ((p, c) ∈ l1 ∨ (p, c) ∈ l2) → B' p = none ∧ ∃ o, H' p = some o ∧ c.ok K B' o := fun p c hp => by
    have hk : p ∈ keys l1 ∨ p ∈ keys l2 := hp.imp (fun z => List.mem_map.mpr ⟨_, z, rfl⟩) fun z => List.mem_map.mpr ⟨_, z, rfl⟩
    have hm : (p, c) ∈ l1 ++ mf ++ l2 := by
      rcases hp with z | z
      · exact List.mem_append_left _ (List.mem_append_left _ z)
      · exact List.mem_append_right _ z
    obtain ⟨i, hi⟩ := List.getElem?_of_mem hm
    obtain ⟨b0, o, ho, hc⟩ := S.at_ i p c hi
    refine ⟨?_, o, g.keep p o ho (out p hk), c.mono g.ext hc⟩
    cases q : B' p with
    | none => rfl
    | some u =>
      rcases g.nw p (by rw [q]; exact fun z => nomatch z) with z | z | z
      · exact absurd b0 z
      · rw [ho] at z; cases z
      · exact absurd z (out p hk)
  refine ⟨h.ex, ?_, fun i p c hi => ?_⟩
  · rw [keys_app, keys_app]
    refine List.nodup_append.mpr ⟨List.nodup_append.mpr ⟨n1, h.nd, fun a ha b hb e => ?_⟩, n3, fun a ha b hb e => ?_⟩
    · subst e; exact out' a (.inl ha) hb
    · subst e
      rcases List.mem_append.mp ha with z | z
      · exact d3 a (List.mem_append_left _ z) a hb rfl
      · exact out' a (.inr hb) z
  · have hm := List.mem_of_getElem? hi
    rcases List.mem_append.mp hm with hm | hm
    · rcases List.mem_append.mp hm with hm | hm
      · exact keep p c (.inl hm)
      · obtain ⟨j, hj⟩ := List.getElem?_of_mem hm
        exact h.at_ j p c hj
    · exact keep p c (.inr hm)
theorem Go.frame {B H B' H' : Hp} {l1 mf l2 mf' : Mu} (g : Go B H mf B' H' mf') (hn : ∀ p, p ∈ keys l1 ∨ p ∈ keys l2 → H p ≠ none) : Go B H (l1 ++ mf ++ l2) B' H' (l1 ++ mf' ++ l2) := by
  have sub : ∀ p, p ∈ keys mf → p ∈ keys (l1 ++ mf ++ l2) := fun p h => by
    rw [keys_app, keys_app]; exact List.mem_append_left _ (List.mem_append_right _ h)
  refine ⟨g.ext, fun a o h n => g.keep a o h fun z => n (sub a z), g.dom, fun a h => ?_, fun p h => ?_⟩
  · rcases g.nw a h with z | z | z
    · exact .inl z
    · exact .inr (.inl z)
    · exact .inr (.inr (sub a z))
  · rw [keys_app, keys_app] at h ⊢
    rcases List.mem_append.mp h with h | h
    · rcases List.mem_append.mp h with h | h
      · exact .inl (List.mem_append_left _ (List.mem_append_left _ h))
      · rcases g.ks p h with z | z
        · exact .inl (List.mem_append_left _ (List.mem_append_right _ z))
        · exact .inr z
    · exact .inl (List.mem_append_right _ h)
theorem Sta.call {Z : Zs} {B H B' H' : Hp} {l1 mf l2 mf' : Mu} (S : Sta Z B H (l1 ++ mf ++ l2)) (g : Go B H mf B' H' mf') (h : HpOk Z.K B' H' mf') : Sta Z B' H' (l1 ++ mf' ++ l2) :=
  ⟨S.hp.frame g h, S.go.trans (g.frame fun p hp => (S.hp.mem (by
    rw [keys_app, keys_app]
    rcases hp with hp | hp
    · exact List.mem_append_left _ (List.mem_append_left _ hp)
    · exact List.mem_append_right _ hp)).2)⟩
theorem HpOk.perm {K : PySem.W.Frag} {B H : Hp} {m m' : Mu} (S : HpOk K B H m) (h : m.Perm m') : HpOk K B H m' :=
  ⟨S.ex, (h.map _).nodup_iff.mp S.nd, fun i p c hi => by
    obtain ⟨j, hj⟩ := List.getElem?_of_mem (h.symm.subset (List.mem_of_getElem? hi))
    exact S.at_ j p c hj⟩
theorem Sta.perm {Z : Zs} {B H : Hp} {m m' : Mu} (S : Sta Z B H m) (h : m.Perm m') : Sta Z B H m' :=
  ⟨S.hp.perm h, ⟨S.go.ext, S.go.keep, S.go.dom, S.go.nw, fun p hp => S.go.ks p ((h.symm.map _).subset hp)⟩⟩
/-- a callee's promise, used where more may change -/
inductive FrP (T : TSpec) (xs : List TV) (m : Mu) (P : TV → Mu → Prop) (xp : XV → Mu → Prop) : Prop
  | part {l1 mf l2 : Mu} : m = l1 ++ mf ++ l2 → T xs mf (fun x mf' => P x (l1 ++ mf' ++ l2)) (fun y mf' => xp y (l1 ++ mf' ++ l2)) → FrP T xs m P xp
  | perm {mf r : Mu} : m.Perm (mf ++ r) → T xs mf (fun x mf' => ∃ m', (mf' ++ r).Perm m' ∧ P x m') (fun y mf' => ∃ m', (mf' ++ r).Perm m' ∧ xp y m') → FrP T xs m P xp
theorem FrP.all {T : TSpec} {xs : List TV} {m : Mu} {P : TV → Mu → Prop} {xp : XV → Mu → Prop} (h : T xs m P xp) : FrP T xs m P xp := .part (l1 := []) (mf := m) (l2 := []) (by simp) (by simpa using h)
/-- nothing is changed -/
theorem FrP.none {T : TSpec} {xs : List TV} {m : Mu} {P : TV → Mu → Prop} {xp : XV → Mu → Prop} (h : T xs [] (fun x mf' => P x (m ++ mf')) fun y mf' => xp y (m ++ mf')) : FrP T xs m P xp := .part (l1 := m) (mf := []) (l2 := []) (by simp) (by simpa using h)
theorem FrP.one {T : TSpec} {xs : List TV} {p : Addr} {c : MV} {m : Mu} {P : TV → Mu → Prop} {xp : XV → Mu → Prop} (h : T xs [(p, c)] (fun x mf' => P x (mf' ++ m)) fun y mf' => xp y (mf' ++ m)) : FrP T xs ((p, c) :: m) P xp := .part (l1 := []) (mf := [(p, c)]) (l2 := m) (by simp) (by simpa using h)
section
variable {X : Cx} {Z : Zs} {ρ : TEnv} {m : Mu} {D : DE} {P : TV → Mu → Prop} {xp : XV → TEnv → Mu → Prop} {T : TSpec}
theorem FrP.sp {xs : List TV} {vs : List V} {B H : Hp} {Q : VK} {σ : L2.St} (h : FrP T xs m P fun y m' => xp y ρ m') (he : EnvOk Z.K B σ ρ) (S : Sta Z B H m) (r : Reps Z.K B vs xs) (k : ∀ v B' H' m' x, Ex B B' → Sta Z B' H' m' → TV.rep Z.K B' v x → P x m' → Q v H') :
    spOf Z.K T vs H Q (xk Z ρ xp σ) := by
  rcases h with @⟨l1, mf, l2, e, t⟩ | @⟨mf, l, hp, t⟩
  · subst e
    exact ⟨B, mf, xs, _, _, S.hp.part, r, t, fun v B' H' m' x g ok rv p => k v B' H' _ x g.ext (S.call g ok) rv p, fun c d B' H' m' y g ok ry p => ⟨B', _, y, he.mono g.ext, S.call g ok, ry, p⟩⟩
  · have S2 : Sta Z B H ([] ++ mf ++ l) := S.perm hp
    exact ⟨B, mf, xs, _, _, S2.hp.part, r, t, fun v B' H' m' x g ok rv ⟨m2, q, p⟩ => k v B' H' m2 x g.ext ((S2.call g ok).perm q) rv p, fun c d B' H' m' y g ok ry ⟨m2, q, p⟩ => ⟨B', m2, y, he.mono g.ext, (S2.call g ok).perm q, ry, p⟩⟩
theorem spOf_imp {K : PySem.W.Frag} {vs : List V} {H : Hp} {Q : VK} {E E' : XK} (h : spOf K T vs H Q E) (k : ∀ c d H', E c d H' → E' c d H') : spOf K T vs H Q E' := by
  obtain ⟨B, m, xs, post, xpost, a, b, c, d, e⟩ := h
  exact ⟨B, m, xs, post, xpost, a, b, c, d, fun c d B' H' m' y g ok ry p => k c d H' (e c d B' H' m' y g ok ry p)⟩
variable {k n : Nat} {f C : Addr} {fd : FuncData} {ps : List Str} {x mname : Str} {p pos apos : Pos} {e o : Expr} {es : List Expr} {dvs : List V} {ds : List Value} {dts : List TV} {ks : List Str} {kws : List Keyword}
/-- a def keeps its promise wherever no guard is up around it -/
structure FnG (P : Program) (w : World) (K : PySem.W.Frag) (mg : Str → Option Value) (base : Heap) (k : Nat) (f : Addr) (fd : FuncData) (ps : List Str) (T : TSpec) : Prop where
  len : ∀ xs m post xp, T xs m post xp → xs.length = ps.length
  run : ∀ (A : Around) (outer : List Env) (s : Shared) (H : Hp) (args : Args) (us : List Value) (vs : List V) (Q : VK) (E : XK), A.guards = some [] → Room k A → Env0 P w K mg base A outer s H → BindsTo s fd args (ps.zip us) → Vals vs us →
    spOf K T vs H Q E → codeAny (model P w) A (.call (.ref f) args) (CR (L2.CX P w) outer P w H s Q E) s
theorem FnG.mono {P : Program} {w : World} {K : PySem.W.Frag} {mg : Str → Option Value} {base : Heap} {j k : Nat} (F : FnG P w K mg base j f fd ps T) (h : j ≤ k) : FnG P w K mg base k f fd ps T :=
  ⟨F.len, fun A outer s H args us vs Q E hg hr => F.run A outer s H args us vs Q E hg (hr.mono h)⟩
theorem spOf_len {K : PySem.W.Frag} {n : Nat} (len : ∀ xs m post xp, T xs m post xp → xs.length = n) {vs : List V} {H : Hp} {Q : VK} {E : XK} (h : spOf K T vs H Q E) : vs.length = n := by
  obtain ⟨B, m, xs, post, xp, _, r, t, _⟩ := h
  rw [r.length]; exact len _ _ _ _ t
/-- the defaults that fill up are flat values -/
def Flat (K : PySem.W.Frag) (dvs : List V) (dts : List TV) : Prop := ∀ B, Reps K B dvs dts
theorem flat0 {K : PySem.W.Frag} : Flat K [] [] := fun _ => .nil
theorem xt_passes (hx : XT X Z xp) (σ : L2.St) : PassesAt (L2.CX X.prog X.w) X σ (xk Z ρ xp σ) := fun pins H s e s' I c => hx e s' (XE.of_call I (fun _ _ _ h => ⟨ρ, h⟩) c)
def tCallX (sp : Sp) (dvs : List V) (E : L2.St → XK) (t : TA) : TE := fun σ H Q => t σ H fun vs H1 => sp (vs ++ dvs) H1 Q (E σ)
/-- how a def's parameters are bound by positional values and by values with names -/
structure BindsK (K : PySem.W.Frag) (fd : FuncData) (ps : List Str) (n : Nat) (ks : List Str) (g : List Value → List Value → List Value) (gV : List V → List V → List V) (gT : List TV → List TV → List TV) : Prop where
  to : ∀ (s : Shared) (us ws : List Value), K.In s.heap → us.length = n → ws.length = ks.length → BindsTo s fd ⟨us, ks.zip ws⟩ (ps.zip (g us ws))
  rel : ∀ {vs : List V} {us : List Value} {zs : List V} {ws : List Value}, Vals vs us → Vals zs ws → Vals (gV vs zs) (g us ws)
  rep : ∀ {B : Hp} {vs zs : List V} {xs ys : List TV}, Reps K B vs xs → Reps K B zs ys → Reps K B (gV vs zs) (gT xs ys)
/-- behind the call -/
theorem g_after {pins : List (Addr × Obj)} {σ : L2.St} {H : Hp} {s : Shared} {Q : VK} {E : XK} {c : Code} (hx : PassesAt (L2.CX X.prog X.w) X σ E) (I : Inv X pins σ H s) {r : Result} {s' : Shared} (h : CR (L2.CX X.prog X.w) X.stack X.prog X.w H s Q E r s') :
    match r with
    | .ok (.ret u) => EP X pins σ Q u s'
    | .ok _ => False
    | .error er => X.xe er s' := by
  match r, h with
  | .error er, h => exact hx pins H s er s' I h
  | .ok (.ret u), h => exact I.after h
  | .ok .next, h => exact h
  | .ok .brk, h => exact h
  | .ok .cont, h => exact h
theorem g_run {pins : List (Addr × Obj)} {σ : L2.St} {H : Hp} {s : Shared} {Q : VK} {E : XK} {us : List Value} {vs : List V} {args : Args} (F : FnG X.prog X.w X.K X.mg X.base k f fd ps T) (hg : X.A.guards = some []) (hr : Room k X.A) (hx : PassesAt (L2.CX X.prog X.w) X σ E)
    (I : Inv X pins σ H s) (hb : BindsTo s fd args (ps.zip us)) (r : Vals vs us) (h : spOf X.K T vs H Q E) : wpAny (model X.prog X.w) X.A (call (.ref f) args.pos args.kw) (EP X pins σ Q) X.xe s := by
  obtain ⟨pa, kw⟩ := args
  refine wpAny_call (codeAny_mono (F.run X.A X.stack s H ⟨pa, kw⟩ us vs Q E hg hr I.env0 hb r h) fun r s' q => ?_)
  have q2 := g_after (c := .call (.ref f) ⟨pa, kw⟩) hx I q
  revert q2
  cases r with
  | error er => exact fun q => q
  | ok fl => cases fl <;> exact fun q => q
theorem g_run0 {pins : List (Addr × Obj)} {σ : L2.St} {H : Hp} {s : Shared} {Q : VK} {E : XK} {us : List Value} {vs : List V} (F : FnG X.prog X.w X.K X.mg X.base k f fd ps T) (hg : X.A.guards = some []) (hr : Room k X.A) (hb : Binds X.K fd ps ds) (hd : Vals dvs ds)
    (hx : PassesAt (L2.CX X.prog X.w) X σ E) (I : Inv X pins σ H s) (r : Vals vs us) (h : spOf X.K T (vs ++ dvs) H Q E) : wpAny (model X.prog X.w) X.A (call (.ref f) us) (EP X pins σ Q) X.xe s := by
  have e := r.append hd
  exact g_run (args := ⟨us, []⟩) F hg hr hx I (hb s us I.kIn (e.length.symm.trans (spOf_len F.len h))) e h
theorem pg_call {E : L2.St → XK} {t : TA} (F : FnG X.prog X.w X.K X.mg X.base k f fd ps T) (hgd : X.A.guards = some []) (hr : Room k X.A) (hg : Gl X x) (hm : X.mg x = some (.ref f)) (hk : PySem.W.keepIn X.K (.ref f) = true) (hb : Binds X.K fd ps ds) (hd : Vals dvs ds)
    (hx : ∀ σ, PassesAt (L2.CX X.prog X.w) X σ (E σ)) (ha : PA X (e :: es) t) (hdb : (x == ("__debug__" : Str)) = false) (he : starEach (e :: es) X.env = (false, eval e X.env) :: starEach es X.env) (hpl : (backTo pos (starEach es X.env)).any (·.1) = false) :
    PE X (.Call (.Name x p) (e :: es) [] pos) (tCallX (spOf X.K T) dvs E t) := ⟨fun pins s σ H Q I h =>
  wpAny_Call_Name_kw (ld_glob I hg hm (PySem.W.callWith_K (h₀ := X.base) I.ok.mod.kin hk (thn (ha.run pos pins s σ H _ I h) fun us s1 ⟨vs, H1, I1, r, q⟩ => ⟨I1.kIn, g_run0 F hgd hr hb hd (hx σ) I1 r q⟩) he hpl) hdb)⟩
theorem pg_call0 {E : L2.St → XK} (F : FnG X.prog X.w X.K X.mg X.base k f fd ps T) (hgd : X.A.guards = some []) (hr : Room k X.A) (hg : Gl X x) (hm : X.mg x = some (.ref f)) (hk : PySem.W.keepIn X.K (.ref f) = true) (hb : Binds X.K fd ps ds) (hd : Vals dvs ds)
    (hx : ∀ σ, PassesAt (L2.CX X.prog X.w) X σ (E σ)) (hdb : (x == ("__debug__" : Str)) = false) : PE X (.Call (.Name x p) [] [] pos) (tCallX (spOf X.K T) dvs E tNil) := ⟨fun pins s σ H Q I h =>
  wpAny_Call_Name_kw (ld_glob I hg hm (PySem.W.callWith_K0 I.kIn hk (g_run0 (us := []) F hgd hr hb hd (hx σ) I .nil h)) hdb)⟩
/-- f(e, .., k = v, ..), f(k = v, ..) -/
def tCallKw (sp : Sp) (n m : Nat) (gV : List V → List V → List V) (E : L2.St → XK) (t tk : TA) : TE := fun σ H Q => t σ H fun vs H1 => tk σ H1 fun zs H2 => vs.length = n ∧ zs.length = m ∧ sp (gV vs zs) H2 Q (E σ)
theorem pg_callK {E : L2.St → XK} {t tk : TA} {n : Nat} {g : List Value → List Value → List Value} {gV : List V → List V → List V} {gT : List TV → List TV → List TV} (F : FnG X.prog X.w X.K X.mg X.base k f fd ps T) (hgd : X.A.guards = some []) (hr : Room k X.A) (hg : Gl X x) (hm : X.mg x = some (.ref f))
    (hk : PySem.W.keepIn X.K (.ref f) = true) (hb : BindsK X.K fd ps n ks g gV gT) (hx : ∀ σ, PassesAt (L2.CX X.prog X.w) X σ (E σ)) (ha : PA X (e :: es) t) (hkw : PK X kws tk) (hall : (backToKw pos (keywordEach kws X.env)).all (·.1.isSome) = true) (hks : (backToKw pos (keywordEach kws X.env)).filterMap (·.1) = ks)
    (hdb : (x == ("__debug__" : Str)) = false) (he : starEach (e :: es) X.env = (false, eval e X.env) :: starEach es X.env) (hpl : ((backTo pos (starEach (e :: es) X.env)).any (·.1) || (backToKw pos (keywordEach kws X.env)).any (·.1.isNone)) = false) :
    PE X (.Call (.Name x p) (e :: es) kws pos) (tCallKw (spOf X.K T) n ks.length gV E t tk) := ⟨fun pins s σ H Q I h => wpAny_Call_Name_kw (ld_glob I hg hm (PySem.W.callWith_KW (h₀ := X.base) I.ok.mod.kin hk hall
    (thn (ha.run pos pins s σ H _ I h) fun us s1 ⟨vs, H1, I1, r, q⟩ => thn (hkw.run pos pins s1 σ H1 _ I1 q) fun ws s2 ⟨zs, H2, I2, rz, l1, l2, q2⟩ => ⟨I2.kIn, by
      rw [hks]
      exact g_run (args := ⟨us, ks.zip ws⟩) F hgd hr (hx σ) I2 (hb.to s2 us ws I2.kIn (r.length.symm.trans l1) (rz.length.symm.trans l2)) (hb.rel r rz) q2⟩) hpl he) hdb)⟩
theorem pg_callK0 {E : L2.St → XK} {tk : TA} {g : List Value → List Value → List Value} {gV : List V → List V → List V} {gT : List TV → List TV → List TV} (F : FnG X.prog X.w X.K X.mg X.base k f fd ps T) (hgd : X.A.guards = some []) (hr : Room k X.A) (hg : Gl X x) (hm : X.mg x = some (.ref f))
    (hk : PySem.W.keepIn X.K (.ref f) = true) (hb : BindsK X.K fd ps 0 ks g gV gT) (hx : ∀ σ, PassesAt (L2.CX X.prog X.w) X σ (E σ)) (hkw : PK X kws tk) (hall : (backToKw pos (keywordEach kws X.env)).all (·.1.isSome) = true) (hks : (backToKw pos (keywordEach kws X.env)).filterMap (·.1) = ks)
    (hdb : (x == ("__debug__" : Str)) = false) (hpl : ((backTo pos (starEach [] X.env)).any (·.1) || (backToKw pos (keywordEach kws X.env)).any (·.1.isNone)) = false) :
    PE X (.Call (.Name x p) [] kws pos) (tCallKw (spOf X.K T) 0 ks.length gV E tNil tk) := ⟨fun pins s σ H Q I h => wpAny_Call_Name_kw (ld_glob I hg hm (PySem.W.callWith_KW0 (h₀ := X.base) I.ok.mod.kin hk hall
    (thn (hkw.run pos pins s σ H _ I h) fun ws s2 ⟨zs, H2, I2, rz, l1, l2, q2⟩ => ⟨I2.kIn, by
      rw [hks]
      exact g_run (args := ⟨[], ks.zip ws⟩) F hgd hr (hx σ) I2 (hb.to s2 [] ws I2.kIn rfl (rz.length.symm.trans l2)) (hb.rel .nil rz) q2⟩) hpl) hdb)⟩
/-- o.m(e, ..), o.m(), o.m(k = v, ..) -/
def tMethX (C : Addr) (mname : Str) (sp : Sp) (dvs : List V) (E : L2.St → XK) (ta : TE) (t : TA) : TE := fun σ H Q => ta σ H fun x H1 => ∃ a dx fs, x = .ref a ∧ H1 a = some (.ins C dx fs) ∧ fs.lookup mname = none ∧ t σ H1 fun vs H2 => sp (x :: (vs ++ dvs)) H2 Q (E σ)
theorem pg_meth {E : L2.St → XK} {pl : Sem Bool} {ta : TE} {t : TA} (he : PE X o ta) (c : Cls X.K C) (hM : Meth X.K C mname f) (F : FnG X.prog X.w X.K X.mg X.base k f fd ps T) (hgd : X.A.guards = some []) (hr : Room k X.A) (hb : Binds X.K fd ps ds) (hd : Vals dvs ds) (hx : ∀ σ, PassesAt (L2.CX X.prog X.w) X σ (E σ)) (ha : PA X (e :: es) t)
    (hst : starEach (e :: es) X.env = (false, eval e X.env) :: starEach es X.env) (hpl : (backTo pos (starEach es X.env)).any (·.1) = false)
    (ht : eval (.Call (.Attribute o mname apos) (e :: es) [] pos) X.env = (do
      let ov ← eval o X.env
      standAt apos.atName
      let (f, first) ← holding [ov] (getMethod ov mname pl)
      callWith pos f first (backTo pos (starEach (e :: es) X.env)) (backToKw pos (keywordEach [] X.env)))) :
    PE X (.Call (.Attribute o mname apos) (e :: es) [] pos) (tMethX C mname (spOf X.K T) dvs E ta t) := ⟨fun pins s σ H Q I h => by
  refine PySem.W.methodCall_KW (pl := pl) (thn (he.run pins s σ H _ I h) fun u s1 ⟨v, H1, I1, rx, a, dx, fs, ex, ea, l, q⟩ => ?_) ht
  subst ex
  cases (show u = Value.ref a from rx)
  exact getmeth_ok I1 ea c hM l (PySem.W.callWith_K (first := [.ref a]) (h₀ := X.base) I.ok.mod.kin hM.kp (thn (ha.run pos pins s1 σ H1 _ I1 q) fun us s2 ⟨vs, H2, I2, r, q2⟩ => ⟨I2.kIn, g_run0 (us := .ref a :: us) (vs := .ref a :: vs) F hgd hr hb hd (hx σ) I2 (.cons rfl r) q2⟩) hst hpl)⟩
theorem pg_meth0 {E : L2.St → XK} {pl : Sem Bool} {ta : TE} (he : PE X o ta) (c : Cls X.K C) (hM : Meth X.K C mname f) (F : FnG X.prog X.w X.K X.mg X.base k f fd ps T) (hgd : X.A.guards = some []) (hr : Room k X.A) (hb : Binds X.K fd ps ds) (hd : Vals dvs ds) (hx : ∀ σ, PassesAt (L2.CX X.prog X.w) X σ (E σ))
    (ht : eval (.Call (.Attribute o mname apos) [] [] pos) X.env = (do
      let ov ← eval o X.env
      standAt apos.atName
      let (f, first) ← holding [ov] (getMethod ov mname pl)
      callWith pos f first (backTo pos (starEach [] X.env)) (backToKw pos (keywordEach [] X.env)))) :
    PE X (.Call (.Attribute o mname apos) [] [] pos) (tMethX C mname (spOf X.K T) dvs E ta tNil) := ⟨fun pins s σ H Q I h => by
  refine PySem.W.methodCall_KW (pl := pl) (thn (he.run pins s σ H _ I h) fun u s1 ⟨v, H1, I1, rx, a, dx, fs, ex, ea, l, q⟩ => ?_) ht
  subst ex
  cases (show u = Value.ref a from rx)
  exact getmeth_ok I1 ea c hM l (PySem.W.callWith_K0 (first := [.ref a]) I1.kIn hM.kp (g_run0 (us := [.ref a]) (vs := [.ref a]) F hgd hr hb hd (hx σ) I1 (.cons rfl .nil) q))⟩
def tMethKw (C : Addr) (mname : Str) (sp : Sp) (m : Nat) (gV : List V → List V → List V) (E : L2.St → XK) (ta : TE) (tk : TA) : TE := fun σ H Q => ta σ H fun x H1 => ∃ a dx fs, x = .ref a ∧ H1 a = some (.ins C dx fs) ∧ fs.lookup mname = none ∧
  tk σ H1 fun zs H2 => zs.length = m ∧ sp (gV [x] zs) H2 Q (E σ)
theorem pg_methK0 {E : L2.St → XK} {pl : Sem Bool} {ta : TE} {tk : TA} {g : List Value → List Value → List Value} {gV : List V → List V → List V} {gT : List TV → List TV → List TV} (he : PE X o ta) (c : Cls X.K C) (hM : Meth X.K C mname f) (F : FnG X.prog X.w X.K X.mg X.base k f fd ps T) (hgd : X.A.guards = some []) (hr : Room k X.A)
    (hb : BindsK X.K fd ps 1 ks g gV gT) (hx : ∀ σ, PassesAt (L2.CX X.prog X.w) X σ (E σ)) (hkw : PK X kws tk) (hall : (backToKw pos (keywordEach kws X.env)).all (·.1.isSome) = true) (hks : (backToKw pos (keywordEach kws X.env)).filterMap (·.1) = ks)
    (hpl : ((backTo pos (starEach [] X.env)).any (·.1) || (backToKw pos (keywordEach kws X.env)).any (·.1.isNone)) = false)
    (ht : eval (.Call (.Attribute o mname apos) [] kws pos) X.env = (do
      let ov ← eval o X.env
      standAt apos.atName
      let (f, first) ← holding [ov] (getMethod ov mname pl)
      callWith pos f first (backTo pos (starEach [] X.env)) (backToKw pos (keywordEach kws X.env)))) :
    PE X (.Call (.Attribute o mname apos) [] kws pos) (tMethKw C mname (spOf X.K T) ks.length gV E ta tk) := ⟨fun pins s σ H Q I h => by
  refine PySem.W.methodCall_KW (pl := pl) (thn (he.run pins s σ H _ I h) fun u s1 ⟨v, H1, I1, rx, a, dx, fs, ex, ea, l, q⟩ => ?_) ht
  subst ex
  cases (show u = Value.ref a from rx)
  refine getmeth_ok I1 ea c hM l (PySem.W.callWith_KW0 (first := [.ref a]) (h₀ := X.base) I.ok.mod.kin hM.kp hall (thn (hkw.run pos pins s1 σ H1 _ I1 q) fun ws s2 ⟨zs, H2, I2, rz, l2, q2⟩ => ⟨I2.kIn, ?_⟩) hpl)
  rw [hks]
  exact g_run (args := ⟨[.ref a], ks.zip ws⟩) F hgd hr (hx σ) I2 (hb.to s2 [.ref a] ws I2.kIn rfl (rz.length.symm.trans l2)) (hb.rel (.cons (show RelV (V.ref a) (Value.ref a) from rfl) .nil) rz) q2⟩
/-! the same over the typed judgements -/
theorem wp_call {t : TA} (hx : XT X Z xp) (hf : Flat Z.K dvs dts) (h : WpA Z t ρ m fun xs m1 => FrP T (xs ++ dts) m1 P (fun y m' => xp y ρ m')) : Wp Z (tCallX (spOf Z.K T) dvs (xk Z ρ xp) t) ρ m P := fun σ B H Q he hs k =>
  h σ B H _ he hs fun vs B1 H1 m1 xs e1 s1 r1 w1 => w1.sp (he.mono e1) s1 (r1.append (hf B1)) fun v B' H' m' x e2 s2 r2 p2 => k v B' H' m' x (e1.trans e2) s2 r2 p2
/-- what stands of a def: its promise, its place, how its parameters are bound when n values are written and the defaults dts fill up -/
def DefK (P : Program) (w : World) (K : PySem.W.Frag) (mg : Str → Option Value) (base : Heap) (x : Str) (k : Nat) (T : TSpec) (dts : List TV) : Prop :=
  ∃ (f : Addr) (fd : FuncData) (ps : List Str) (dvs : List V) (ds : List Value), FnG P w K mg base k f fd ps T ∧ mg x = some (.ref f) ∧ PySem.W.keepIn K (.ref f) = true ∧ Binds K fd ps ds ∧ Vals dvs ds ∧ Flat K dvs dts
variable {k' : Nat}
theorem we_call (F : DefK X.prog X.w X.K X.mg X.base x k T dts) (hgd : X.A.guards = some []) (hr : Room k' X.A) (hx : XT X Z xp) (h : Wa X Z (e :: es) ρ m fun xs m1 => FrP T (xs ++ dts) m1 P (fun y m' => xp y ρ m')) (hkk : k ≤ k' := by decide) (hK : X.K = Z.K := by rfl) (hg : Gl X x := by rfl) (hdb : (x == ("__debug__" : Str)) = false := by decide)
    (he : starEach (e :: es) X.env = (false, eval e X.env) :: starEach es X.env := by rfl) (hpl : (backTo pos (starEach es X.env)).any (·.1) = false := by rfl) : We X Z (.Call (.Name x p) (e :: es) [] pos) ρ m P := by
  obtain ⟨f, fd, ps, dvs, ds, G, hm, hk, hb, hd, hf⟩ := F
  have W := wp_call hx (hK ▸ hf) h
  rw [← hK] at W
  exact .of (pg_call G hgd (hr.mono hkk) hg hm hk hb hd (xt_passes hx) pa_sem hdb he hpl) W
theorem we_call0 (F : DefK X.prog X.w X.K X.mg X.base x k T dts) (hgd : X.A.guards = some []) (hr : Room k' X.A) (hx : XT X Z xp) (h : FrP T dts m P (fun y m' => xp y ρ m')) (hkk : k ≤ k' := by decide) (hK : X.K = Z.K := by rfl) (hg : Gl X x := by rfl) (hdb : (x == ("__debug__" : Str)) = false := by decide) : We X Z (.Call (.Name x p) [] [] pos) ρ m P := by
  obtain ⟨f, fd, ps, dvs, ds, G, hm, hk, hb, hd, hf⟩ := F
  have W : Wp Z (tCallX (spOf Z.K T) dvs (xk Z ρ xp) tNil) ρ m P := wp_call hx (hK ▸ hf) fun σ B H Q he hs k => k [] B H m [] (Ex.refl _) hs .nil h
  rw [← hK] at W
  exact .of (pg_call0 G hgd (hr.mono hkk) hg hm hk hb hd (xt_passes hx) hdb) W
/-- values with names -/
def WpK (Z : Zs) (t : TA) (ρ : TEnv) (m : Mu) (R : List TV → Mu → Prop) : Prop := WpA Z t ρ m R
def tkS (X : Cx) (kws : List Keyword) : TA := fun σ H Q => ∀ (pos : Pos) (pins : List (Addr × Obj)) (s : Shared), Inv X pins σ H s → wpAny (model X.prog X.w) X.A (evalAll ((backToKw pos (keywordEach kws X.env)).map (·.2))) (AP X pins σ Q) X.xe s
theorem pk_sem : PK X kws (tkS X kws) := ⟨fun pos pins s _ _ _ I h => h pos pins s I⟩
abbrev Wk (X : Cx) (Z : Zs) (kws : List Keyword) (ρ : TEnv) (m : Mu) (R : List TV → Mu → Prop) : Prop := WpA Z (tkS X kws) ρ m R
theorem wk_nil {PA : List TV → Mu → Prop} (h : PA [] m) : Wk X Z [] ρ m PA := fun σ B H Q he hs k pos pins s I => pk_nil.run pos pins s σ H Q I (k [] B H m [] (Ex.refl _) hs .nil h)
theorem wk_cons {PA : List TV → Mu → Prop} {nm : Option Str} {kpos : Pos} (h : We X Z e ρ m fun x m1 => Wk X Z kws ρ m1 fun xs m2 => PA (x :: xs) m2) : Wk X Z (⟨nm, e, kpos⟩ :: kws) ρ m PA :=
  fun σ B H Q he hs k pos pins s I => (pk_cons pe_sem pk_sem).run pos pins s σ H Q I (h σ B H _ he hs fun v B1 H1 m1 x e1 s1 r1 w1 => w1 σ B1 H1 _ (he.mono e1) s1 fun vs B2 H2 m2 xs e2 s2 r2 p2 =>
    k (v :: vs) B2 H2 m2 (x :: xs) (e1.trans e2) s2 (.cons (TV.mono e2 r1) r2) p2)
/-- .. with names for the last parameters -/
def DefN (P : Program) (w : World) (K : PySem.W.Frag) (mg : Str → Option Value) (base : Heap) (x : Str) (k : Nat) (T : TSpec) (n : Nat) (ks : List Str) (gT : List TV → List TV → List TV) : Prop :=
  ∃ (f : Addr) (fd : FuncData) (ps : List Str) (g : List Value → List Value → List Value) (gV : List V → List V → List V), FnG P w K mg base k f fd ps T ∧ mg x = some (.ref f) ∧ PySem.W.keepIn K (.ref f) = true ∧ BindsK K fd ps n ks g gV gT
variable {gT : List TV → List TV → List TV}
theorem we_callK (F : DefN X.prog X.w X.K X.mg X.base x k T n ks gT) (hgd : X.A.guards = some []) (hr : Room k' X.A) (hx : XT X Z xp) (h : Wa X Z (e :: es) ρ m fun xs m1 => Wk X Z kws ρ m1 fun ys m2 => xs.length = n ∧ ys.length = ks.length ∧ FrP T (gT xs ys) m2 P (fun y m' => xp y ρ m')) (hkk : k ≤ k' := by decide) (hK : X.K = Z.K := by rfl) (hg : Gl X x := by rfl) (hdb : (x == ("__debug__" : Str)) = false := by decide)
    (hall : (backToKw pos (keywordEach kws X.env)).all (·.1.isSome) = true := by rfl) (hks : (backToKw pos (keywordEach kws X.env)).filterMap (·.1) = ks := by rfl) (he : starEach (e :: es) X.env = (false, eval e X.env) :: starEach es X.env := by rfl)
    (hpl : ((backTo pos (starEach (e :: es) X.env)).any (·.1) || (backToKw pos (keywordEach kws X.env)).any (·.1.isNone)) = false := by rfl) : We X Z (.Call (.Name x p) (e :: es) kws pos) ρ m P := by
  obtain ⟨f, fd, ps, g, gV, G, hm, hk, hb⟩ := F
  have W : Wp Z (tCallKw (spOf Z.K T) n ks.length gV (xk Z ρ xp) (taS X (e :: es)) (tkS X kws)) ρ m P := fun σ B H Q hE hs k => h σ B H _ hE hs fun vs B1 H1 m1 xs e1 s1 r1 w1 =>
    w1 σ B1 H1 _ (hE.mono e1) s1 fun zs B2 H2 m2 ys e2 s2 r2 ⟨l1, l2, p2⟩ => ⟨r1.length.trans l1, r2.length.trans l2, p2.sp (hE.mono (e1.trans e2)) s2 ((hK ▸ hb).rep (r1.mono e2) r2) fun v' B' H' m' x e3 s3 r3 p3 => k v' B' H' m' x ((e1.trans e2).trans e3) s3 r3 p3⟩
  rw [← hK] at W
  exact .of (pg_callK G hgd (hr.mono hkk) hg hm hk hb (xt_passes hx) pa_sem pk_sem hall hks hdb he hpl) W
theorem we_callK0 (F : DefN X.prog X.w X.K X.mg X.base x k T 0 ks gT) (hgd : X.A.guards = some []) (hr : Room k' X.A) (hx : XT X Z xp) (h : Wk X Z kws ρ m fun ys m2 => ys.length = ks.length ∧ FrP T (gT [] ys) m2 P (fun y m' => xp y ρ m')) (hkk : k ≤ k' := by decide) (hK : X.K = Z.K := by rfl) (hg : Gl X x := by rfl) (hdb : (x == ("__debug__" : Str)) = false := by decide)
    (hall : (backToKw pos (keywordEach kws X.env)).all (·.1.isSome) = true := by rfl) (hks : (backToKw pos (keywordEach kws X.env)).filterMap (·.1) = ks := by rfl)
    (hpl : ((backTo pos (starEach [] X.env)).any (·.1) || (backToKw pos (keywordEach kws X.env)).any (·.1.isNone)) = false := by rfl) : We X Z (.Call (.Name x p) [] kws pos) ρ m P := by
  obtain ⟨f, fd, ps, g, gV, G, hm, hk, hb⟩ := F
  have W : Wp Z (tCallKw (spOf Z.K T) 0 ks.length gV (xk Z ρ xp) tNil (tkS X kws)) ρ m P := fun σ B H Q hE hs k => h σ B H _ hE hs fun zs B2 H2 m2 ys e2 s2 r2 ⟨l2, p2⟩ =>
    ⟨rfl, r2.length.trans l2, p2.sp (hE.mono e2) s2 ((hK ▸ hb).rep .nil r2) fun v' B' H' m' x e3 s3 r3 p3 => k v' B' H' m' x (e2.trans e3) s3 r3 p3⟩
  rw [← hK] at W
  exact .of (pg_callK0 G hgd (hr.mono hkk) hg hm hk hb (xt_passes hx) pk_sem hall hks hdb hpl) W
/-- o.m(..): o an instance of the class at C -/
def InsP (Z : Zs) (C : Addr) (mname : Str) (t : TV) (m : Mu) : Prop := ∀ B H v, Sta Z B H m → t.rep Z.K B v → ∃ a dx fs, v = .ref a ∧ H a = some (.ins C dx fs) ∧ fs.lookup mname = none
def MetK (P : Program) (w : World) (K : PySem.W.Frag) (mg : Str → Option Value) (base : Heap) (C : Addr) (mname : Str) (k : Nat) (T : TSpec) (dts : List TV) : Prop :=
  Cls K C ∧ ∃ (f : Addr) (fd : FuncData) (ps : List Str) (dvs : List V) (ds : List Value), Meth K C mname f ∧ FnG P w K mg base k f fd ps T ∧ Binds K fd ps ds ∧ Vals dvs ds ∧ Flat K dvs dts
def MetN (P : Program) (w : World) (K : PySem.W.Frag) (mg : Str → Option Value) (base : Heap) (C : Addr) (mname : Str) (k : Nat) (T : TSpec) (ks : List Str) (gT : List TV → List TV → List TV) : Prop :=
  Cls K C ∧ ∃ (f : Addr) (fd : FuncData) (ps : List Str) (g : List Value → List Value → List Value) (gV : List V → List V → List V), Meth K C mname f ∧ FnG P w K mg base k f fd ps T ∧ BindsK K fd ps 1 ks g gV gT
theorem we_meth {pl : Sem Bool} (F : MetK X.prog X.w X.K X.mg X.base C mname k T dts) (hgd : X.A.guards = some []) (hr : Room k' X.A) (hx : XT X Z xp) (h : We X Z o ρ m fun t m1 => InsP Z C mname t m1 ∧ Wa X Z (e :: es) ρ m1 fun xs m2 => FrP T (t :: (xs ++ dts)) m2 P (fun y m' => xp y ρ m')) (hkk : k ≤ k' := by decide) (hK : X.K = Z.K := by rfl)
    (hst : starEach (e :: es) X.env = (false, eval e X.env) :: starEach es X.env := by rfl) (hpl : (backTo pos (starEach es X.env)).any (·.1) = false := by rfl)
    (ht : eval (.Call (.Attribute o mname apos) (e :: es) [] pos) X.env = (do
      let ov ← eval o X.env
      standAt apos.atName
      let (f, first) ← holding [ov] (getMethod ov mname pl)
      callWith pos f first (backTo pos (starEach (e :: es) X.env)) (backToKw pos (keywordEach [] X.env))) := by rfl) : We X Z (.Call (.Attribute o mname apos) (e :: es) [] pos) ρ m P := by
  obtain ⟨c, f, fd, ps, dvs, ds, hM, G, hb, hd, hf⟩ := F
  have W : Wp Z (tMethX C mname (spOf Z.K T) dvs (xk Z ρ xp) (teS X o) (taS X (e :: es))) ρ m P := fun σ B H Q he hs k => we_sub h he hs fun v B1 H1 m1 t a1 b1 c1 d1 e1 => by
    obtain ⟨a, dx, fs, ev, ha, hl⟩ := e1.1 B1 H1 v c1 d1
    refine ⟨a, dx, fs, ev, ha, hl, e1.2 σ B1 H1 _ b1 c1 fun vs B2 H2 m2 xs a2 c2 r2 w2 => ?_⟩
    exact w2.sp (b1.mono a2) c2 (.cons (TV.mono a2 d1) (r2.append ((hK ▸ hf) B2))) fun v' B' H' m' x e3 s3 r3 p3 => k v' B' H' m' x ((a1.trans a2).trans e3) s3 r3 p3
  rw [← hK] at W
  exact .of (pg_meth pe_sem c hM G hgd (hr.mono hkk) hb hd (xt_passes hx) pa_sem hst hpl ht) W
theorem we_meth0 {pl : Sem Bool} (F : MetK X.prog X.w X.K X.mg X.base C mname k T dts) (hgd : X.A.guards = some []) (hr : Room k' X.A) (hx : XT X Z xp) (h : We X Z o ρ m fun t m1 => InsP Z C mname t m1 ∧ FrP T (t :: dts) m1 P (fun y m' => xp y ρ m')) (hkk : k ≤ k' := by decide) (hK : X.K = Z.K := by rfl)
    (ht : eval (.Call (.Attribute o mname apos) [] [] pos) X.env = (do
      let ov ← eval o X.env
      standAt apos.atName
      let (f, first) ← holding [ov] (getMethod ov mname pl)
      callWith pos f first (backTo pos (starEach [] X.env)) (backToKw pos (keywordEach [] X.env))) := by rfl) : We X Z (.Call (.Attribute o mname apos) [] [] pos) ρ m P := by
  obtain ⟨c, f, fd, ps, dvs, ds, hM, G, hb, hd, hf⟩ := F
  have W : Wp Z (tMethX C mname (spOf Z.K T) dvs (xk Z ρ xp) (teS X o) tNil) ρ m P := fun σ B H Q he hs k => we_sub h he hs fun v B1 H1 m1 t a1 b1 c1 d1 e1 => by
    obtain ⟨a, dx, fs, ev, ha, hl⟩ := e1.1 B1 H1 v c1 d1
    exact ⟨a, dx, fs, ev, ha, hl, (e1.2.sp b1 c1 (.cons d1 ((hK ▸ hf) B1)) fun v' B' H' m' x e3 s3 r3 p3 => k v' B' H' m' x (a1.trans e3) s3 r3 p3 : spOf Z.K T (v :: ([] ++ dvs)) H1 Q (xk Z ρ xp σ))⟩
  rw [← hK] at W
  exact .of (pg_meth0 pe_sem c hM G hgd (hr.mono hkk) hb hd (xt_passes hx) ht) W
theorem we_methK0 {pl : Sem Bool} (F : MetN X.prog X.w X.K X.mg X.base C mname k T ks gT) (hgd : X.A.guards = some []) (hr : Room k' X.A) (hx : XT X Z xp) (h : We X Z o ρ m fun t m1 => InsP Z C mname t m1 ∧ Wk X Z kws ρ m1 fun ys m2 => ys.length = ks.length ∧ FrP T (gT [t] ys) m2 P (fun y m' => xp y ρ m')) (hkk : k ≤ k' := by decide) (hK : X.K = Z.K := by rfl)
    (hall : (backToKw pos (keywordEach kws X.env)).all (·.1.isSome) = true := by rfl) (hks : (backToKw pos (keywordEach kws X.env)).filterMap (·.1) = ks := by rfl) (hpl : ((backTo pos (starEach [] X.env)).any (·.1) || (backToKw pos (keywordEach kws X.env)).any (·.1.isNone)) = false := by rfl)
    (ht : eval (.Call (.Attribute o mname apos) [] kws pos) X.env = (do
      let ov ← eval o X.env
      standAt apos.atName
      let (f, first) ← holding [ov] (getMethod ov mname pl)
      callWith pos f first (backTo pos (starEach [] X.env)) (backToKw pos (keywordEach kws X.env))) := by rfl) : We X Z (.Call (.Attribute o mname apos) [] kws pos) ρ m P := by
  obtain ⟨c, f, fd, ps, g, gV, hM, G, hb⟩ := F
  have W : Wp Z (tMethKw C mname (spOf Z.K T) ks.length gV (xk Z ρ xp) (teS X o) (tkS X kws)) ρ m P := fun σ B H Q he hs k => we_sub h he hs fun v B1 H1 m1 t a1 b1 c1 d1 e1 => by
    obtain ⟨a, dx, fs, ev, ha, hl⟩ := e1.1 B1 H1 v c1 d1
    subst ev
    refine ⟨a, dx, fs, rfl, ha, hl, e1.2 σ B1 H1 _ b1 c1 fun zs B2 H2 m2 ys a2 c2 r2 ⟨l2, w2⟩ => ⟨r2.length.trans l2, ?_⟩⟩
    exact w2.sp (b1.mono a2) c2 ((hK ▸ hb).rep (.cons (TV.mono a2 d1) .nil) r2) fun v' B' H' m' x e3 s3 r3 p3 => k v' B' H' m' x ((a1.trans a2).trans e3) s3 r3 p3
  rw [← hK] at W
  exact .of (pg_methK0 pe_sem c hM G hgd (hr.mono hkk) hb (xt_passes hx) pk_sem hall hks hpl ht) W
/-! C(..) -/
theorem FrP.last {xs : List TV} {p : Addr} {c : MV} {xp : XV → Mu → Prop} (h : T xs [(p, c)] (fun x mf' => P x (m ++ mf')) fun y mf' => xp y (m ++ mf')) : FrP T xs (m ++ [(p, c)]) P xp := .part (l1 := m) (mf := [(p, c)]) (l2 := []) (by simp) (by simpa using h)
theorem Sta.extra {B H : Hp} {q : Addr} {u : HO} (S : Sta Z B H m) (hq : H q = Option.none) : Sta Z B (upd H q u) m := by
  have hb := S.noneB hq
  refine ⟨⟨S.ex.off hb, S.hp.nd, fun i a c h => ?_⟩, ⟨S.go.ext, fun a v h n => ?_, fun a h => ?_, S.go.nw, S.go.ks⟩⟩
  · obtain ⟨h1, v, h2, h3⟩ := S.hp.at_ i a c h
    exact ⟨h1, v, by rw [upd_ne (ne_of_none h2 hq)]; exact h2, h3⟩
  · have := S.go.keep a v h n
    rw [upd_ne (ne_of_none this hq)]; exact this
  · by_cases e : a = q
    · subst e; rw [upd_same]; exact fun z => nomatch z
    · rw [upd_ne e]; exact S.go.dom a h
theorem under_guards {A : Around} {C : Addr} {us : List Value} {kw : List (Str × Value)} : (A.under (.builtin "type.__call__" ⟨.ref C :: us, kw⟩)).guards = A.guards := by
  first | rfl | simp [Around.under, Code.guards, Code.isGuard, guardIds, pushGuards]
/-- what stands of a class that is made: its __init__'s promise -/
def MakK (P : Program) (w : World) (K : PySem.W.Frag) (mg : Str → Option Value) (base : Heap) (x : Str) (C : Addr) (k : Nat) (T : TSpec) (dts : List TV) : Prop :=
  mg x = some (.ref C) ∧ ∃ (f : Addr) (fd : FuncData) (ps : List Str) (dvs : List V) (ds : List Value), Mk K C f ∧ FnG P w K mg base k f fd ps T ∧ Binds K fd ps ds ∧ Vals dvs ds ∧ Flat K dvs dts
theorem g_make {pins : List (Addr × Obj)} {σ : L2.St} {H : Hp} {s : Shared} {Q : VK} {E : XK} {us : List Value} {vs : List V} (M : Mk X.K C f) (F : FnG X.prog X.w X.K X.mg X.base k f fd ps T) (hg : X.A.guards = some []) (hr : Room (k + 1) X.A) (hb : Binds X.K fd ps ds) (hd : Vals dvs ds)
    (hx : PassesAt (L2.CX X.prog X.w) X σ E) (I : Inv X pins σ H s) (r : Vals vs us)
    (h : ∀ a dx, H a = Option.none → H dx = Option.none → dx ≠ a → spOf X.K T (.ref a :: (vs ++ dvs)) (upd (upd H dx (.own a)) a (.ins C dx [])) (fun v H2 => v = .non ∧ Q (.ref a) H2) E) :
    wpAny (model X.prog X.w) X.A (call (.ref C) us) (EP X pins σ Q) X.xe s := by
  have hq := h (s.heap.objs.size + 1) s.heap.objs.size (I.hok.fresh (Nat.le_succ _)) (I.hok.fresh (Nat.le_refl _)) (Nat.ne_of_lt (Nat.lt_succ_self _))
  have J := Inv.made (C := C) I
  have rv : Vals (V.ref (s.heap.objs.size + 1) :: (vs ++ dvs)) (Value.ref (s.heap.objs.size + 1) :: (us ++ ds)) := .cons (show RelV (V.ref _) (Value.ref _) from rfl) (r.append hd)
  have ln : (Value.ref (s.heap.objs.size + 1) :: (us ++ ds)).length = ps.length := rv.length.symm.trans (spOf_len F.len hq)
  have go := F.run _ X.stack _ _ ⟨Value.ref (s.heap.objs.size + 1) :: us, []⟩ (Value.ref (s.heap.objs.size + 1) :: (us ++ ds)) _ _ E (under_guards.trans hg) (hr.make C us []) (J.env0.make C us []) (hb _ (Value.ref (s.heap.objs.size + 1) :: us) J.kIn ln) rv hq
  refine wpAny_call (make_map (f := f) I.kIn M.makes M.init (beq_iff_eq.mp M.fn) (codeAny_mono go fun r s' q => ?_))
  match r, q with
  | .error er, q => exact hx pins _ _ er s' J q
  | .ok (.ret u), q =>
    obtain ⟨v, H', I3, rv, ev, q3⟩ := J.after q
    subst ev
    exact ⟨rv, ⟨V.ref (s.heap.objs.size + 1), H', I3, rfl, q3⟩⟩
  | .ok .next, q => exact q.elim
  | .ok .brk, q => exact q.elim
  | .ok .cont, q => exact q.elim
theorem make_sp {xs : List TV} {vs : List V} {B H : Hp} {Q : VK} (hf : Flat Z.K dvs dts) (h : ∀ a, FrP T (tv (Ref.mk a) :: (xs ++ dts)) (m ++ [(a, mI C [])]) (fun t m2 => t = tv () ∧ P (tv (Ref.mk a)) m2) fun y m' => xp y ρ m') {σ : L2.St} (he : EnvOk Z.K B σ ρ) (S : Sta Z B H m) (r : Reps Z.K B vs xs)
    (k : ∀ v B' H' m' x, Ex B B' → Sta Z B' H' m' → TV.rep Z.K B' v x → P x m' → Q v H') : ∀ a dx, H a = Option.none → H dx = Option.none → dx ≠ a →
      spOf Z.K T (.ref a :: (vs ++ dvs)) (upd (upd H dx (.own a)) a (.ins C dx [])) (fun v H2 => v = .non ∧ Q (.ref a) H2) (xk Z ρ xp σ) := fun a dx ha hdx ne => by
  have s1 : Sta Z B (upd H dx (.own a)) m := S.extra hdx
  have h1 : upd H dx (.own a) a = Option.none := by rw [upd_ne (Ne.symm ne)]; exact ha
  have s2 := s1.newM (o := .ins C dx []) h1 (c := mI C []) ⟨dx, [], rfl, .nil⟩
  refine (h a).sp he s2 (.cons (show V.ref a = .ref a from rfl) (r.append (hf B))) fun v B' H' m' x e s3 r3 ⟨e1, p⟩ => ?_
  subst e1
  exact ⟨r3, k (.ref a) B' H' m' (tv (Ref.mk a)) e s3 (show V.ref a = .ref a from rfl) p⟩
theorem we_make (F : MakK X.prog X.w X.K X.mg X.base x C k T dts) (hgd : X.A.guards = some []) (hr : Room k' X.A) (hx : XT X Z xp) (h : Wa X Z (e :: es) ρ m fun xs m1 => ∀ a, FrP T (tv (Ref.mk a) :: (xs ++ dts)) (m1 ++ [(a, mI C [])]) (fun t m2 => t = tv () ∧ P (tv (Ref.mk a)) m2) fun y m' => xp y ρ m') (hkk : k + 1 ≤ k' := by decide) (hK : X.K = Z.K := by rfl) (hg : Gl X x := by rfl) (hdb : (x == ("__debug__" : Str)) = false := by decide)
    (he : starEach (e :: es) X.env = (false, eval e X.env) :: starEach es X.env := by rfl) (hpl : (backTo pos (starEach es X.env)).any (·.1) = false := by rfl) : We X Z (.Call (.Name x p) (e :: es) [] pos) ρ m P := by
  obtain ⟨hm, f, fd, ps, dvs, ds, M, G, hb, hd, hf⟩ := F
  refine fun σ B H Q hE hs k pins s I => wpAny_Call_Name_kw (ld_glob I hg hm ?_ hdb)
  refine PySem.W.callWith_K (h₀ := X.base) I.ok.mod.kin M.kp (h σ B H (fun vs H1 => ∀ a dx, H1 a = Option.none → H1 dx = Option.none → dx ≠ a → spOf Z.K T (.ref a :: (vs ++ dvs)) (upd (upd H1 dx (.own a)) a (.ins C dx [])) (fun v H2 => v = .non ∧ Q (.ref a) H2) (xk Z ρ xp σ))
    hE hs (fun vs B1 H1 m1 xs e1 s1 r1 w1 => make_sp (hK ▸ hf) w1 (hE.mono e1) s1 r1 fun v' B' H' m' x e3 s3 r3 p3 => k v' B' H' m' x (e1.trans e3) s3 r3 p3) pos pins s I |> fun w => thn w fun us s1 ⟨vs, H1, I1, r, q⟩ => ⟨I1.kIn, ?_⟩) he hpl
  exact g_make M G hgd (hr.mono hkk) hb hd (xt_passes hx σ) I1 r (hK ▸ q)
theorem we_make0 (F : MakK X.prog X.w X.K X.mg X.base x C k T dts) (hgd : X.A.guards = some []) (hr : Room k' X.A) (hx : XT X Z xp) (h : ∀ a, FrP T (tv (Ref.mk a) :: dts) (m ++ [(a, mI C [])]) (fun t m2 => t = tv () ∧ P (tv (Ref.mk a)) m2) fun y m' => xp y ρ m') (hkk : k + 1 ≤ k' := by decide) (hK : X.K = Z.K := by rfl) (hg : Gl X x := by rfl) (hdb : (x == ("__debug__" : Str)) = false := by decide) :
    We X Z (.Call (.Name x p) [] [] pos) ρ m P := by
  obtain ⟨hm, f, fd, ps, dvs, ds, M, G, hb, hd, hf⟩ := F
  refine fun σ B H Q hE hs k pins s I => wpAny_Call_Name_kw (ld_glob I hg hm (PySem.W.callWith_K0 I.kIn M.kp ?_) hdb)
  have q := make_sp (xs := []) (hK ▸ hf) h hE hs .nil fun v' B' H' m' x e3 s3 r3 p3 => k v' B' H' m' x e3 s3 r3 p3
  exact g_make (us := []) (vs := []) M G hgd (hr.mono hkk) hb hd (xt_passes hx σ) I .nil (hK ▸ q)
end
/-! ### a def's body -/
theorem envOk_start {K : PySem.W.Frag} {B : Hp} {N : List Str} {vs : List V} {xs : List TV} (r : Reps K B vs xs) : EnvOk K B (start N vs) (xs.map some ++ List.replicate (N.length - xs.length) none) := by
  refine ⟨by simp [L2.start, r.length], fun i t h => ?_⟩
  by_cases hi : i < xs.length
  · rw [List.getElem?_append_left (by simpa using hi), List.getElem?_map] at h
    cases e : xs[i]? with
    | none => rw [e] at h; cases h
    | some y =>
      rw [e] at h
      cases h
      obtain ⟨v, hv, q⟩ := r.at' e
      refine ⟨v, ?_, q⟩
      unfold L2.start
      rw [List.getElem?_append_left (by rw [List.length_map, r.length]; exact hi), List.getElem?_map, hv]
      rfl
  · rw [List.getElem?_append_right (by simpa using hi), List.getElem?_replicate] at h
    split at h <;> cases h
section
variable {P : Program} {w : World} {K : PySem.W.Frag} {mg : Str → Option Value} {base : Heap} {x qual : Str} {params : Arguments} {body : List Stmt} {scope : Scope} {dvs : List V} {kws : List (Str × V)} {f : Addr} {fd : FuncData}
/-- the context of a def's body -/
abbrev bodyX (P : Program) (w : World) (K : PySem.W.Frag) (mg : Str → Option Value) (base : Heap) (N : List Str) (qual : Str) (scope : Scope) (f : Addr) (cdv : Value) (A : Around) (outer : List Env) (s : Shared) (H : Hp) (E : XK) : Cx :=
  cxOf (L2.CX P w) P w K mg base N qual scope f cdv A outer s H E
theorem fn_ok {N ps : List Str} {k : Nat} {T : TSpec} (F : FunD K x qual params body scope dvs kws f fd) (S : FnScope N ps scope) (len : ∀ xs m post xpost, T xs m post xpost → xs.length = ps.length)
    (hbody : ∀ (cdv : Value) (A : Around) (outer : List Env) (s : Shared) (H : Hp) (E : XK) (B0 H0 : Hp) (xs : List TV) (m : Mu) (post : TV → Mu → Prop) (xpost : XV → Mu → Prop), (bodyX P w K mg base N qual scope f cdv A outer s H E).A.guards = some [] → Room k (bodyX P w K mg base N qual scope f cdv A outer s H E).A → T xs m post xpost →
      XT (bodyX P w K mg base N qual scope f cdv A outer s H E) ⟨K, B0, H0, m⟩ (fun y _ m' => xpost y m') →
      Wss (bodyX P w K mg base N qual scope f cdv A outer s H E) ⟨K, B0, H0, m⟩ body (xs.map some ++ List.replicate (N.length - xs.length) none) m { nx := fun _ m' => post (tv ()) m', rt := post }) :
    FnG P w K mg base (k + 1) f fd ps T := by
  obtain ⟨oc, od, dV, kV, doc, pm, an, cdv, ct, osl, rfl, lk, hcd, _, _⟩ := F.ex
  refine ⟨len, fun A outer s H args us vs Q E hg hr e0 hb r hsp => ?_⟩
  obtain ⟨B, m, xs, post, xpost, ok, rr, t, k1, k2⟩ := id hsp
  have hl := spOf_len len hsp
  have KX : K.In s.heap := e0.mod.kin.keeps fun b o e => (e0.bs b o e).1
  refine codeAny_call_function hr.depth (KX _ _ lk) rfl S.co S.gen rfl (PySem.W.codeRec_of KX hcd) (hb _ _ _ _ ?_)
  refine wpAny_newFunctionEnv_cells S.kind (fun y hy => ?_) fun env he s1 x1 => ?_
  · rcases S.par y.1 (List.of_mem_zip (a := y.1) (b := y.2) hy).1 with q | q
    · exact .inl q
    · exact .inr ⟨q, PySem.W.cellsFrom_some _ _ _ (.inl q)⟩
  subst he
  refine ⟨(e0.mod.nolimit.keeps fun b o e => (e0.bs b o e).1).keeps x1.toInCall.keep, codeAny_func ?_⟩
  have I : Inv (bodyX P w K mg base N qual scope f cdv A outer s H E) [] (L2.start N vs) H s1 := inv_start S hr.hd e0 hl r x1
  have W := hbody cdv A outer s H E B H xs m post xpost hg (hr.deeper _) t ((takes_of (E := E) rfl rfl rfl rfl).imp fun c d σ H' ⟨_, B', m', y, _, s', ry, p⟩ => k2 c d B' H' m' y s'.go s'.hp ry p)
  have go := W (L2.start N vs) B H { nx := fun _ H' => Q .non H', rt := Q } (envOk_start rr) ⟨ok, .refl⟩ ⟨fun s' B' H' r' m' a b c d => k1 .non B' H' m' (tv ()) c.go c.hp (show V.non = .non from rfl) d,
    fun v B' H' m' x a b c d => k1 v B' H' m' x b.go b.hp c d, fun _ _ _ _ _ _ _ _ z => z.elim, fun _ _ _ _ _ _ _ _ z => z.elim⟩ [] s1 I
  refine wpAny_mono go (fun fl s' hs => ?_) fun e s' hs => hs
  match fl, hs with
  | .ret u, ⟨v, σ', H', J, rv, q⟩ => exact ⟨v, H', J.os, J.bare, J.base, J.hok, rv, q⟩
  | .next, ⟨σ', H', J, q⟩ => exact ⟨.non, H', J.os, J.bare, J.base, J.hok, rfl, q⟩
  | .brk, ⟨σ', H', J, q⟩ => exact q.elim
  | .cont, ⟨σ', H', J, q⟩ => exact q.elim
/-- every parameter is given -/
theorem defK_mk {k : Nat} {T : TSpec} {ps : List Str} {params : Arguments} {body : List Stmt} {scope : Scope} {kws : List (Str × V)} (F : FunD K x qual params body scope [] kws f fd) (G : FnG P w K mg base k f fd ps T) (hm : mg x = some (.ref f))
    (h : ∀ (kV doc pm : Value) (an : Option Addr) (cdv ct : Value) (us : List Value), us.length = ps.length → bindArgs (PySem.W.fnOf x qual params body scope .none kV doc pm an cdv ct) ⟨us, []⟩ = pure (ps.zip us)) : DefK P w K mg base x k T [] :=
  ⟨f, fd, ps, [], [], G, hm, F.kp, F.bindsN h, .nil, flat0⟩
end
end Ty

set_option Elab.async false
set_option linter.all false
set_option maxRecDepth 100000
set_option maxHeartbeats 2000000
namespace Ty
open PySem PySem.Spec PyProof.Rows L2

/-! ### what is walked -/
def TIt (Z : Zs) (J : It) (items : List TV) (Gd : Mu → Prop) (B : Hp) : Prop := ∀ B' H' m', Ex B B' → Sta Z B' H' m' → Gd m' →
  (∀ i t, items[i]? = some t → J.go i H' ∧ ∀ x H'', J.yld i H' x H'' → ∃ B'', Ex B' B'' ∧ Sta Z B'' H'' m' ∧ t.rep Z.K B'' x) ∧ J.stop items.length H'
def WpI (Z : Zs) (wi : TI) (ρ : TEnv) (m : Mu) (R : List TV → (Mu → Prop) → Mu → Prop) : Prop := ∀ (σ : L2.St) (B H : Hp) (Q : It → Hp → Prop), EnvOk Z.K B σ ρ → Sta Z B H m →
  (∀ J B' H' m' items Gd, Ex B B' → Sta Z B' H' m' → TIt Z J items Gd B' → R items Gd m' → Q J H') → wi σ H Q
def tiS (X : Cx) (tg iter : Expr) : TI := fun σ H R => ∀ (pins : List (Addr × Obj)) (s : Shared), Inv X pins σ H s → wpAny (model X.prog X.w) X.A (eval iter X.env) (fun v s1 => wpAny (model X.prog X.w) X.A (pyIter v) (PIE X pins σ tg R) X.xe s1) X.xe s
theorem pi_sem {X : Cx} {tg iter : Expr} : PI X tg iter (tiS X tg iter) := ⟨fun pins s _ _ _ I h => h pins s I⟩
abbrev Wi (X : Cx) (Z : Zs) (tg iter : Expr) (ρ : TEnv) (m : Mu) (R : List TV → (Mu → Prop) → Mu → Prop) : Prop := WpI Z (tiS X tg iter) ρ m R
section
variable {X : Cx} {Z : Zs} {ρ : TEnv} {m : Mu} {D : DE} {P : TV → Mu → Prop} {R : List TV → (Mu → Prop) → Mu → Prop} {tg iter : Expr}
theorem Wi.of {wi : TI} (h : PI X tg iter wi) (w : WpI Z wi ρ m R) : Wi X Z tg iter ρ m R := fun σ B H Q a b c pins s I => h.run pins s σ H Q I (w σ B H Q a b c)
def gd0 : Mu → Prop := fun _ => True
/-- a list, by what it holds -/
inductive IterL (Z : Zs) (R : List TV → (Mu → Prop) → Mu → Prop) (t : TV) (m : Mu) : Prop
  | data {α : Type} [Rep α] {xs : List α} : t = tv xs → R (xs.map fun x => tv x) gd0 m → IterL Z R t m
  | own {p : Addr} {i : Nat} {ts : List TV} : t = tv (Ref.mk p) → m[i]? = some (p, mL ts) → R ts (fun (m' : Mu) => ∃ j : Nat, m'[j]? = some (p, mL ts)) m → IterL Z R t m
theorem get_map {α β : Type _} {f : α → β} {xs : List α} {i : Nat} {t : β} (h : (xs.map f)[i]? = some t) : ∃ x, xs[i]? = some x ∧ t = f x := by
  rw [List.getElem?_map] at h
  cases e : xs[i]? with
  | none => rw [e] at h; cases h
  | some x => rw [e] at h; cases h; exact ⟨x, rfl, rfl⟩
theorem mL_at {B H : Hp} {p : Addr} {i : Nat} {ts : List TV} (S : Sta Z B H m) (h : m[i]? = some (p, mL ts)) : ∃ vs, H p = some (.lst vs) ∧ Reps Z.K B vs ts := by
  obtain ⟨_, o, ho, vs, e, r⟩ := S.hp.at_ i p _ h
  subst e
  exact ⟨vs, ho, r⟩
theorem wi_list (h : We X Z iter ρ m fun t m1 => IterL Z R t m1) (hK : X.K = Z.K := by rfl) : Wi X Z tg iter ρ m R := by
  refine .of (pi_list pe_sem) fun σ B H Q he hs k => we_sub h he hs fun v B1 H1 m1 t a1 b1 c1 d1 e1 => ?_
  rw [hK]
  rcases e1 with @⟨α, ri, xs, et, r⟩ | @⟨p, i, ts, et, hi, r⟩
  · subst et
    obtain ⟨a, vs, ev, hb, pr⟩ : ∃ a vs, v = .ref a ∧ B1 a = some (.lst vs) ∧ Paired (Rep.rep Z.K B1) vs xs := d1
    refine ⟨a, ev, ⟨vs, .of (c1.ex _ _ hb)⟩, k _ B1 H1 m1 _ gd0 a1 c1 (fun B' H' m' e s _ => ⟨fun i t ht => ?_, ?_⟩) r⟩
    · obtain ⟨x, hx, rfl⟩ := get_map ht
      obtain ⟨u, hu, ru⟩ := Paired.at' pr hx
      have hl : SqL Z.K H' a vs := .of (s.ex _ _ (e _ _ hb))
      refine ⟨⟨vs, u, hl, hu⟩, fun y H'' hy => ?_⟩
      obtain ⟨rfl, hy⟩ := hy
      have := hy vs hl
      rw [hu] at this
      cases this
      exact ⟨B', Ex.refl _, s, Rep.mono e ru⟩
    · exact ⟨vs, .of (s.ex _ _ (e _ _ hb)), by rw [List.length_map, pr.length]; exact Nat.le_refl _⟩
  · subst et
    have ev : v = .ref p := d1
    obtain ⟨vs, hv, rv⟩ := mL_at c1 hi
    refine ⟨p, ev, ⟨vs, .of hv⟩, k _ B1 H1 m1 ts _ a1 c1 (fun B' H' m' e s ⟨j, hj⟩ => ?_) r⟩
    obtain ⟨ws, hw, rw'⟩ := mL_at s hj
    refine ⟨fun i t ht => ?_, ⟨ws, .of hw, by rw [rw'.length]; exact Nat.le_refl _⟩⟩
    obtain ⟨u, hu, ru⟩ := rw'.at' ht
    refine ⟨⟨ws, u, .of hw, hu⟩, fun y H'' hy => ?_⟩
    obtain ⟨rfl, hy⟩ := hy
    have := hy ws (.of hw)
    rw [hu] at this
    cases this
    exact ⟨B', Ex.refl _, s, ru⟩
/-- a tuple -/
theorem wi_tup (h : We X Z iter ρ m fun t m1 => ∃ ts, TupU t ts ∧ R ts gd0 m1) (hK : X.K = Z.K := by rfl) : Wi X Z tg iter ρ m R := by
  refine .of (pi_tup pe_sem) fun σ B H Q he hs k => we_sub h he hs fun v B1 H1 m1 t a1 b1 c1 d1 e1 => ?_
  rw [hK]
  obtain ⟨ts, hu, r⟩ := e1
  obtain ⟨a, vs, ev, hq, rr⟩ := hu _ _ _ d1
  refine ⟨a, ev, ⟨vs, c1.ex.seqT hq⟩, k _ B1 H1 m1 ts gd0 a1 c1 (fun B' H' m' e s _ => ⟨fun i t ht => ?_, ?_⟩) r⟩
  · obtain ⟨u, hu, ru⟩ := rr.at' ht
    have hl : SqT Z.K H' a vs := (e.trans s.ex).seqT hq
    refine ⟨⟨vs, u, hl, hu⟩, fun y H'' hy => ?_⟩
    obtain ⟨rfl, hy⟩ := hy
    have := hy vs hl
    rw [hu] at this
    cases this
    exact ⟨B', Ex.refl _, s, TV.mono e ru⟩
  · exact ⟨vs, (e.trans s.ex).seqT hq, by rw [rr.length]; exact Nat.le_refl _⟩
theorem tupUN {α : Type} [Rep α] {xs : List α} : TupU (tv (Tup.mk xs)) (xs.map fun x => tv x) := fun K B v ⟨a, vs, h1, h2, h3⟩ => ⟨a, vs, h1, h2, Reps.of_paired h3⟩
/-- lo, lo + 1, .., n of them -/
def rngT (lo : Int) (n : Nat) : List TV := (List.range n).map fun (k : Nat) => tv (lo + (k : Int))
theorem rng_len (lo : Int) (n : Nat) : (rngT lo n).length = n := by simp [rngT]
theorem rng_at {lo : Int} {n i : Nat} {t : TV} (h : (rngT lo n)[i]? = some t) : i < n ∧ t = tv (lo + (i : Int)) := by
  have hi : i < n := by
    have := (List.getElem?_eq_some_iff.mp h).1
    rw [rng_len] at this; exact this
  unfold rngT at h
  rw [List.getElem?_map, List.getElem?_range hi] at h
  cases h
  exact ⟨hi, rfl⟩
theorem tit_range {B : Hp} {lo : Int} {n : Nat} : TIt Z (Itr lo n) (rngT lo n) gd0 B := fun B' H' m' e s _ => by
  refine ⟨fun i t ht => ?_, by rw [rng_len]; exact Nat.le_refl _⟩
  obtain ⟨hi, rfl⟩ := rng_at ht
  exact ⟨hi, fun x H'' ⟨e1, e2⟩ => ⟨B', Ex.refl _, e1 ▸ s, e2⟩⟩
theorem wi_range1 {a : Expr} {p pos : Pos} (hm : X.mg "range" = none) (h : We X Z a ρ m fun t m1 => ∃ n : Int, t = tv n ∧ -(2 ^ 62) ≤ n ∧ n < 2 ^ 62 ∧ R (rngT 0 n.toNat) gd0 m1) (hg : Gl X "range" := by rfl) (hs : starEach [a] X.env = [(false, eval a X.env)] := by rfl) :
    Wi X Z tg (.Call (.Name "range" p) [a] [] pos) ρ m R :=
  .of (pi_range1 hg hm (pa_cons pe_sem pa_nil hs) hs) fun σ B H Q he hs k => we_sub h he hs fun v B1 H1 m1 t a1 b1 c1 d1 ⟨n, et, h1, h2, r⟩ => by
    subst et
    have ev : v = .int n := d1
    subst ev
    exact ⟨n, rfl, h1, h2, k _ B1 H1 m1 _ gd0 a1 c1 tit_range r⟩
theorem wi_range2 {a b : Expr} {p pos : Pos} (hm : X.mg "range" = none) (h : We X Z a ρ m fun t m1 => We X Z b ρ m1 fun u m2 => ∃ i j : Int, t = tv i ∧ u = tv j ∧ (-(2 ^ 62) ≤ i ∧ i < 2 ^ 62 ∧ -(2 ^ 62) ≤ j ∧ j < 2 ^ 62) ∧ R (rngT i (j - i).toNat) gd0 m2)
    (hg : Gl X "range" := by rfl) (hs : starEach [a, b] X.env = [(false, eval a X.env), (false, eval b X.env)] := by rfl) (hs2 : starEach [b] X.env = [(false, eval b X.env)] := by rfl) :
    Wi X Z tg (.Call (.Name "range" p) [a, b] [] pos) ρ m R :=
  .of (pi_range2 hg hm (pa_cons pe_sem (pa_cons pe_sem pa_nil hs2) (by rw [hs, hs2])) hs hs2) fun σ B H Q he hs k => we_sub h he hs fun v B1 H1 m1 t a1 b1 c1 d1 e1 => we_sub e1 b1 c1 fun u B2 H2 m2 t2 a2 b2 c2 d2 ⟨i, j, et, eu, hb, r⟩ => by
    subst et; subst eu
    have ev : v = .int i := d1
    have ev2 : u = .int j := d2
    subst ev; subst ev2
    exact ⟨i, j, rfl, hb, k _ B2 H2 m2 _ gd0 (a1.trans a2) c2 tit_range r⟩

/-! ### for -/
def ForP (X : Cx) (Z : Zs) (tg : Expr) (body : List Stmt) (ρ : TEnv) (D : DE) (items : List TV) (Gd : Mu → Prop) (m : Mu) : Prop := ∃ I : Nat → TEnv → Mu → Prop, I 0 ρ m ∧ (∀ i ρ' m', I i ρ' m' → Gd m') ∧
  (∀ i t ρ' m', items[i]? = some t → I i ρ' m' → Wg X Z tg t ρ' m' fun ρ2 m2 => Wss X Z body ρ2 m2 { nx := I (i + 1), rt := D.rt, bk := D.nx, ct := I (i + 1) }) ∧ ∀ ρ' m', I items.length ρ' m' → D.nx ρ' m'
theorem ws_for {body : List Stmt} {pos : Pos} (h : Wi X Z tg iter ρ m (ForP X Z tg body ρ D)) (hp : PassesOwn (model X.prog X.w) X.A X.env X.xe) (hc : X.calm = true) (hs : ∀ x, foldedSetIterable iter X.env x = pure x := by intro _; rfl) : Ws X Z (.For tg iter body [] pos) ρ m D :=
  .of (ps_for hp hc pi_sem pg_sem pss_sem hs) fun σ B H E he hS k => h σ B H _ he hS fun J B1 H1 m1 items Gd a1 c1 ti ⟨I, h0, hG, hstep, hd⟩ => by
    refine ⟨fun i μ σ' H' => μ = items.length - i ∧ i ≤ items.length ∧ ∃ B' ρ' m', Ex B1 B' ∧ EnvOk Z.K B' σ' ρ' ∧ Sta Z B' H' m' ∧ I i ρ' m', ⟨items.length, by simp, Nat.zero_le _, B1, ρ, m1, Ex.refl _, he.mono a1, c1, h0⟩, ?_⟩
    rintro i μ σ' H' ⟨rfl, hi, B', ρ', m', e', E', s', hI⟩
    obtain ⟨tgo, tst⟩ := ti B' H' m' e' s' (hG i ρ' m' hI)
    by_cases hlt : i < items.length
    · obtain ⟨t, ht⟩ : ∃ t, items[i]? = some t := ⟨items[i], by simp [hlt]⟩
      obtain ⟨go, yl⟩ := tgo i t ht
      refine .inr ⟨go, fun σ2 H2 => ∃ B2 ρ2 m2, Ex B1 B2 ∧ EnvOk Z.K B2 σ2 ρ2 ∧ Sta Z B2 H2 m2 ∧ I (i + 1) ρ2 m2, fun σ2 H2 q => ⟨items.length - (i + 1), by omega, rfl, hlt, q⟩, fun x H2 hy => ?_⟩
      obtain ⟨B2, e2, s2, r2⟩ := yl x H2 hy
      refine hstep i t ρ' m' ht hI σ' B2 H2 x _ (E'.mono e2) s2 r2 fun σ3 B3 H3 ρ3 m3 e3 E3 s3 w3 => ?_
      have e13 : Ex B1 B3 := (e'.trans e2).trans e3
      refine w3 σ3 B3 H3 _ E3 s3 ⟨fun σ4 B4 H4 ρ4 m4 e4 E4 s4 p4 => ⟨B4, ρ4, m4, e13.trans e4, E4, s4, p4⟩, fun v B4 H4 m4 y e4 s4 r4 p4 => k.rt v B4 H4 m4 y ((a1.trans e13).trans e4) s4 r4 p4, fun σ4 B4 H4 ρ4 m4 e4 E4 s4 p4 => k.nx σ4 B4 H4 ρ4 m4 ((a1.trans e13).trans e4) E4 s4 p4, fun σ4 B4 H4 ρ4 m4 e4 E4 s4 p4 => ⟨B4, ρ4, m4, e13.trans e4, E4, s4, p4⟩⟩
    · have ei : i = items.length := by omega
      subst ei
      exact .inl ⟨tst, k.nx σ' B' H' ρ' m' (a1.trans e') E' s' (hd ρ' m' hI)⟩
theorem own_passes {P : Program} {w : World} {K : PySem.W.Frag} {mg : Str → Option Value} {base : Heap} {N : List Str} {qual : Str} {scope : Scope} {f : Addr} {cdv : Value} {A : Around} {outer : List Env} {s : Shared} {H : Hp} {E : XK} :
    PassesOwn (model P w) (bodyX P w K mg base N qual scope f cdv A outer s H E).A (bodyX P w K mg base N qual scope f cdv A outer s H E).env (bodyX P w K mg base N qual scope f cdv A outer s H E).xe := passes_of (X := bodyX P w K mg base N qual scope f cdv A outer s H E) rfl
/-- for over things of one kind -/
theorem forp_map {α : Type} [Rep α] {xs : List α} {body : List Stmt} {Gd : Mu → Prop} (I : Nat → TEnv → Mu → Prop) (h0 : I 0 ρ m) (hG : ∀ i ρ' m', I i ρ' m' → Gd m')
    (hs : ∀ i x ρ' m', xs[i]? = some x → I i ρ' m' → Wg X Z tg (tv x) ρ' m' fun ρ2 m2 => Wss X Z body ρ2 m2 { nx := I (i + 1), rt := D.rt, bk := D.nx, ct := I (i + 1) }) (hd : ∀ ρ' m', I xs.length ρ' m' → D.nx ρ' m') :
    ForP X Z tg body ρ D (xs.map fun x => tv x) Gd m := ⟨I, h0, hG, fun i t ρ' m' ht hI => by obtain ⟨x, hx, rfl⟩ := get_map ht; exact hs i x ρ' m' hx hI, fun ρ' m' hI => hd ρ' m' (by simpa using hI)⟩
theorem forp_rng {lo : Int} {n : Nat} {body : List Stmt} (I : Nat → TEnv → Mu → Prop) (h0 : I 0 ρ m)
    (hs : ∀ (i : Nat) ρ' m', i < n → I i ρ' m' → Wg X Z tg (tv (lo + (i : Int))) ρ' m' fun ρ2 m2 => Wss X Z body ρ2 m2 { nx := I (i + 1), rt := D.rt, bk := D.nx, ct := I (i + 1) }) (hd : ∀ ρ' m', I n ρ' m' → D.nx ρ' m') :
    ForP X Z tg body ρ D (rngT lo n) gd0 m := ⟨I, h0, fun _ _ _ _ => trivial, fun i t ρ' m' ht hI => by obtain ⟨hi, rfl⟩ := rng_at ht; exact hs i ρ' m' hi hI, fun ρ' m' hI => hd ρ' m' (by rw [rng_len] at hI; exact hI)⟩
/-- while: an invariant and a number that falls -/
theorem ws_while {c : Expr} {body : List Stmt} {pos : Pos} (I : Nat → TEnv → Mu → Prop) (n : Nat) (h0 : I n ρ m) (hs : ∀ n ρ' m', I n ρ' m' → Wt X Z c ρ' m' fun b m1 => (b = true → Wss X Z body ρ' m1 { nx := fun ρ2 m2 => ∃ k, k < n ∧ I k ρ2 m2, rt := D.rt, bk := D.nx, ct := fun ρ2 m2 => ∃ k, k < n ∧ I k ρ2 m2 }) ∧ (b = false → D.nx ρ' m1))
    (hp : PassesOwn (model X.prog X.w) X.A X.env X.xe) : Ws X Z (.While c body [] pos) ρ m D :=
  .of (ps_while hp pt_sem pss_sem) fun σ B H E he hS k => by
    refine ⟨fun μ σ' H' => ∃ B' ρ' m', Ex B B' ∧ EnvOk Z.K B' σ' ρ' ∧ Sta Z B' H' m' ∧ I μ ρ' m', ⟨n, B, ρ, m, Ex.refl _, he, hS, h0⟩, ?_⟩
    rintro μ σ' H' ⟨B', ρ', m', e', E', s', hI⟩
    refine hs μ ρ' m' hI σ' B' H' _ E' s' fun b B1 H1 m1 e1 s1 p1 => ?_
    cases b with
    | false => exact iteF (k.nx σ' B1 H1 ρ' m1 (e'.trans e1) (E'.mono e1) s1 (p1.2 rfl))
    | true =>
      refine iteT ⟨fun σ2 H2 => ∃ j, j < μ ∧ ∃ B2 ρ2 m2, Ex B B2 ∧ EnvOk Z.K B2 σ2 ρ2 ∧ Sta Z B2 H2 m2 ∧ I j ρ2 m2, fun σ2 H2 q => q, ?_⟩
      refine p1.1 rfl σ' B1 H1 _ (E'.mono e1) s1 ⟨fun σ4 B4 H4 ρ4 m4 e4 E4 s4 ⟨j, hj, p4⟩ => ⟨j, hj, B4, ρ4, m4, (e'.trans e1).trans e4, E4, s4, p4⟩, fun v B4 H4 m4 y e4 s4 r4 p4 => k.rt v B4 H4 m4 y ((e'.trans e1).trans e4) s4 r4 p4,
        fun σ4 B4 H4 ρ4 m4 e4 E4 s4 p4 => k.nx σ4 B4 H4 ρ4 m4 ((e'.trans e1).trans e4) E4 s4 p4, fun σ4 B4 H4 ρ4 m4 e4 E4 s4 ⟨j, hj, p4⟩ => ⟨j, hj, B4, ρ4, m4, (e'.trans e1).trans e4, E4, s4, p4⟩⟩

/-! ### list comprehensions -/
def wipeT (ρ : TEnv) : List Nat → TEnv
  | [] => ρ
  | v :: vs => (wipeT ρ vs).set v none
theorem EnvOk.unset {K : PySem.W.Frag} {B : Hp} {σ : L2.St} {ρ : TEnv} (h : EnvOk K B σ ρ) (i : Nat) : EnvOk K B (σ.set i none) (ρ.set i none) := by
  refine ⟨by rw [List.length_set, List.length_set]; exact h.len, fun j u q => ?_⟩
  by_cases e : i = j
  · subst e
    by_cases hi : i < ρ.length
    · rw [List.getElem?_set_self hi] at q
      cases q
    · rw [List.getElem?_eq_none (by rw [List.length_set]; omega)] at q
      cases q
  · rw [List.getElem?_set_ne e] at q ⊢
    exact h.sl j u q
theorem EnvOk.wipe {K : PySem.W.Frag} {B : Hp} {σ : L2.St} {ρ : TEnv} (h : EnvOk K B σ ρ) : ∀ vs : List Nat, EnvOk K B (L2.wipe σ vs) (wipeT ρ vs)
  | [] => h
  | v :: vs => (EnvOk.wipe h vs).unset v
theorem wipe_set {v : Option V} {i : Nat} : ∀ {vs : List Nat} {σ : L2.St}, i ∈ vs → L2.wipe (σ.set i v) vs = L2.wipe σ vs
  | [], _, h => by cases h
  | w :: vs, σ, h => by
    unfold L2.wipe
    by_cases e : i ∈ vs
    · rw [wipe_set e]
    · have ew : i = w := by
        rcases List.mem_cons.mp h with z | z
        · exact z
        · exact absurd z e
      subst ew
      have aux : ∀ (us : List Nat) (τ : L2.St), i ∉ us → L2.wipe (τ.set i v) us = (L2.wipe τ us).set i v := by
        intro us
        induction us with
        | nil => intro τ _; rfl
        | cons u us ih =>
          intro τ hu
          unfold L2.wipe
          rw [ih τ fun z => hu (List.mem_cons_of_mem _ z), List.set_comm _ _ fun z => hu (by rw [z]; exact List.mem_cons_self)]
      rw [aux vs σ e, List.set_set]
theorem wipe_idem : ∀ {vs : List Nat} {σ : L2.St}, L2.wipe (L2.wipe σ vs) vs = L2.wipe σ vs := by
  intro vs
  have aux : ∀ (us vs : List Nat) (σ : L2.St), (∀ u ∈ us, u ∈ vs) → L2.wipe (L2.wipe σ us) vs = L2.wipe σ vs := by
    intro us
    induction us with
    | nil => intro vs σ _; rfl
    | cons u us ih =>
      intro vs σ h
      show L2.wipe ((L2.wipe σ us).set u none) vs = _
      rw [wipe_set (h u List.mem_cons_self), ih vs σ fun z hz => h z (List.mem_cons_of_mem _ hz)]
  exact fun {σ} => aux vs vs σ fun _ h => h
/-- the block's context -/
abbrev blkX (X : Cx) (scope : Scope) (s : Shared) (H : Hp) (C : Addr) (cl : List (Str × Addr)) (fp : List Addr) : Cx := X.blk s H scope (compEnvC scope cl C X.env) fp
def teB (X : Cx) (scope : Scope) (e : Expr) : TE := fun σ H Q => ∀ (s0 : Shared) (H0 : Hp) (C : Addr) (cl : List (Str × Addr)) (fp : List Addr), teS (blkX X scope s0 H0 C cl fp) e σ H Q
def ttsS (X : Cx) (ifs : List Expr) : TT := fun σ H Q => ∀ (pins : List (Addr × Obj)) (s : Shared), Inv X pins σ H s → wpAny (model X.prog X.w) X.A (forIn ifs true fun c r => if r = true then do let ok ← isTrue c X.env (eval c X.env); pure (ForInStep.yield ok) else pure (ForInStep.yield r)) (TP X pins σ Q) X.xe s
theorem pts_sem {X : Cx} {ifs : List Expr} : PTs X ifs (ttsS X ifs) := ⟨fun pins s _ _ _ I h => h pins s I⟩
def tisB (X : Cx) (scope : Scope) (ifs : List Expr) : TT := fun σ H Q => ∀ (s0 : Shared) (H0 : Hp) (C : Addr) (cl : List (Str × Addr)) (fp : List Addr), ttsS (blkX X scope s0 H0 C cl fp) ifs σ H Q
abbrev Wts (X : Cx) (Z : Zs) (ifs : List Expr) (ρ : TEnv) (m : Mu) (P : Bool → Mu → Prop) : Prop := WpT Z (ttsS X ifs) ρ m P
theorem wts_nil {PB : Bool → Mu → Prop} (h : PB true m) : Wts X Z [] ρ m PB := fun σ B H Q he hs k pins s I => pts_nil.run pins s σ H Q I (k true B H m (Ex.refl _) hs h)
theorem wts_one {PB : Bool → Mu → Prop} {c : Expr} (h : Wt X Z c ρ m PB) : Wts X Z [c] ρ m PB := fun σ B H Q he hs k pins s I => (pts_one pt_sem).run pins s σ H Q I (h σ B H Q he hs k)
/-- what is to be shown of the turns: ρb: what the block's names stand for at an item -/
def LcP (X : Cx) (Z : Zs) (elt : Expr) (ifs : List Expr) (scope : Scope) (ρb : TV → TEnv → Prop) (P : TV → Mu → Prop) (items : List TV) (Gd : Mu → Prop) (m : Mu) : Prop := ∃ I : Nat → List TV → Mu → Prop, I 0 [] m ∧ (∀ i acc m', I i acc m' → acc.length ≤ i) ∧ items.length ≤ 1000000 ∧
  (∀ i acc m' p, I i acc m' → Gd (m' ++ [(p, mL acc)])) ∧
  (∀ (s0 : Shared) (H0 : Hp) (C : Addr) (cl : List (Str × Addr)) (fp : List Addr) (i : Nat) (t : TV) (acc : List TV) (m' : Mu) (p : Addr) (ρ' : TEnv), items[i]? = some t → I i acc m' → ρb t ρ' →
    Wts (blkX X scope s0 H0 C cl fp) Z ifs ρ' (m' ++ [(p, mL acc)]) fun b m3 => (b = true → ∀ (s0 : Shared) (H0 : Hp) (C : Addr) (cl : List (Str × Addr)) (fp : List Addr), We (blkX X scope s0 H0 C cl fp) Z elt ρ' m3 fun y m4 => ∃ m5, m4 = m5 ++ [(p, mL acc)] ∧ I (i + 1) (acc ++ [y]) m5) ∧
      (b = false → ∃ m5, m3 = m5 ++ [(p, mL acc)] ∧ I (i + 1) acc m5)) ∧ ∀ acc m', I items.length acc m' → LstP P acc m'
/-- how the target takes an item: the slots -/
def TgtN (X : Cx) (Z : Zs) (scope : Scope) (tg : Expr) (vs : List Nat) (ρ : TEnv) (ρb : TV → TEnv → Prop) (items : List TV) : Prop := ∃ g : TG, (∀ (s : Shared) (H : Hp) (C : Addr) (cl : List (Str × Addr)) (fp : List Addr), PG (blkX X scope s H C cl fp) tg g) ∧
  ∀ (t : TV) (σ : L2.St) (B H : Hp) (v : V) (m : Mu) (Q : L2.St → Hp → Prop), t ∈ items → EnvOk Z.K B (L2.wipe σ vs) (wipeT ρ vs) → Sta Z B H m → t.rep Z.K B v →
    (∀ σ2 ρ2, L2.wipe σ2 vs = L2.wipe σ vs → EnvOk Z.K B σ2 ρ2 → ρb t ρ2 → Q σ2 H) → g v (L2.wipe σ vs) H Q
theorem snoc_inj {m m5 : Mu} {x y : Addr × MV} (h : m ++ [x] = m5 ++ [y]) : m = m5 ∧ x = y := by
  have := List.append_inj' h rfl
  exact ⟨this.1, by simpa using this.2⟩
theorem wp_lc {elt : Expr} {ifs : List Expr} {scope : Scope} {own : List (Str × Nat)} {ρb : TV → TEnv → Prop} {g : TG} {wi : TI}
    (hi : WpI Z wi ρ m fun items Gd m1 => LcP X Z elt ifs scope ρb P items Gd m1 ∧ ∀ (t : TV) (σ : L2.St) (B H : Hp) (v : V) (m : Mu) (Q : L2.St → Hp → Prop), t ∈ items → EnvOk Z.K B (L2.wipe σ (own.map (·.2))) (wipeT ρ (own.map (·.2))) → Sta Z B H m → t.rep Z.K B v →
      (∀ σ2 ρ2, L2.wipe σ2 (own.map (·.2)) = L2.wipe σ (own.map (·.2)) → EnvOk Z.K B σ2 ρ2 → ρb t ρ2 → Q σ2 H) → g v (L2.wipe σ (own.map (·.2))) H Q) :
    Wp Z (tLc wi g (tisB X scope ifs) (teB X scope elt) (own.map (·.2))) ρ m P := fun σ B H Q he hS k => hi σ B H _ he hS fun J B1 H1 m1 items Gd a1 c1 ti hR => by
  obtain ⟨⟨I, h0, hlen, hsz, hG, hstep, hd⟩, hgt⟩ := hR
  intro p hp
  have s0 : Sta Z B1 (upd H1 p (.lst [])) (m1 ++ [(p, mL [])]) := c1.newM hp (c := mL []) ⟨[], rfl, .nil⟩
  refine ⟨fun i μ H' => μ = items.length - i ∧ i ≤ items.length ∧ ∃ B' m' acc, Ex B1 B' ∧ Sta Z B' H' (m' ++ [(p, mL acc)]) ∧ I i acc m', ⟨items.length, by simp, Nat.zero_le _, B1, m1, [], Ex.refl _, s0, h0⟩, ?_⟩
  rintro i μ H' ⟨rfl, hi, B', m', acc, e', s', hI⟩
  obtain ⟨tgo, tst⟩ := ti B' H' _ e' s' (hG i acc m' p hI)
  by_cases hlt : i < items.length
  · obtain ⟨t, ht⟩ : ∃ t, items[i]? = some t := ⟨items[i], by simp [hlt]⟩
    obtain ⟨go, yl⟩ := tgo i t ht
    refine .inr ⟨go, fun H2 => ∃ B2 m2 acc2, Ex B1 B2 ∧ Sta Z B2 H2 (m2 ++ [(p, mL acc2)]) ∧ I (i + 1) acc2 m2, fun H2 q => ⟨items.length - (i + 1), by omega, rfl, hlt, q⟩, fun x H2 hy => ?_⟩
    obtain ⟨B2, e2, s2, r2⟩ := yl x H2 hy
    have Ew : EnvOk Z.K B2 (L2.wipe σ (own.map (·.2))) (wipeT ρ (own.map (·.2))) := (he.mono (a1.trans (e'.trans e2))).wipe _
    refine hgt t σ B2 H2 x _ _ (List.mem_of_getElem? ht) Ew s2 r2 fun σ3 ρ3 w3 E3 hb3 => ⟨w3, ?_⟩
    refine fun s00 H00 C cl fp => hstep s00 H00 C cl fp i t acc m' p ρ3 ht hI hb3 σ3 B2 H2 _ E3 s2 fun b B3 H3 m3 e3 s3 q3 => ?_
    cases b with
    | false =>
      obtain ⟨m5, em, hI5⟩ := q3.2 rfl
      subst em
      exact iteF ⟨B3, m5, acc, (e'.trans e2).trans e3, s3, hI5⟩
    | true =>
      refine iteT fun s01 H01 C1 cl1 fp1 => q3.1 rfl s01 H01 C1 cl1 fp1 σ3 B3 H3 _ (E3.mono e3) s3 fun v B4 H4 m4 y e4 s4 r4 q4 => ?_
      obtain ⟨m5, em, hI5⟩ := q4
      subst em
      have hix : (m5 ++ [(p, mL acc)])[m5.length]? = some (p, mL acc) := by simp
      obtain ⟨vs, hv, rv⟩ := mL_at s4 hix
      refine ⟨vs, hv, ?_, B4, m5, acc ++ [y], ((e'.trans e2).trans e3).trans e4, ?_, hI5⟩
      · have h1 := hlen i acc m' hI
        have h2 := rv.length
        have h3 : sizeLine = 16777216 := sizeLine_eq
        omega
      · have := s4.write (o := .lst (vs ++ [v])) (d := mL (acc ++ [y])) hix ⟨_, rfl, rv.append (.cons r4 .nil)⟩
        rw [List.set_append_right _ _ (Nat.le_refl _), Nat.sub_self] at this
        exact this
  · have ei : i = items.length := by omega
    subst ei
    refine .inl ⟨tst, ?_⟩
    have hix : (m' ++ [(p, mL acc)])[m'.length]? = some (p, mL acc) := by simp
    obtain ⟨vs, hv, rv⟩ := mL_at s' hix
    have s2 := s'.freeze hix hv
    have hb : B' p = none := (s'.hp.at_ _ _ _ hix).1
    rw [List.eraseIdx_append_of_length_le (Nat.le_refl _), Nat.sub_self] at s2
    have s3 : Sta Z (upd B' p (.lst vs)) H' m' := by simpa using s2
    rcases hd acc m' hI with @⟨α, ri, ys, ex, q⟩ | q | q
    · subst ex
      have hr : TV.rep Z.K (upd B' p (.lst vs)) (.ref p) (tv ys) := ⟨p, vs, rfl, upd_same, Paired.monoR (Ex.new hb) (Reps.to_paired rv)⟩
      exact k (.ref p) _ H' m' (tv ys) ((a1.trans e').trans (Ex.new hb)) s3 hr q
    · exact k (.ref p) _ H' m' (hl acc) ((a1.trans e').trans (Ex.new hb)) s3 (show TV.rep Z.K (upd B' p (.lst vs)) (.ref p) (hl acc) from ⟨p, vs, rfl, upd_same, rv.mono (Ex.new hb)⟩) q
    · exact k (.ref p) B' H' _ (tv (Ref.mk p)) (a1.trans e') s' (show V.ref p = .ref p from rfl) (q p)
end
end Ty

set_option Elab.async false
set_option linter.all false
set_option maxRecDepth 100000
set_option maxHeartbeats 2000000
namespace Ty
open PySem PySem.Spec PyProof.Rows L2
section
variable {X : Cx} {Z : Zs} {ρ : TEnv} {m : Mu} {D : DE} {P : TV → Mu → Prop} {R : List TV → (Mu → Prop) → Mu → Prop} {elt tg iter : Expr} {ifs : List Expr} {scope : Scope} {own : List (Str × Nat)} {pos spos : Pos}
abbrev ownIx (own : List (Str × Nat)) : List Nat := own.map (·.2)
/-- the block's names behind the store of an item: one name; two names -/
def rb1 (ρ : TEnv) (own : List (Str × Nat)) (i : Nat) : TV → TEnv → Prop := fun t ρ' => ρ' = (wipeT ρ (ownIx own)).set i (some t)
def rb2 (ρ : TEnv) (own : List (Str × Nat)) (i j : Nat) (α β : Type) [Rep α] [Rep β] : TV → TEnv → Prop := fun t ρ' => ∃ (a : α) (b : β), t = tv (a, b) ∧ ρ' = ((wipeT ρ (ownIx own)).set i (some (tv a))).set j (some (tv b))
theorem we_lc1 (i : Nat) {x : Str} {px : Pos} (h : Wi X Z (.Name x px) iter ρ m (LcP X Z elt ifs scope (rb1 ρ own i) P)) (hc : X.calm = true) (hN : X.N.Nodup) (ok : BlkOk X.N X.env.scope scope own) (hi : X.N[i]? = some x := by rfl) (hio : i ∈ ownIx own := by decide)
    (hx : ∀ (s : Shared) (H : Hp) (C : Addr) (cl : List (Str × Addr)) (fp : List Addr), Loc (blkX X scope s H C cl fp).env.scope x := by first | exact fun _ _ _ _ _ => Or.inl rfl | exact fun _ _ _ _ _ => Or.inr rfl)
    (hf : ∀ (s : Shared) (H : Hp) (C : Addr) (cl : List (Str × Addr)) (fp : List Addr), (blkX X scope s H C cl fp).fn x = true ∨ (blkX X scope s H C cl fp).env.scope.names.lookup x = some .local := by first | exact fun _ _ _ _ _ => Or.inr rfl | exact fun _ _ _ _ _ => Or.inl rfl)
    (hs : ∀ x, foldedSetIterable iter X.env x = pure x := by intro _; rfl) : We X Z (.ListComp elt [⟨.Name x px, iter, ifs, 0⟩] scope pos) ρ m P :=
  .of (pe_lc (own := own) (g := gName i) (tt := tisB X scope ifs) (te := teB X scope elt) hc hN pi_sem ok (fun s H C cl fp => pg_name (X := blkX X scope s H C cl fp) hN hi (hx s H C cl fp) (hf s H C cl fp))
    (fun s H C cl fp => ⟨fun pins s' σ H' Q I h => h s H C cl fp pins s' I⟩) (fun s H C cl fp => ⟨fun pins s' σ H' Q I h => h s H C cl fp pins s' I⟩) hs)
    (wp_lc (ρb := rb1 ρ own i) fun σ B H Q he hS k => h σ B H Q he hS fun J B' H' m' items Gd a b c d => k J B' H' m' items Gd a b c ⟨d, fun t σ B H v m Q _ E S r q => q _ _ (by rw [wipe_set hio, wipe_idem]) (E.set i r) rfl⟩)
theorem ws_lc1 (l i : Nat) {y x : Str} {py px : Pos} (h : Wi X Z (.Name x px) iter ρ m (LcP X Z elt ifs scope (rb1 ρ own i) fun t m' => D.nx (ρ.set l (some t)) m')) (hc : X.calm = true) (hN : X.N.Nodup) (ok : BlkOk X.N X.env.scope scope own) (hy : X.N[l]? = some y := by rfl) (hyl : X.env.scope.names.lookup y = some .local := by rfl)
    (hsw : swapsWith (.ListComp elt [⟨.Name x px, iter, ifs, 0⟩] scope pos) (some (.Name y py)) spos.line X.env = pure true := by exact sw_true rfl rfl rfl (by decide +kernel)) (hi : X.N[i]? = some x := by rfl) (hio : i ∈ ownIx own := by decide)
    (hx : ∀ (s : Shared) (H : Hp) (C : Addr) (cl : List (Str × Addr)) (fp : List Addr), Loc (blkX X scope s H C cl fp).env.scope x := by first | exact fun _ _ _ _ _ => Or.inl rfl | exact fun _ _ _ _ _ => Or.inr rfl)
    (hf : ∀ (s : Shared) (H : Hp) (C : Addr) (cl : List (Str × Addr)) (fp : List Addr), (blkX X scope s H C cl fp).fn x = true ∨ (blkX X scope s H C cl fp).env.scope.names.lookup x = some .local := by first | exact fun _ _ _ _ _ => Or.inr rfl | exact fun _ _ _ _ _ => Or.inl rfl)
    (hs : ∀ x, foldedSetIterable iter X.env x = pure x := by intro _; rfl) : Ws X Z (.Assign [.Name y py] (.ListComp elt [⟨.Name x px, iter, ifs, 0⟩] scope pos) spos) ρ m D :=
  .of (ps_setLc (own := own) (g := gName i) (tt := tisB X scope ifs) (te := teB X scope elt) hc hN hy hyl hsw pi_sem ok (fun s H C cl fp => pg_name (X := blkX X scope s H C cl fp) hN hi (hx s H C cl fp) (hf s H C cl fp))
    (fun s H C cl fp => ⟨fun pins s' σ H' Q I h => h s H C cl fp pins s' I⟩) (fun s H C cl fp => ⟨fun pins s' σ H' Q I h => h s H C cl fp pins s' I⟩) hs)
    fun σ B H E he hS k => by
      have w := wp_lc (X := X) (ρb := rb1 ρ own i) (g := gName i) (wi := tiS X (.Name x px) iter) (own := own) (P := fun t m' => D.nx (ρ.set l (some t)) m')
        fun σ B H Q he hS k => h σ B H Q he hS fun J B' H' m' items Gd a b c d => k J B' H' m' items Gd a b c ⟨d, fun t σ B H v m Q _ E S r q => q _ _ (by rw [wipe_set hio, wipe_idem]) (E.set i r) rfl⟩
      exact w σ B H (fun v H' => E.nx (σ.set l (some v)) H') he hS fun v B' H' m' t a b c d => k.nx _ B' H' _ m' a ((he.mono a).set l c) b d
/-- over things of one kind; nothing else changes, an item gives f of it -/
theorem lcp_map {α β : Type} [Rep α] [Rep β] {xs : List α} {Gd : Mu → Prop} {i : Nat} (f : α → β) (hsz : xs.length ≤ 1000000) (hG : ∀ acc p, Gd (m ++ [(p, mL acc)]))
    (h : ∀ (s0 : Shared) (H0 : Hp) (C : Addr) (cl : List (Str × Addr)) (fp : List Addr) (L : Mu) (x : α), x ∈ xs → We (blkX X scope s0 H0 C cl fp) Z elt ((wipeT ρ (ownIx own)).set i (some (tv x))) (m ++ L) fun y m4 => y = tv (f x) ∧ m4 = m ++ L)
    (hP : P (tv (xs.map f)) m) : LcP X Z elt [] scope (rb1 ρ own i) P (xs.map fun x => tv x) Gd m := by
  refine ⟨fun k acc m' => m' = m ∧ acc = ((xs.take k).map f).map fun y => tv y, ⟨rfl, by simp⟩, ?_, by simpa using hsz, ?_, ?_, ?_⟩
  · rintro k acc m' ⟨_, rfl⟩
    simp
    omega
  · rintro k acc m' p ⟨rfl, _⟩
    exact hG acc p
  · rintro s0 H0 C cl fp k t acc m' p ρ' ht ⟨rfl, rfl⟩ rfl
    obtain ⟨x, hx, rfl⟩ := get_map ht
    refine wts_nil ⟨fun _ s1 H1 C1 cl1 fp1 => (h s1 H1 C1 cl1 fp1 _ x (List.mem_of_getElem? hx)).imp ?_, fun z => nomatch z⟩
    rintro y m4 ⟨rfl, rfl⟩
    refine ⟨m', rfl, rfl, ?_⟩
    rw [List.take_add_one, hx]
    simp
  · rintro acc m' ⟨rfl, rfl⟩
    refine .data (ys := xs.map f) ?_ hP
    rw [List.length_map, List.take_length]
/-- .. with a test -/
theorem lcp_filter {α β : Type} [Rep α] [Rep β] {xs : List α} {Gd : Mu → Prop} {i : Nat} {c : Expr} (p : α → Bool) (f : α → β) (hsz : xs.length ≤ 1000000) (hG : ∀ acc p, Gd (m ++ [(p, mL acc)]))
    (ht : ∀ (s0 : Shared) (H0 : Hp) (C : Addr) (cl : List (Str × Addr)) (fp : List Addr) (L : Mu) (x : α), x ∈ xs → Wt (blkX X scope s0 H0 C cl fp) Z c ((wipeT ρ (ownIx own)).set i (some (tv x))) (m ++ L) fun b m4 => b = p x ∧ m4 = m ++ L)
    (h : ∀ (s0 : Shared) (H0 : Hp) (C : Addr) (cl : List (Str × Addr)) (fp : List Addr) (L : Mu) (x : α), x ∈ xs → p x = true → We (blkX X scope s0 H0 C cl fp) Z elt ((wipeT ρ (ownIx own)).set i (some (tv x))) (m ++ L) fun y m4 => y = tv (f x) ∧ m4 = m ++ L)
    (hP : P (tv ((xs.filter p).map f)) m) : LcP X Z elt [c] scope (rb1 ρ own i) P (xs.map fun x => tv x) Gd m := by
  refine ⟨fun k acc m' => m' = m ∧ acc = (((xs.take k).filter p).map f).map fun y => tv y, ⟨rfl, by simp⟩, ?_, by simpa using hsz, ?_, ?_, ?_⟩
  · rintro k acc m' ⟨_, rfl⟩
    rw [List.length_map, List.length_map]
    exact Nat.le_trans (List.length_filter_le _ _) (by simp; omega)
  · rintro k acc m' p ⟨rfl, _⟩
    exact hG acc p
  · rintro s0 H0 C cl fp k t acc m' q ρ' htt ⟨rfl, rfl⟩ rfl
    obtain ⟨x, hx, rfl⟩ := get_map htt
    refine wts_one ((ht s0 H0 C cl fp _ x (List.mem_of_getElem? hx)).imp ?_)
    rintro b m3 ⟨rfl, rfl⟩
    refine ⟨fun hb s1 H1 C1 cl1 fp1 => (h s1 H1 C1 cl1 fp1 _ x (List.mem_of_getElem? hx) hb).imp ?_, fun hb => ⟨m', rfl, rfl, ?_⟩⟩
    · rintro y m4 ⟨rfl, rfl⟩
      refine ⟨m', rfl, rfl, ?_⟩
      rw [List.take_add_one, hx]
      simp [hb]
    · rw [List.take_add_one, hx]
      simp [hb]
  · rintro acc m' ⟨rfl, rfl⟩
    refine .data (ys := (xs.filter p).map f) ?_ hP
    rw [List.length_map, List.take_length]
end
end Ty

set_option Elab.async false
set_option linter.all false
set_option maxRecDepth 100000
set_option maxHeartbeats 2000000
namespace Ty
open PySem PySem.Spec PyProof.Rows L2
/-- the item at an index, of any sign -/
def atT {α : Type _} (xs : List α) (i : Int) : Option α := (ixN xs.length i).bind fun j => xs[j]?
theorem line_of {n : Nat} (h : n ≤ 16000000) : n ≤ sizeLine := Nat.le_trans h (by decide)
section
variable {X : Cx} {Z : Zs} {m : Mu} {P : TV → Mu → Prop}
/-! ### whole numbers -/
theorem rep_int {K : PySem.W.Frag} {B : Hp} (n : Int) : TV.rep K B (.int n) (tv n) := (rfl : V.int n = .int n)
theorem rep_bool {K : PySem.W.Frag} {B : Hp} (n : Bool) : TV.rep K B (.bl n) (tv n) := (rfl : V.bl n = .bl n)
theorem rep_str {K : PySem.W.Frag} {B : Hp} (n : Str) : TV.rep K B (.str n) (tv n) := (rfl : V.str n = .str n)
theorem OpP.int {f : Value → Value → Sem Value} {g : Int → Int → Int} {i j : Int} (ho : OpR X f (rI0 fun i j => .int (g i j))) (h : P (tv (g i j)) m) : OpP X Z f (tv i) (tv j) m P := .of ho fun B H Q v u hs hv hu k => ⟨i, j, hv, hu, k _ B H m _ (Ex.refl _) hs (rep_int _) h⟩
theorem OpP.intC {f : Value → Value → Sem Value} {C : Int → Int → Prop} {g : Int → Int → Int} {i j : Int} (ho : OpR X f (rI C fun i j => .int (g i j))) (hc : C i j) (h : P (tv (g i j)) m) : OpP X Z f (tv i) (tv j) m P := .of ho fun B H Q v u hs hv hu k => ⟨i, j, hv, hu, hc, k _ B H m _ (Ex.refl _) hs (rep_int _) h⟩
theorem OpP.bool {f : Value → Value → Sem Value} {g : Int → Int → Bool} {i j : Int} (ho : OpR X f (rI0 fun i j => .bl (g i j))) (h : P (tv (g i j)) m) : OpP X Z f (tv i) (tv j) m P := .of ho fun B H Q v u hs hv hu k => ⟨i, j, hv, hu, k _ B H m _ (Ex.refl _) hs (rep_bool _) h⟩
variable {i j : Int}
theorem add_ii (h : P (tv (i + j)) m) : OpP X Z (binaryOp .Add) (tv i) (tv j) m P := .int op_add h
theorem sub_ii (h : P (tv (i - j)) m) : OpP X Z (binaryOp .Sub) (tv i) (tv j) m P := .int op_sub h
theorem mul_ii (hc : CMul i j) (h : P (tv (i * j)) m) : OpP X Z (binaryOp .Mult) (tv i) (tv j) m P := .intC op_mul hc h
theorem fdiv_ii (hc : 0 < j ∧ j < 1073741824) (h : P (tv (i / j)) m) : OpP X Z (binaryOp .FloorDiv) (tv i) (tv j) m P := .intC op_fdiv hc h
theorem mod_ii (hc : 0 < j) (h : P (tv (i % j)) m) : OpP X Z (binaryOp .Mod) (tv i) (tv j) m P := .intC op_mod hc h
theorem pow_ii (hc : CPow i j) (h : P (tv (i ^ j.toNat)) m) : OpP X Z (binaryOp .Pow) (tv i) (tv j) m P := .intC op_pow hc h
theorem shl_ii (hc : CPow i j) (h : P (tv (i * 2 ^ j.toNat)) m) : OpP X Z (binaryOp .LShift) (tv i) (tv j) m P := .intC op_shl hc h
theorem shr_ii (hc : 0 ≤ j) (h : P (tv (i / 2 ^ j.toNat)) m) : OpP X Z (binaryOp .RShift) (tv i) (tv j) m P := .intC op_shr hc h
theorem and_ii (h : P (tv (Builtin.bitAnd i j)) m) : OpP X Z (binaryOp .BitAnd) (tv i) (tv j) m P := .int op_and h
theorem or_ii (h : P (tv (Builtin.bitOr i j)) m) : OpP X Z (binaryOp .BitOr) (tv i) (tv j) m P := .int op_or h
theorem xor_ii (h : P (tv (Builtin.bitXor i j)) m) : OpP X Z (binaryOp .BitXor) (tv i) (tv j) m P := .int op_xor h
theorem lt_ii (h : P (tv (decide (i < j))) m) : OpP X Z (compareOp .Lt) (tv i) (tv j) m P := .bool op_lt h
theorem le_ii (h : P (tv (decide (i ≤ j))) m) : OpP X Z (compareOp .LtE) (tv i) (tv j) m P := .bool op_le h
theorem gt_ii (h : P (tv (decide (j < i))) m) : OpP X Z (compareOp .Gt) (tv i) (tv j) m P := .bool op_gt h
theorem ge_ii (h : P (tv (decide (j ≤ i))) m) : OpP X Z (compareOp .GtE) (tv i) (tv j) m P := .bool op_ge h
/-! ### == of flat things -/
class Fl (α : Type) [Rep α] where
  v : α → V
  eq : ∀ {K B w x}, Rep.rep K B w x → w = v x
instance : Fl Int := ⟨V.int, fun h => h⟩
instance : Fl Bool := ⟨V.bl, fun h => h⟩
instance : Fl Str := ⟨V.str, fun h => h⟩
instance : Fl Unit := ⟨fun _ => V.non, fun h => h⟩
theorem eq_fl {α β : Type} [Rep α] [Rep β] [Fl α] [Fl β] {x : α} {y : β} (hs : scal (Fl.v x) (Fl.v y) = true) (h : P (tv (decide (Fl.v x = Fl.v y))) m) : OpP X Z (compareOp .Eq) (tv x) (tv y) m P :=
  .of op_eq fun B H Q v u hS hv hu k => by
    rw [show v = Fl.v x from Fl.eq hv, show u = Fl.v y from Fl.eq hu]
    exact ⟨hs, k _ B H m _ (Ex.refl _) hS (rep_bool _) h⟩
theorem ne_fl {α β : Type} [Rep α] [Rep β] [Fl α] [Fl β] {x : α} {y : β} (hs : scal (Fl.v x) (Fl.v y) = true) (h : P (tv (!decide (Fl.v x = Fl.v y))) m) : OpP X Z (compareOp .NotEq) (tv x) (tv y) m P :=
  .of op_ne fun B H Q v u hS hv hu k => by
    rw [show v = Fl.v x from Fl.eq hv, show u = Fl.v y from Fl.eq hu]
    exact ⟨hs, k _ B H m _ (Ex.refl _) hS (rep_bool _) h⟩
theorem eq_ii (h : P (tv (decide (i = j))) m) : OpP X Z (compareOp .Eq) (tv i) (tv j) m P := eq_fl rfl (by
  have e : decide (Fl.v i = Fl.v j) = decide (i = j) := decide_eq_decide.mpr ⟨fun q => V.int.inj q, fun q => congrArg V.int q⟩
  rw [e]; exact h)
theorem ne_ii (h : P (tv (!decide (i = j))) m) : OpP X Z (compareOp .NotEq) (tv i) (tv j) m P := ne_fl rfl (by
  have e : decide (Fl.v i = Fl.v j) = decide (i = j) := decide_eq_decide.mpr ⟨fun q => V.int.inj q, fun q => congrArg V.int q⟩
  rw [e]; exact h)
variable {x y : Str}
theorem eq_ss (h : P (tv (decide (x = y))) m) : OpP X Z (compareOp .Eq) (tv x) (tv y) m P := eq_fl rfl (by
  have e : decide (Fl.v x = Fl.v y) = decide (x = y) := decide_eq_decide.mpr ⟨fun q => V.str.inj q, fun q => congrArg V.str q⟩
  rw [e]; exact h)
theorem ne_ss (h : P (tv (!decide (x = y))) m) : OpP X Z (compareOp .NotEq) (tv x) (tv y) m P := ne_fl rfl (by
  have e : decide (Fl.v x = Fl.v y) = decide (x = y) := decide_eq_decide.mpr ⟨fun q => V.str.inj q, fun q => congrArg V.str q⟩
  rw [e]; exact h)
/-! ### is None -/
def IsNone (t : TV) (b : Bool) : Prop := ∀ K B v, t.rep K B v → decide (v = .non) = b
theorem isN {t : TV} {b : Bool} (ht : IsNone t b) (h : P (tv b) m) : OpP X Z (compareOp .Is) t (tv ()) m P := .of op_isN fun B H Q v u hS hv hu k => ⟨hu, by
  rw [ht _ _ _ hv]
  exact k _ B H m _ (Ex.refl _) hS (rep_bool _) h⟩
theorem notN {t : TV} {b : Bool} (ht : IsNone t b) (h : P (tv (!b)) m) : OpP X Z (compareOp .IsNot) t (tv ()) m P := .of op_notN fun B H Q v u hS hv hu k => ⟨hu, by
  rw [ht _ _ _ hv]
  exact k _ B H m _ (Ex.refl _) hS (rep_bool _) h⟩
theorem none_unit {u : Unit} : IsNone (tv u) true := fun _ _ v h => by rw [show v = .non from h]; rfl
theorem none_int {i : Int} : IsNone (tv i) false := fun _ _ v h => by rw [show v = .int i from h]; rfl
theorem none_bool {i : Bool} : IsNone (tv i) false := fun _ _ v h => by rw [show v = .bl i from h]; rfl
theorem none_str {i : Str} : IsNone (tv i) false := fun _ _ v h => by rw [show v = .str i from h]; rfl
theorem none_list {α : Type} [Rep α] {xs : List α} : IsNone (tv xs) false := fun _ _ v ⟨a, _, h, _⟩ => by rw [h]; rfl
theorem none_tup {α : Type} [Rep α] {xs : Tup α} : IsNone (tv xs) false := fun _ _ v ⟨a, _, h, _⟩ => by rw [h]; rfl
theorem none_pair {α β : Type} [Rep α] [Rep β] {x : α × β} : IsNone (tv x) false := fun _ _ v ⟨a, _, _, h, _⟩ => by rw [h]; rfl
theorem none_p4 {α β γ δ : Type} [Rep α] [Rep β] [Rep γ] [Rep δ] {x : P4 α β γ δ} : IsNone (tv x) false := fun _ _ v ⟨a, _, _, _, _, h, _⟩ => by rw [h]; rfl
theorem none_ref {r : Ref} : IsNone (tv r) false := fun _ _ v h => by rw [show v = .ref r.a from h]; rfl
/-! ### texts -/
theorem add_ss (hz : x.length + y.length ≤ 16000000) (h : P (tv (x ++ y)) m) : OpP X Z (binaryOp .Add) (tv x) (tv y) m P := .of op_add_str fun B H Q v u hS hv hu k =>
  ⟨x, y, hv, hu, line_of hz, k _ B H m _ (Ex.refl _) hS (rep_str _) h⟩
theorem le_ss (h : P (tv (!decide (y.cps.toList < x.cps.toList))) m) : OpP X Z (compareOp .LtE) (tv x) (tv y) m P := .of op_le_str fun B H Q v u hS hv hu k =>
  ⟨x, y, hv, hu, k _ B H m _ (Ex.refl _) hS (rep_bool _) h⟩
theorem in_cs {c : Nat} (h : P (tv (decide (c ∈ y.cps.toList))) m) : OpP X Z (compareOp .In) (tv (⟨#[c]⟩ : Str)) (tv y) m P := .of op_in_sign fun B H Q v u hS hv hu k =>
  ⟨c, y, hv, hu, k _ B H m _ (Ex.refl _) hS (rep_bool _) h⟩
theorem notIn_cs {c : Nat} (h : P (tv (!decide (c ∈ y.cps.toList))) m) : OpP X Z (compareOp .NotIn) (tv (⟨#[c]⟩ : Str)) (tv y) m P := .of op_notIn_sign fun B H Q v u hS hv hu k =>
  ⟨c, y, hv, hu, k _ B H m _ (Ex.refl _) hS (rep_bool _) h⟩
theorem ix_s {c : Nat} (hz : x.length ≤ 16000000) (hi : atT x.cps.toList i = some c) (h : P (tv (⟨#[c]⟩ : Str)) m) : IxP X Z (tv x) (tv i) m P := .of ix_str fun B H Q v u hS hv hu k =>
  ⟨x, i, c, hv, hu, line_of hz, hi, k _ B H m _ (Ex.refl _) hS (rep_str _) h⟩
theorem sl_s {lo hi : Option Int} (hz : x.length ≤ 16000000) (h : P (tv (Txt.slice x lo hi)) m) : SlP X Z (tv x) lo hi m P := .of C8.sl_txt fun B H Q v hS hv k =>
  ⟨x, hv, line_of hz, k _ B H m _ (Ex.refl _) hS (rep_str _) h⟩
theorem len_s (hz : x.length ≤ 16000000) (h : P (tv (x.length : Int)) m) : CallP X Z (.builtin "len") [tv x] m P := .of call_len_str fun B H Q vs hS hv k => by
  cases hv with
  | cons h1 hv =>
    cases hv
    exact ⟨x, congrArg (fun z => [z]) h1, line_of hz, k _ B H m _ (Ex.refl _) hS (rep_int _) h⟩
/-! ### lists -/
variable {α : Type} [Rep α] {xs : List α}
theorem rep_list {K : PySem.W.Frag} {B H : Hp} {v : V} (e : Ex B H) (h : TV.rep K B v (tv xs)) : ∃ a vs, v = .ref a ∧ B a = some (.lst vs) ∧ H a = some (.lst vs) ∧ Paired (Rep.rep K B) vs xs :=
  let ⟨a, vs, h1, h2, h3⟩ := (show ∃ a vs, v = .ref a ∧ B a = some (.lst vs) ∧ Paired (Rep.rep K B) vs xs from h)
  ⟨a, vs, h1, h2, e _ _ h2, h3⟩
theorem atI_len {α β : Type _} {xs : List α} {ys : List β} {i : Int} {y : β} (hl : xs.length = ys.length) (h : atT ys i = some y) : ∃ j, ixN xs.length i = some j ∧ ys[j]? = some y := by
  unfold atT at h
  rw [← hl] at h
  cases e : ixN xs.length i with
  | none => rw [e] at h; cases h
  | some j => rw [e] at h; exact ⟨j, rfl, h⟩
theorem ix_l {e : α} (hi : atT xs i = some e) (h : P (tv e) m) (hK : X.K = Z.K := by rfl) : IxP X Z (tv xs) (tv i) m P := .of ix_list fun B H Q v u hS hv hu k => by
  obtain ⟨a, vs, ev, hb, hh, pr⟩ := rep_list hS.ex hv
  obtain ⟨j, hj, hx⟩ := atI_len (Paired.length pr) hi
  obtain ⟨w, hw, rw'⟩ := Paired.at' pr hx
  exact ⟨a, vs, i, w, ev, hu, by rw [hK]; exact .of hh, by unfold atI; rw [hj]; exact hw, k w B H m (tv e) (Ex.refl _) hS rw' h⟩
theorem ix_own {p : Addr} {n : Nat} {ts : List TV} {t : TV} (hm : m[n]? = some (p, mL ts)) (hi : atT ts i = some t) (h : P t m) (hK : X.K = Z.K := by rfl) : IxP X Z (tv (Ref.mk p)) (tv i) m P := .of ix_list fun B H Q v u hS hv hu k => by
  obtain ⟨vs, hh, pr⟩ := mL_at hS hm
  obtain ⟨j, hj, hx⟩ := atI_len pr.length hi
  obtain ⟨w, hw, rw'⟩ := pr.at' hx
  exact ⟨p, vs, i, w, hv, hu, by rw [hK]; exact .of hh, by unfold atI; rw [hj]; exact hw, k w B H m t (Ex.refl _) hS rw' h⟩
theorem ix_tupU {t u : TV} {ts : List TV} (ht : TupU t ts) (hi : atT ts i = some u) (h : P u m) (hK : X.K = Z.K := by rfl) : IxP X Z t (tv i) m P := .of ix_tup fun B H Q v w hS hv hw k => by
  obtain ⟨a, vs, ev, hq, rr⟩ := ht _ _ _ hv
  obtain ⟨j, hj, hx⟩ := atI_len rr.length hi
  obtain ⟨z, hz, rz⟩ := rr.at' hx
  exact ⟨a, vs, i, z, ev, hw, by rw [hK]; exact hS.ex.seqT hq, by unfold atI; rw [hj]; exact hz, k z B H m u (Ex.refl _) hS rz h⟩
theorem sl_l {lo hi : Option Int} (h : P (tv ((xs.drop (HT.sIx xs.length 0 lo)).take (HT.sIx xs.length xs.length hi - HT.sIx xs.length 0 lo))) m) (hK : X.K = Z.K := by rfl) : SlP X Z (tv xs) lo hi m P := .of sl_list fun B H Q v hS hv k => by
  obtain ⟨a, vs, ev, hb, hh, pr⟩ := rep_list hS.ex hv
  refine ⟨a, vs, ev, by rw [hK]; exact .of hh, fun p hp => ?_⟩
  have hn := hS.noneB hp
  refine k (.ref p) _ _ m (tv _) (Ex.new hn) (hS.newB hp) ?_ h
  refine ⟨p, _, rfl, upd_same, ?_⟩
  have aux : ∀ (n : Nat) {l₁ : List V} {l₂ : List α}, Paired (Rep.rep Z.K B) l₁ l₂ → Paired (Rep.rep Z.K B) (l₁.drop n) (l₂.drop n) := fun n {l₁ l₂} q => by
    induction n generalizing l₁ l₂ with
    | zero => simpa using q
    | succ n ih => cases q with
      | nil => simp; exact .nil
      | cons _ t => simpa using ih t
  have aux2 : ∀ (n : Nat) {l₁ : List V} {l₂ : List α}, Paired (Rep.rep Z.K B) l₁ l₂ → Paired (Rep.rep Z.K B) (l₁.take n) (l₂.take n) := fun n {l₁ l₂} q => by
    induction n generalizing l₁ l₂ with
    | zero => simp; exact .nil
    | succ n ih => cases q with
      | nil => simp; exact .nil
      | cons r t => simpa using Paired.cons r (ih t)
  have hl : vs.length = xs.length := Paired.length pr
  unfold cutV
  rw [hl]
  exact Paired.monoR (Ex.new hn) (aux2 _ (aux _ pr))
theorem len_l (h : P (tv (xs.length : Int)) m) (hK : X.K = Z.K := by rfl) : CallP X Z (.builtin "len") [tv xs] m P := .of call_len_seq fun B H Q vs hS hv k => by
  cases hv with
  | cons h1 hv =>
    cases hv
    obtain ⟨a, ws, ev, hb, hh, pr⟩ := rep_list hS.ex h1
    refine ⟨a, ws, by rw [ev], .inl (by rw [hK]; exact .of hh), ?_⟩
    rw [Paired.length pr]
    exact k _ B H m _ (Ex.refl _) hS (rep_int _) h
theorem len_own {p : Addr} {n : Nat} {ts : List TV} (hm : m[n]? = some (p, mL ts)) (h : P (tv (ts.length : Int)) m) (hK : X.K = Z.K := by rfl) : CallP X Z (.builtin "len") [tv (Ref.mk p)] m P := .of call_len_seq fun B H Q vs hS hv k => by
  cases hv with
  | cons h1 hv =>
    cases hv
    obtain ⟨ws, hh, pr⟩ := mL_at hS hm
    refine ⟨p, ws, by rw [show _ = V.ref p from h1], .inl (by rw [hK]; exact .of hh), ?_⟩
    rw [pr.length]
    exact k _ B H m _ (Ex.refl _) hS (rep_int _) h
theorem len_tupU {t : TV} {ts : List TV} (ht : TupU t ts) (h : P (tv (ts.length : Int)) m) (hK : X.K = Z.K := by rfl) : CallP X Z (.builtin "len") [t] m P := .of call_len_seq fun B H Q vs hS hv k => by
  cases hv with
  | cons h1 hv =>
    cases hv
    obtain ⟨a, ws, ev, hq, rr⟩ := ht _ _ _ h1
    refine ⟨a, ws, by rw [ev], .inr (by rw [hK]; exact hS.ex.seqT hq), ?_⟩
    rw [rr.length]
    exact k _ B H m _ (Ex.refl _) hS (rep_int _) h
/-! ### built-ins of whole numbers -/
theorem reps1 {K : PySem.W.Frag} {B : Hp} {vs : List V} {t : TV} (h : Reps K B vs [t]) : ∃ v, vs = [v] ∧ t.rep K B v := by
  cases h with
  | cons h1 h => cases h; exact ⟨_, rfl, h1⟩
theorem reps2 {K : PySem.W.Frag} {B : Hp} {vs : List V} {t u : TV} (h : Reps K B vs [t, u]) : ∃ v w, vs = [v, w] ∧ t.rep K B v ∧ u.rep K B w := by
  cases h with
  | cons h1 h => cases h with
    | cons h2 h => cases h; exact ⟨_, _, rfl, h1, h2⟩
theorem abs_i (h : P (tv (if i < 0 then -i else i)) m) : CallP X Z (.builtin "abs") [tv i] m P := .of call_abs fun B H Q vs hS hv k => by
  obtain ⟨v, rfl, r⟩ := reps1 hv
  exact ⟨i, congrArg (fun z => [z]) r, k _ B H m _ (Ex.refl _) hS (rep_int _) h⟩
theorem int_i (h : P (tv i) m) : CallP X Z (.type "int") [tv i] m P := .of call_int1 fun B H Q vs hS hv k => by
  obtain ⟨v, rfl, r⟩ := reps1 hv
  exact .inl ⟨i, congrArg (fun z => [z]) r, k _ B H m _ (Ex.refl _) hS (rep_int _) h⟩
theorem max_ii (hc : X.calm = true) (h : P (tv (max i j)) m) : CallP X Z (.builtin "max") [tv i, tv j] m P := .of (call_max2 hc) fun B H Q vs hS hv k => by
  obtain ⟨v, w, rfl, r1, r2⟩ := reps2 hv
  have e : (if j > i then j else i) = max i j := by split <;> omega
  refine ⟨i, j, by rw [show v = .int i from r1, show w = .int j from r2], ?_⟩
  rw [e]
  exact k _ B H m _ (Ex.refl _) hS (rep_int _) h
theorem min_ii (hc : X.calm = true) (h : P (tv (min i j)) m) : CallP X Z (.builtin "min") [tv i, tv j] m P := .of (call_min2 hc) fun B H Q vs hS hv k => by
  obtain ⟨v, w, rfl, r1, r2⟩ := reps2 hv
  have e : (if j < i then j else i) = min i j := by split <;> omega
  refine ⟨i, j, by rw [show v = .int i from r1, show w = .int j from r2], ?_⟩
  rw [e]
  exact k _ B H m _ (Ex.refl _) hS (rep_int _) h
theorem sum_l {ns : List Int} (hc : X.calm = true) (h : P (tv ns.sum) m) (hK : X.K = Z.K := by rfl) : CallP X Z (.builtin "sum") [tv ns] m P := .of (cr_sum hc) fun B H Q vs hS hv k => by
  obtain ⟨v, rfl, r⟩ := reps1 hv
  obtain ⟨a, ws, ev, hb, hh, pr⟩ := rep_list hS.ex r
  have := rep_ints pr
  subst this
  exact ⟨a, ns, by rw [ev], by rw [hK]; exact .of hh, k _ B H m _ (Ex.refl _) hS (rep_int _) h⟩
theorem all_l {bs : List Bool} (hc : X.calm = true) (h : P (tv (bs.all id)) m) (hK : X.K = Z.K := by rfl) : CallP X Z (.builtin "all") [tv bs] m P := .of (cr_all hc) fun B H Q vs hS hv k => by
  obtain ⟨v, rfl, r⟩ := reps1 hv
  obtain ⟨a, ws, ev, hb, hh, pr⟩ := rep_list hS.ex r
  have := rep_bls pr
  subst this
  exact ⟨a, bs, by rw [ev], by rw [hK]; exact .of hh, k _ B H m _ (Ex.refl _) hS (rep_bool _) h⟩
theorem any_l {bs : List Bool} (hc : X.calm = true) (h : P (tv (bs.any id)) m) (hK : X.K = Z.K := by rfl) : CallP X Z (.builtin "any") [tv bs] m P := .of (cr_any hc) fun B H Q vs hS hv k => by
  obtain ⟨v, rfl, r⟩ := reps1 hv
  obtain ⟨a, ws, ev, hb, hh, pr⟩ := rep_list hS.ex r
  have := rep_bls pr
  subst this
  exact ⟨a, bs, by rw [ev], by rw [hK]; exact .of hh, k _ B H m _ (Ex.refl _) hS (rep_bool _) h⟩
/-! ### isinstance -/
def IsTy (Z : Zs) (t : TV) (m : Mu) (ty : String) : Prop := ∀ B H v, Sta Z B H m → t.rep Z.K B v → TyX Z.K H v (.type ty)
theorem isi {t : TV} {ty T : String} {b : Bool} (ht : IsTy Z t m ty) (h : P (tv b) m) (hb : kitB ty T = some b := by decide +kernel) (hK : X.K = Z.K := by rfl) : CallP X Z (.builtin "isinstance") [t, tv (Typ.mk T)] m P := .of call_isi fun B H Q vs hS hv k => by
  obtain ⟨v, w, rfl, r1, r2⟩ := reps2 hv
  have e : w = .ty T := r2
  subst e
  exact ⟨v, .ty T, .type ty, .type T, b, rfl, .ty T, by rw [hK]; exact ht B H v hS r1, kit_ty hb, k _ B H m _ (Ex.refl _) hS (rep_bool _) h⟩
theorem ty_int {i : Int} : IsTy Z (tv i) m "int" := fun _ _ v _ h => by rw [show v = .int i from h]; exact .base (.int i)
theorem ty_bool {i : Bool} : IsTy Z (tv i) m "bool" := fun _ _ v _ h => by rw [show v = .bl i from h]; exact .base (.bl i)
theorem ty_str {i : Str} : IsTy Z (tv i) m "str" := fun _ _ v _ h => by rw [show v = .str i from h]; exact .base (.str i)
theorem ty_none {i : Unit} : IsTy Z (tv i) m "NoneType" := fun _ _ v _ h => by rw [show v = .non from h]; exact .base .non
theorem ty_list : IsTy Z (tv xs) m "list" := fun B H v hS h => by
  obtain ⟨a, vs, ev, _, hh, _⟩ := rep_list hS.ex h
  rw [ev]
  exact .base (.lst hh)
theorem ty_own {p : Addr} {n : Nat} {ts : List TV} (hm : m[n]? = some (p, mL ts)) : IsTy Z (tv (Ref.mk p)) m "list" := fun B H v hS h => by
  obtain ⟨vs, hh, _⟩ := mL_at hS hm
  rw [show v = .ref p from h]
  exact .base (.lst hh)
theorem ty_tupU {t : TV} {ts : List TV} (ht : TupU t ts) : IsTy Z t m "tuple" := fun B H v hS h => by
  obtain ⟨a, vs, ev, hq, _⟩ := ht _ _ _ h
  rw [ev]
  rcases hS.ex.seqT hq with (h | ⟨o, h⟩) | ⟨o, its, n, h, c, _⟩
  · exact .base (.tup h)
  · exact .fTuple h
  · exact .kTuple h c
end
end Ty

set_option Elab.async false
set_option linter.all false
set_option maxRecDepth 100000
set_option maxHeartbeats 2000000
namespace Ty
open PySem PySem.Spec PyProof.Rows L2
/-! ### built-in names -/
theorem bt_int : bootBuiltins (Str.ofString "int") = some (.type "int") := by decide +kernel
theorem bt_str : bootBuiltins (Str.ofString "str") = some (.type "str") := by decide +kernel
theorem bt_list : bootBuiltins (Str.ofString "list") = some (.type "list") := by decide +kernel
theorem bt_tuple : bootBuiltins (Str.ofString "tuple") = some (.type "tuple") := by decide +kernel
theorem bt_dict : bootBuiltins (Str.ofString "dict") = some (.type "dict") := by decide +kernel
theorem bt_set : bootBuiltins (Str.ofString "set") = some (.type "set") := by decide +kernel
theorem bt_bool : bootBuiltins (Str.ofString "bool") = some (.type "bool") := by decide +kernel
theorem bt_len : bootBuiltins (Str.ofString "len") = some (.builtin "len") := by decide +kernel
theorem bt_abs : bootBuiltins (Str.ofString "abs") = some (.builtin "abs") := by decide +kernel
theorem bt_max : bootBuiltins (Str.ofString "max") = some (.builtin "max") := by decide +kernel
theorem bt_min : bootBuiltins (Str.ofString "min") = some (.builtin "min") := by decide +kernel
theorem bt_sum : bootBuiltins (Str.ofString "sum") = some (.builtin "sum") := by decide +kernel
theorem bt_all : bootBuiltins (Str.ofString "all") = some (.builtin "all") := by decide +kernel
theorem bt_any : bootBuiltins (Str.ofString "any") = some (.builtin "any") := by decide +kernel
theorem bt_sorted : bootBuiltins (Str.ofString "sorted") = some (.builtin "sorted") := by decide +kernel
theorem bt_isinstance : bootBuiltins (Str.ofString "isinstance") = some (.builtin "isinstance") := by decide +kernel
theorem bt_repr : bootBuiltins (Str.ofString "repr") = some (.builtin "repr") := by decide +kernel
/-! ### tests and values that change nothing -/
def eqb (B : Bool) (m : Mu) : Bool → Mu → Prop := fun b m' => b = B ∧ m' = m
def eqv (t : TV) (m : Mu) : TV → Mu → Prop := fun x m' => x = t ∧ m' = m
theorem eqb_rfl {B : Bool} {m : Mu} : eqb B m B m := ⟨rfl, rfl⟩
theorem eqv_rfl {t : TV} {m : Mu} : eqv t m t m := ⟨rfl, rfl⟩
section
variable {X : Cx} {Z : Zs} {ρ : TEnv} {m : Mu} {D : DE} {P : TV → Mu → Prop} {A R B : Bool}
theorem ws_ifP {c : Expr} {a b : List Stmt} {pos : Pos} (h : Wt X Z c ρ m (eqb B m)) (h1 : B = true → Wss X Z a ρ m D) (h2 : B = false → Wss X Z b ρ m D) : Ws X Z (.If c a b pos) ρ m D :=
  ws_if (h.imp fun d m1 ⟨e1, e2⟩ => by subst e1; subst e2; exact ⟨h1, h2⟩)
theorem we_ifP {c a b : Expr} {pos : Pos} (h : Wt X Z c ρ m (eqb B m)) (h1 : B = true → We X Z a ρ m P) (h2 : B = false → We X Z b ρ m P) : We X Z (.IfExp c a b pos) ρ m P :=
  we_if (h.imp fun d m1 ⟨e1, e2⟩ => by subst e1; subst e2; exact ⟨h1, h2⟩)
theorem ww_andP {a b : Expr} {rest : List Expr} {pos : Pos} (h : Wt X Z a ρ m (eqb A m)) (h1 : A = true → Ww X Z (.BoolOp .And (b :: rest) pos) ρ m (eqb R m)) : Ww X Z (.BoolOp .And (a :: b :: rest) pos) ρ m (eqb (A && R) m) :=
  ww_and (h.imp fun d m1 ⟨e1, e2⟩ => by
    subst e1; subst e2
    refine ⟨fun q => (h1 q).imp ?_, fun q => ⟨by rw [q]; rfl, rfl⟩⟩
    rintro b m' ⟨rfl, rfl⟩
    exact ⟨by rw [q, Bool.true_and], rfl⟩)
theorem ww_orP {a b : Expr} {rest : List Expr} {pos : Pos} (h : Wt X Z a ρ m (eqb A m)) (h1 : A = false → Ww X Z (.BoolOp .Or (b :: rest) pos) ρ m (eqb R m)) : Ww X Z (.BoolOp .Or (a :: b :: rest) pos) ρ m (eqb (A || R) m) :=
  ww_or (h.imp fun d m1 ⟨e1, e2⟩ => by
    subst e1; subst e2
    refine ⟨fun q => ⟨by rw [q]; rfl, rfl⟩, fun q => (h1 q).imp ?_⟩
    rintro b m' ⟨rfl, rfl⟩
    exact ⟨by rw [q, Bool.false_or], rfl⟩)
theorem wt_notP {a : Expr} {pos : Pos} (h : Wt X Z a ρ m (eqb A m)) : Wt X Z (.UnaryOp .Not a pos) ρ m (eqb (!A) m) := wt_not (h.imp fun d m1 ⟨e1, e2⟩ => ⟨by rw [e1], e2⟩)
theorem we_notP {a : Expr} {pos : Pos} (h : We X Z a ρ m (eqv (tv A) m)) : We X Z (.UnaryOp .Not a pos) ρ m (eqv (tv (!A)) m) := we_not (h.imp fun d m1 ⟨e1, e2⟩ => by subst e1; subst e2; exact ⟨A, rfl, rfl, rfl⟩)
theorem we_andP {a b : Expr} {rest : List Expr} {pos : Pos} (h : We X Z a ρ m (eqv (tv A) m)) (h1 : A = true → We X Z (.BoolOp .And (b :: rest) pos) ρ m (eqv (tv R) m)) : We X Z (.BoolOp .And (a :: b :: rest) pos) ρ m (eqv (tv (A && R)) m) :=
  we_and (h.imp fun d m1 ⟨e1, e2⟩ => by
    subst e1; subst e2
    refine ⟨A, rfl, fun q => (h1 q).imp ?_, fun q => ⟨by rw [q]; rfl, rfl⟩⟩
    rintro b m' ⟨rfl, rfl⟩
    exact ⟨by rw [q, Bool.true_and], rfl⟩)
theorem we_orP {a b : Expr} {rest : List Expr} {pos : Pos} (h : We X Z a ρ m (eqv (tv A) m)) (h1 : A = false → We X Z (.BoolOp .Or (b :: rest) pos) ρ m (eqv (tv R) m)) : We X Z (.BoolOp .Or (a :: b :: rest) pos) ρ m (eqv (tv (A || R)) m) :=
  we_or (h.imp fun d m1 ⟨e1, e2⟩ => by
    subst e1; subst e2
    refine ⟨A, rfl, fun q => ⟨by rw [q]; rfl, rfl⟩, fun q => (h1 q).imp ?_⟩
    rintro b m' ⟨rfl, rfl⟩
    exact ⟨by rw [q, Bool.false_or], rfl⟩)
/-- a op1 b op2 c, all three flat -/
theorem wt_chainP {a b c : Expr} {op op' : CmpOp} {pos : Pos} {x y z : TV} (ha : We X Z a ρ m (eqv x m)) (hb : We X Z b ρ m (eqv y m)) (h1 : OpP X Z (compareOp op) x y m (eqv (tv A) m)) (hc : A = true → We X Z c ρ m (eqv z m)) (h2 : A = true → OpP X Z (compareOp op') y z m (eqv (tv R) m))
    (hm : lastMarks [op, op'] [b, c] = false := by with_unfolding_all rfl) : Wt X Z (.Compare a [op, op'] [b, c] pos) ρ m (eqb (A && R) m) :=
  wt_chain (ha.imp fun x' m1 ⟨e1, e2⟩ => by
    subst e1; subst e2
    refine hb.imp fun y' m2 ⟨e1, e2⟩ => ?_
    subst e1; subst e2
    refine fun B H Q v u S r1 r2 k => h1 B H Q v u S r1 r2 fun v' B' H' m' z' e s r p => k v' B' H' m' z' e s r ?_
    obtain ⟨e1, e2⟩ := p
    subst e1; subst e2
    refine ⟨A, rfl, fun q => (hc q).imp fun z2 m3 ⟨e1, e2⟩ => ?_, fun q => ⟨by rw [q]; rfl, rfl⟩⟩
    subst e1; subst e2
    refine fun B H Q v u S r1 r2 k => h2 q B H Q v u S r1 r2 fun v' B' H' m' z' e s r p => k v' B' H' m' z' e s r ?_
    obtain ⟨e1, e2⟩ := p
    subst e1; subst e2
    exact ⟨R, rfl, by rw [q, Bool.true_and], rfl⟩) hm
theorem we_chainP {a b c : Expr} {op op' : CmpOp} {pos : Pos} {x y z : TV} (ha : We X Z a ρ m (eqv x m)) (hb : We X Z b ρ m (eqv y m)) (h1 : OpP X Z (compareOp op) x y m (eqv (tv A) m)) (hc : A = true → We X Z c ρ m (eqv z m)) (h2 : A = true → OpP X Z (compareOp op') y z m (eqv (tv R) m))
    (hm : lastMarks [op, op'] [b, c] = false := by with_unfolding_all rfl) : We X Z (.Compare a [op, op'] [b, c] pos) ρ m (eqv (tv (A && R)) m) :=
  we_chain (ha.imp fun x' m1 ⟨e1, e2⟩ => by
    subst e1; subst e2
    refine hb.imp fun y' m2 ⟨e1, e2⟩ => ?_
    subst e1; subst e2
    refine fun B H Q v u S r1 r2 k => h1 B H Q v u S r1 r2 fun v' B' H' m' z' e s r p => k v' B' H' m' z' e s r ?_
    obtain ⟨e1, e2⟩ := p
    subst e1; subst e2
    refine ⟨A, rfl, fun q => (hc q).imp fun z2 m3 ⟨e1, e2⟩ => ?_, fun q => ⟨by rw [q]; rfl, rfl⟩⟩
    subst e1; subst e2
    refine fun B H Q v u S r1 r2 k => h2 q B H Q v u S r1 r2 fun v' B' H' m' z' e s r p => k v' B' H' m' z' e s r ?_
    obtain ⟨e1, e2⟩ := p
    subst e1; subst e2
    exact ⟨by rw [q, Bool.true_and], rfl⟩) hm
theorem ww_andQ {a b : Expr} {rest : List Expr} {pos : Pos} (h : Wt X Z a ρ m (eqb A m)) (h1 : Ww X Z (.BoolOp .And (b :: rest) pos) ρ m (eqb R m)) : Ww X Z (.BoolOp .And (a :: b :: rest) pos) ρ m (eqb (A && R) m) := ww_andP h fun _ => h1
theorem ww_orQ {a b : Expr} {rest : List Expr} {pos : Pos} (h : Wt X Z a ρ m (eqb A m)) (h1 : Ww X Z (.BoolOp .Or (b :: rest) pos) ρ m (eqb R m)) : Ww X Z (.BoolOp .Or (a :: b :: rest) pos) ρ m (eqb (A || R) m) := ww_orP h fun _ => h1
theorem we_andQ {a b : Expr} {rest : List Expr} {pos : Pos} (h : We X Z a ρ m (eqv (tv A) m)) (h1 : We X Z (.BoolOp .And (b :: rest) pos) ρ m (eqv (tv R) m)) : We X Z (.BoolOp .And (a :: b :: rest) pos) ρ m (eqv (tv (A && R)) m) := we_andP h fun _ => h1
theorem we_orQ {a b : Expr} {rest : List Expr} {pos : Pos} (h : We X Z a ρ m (eqv (tv A) m)) (h1 : We X Z (.BoolOp .Or (b :: rest) pos) ρ m (eqv (tv R) m)) : We X Z (.BoolOp .Or (a :: b :: rest) pos) ρ m (eqv (tv (A || R)) m) := we_orP h fun _ => h1
theorem wt_chainQ {a b c : Expr} {op op' : CmpOp} {pos : Pos} {x y z : TV} (ha : We X Z a ρ m (eqv x m)) (hb : We X Z b ρ m (eqv y m)) (h1 : OpP X Z (compareOp op) x y m (eqv (tv A) m)) (hc : We X Z c ρ m (eqv z m)) (h2 : OpP X Z (compareOp op') y z m (eqv (tv R) m))
    (hm : lastMarks [op, op'] [b, c] = false) : Wt X Z (.Compare a [op, op'] [b, c] pos) ρ m (eqb (A && R) m) := wt_chainP ha hb h1 (fun _ => hc) (fun _ => h2) hm
theorem we_chainQ {a b c : Expr} {op op' : CmpOp} {pos : Pos} {x y z : TV} (ha : We X Z a ρ m (eqv x m)) (hb : We X Z b ρ m (eqv y m)) (h1 : OpP X Z (compareOp op) x y m (eqv (tv A) m)) (hc : We X Z c ρ m (eqv z m)) (h2 : OpP X Z (compareOp op') y z m (eqv (tv R) m))
    (hm : lastMarks [op, op'] [b, c] = false) : We X Z (.Compare a [op, op'] [b, c] pos) ρ m (eqv (tv (A && R)) m) := we_chainP ha hb h1 (fun _ => hc) (fun _ => h2) hm
/-- a value that changes nothing, used -/
theorem we_eqv {e : Expr} {t : TV} (h : We X Z e ρ m (eqv t m)) (k : P t m) : We X Z e ρ m P := h.imp fun x m' ⟨e1, e2⟩ => by subst e1; subst e2; exact k
theorem we_eqI {e : Expr} {P' : TV → Mu → Prop} (h : We X Z e ρ m P') (k : ∀ t m', P' t m' → P t m') : We X Z e ρ m P := h.imp k
/-- o[i] = v, o a list that may change -/
theorem wg_subL {o i : Expr} {pos : Pos} {t : TV} {R : TEnv → Mu → Prop} (h : We X Z o ρ m fun x m1 => We X Z i ρ m1 fun y m2 => ∃ (p : Addr) (n : Nat) (ts : List TV) (k : Int) (j : Nat), x = tv (Ref.mk p) ∧ y = tv k ∧ m2[n]? = some (p, mL ts) ∧ ixN ts.length k = some j ∧ R ρ (m2.set n (p, mL (ts.set j t))))
    (ha : ∀ v, assign (.Subscript o i pos) X.env v = (do
      let ov ← holding [v] (eval o X.env)
      let iv ← holding [v, ov] (eval i X.env)
      standAt pos
      holding [v, ov, iv] (setItem ov iv v)
      release [v, ov, iv] []) := by intro _; rfl) : Wg X Z (.Subscript o i pos) t ρ m R :=
  .of (pg_sub pe_sem pe_sem set_list ha) fun σ B H v Q he hs r k => we_sub h he hs fun x B1 H1 m1 tx a1 b1 c1 d1 e1 => we_sub e1 b1 c1 fun y B2 H2 m2 ty a2 b2 c2 d2 e2 => by
    obtain ⟨p, n, ts, i', j, rfl, rfl, hm, hj, q⟩ := e2
    obtain ⟨vs, hv, rv⟩ := mL_at c2 hm
    refine ⟨p, vs, i', j, d1, d2, hv, by rw [rv.length]; exact hj, ?_⟩
    exact k σ B2 _ ρ _ (a1.trans a2) b2 (c2.write (d := mL (ts.set j t)) hm ⟨_, rfl, rv.set (TV.mono (a1.trans a2) r) j⟩) q
end
end Ty

set_option Elab.async false
set_option linter.all false
set_option maxRecDepth 100000
set_option maxHeartbeats 2000000
namespace Ty
open PySem PySem.Spec PyProof.Rows L2

/-! ### an exception that is being made -/
def mXo (a C : Addr) (d : Option Addr) : MV := ⟨fun _ _ o => o = exo a C d, fun _ h => h⟩
def mXd (dx : Addr) (fs : List (Str × TV)) : MV := ⟨fun K B o => ∃ vs, o = exd dx vs ∧ FRep K B vs fs, fun e ⟨vs, h1, h2⟩ => ⟨vs, h1, h2.mono e⟩⟩
/-- a class whose __init__ is ValueError's, by its name as a value -/
structure SupI (K : PySem.W.Frag) (C0 : Addr) : Prop where
  ga : PySem.W.specialIn K (.ref C0) "__getattribute__" = some (some (.builtin "type.__getattribute__"))
  rd : PySem.W.readsIn K C0 (.type "type") = true
  fi : PySem.W.findCls K (.ref C0) (.type "type") "__init__" = some (.val (.builtin "ValueError.__init__"))
section
variable {X : Cx} {Z : Zs} {ρ : TEnv} {m : Mu} {D : DE} {P : TV → Mu → Prop} {xp : XV → TEnv → Mu → Prop} {T : TSpec}
variable {e o : Expr} {es : List Expr} {pos p p1 p2 p' : Pos} {x f : Str} {C0 : Addr}
theorem mX_at {B H : Hp} {q : Addr} {i : Nat} {a C : Addr} {d : Option Addr} (S : Sta Z B H m) (h : m[i]? = some (q, mXo a C d)) : H q = some (exo a C d) := by
  obtain ⟨_, u, hu, e⟩ := S.hp.at_ i q _ h
  rw [hu]; exact congrArg some e
/-- Base.__init__(self, 'text') -/
theorem we_xinit {pl : Sem Bool} (hm : X.mg x = some (.ref C0)) (F : SupI X.K C0) (h : Wa X Z (e :: es) ρ m fun xs m1 => ∃ (a C : Addr) (rest : List TV) (i : Nat), xs = tv (Ref.mk a) :: rest ∧ rest.length ≤ 1000 ∧ OexC X.K C ∧ m1[i]? = some (a, mXo a C none) ∧ P (tv ()) m1)
    (hg : Gl X x := by rfl) (hdb : (x == ("__debug__" : Str)) = false := by decide)
    (hc : eval (.Call (.Attribute (.Name x p1) "__init__" p2) (e :: es) [] pos) X.env = (do
      let ov ← eval (.Name x p1) X.env
      standAt p2.atName
      let (f, first) ← holding [ov] (getMethod ov "__init__" pl)
      callWith pos f first (backTo pos (starEach (e :: es) X.env)) (backToKw pos (keywordEach [] X.env))) := by rfl)
    (he : starEach (e :: es) X.env = (false, eval e X.env) :: starEach es X.env := by rfl) (hpl : (backTo pos (starEach es X.env)).any (·.1) = false := by rfl) :
    We X Z (.Call (.Attribute (.Name x p1) "__init__" p2) (e :: es) [] pos) ρ m P := fun σ B H Q hE hS k pins s I => by
  refine PySem.W.methodCall_KW (ld_glob I hg hm ?_ hdb) hc
  refine PySem.W.method_cls I.kIn F.ga (PySem.W.cls_value I.kIn F.rd F.fi (by decide +kernel) ?_)
  show wpAny _ _ (callWith pos (Value.builtin "ValueError.__init__") [] (backTo pos (starEach (e :: es) X.env)) []) _ _ _
  refine PyProof.Rows.callWith_method1 (wpAny_mono (h σ B H (fun vs H1 => ∃ (a C : Addr) (ws : List V), vs = .ref a :: ws ∧ ws.length ≤ 1000 ∧ OexC X.K C ∧ H1 a = some (exo a C none) ∧ Q .non H1) hE hS (fun vs B1 H1 m1 xs e1 s1 r1 w1 => ?_) pos pins _ (I.tok _)) (fun us s1 hh => ?_) fun _ _ z => z) he hpl
  · obtain ⟨a, C, rest, i, rfl, hl, T, hi, hp⟩ := w1
    cases r1 with
    | cons r r1 => exact ⟨a, C, _, by rw [show _ = V.ref a from r], by rw [r1.length]; exact hl, T, mX_at s1 hi, k .non B1 H1 m1 (tv ()) e1 s1 (show V.non = .non from rfl) hp⟩
  · obtain ⟨vs, H1, I1, r1, a, C, ws, ev, hl, T, ea, q⟩ := hh
    subst ev
    cases r1 with
    | @cons _ u0 _ ur ra rw' =>
      obtain rfl : u0 = Value.ref a := ra
      have hlen : ur.length ≤ sizeLine := by
        rw [← Paired.length rw', sizeLine_eq]
        omega
      exact oinit_ok T I1 ea hlen fun s' J => ⟨.non, H1, J, rfl, q⟩
/-- self.f = e, self an exception that is being made: the first such store -/
theorem ws_ost (h : We X Z e ρ m fun t m1 => We X Z o ρ m1 fun u m2 => ∃ (a C : Addr) (i : Nat), u = tv (Ref.mk a) ∧ OexC X.K C ∧ PySem.W.findIn X.K (.ref C) f = some none ∧ m2[i]? = some (a, mXo a C none) ∧ ∀ dx, D.nx ρ (m2.set i (a, mXo a C (some dx)) ++ [(dx, mXd dx [(f, t)])]))
    (hs : swapsWith e (some (.Attribute o f p')) pos.line X.env = pure false := by rfl) : Ws X Z (.Assign [.Attribute o f p'] e pos) ρ m D :=
  .of (ps_ost pe_sem pe_sem hs) fun σ B H E hE hS k => we_sub h hE hS fun v B1 H1 m1 t a1 b1 c1 d1 e1 => we_sub e1 b1 c1 fun u B2 H2 m2 t2 a2 b2 c2 d2 e2 => by
    obtain ⟨a, C, i, rfl, T, hno, hi, q⟩ := e2
    have ea := mX_at c2 hi
    refine ⟨a, C, d2, T, hno, .inl ⟨ea, fun dx n ne => ?_⟩⟩
    have ea' : upd H2 dx (exd dx [(f, v)]) a = some (exo a C none) := by rw [upd_ne (Ne.symm ne)]; exact ea
    have s1 := c2.newM (o := exd dx [(f, v)]) n (c := mXd dx [(f, t)]) ⟨_, rfl, .cons (TV.mono a2 d1) .nil⟩
    have hi2 : (m2 ++ [(dx, mXd dx [(f, t)])])[i]? = some (a, mXo a C none) := by
      rw [List.getElem?_append_left (List.getElem?_eq_some_iff.mp hi).1]; exact hi
    have s2 := s1.write (o := exo a C (some dx)) (d := mXo a C (some dx)) hi2 rfl
    rw [List.set_append_left _ _ (List.getElem?_eq_some_iff.mp hi).1] at s2
    exact k.nx σ B2 _ ρ _ (a1.trans a2) b2 s2 (q dx)
/-- .. a further one -/
theorem ws_ost2 (h : We X Z e ρ m fun t m1 => We X Z o ρ m1 fun u m2 => ∃ (a C dx : Addr) (i j : Nat) (fs : List (Str × TV)), u = tv (Ref.mk a) ∧ OexC X.K C ∧ PySem.W.findIn X.K (.ref C) f = some none ∧ m2[i]? = some (a, mXo a C (some dx)) ∧ m2[j]? = some (dx, mXd dx fs) ∧ fs.length ≤ 900 ∧ D.nx ρ (m2.set j (dx, mXd dx ((f, t) :: fs))))
    (hs : swapsWith e (some (.Attribute o f p')) pos.line X.env = pure false := by rfl) : Ws X Z (.Assign [.Attribute o f p'] e pos) ρ m D :=
  .of (ps_ost pe_sem pe_sem hs) fun σ B H E hE hS k => we_sub h hE hS fun v B1 H1 m1 t a1 b1 c1 d1 e1 => we_sub e1 b1 c1 fun u B2 H2 m2 t2 a2 b2 c2 d2 e2 => by
    obtain ⟨a, C, dx, i, j, fs, rfl, T, hno, hi, hj, hl, q⟩ := e2
    obtain ⟨_, w, hw, vs, ew, fr⟩ := c2.hp.at_ j dx _ hj
    subst ew
    refine ⟨a, C, d2, T, hno, .inr ⟨dx, vs, mX_at c2 hi, hw, by rw [fr.length]; exact hl, ?_⟩⟩
    exact k.nx σ B2 _ ρ _ (a1.trans a2) b2 (c2.write (o := exd dx ((f, v) :: vs)) (d := mXd dx ((f, t) :: fs)) hj ⟨_, rfl, .cons (TV.mono (a1.trans a2 |> fun _ => a2) d1) fr⟩) q

/-! ### raise C(e, ..) -/
/-- what stands of an own exception class: its __init__'s promise -/
def OexK (P : Program) (w : World) (K : PySem.W.Frag) (mg : Str → Option Value) (base : Heap) (x : Str) (C : Addr) (k : Nat) (T : TSpec) (dts : List TV) : Prop :=
  mg x = some (.ref C) ∧ OexC K C ∧ ∃ (fI : Addr) (fd : FuncData) (ps : List Str) (dvs : List V) (ds : List Value), PySem.W.findIn K (.ref C) "__init__" = some (some (.ref fI)) ∧ PySem.W.typeIn K (.ref fI) = some (.type "function") ∧ FnG P w K mg base k fI fd ps T ∧ Binds K fd ps ds ∧ Vals dvs ds ∧ Flat K dvs dts
theorem Sta.re {B H : Hp} (S : Sta Z B H m) : Sta ⟨Z.K, B, H, m⟩ B H m := ⟨S.hp, Go.refl⟩
theorem Sta.back {B H B' H' : Hp} {m' : Mu} (S : Sta Z B H m) (s : Sta ⟨Z.K, B, H, m⟩ B' H' m') : Sta Z B' H' m' := ⟨s.hp, S.go.trans s.go⟩
theorem EOk.re {B H : Hp} {E : Ends} (S : Sta Z B H m) (k : EOk Z B D E) : EOk ⟨Z.K, B, H, m⟩ B D E :=
  ⟨fun s B' H' r m' a b c d => k.nx s B' H' r m' a b (S.back c) d, fun v B' H' m' x a c r d => k.rt v B' H' m' x a (S.back c) r d, fun s B' H' r m' a b c d => k.bk s B' H' r m' a b (S.back c) d, fun s B' H' r m' a b c d => k.ct s B' H' r m' a b (S.back c) d⟩
/-- the exception flies: its dict is kept for good -/
theorem Sta.fly {B1 H1 B2 H2 : Hp} {a dx C : Addr} {c : MV} {fs : List (Str × TV)} (S : Sta Z B1 H1 m) (ha : H1 a = none) (S2 : Sta ⟨Z.K, B1, upd H1 a (exo a C none), m ++ [(a, c)]⟩ B2 H2 (m ++ [(a, mXo a C (some dx)), (dx, mXd dx fs)])) :
    H1 dx = none ∧ H2 a = some (exo a C (some dx)) ∧ ∃ vs, H2 dx = some (exd dx vs) ∧ FRep Z.K B2 vs fs ∧ Ex B1 (upd B2 dx (.xd vs)) ∧ FRep Z.K (upd B2 dx (.xd vs)) vs fs ∧ Sta Z (upd B2 dx (.xd vs)) (upd (del H2 a) dx (.xd vs)) m := by
  have hia : (m ++ [(a, mXo a C (some dx)), (dx, mXd dx fs)])[m.length]? = some (a, mXo a C (some dx)) := by simp
  have hix : (m ++ [(a, mXo a C (some dx)), (dx, mXd dx fs)])[m.length + 1]? = some (dx, mXd dx fs) := by simp
  obtain ⟨ba, ua, hua, ea⟩ := S2.hp.at_ _ a _ hia
  obtain ⟨bx, ux, hux, vs, ex, fr⟩ := S2.hp.at_ _ dx _ hix
  subst ex
  have nd := S2.hp.nd
  rw [keys_app] at nd
  obtain ⟨n1, n2, n3⟩ := List.nodup_append.mp nd
  have ne : dx ≠ a := fun z => by
    subst z
    simp [keys] at n2
  have am : a ∉ keys m := fun z => n3 a z a (by simp [keys]) rfl
  have xm : dx ∉ keys m := fun z => n3 dx z dx (by simp [keys]) rfl
  have kk : ∀ b, b ∈ keys (m ++ [(a, c)]) ↔ b ∈ keys m ∨ b = a := fun b => by rw [keys_app, List.mem_append]; simp [keys]
  have hx : H1 dx = none := by
    rcases S2.go.ks dx (by rw [keys_app]; exact List.mem_append_right _ (by simp [keys])) with z | z
    · rcases (kk dx).mp z with z | z
      · exact absurd z xm
      · exact absurd z ne
    · have z' : upd H1 a (exo a C none) dx = none := z
      rw [upd_ne ne] at z'; exact z'
  have exB : Ex B2 (upd B2 dx (.xd vs)) := Ex.new bx
  have up2 : ∀ b, b ≠ a → b ≠ dx → upd (del H2 a) dx (.xd vs) b = H2 b := fun b h1 h2 => by rw [upd_ne h2, del_ne h1]
  refine ⟨hx, by rw [hua]; exact congrArg some ea, vs, hux, fr, S2.go.ext.trans exB, fr.mono exB, ⟨⟨fun b o q => ?_, n1, fun i q d hi => ?_⟩, S.go.trans ⟨S2.go.ext.trans exB, fun b o q hb => ?_, fun b q => ?_, fun b q => ?_, fun b q => .inl q⟩⟩⟩
  · by_cases h : b = dx
    · subst h; rw [upd_same] at q ⊢; exact q
    · rw [upd_ne h] at q
      have h2 : b ≠ a := fun z => by subst z; rw [ba] at q; cases q
      rw [up2 b h2 h]; exact S2.hp.ex b o q
  · have hi2 : (m ++ [(a, mXo a C (some dx)), (dx, mXd dx fs)])[i]? = some (q, d) := by
      rw [List.getElem?_append_left (List.getElem?_eq_some_iff.mp hi).1]; exact hi
    obtain ⟨h1, u, h2, h3⟩ := S2.hp.at_ i q d hi2
    have qm : q ∈ keys m := List.mem_map.mpr ⟨(q, d), List.mem_of_getElem? hi, rfl⟩
    have n1 : q ≠ a := fun z => am (z ▸ qm)
    have n2 : q ≠ dx := fun z => xm (z ▸ qm)
    exact ⟨by rw [upd_ne n2]; exact h1, u, by rw [up2 q n1 n2]; exact h2, d.mono exB h3⟩
  · have n1 : b ≠ a := fun z => by subst z; rw [ha] at q; cases q
    have n2 : b ≠ dx := fun z => by subst z; rw [hx] at q; cases q
    rw [up2 b n1 n2]
    refine S2.go.keep b o (by show upd H1 a _ b = _; rw [upd_ne n1]; exact q) fun z => ?_
    rcases (kk b).mp z with z | z
    · exact hb z
    · exact n1 z
  · by_cases n2 : b = dx
    · subst n2; rw [upd_same]; exact fun z => nomatch z
    · have n1 : b ≠ a := fun z => by subst z; exact q ha
      rw [up2 b n1 n2]
      exact S2.go.dom b (by show upd H1 a _ b ≠ _; rw [upd_ne n1]; exact q)
  · by_cases n2 : b = dx
    · subst n2; exact .inr (.inl hx)
    · rw [upd_ne n2] at q
      rcases S2.go.nw b q with z | z | z
      · exact .inl z
      · refine .inr (.inl ?_)
        by_cases n1 : b = a
        · subst n1; exact ha
        · have z' : upd H1 a (exo a C none) b = none := z
          rw [upd_ne n1] at z'; exact z'
      · rcases (kk b).mp z with z | z
        · exact .inr (.inr z)
        · subst z; exact .inr (.inl ha)
variable {k k' : Nat} {C : Addr} {dts : List TV}
theorem ws_raise (F : OexK X.prog X.w X.K X.mg X.base x C k T dts) (hgd : X.A.guards = some []) (hr : Room k' X.A) (hx : XT X Z xp) (hc : X.calm = true)
    (h : Wa X Z (e :: es) ρ m fun xs m1 => xs.length ≤ 900 ∧ ∀ a, FrP T (tv (Ref.mk a) :: (xs ++ dts)) (m1 ++ [(a, mXo a C none)]) (fun t m2 => t = tv () ∧ ∃ dx fs, m2 = m1 ++ [(a, mXo a C (some dx)), (dx, mXd dx fs)] ∧ xp ⟨.ref C, fs⟩ ρ m1) fun _ _ => False)
    (hkk : k + 1 ≤ k' := by decide) (hK : X.K = Z.K := by rfl) (hg : Gl X x := by rfl) (hdb : (x == ("__debug__" : Str)) = false := by decide)
    (he : starEach (e :: es) X.env = (false, eval e X.env) :: starEach es X.env := by rfl) (hpl : (backTo p1 (starEach es X.env)).any (·.1) = false := by rfl) :
    Ws X Z (.Raise (some (.Call (.Name x p) (e :: es) [] p1)) none pos) ρ m D := fun σ B H E hE hS kE pins0 s0 I0 => by
  obtain ⟨hm, TC, fI, fd, ps, dvs, ds, iC, tI, G, hb, hd, hf⟩ := F
  obtain ⟨nm, q, N, bs, bm, sn, sub, ab, col, dd, k0, k1, k2, k3, k5, hC, hbm⟩ := TC.cls
  have hr1 : Room (k + 1) X.A := hr.mono hkk
  refine (ps_raise (W := fun c d σ H => ∃ ρ, xk Z ρ xp σ c d H) (t := fun σ' H' Q' => σ' = σ ∧ H' = H ∧ ∀ c d H2, xk Z ρ xp σ c d H2 → Q' c d H2) hc hx ?_).run pins0 s0 σ H E I0 ⟨rfl, rfl, fun c d H2 z => ⟨ρ, z⟩⟩
  intro pins s σ' H' Q I hh0
  obtain ⟨e1, e2, hQ⟩ := hh0
  subst e1 e2
  refine wpAny_Call_Name_kw (ld_glob I hg hm ?_ hdb)
  refine PySem.W.callWith_K (h₀ := X.base) I.ok.mod.kin TC.kC (wpAny_mono (h σ' B H' (fun vs H1 => vs.length ≤ 900 ∧ ∀ a, H1 a = none → spOf Z.K T (.ref a :: (vs ++ dvs)) (upd H1 a (exo a C none)) (fun v H2 => v = .non ∧ ∃ (d : Addr) (fs : List (Str × V)), H2 a = some (exo a C (some d)) ∧ H2 d = some (exd d fs) ∧ H1 d = none ∧ Q (.ref C) (some d) (upd (del H2 a) d (.xd fs))) (fun _ _ _ => False))
    hE hS (fun vs B1 H1 m1 xs e1 s1 r1 w1 => ?_) p1 pins s I) (fun us s1 hh => ?_) fun _ _ z => z) he hpl
  · refine ⟨by rw [r1.length]; exact w1.1, fun a ha => ?_⟩
    have s2 := s1.newM (o := exo a C none) ha (c := mXo a C none) rfl
    refine spOf_imp ((w1.2 a).sp (Z := ⟨Z.K, B1, upd H1 a (exo a C none), m1 ++ [(a, mXo a C none)]⟩) (xp := noX) (ρ := ρ) (hE.mono e1) s2.re (.cons (show V.ref a = .ref a from rfl) (r1.append ((hK ▸ hf) B1))) fun v B' H' m' x eB s3 rv pp => ?_) fun c d H' ⟨_, _, _, _, _, _, z⟩ => z.elim
    obtain ⟨rfl, dx, fs, em2, px⟩ := pp
    subst em2
    obtain ⟨hx1, ea, vs2, ed, fr, eB, fr2, s4⟩ := s1.fly ha s3
    exact ⟨rv, dx, vs2, ea, ed, hx1, hQ _ _ _ ⟨_, m1, ⟨.ref C, fs⟩, hE.mono (e1.trans eB), s4, ⟨rfl, dx, vs2, rfl, upd_same, fr2⟩, px⟩⟩
  · obtain ⟨vs, H1, I1, r1, hz, q1⟩ := hh
    refine ⟨I1.kIn, ?_⟩
    show wpAny _ _ (call (.ref C) us) _ _ _
    obtain ⟨hp, g, dr, tk, os⟩ := s1
    have hsz : hp.objs.size ≤ hp.objs.size + 1 := Nat.le_succ _
    have hn : H1 (hp.objs.size + 1) = none := I1.hok.fresh hsz
    have hq := q1 (hp.objs.size + 1) hn
    have kk : ∀ b o, hp.get? b = some o → ((hp.push (PySem.W.kdv_tup us)).push (PySem.HandSPX.excO C hp.objs.size)).get? b = some o := fun b o e => Heap.get?_push_of_some _ (Heap.get?_push_of_some _ e)
    have hget : ((hp.push (PySem.W.kdv_tup us)).push (PySem.HandSPX.excO C hp.objs.size)).get? (hp.objs.size + 1) = some (PySem.HandSPX.excO C hp.objs.size) := by heap_get
    have I2 : Inv X pins σ' (upd H1 (hp.objs.size + 1) (exo (hp.objs.size + 1) C none)) ⟨(hp.push (PySem.W.kdv_tup us)).push (PySem.HandSPX.excO C hp.objs.size), g, dr, tk, os⟩ :=
      I1.laid (t' := tk) (a := hp.objs.size + 1) (o := exo (hp.objs.size + 1) C none) (h' := (hp.push (PySem.W.kdv_tup us)).push (PySem.HandSPX.excO C hp.objs.size)) kk hsz (exo_ok hget)
    have r2 : Vals (V.ref (hp.objs.size + 1) :: (vs ++ dvs)) (Value.ref (hp.objs.size + 1) :: (us ++ ds)) := .cons rfl (r1.append hd)
    have hl : (Value.ref (hp.objs.size + 1) :: us ++ ds).length = ps.length := r2.length.symm.trans (spOf_len G.len hq)
    have hus : us.length ≤ sizeLine := by
      rw [← Paired.length r1, sizeLine_eq]
      omega
    refine wpAny_call (PySem.HandSPX.call_own F.excBase_ValueError (fun Y => PySem.HandSPX.refsVE_contains Y bm hbm) (I1.kIn _ _ hC) (PySem.W.looks_findIn I1.kIn iC) (fun self => PySem.W.bind_fn I1.kIn self tI) hus
      (codeAny_mono (G.run _ X.stack _ _ ⟨Value.ref (hp.objs.size + 1) :: us, []⟩ (Value.ref (hp.objs.size + 1) :: (us ++ ds)) _ _ (fun _ _ _ => False) (under_guards.trans hgd) (hr1.make C us []) (I2.env0.make C us []) (hb _ (Value.ref (hp.objs.size + 1) :: us) I2.kIn hl) r2 (hK ▸ hq)) fun r s' hq' => ?_))
    match r, hq' with
    | .error er, hq' =>
      obtain ⟨_, _, _, _, _, _, _, _, _, _, _, _, z⟩ := hq'
      exact z.elim
    | .ok (.ret u), hq' =>
      obtain ⟨v, H2, os2, bare2, un2, hok2, rv, ev, d, fs, ea, ed, hd1, q2⟩ := hq'
      subst ev
      obtain ⟨h2, g2, d2, t2, os'⟩ := s'
      exact ⟨rv, mk_end (raises_own TC.exC TC.tyC) I1 hsz kk un2 hok2 os2 bare2 ea ed hd1 q2⟩
    | .ok .next, hq' => exact False.elim hq'
    | .ok .brk, hq' => exact False.elim hq'
    | .ok .cont, hq' => exact False.elim hq'
end
end Ty

set_option Elab.async false
set_option linter.all false
set_option maxRecDepth 100000
set_option maxHeartbeats 2000000
namespace Ty
open PySem PySem.Spec PyProof.Rows L2

/-! ### a caught exception before its clauses -/
/-- landed in X's frame: its object at a in the heap g, X's own things untouched -/
structure Lnd (X : Cx) (pins : List (Addr × Obj)) (σ : L2.St) (H : Hp) (a : Addr) (c : Value) (d : Option Addr) (t : Shared) (g : Heap) : Prop where
  ok : X.Ok
  na : H a = none
  ex : ∃ (B : Heap) (r : Shared), L2.Inv X pins σ H r ∧ (∀ b o, r.heap.get? b = some o → b ∉ frs X.stack → B.get? b = some o) ∧ r.heap.UpToSlots g ∧ HandSPX.FlyingZ B (X.env :: X.outer) a (Zc c d) g ∧ t.os = r.os ∧ AllBare t.gens
/-- what one clause after the other wishes: at each a class, a slot for the name (or none), the suite's reading -/
abbrev Cls1 := Value × Option Nat × (Addr → Value → Option Addr → TS)
def offN (i : Option Nat) (E : Ends) : Ends := match i with
  | none => E
  | some i => { nx := fun σ H => E.nx (σ.set i none) H, rt := E.rt, bk := fun σ H => E.bk (σ.set i none) H, ct := fun σ H => E.ct (σ.set i none) H }
def onN (i : Option Nat) (a : Addr) (σ : L2.St) : L2.St := match i with
  | none => σ
  | some i => σ.set i (some (.ref a))
def wCls (K : PySem.W.Frag) (Wout : WX) (E : Ends) : List Cls1 → WX
  | [] => Wout
  | (c, i, t) :: l => fun cls d σ H => ∃ b, PySem.W.exmOne K cls c = some b ∧ (b = true → ∀ a, H a = none → t a cls d (offN i E) (onN i a σ) H) ∧ (b = false → wCls K Wout E l cls d σ H)
/-- the name of a clause, by its slot -/
inductive NmOk (X : Cx) : Option Str → Option Nat → Prop
  | no : NmOk X none none
  | yes {n : Str} {i : Nat} : X.N[i]? = some n → X.env.kindOf n = some .local → NmOk X (some n) (some i)
inductive ClsOk (X : Cx) : List ExceptHandler → List Cls1 → Prop
  | nil : ClsOk X [] []
  | cons {x : Str} {c : Value} {n : Option Str} {i : Option Nat} {t : Addr → Value → Option Addr → TS} {b₀ : Stmt} {suite : List Stmt} {np p' : Pos} {hds : List ExceptHandler} {l : List Cls1} : Names X x c → NmOk X n i →
      (∀ (a : Addr) (oe : Obj) (cls : Value) (d : Option Addr) (pn : List (Addr × Obj)), Zc cls d oe → (∃ vs, oe.data = .fields vs) → PSs (X.suite a ((a, oe) :: pn)) (b₀ :: suite) (t a cls d)) → ClsOk X hds l →
      ClsOk X (.ExceptHandler (some (.Name x np)) n (b₀ :: suite) p' :: hds) ((c, i, t) :: l)
section
variable {X : Cx} {pins : List (Addr × Obj)} {σ : L2.St} {H : Hp} {a : Addr} {c : Value} {d : Option Addr} {t : Shared} {g : Heap} {E : Ends} {Wout : WX}
theorem Lnd.inv (L : Lnd X pins σ H a c d t g) : L2.Inv X pins σ H { t with heap := g } := by
  obtain ⟨B, r, J, nb, up, fl, os, ag⟩ := L.ex
  exact J.landed nb fl.1 up os ag
theorem Lnd.obj (L : Lnd X pins σ H a c d t g) : ∃ oe vs, g.get? a = some oe ∧ Zc c d oe ∧ oe.data = .fields vs := by
  obtain ⟨B, r, J, nb, up, fl, os, ag⟩ := L.ex
  exact fl.there
theorem Lnd.off (L : Lnd X pins σ H a c d t g) (hf : X.env.frame = some X.env.locals) : a ≠ X.env.locals ∧ a ∉ X.fs := by
  obtain ⟨B, r, J, nb, up, fl, os, ag⟩ := L.ex
  obtain ⟨oe, vs, he, _, hd⟩ := fl.there
  have out : a ∉ frs (X.env :: X.outer) := fun hm => by
    obtain ⟨_, o, e, hn⟩ := fl.2.2.1.mem hm
    rw [he] at e; cases e
    exact hn _ hd
  refine ⟨fun z => out (List.mem_filterMap.mpr ⟨X.env, List.mem_cons_self, by rw [hf, z]⟩), fun hm => ?_⟩
  obtain ⟨e, he, q⟩ := List.mem_filterMap.mp hm
  exact out (List.mem_filterMap.mpr ⟨e, List.mem_cons_of_mem _ he, q⟩)
theorem Lnd.suite (L : Lnd X pins σ H a c d t g) (hf : X.env.frame = some X.env.locals) {oe : Obj} {vs : Array Value} (he : g.get? a = some oe) (hd : oe.data = .fields vs) : L2.Inv (X.suite a ((a, oe) :: (X.pn ++ pins))) [] σ H { t with heap := g } :=
  L.inv.suite he hd L.na (L.off hf).1 (L.off hf).2
/-- the suite is entered: the flight is set to none -/
theorem Lnd.enter (L : Lnd X pins σ H a c d t g) {M : Model} {A : Around} {Ee : Value → Shared → Prop} {Q : Unit → Shared → Prop} (h : ∀ g', Lnd X pins σ H a c d t g' → Q () { t with heap := g' }) : wpAny M A (setFlight (.ref a) none) Q Ee { t with heap := g } := by
  obtain ⟨B, r, J, nb, up, fl, os, ag⟩ := L.ex
  exact HandSPX.lands_againZ fl fun g' fl' up' => h g' ⟨L.ok, L.na, B, r, J, nb, up.trans up', fl', os, ag⟩
/-- no clause takes it: it flies on -/
theorem Lnd.on (L : Lnd X pins σ H a c d t g) (hs : X.stack = X.env :: X.outer) (hf : X.env.frame = some X.env.locals) (tk : Takes X Wout) (w : Wout c d σ H) : wpAny (model X.prog X.w) X.A (handleBy (.ref a) X.env []) (SP X pins E) X.xe { t with heap := g } := by
  obtain ⟨B, r, J, nb, up, fl, os, ag⟩ := L.ex
  refine wpAny_handleBy_nil ?_
  obtain ⟨k1, k2, k3, oe, vs, T, oT, ts', he, hz, hd, h1, hr⟩ := id fl
  unfold PySem.passOn
  refine wpAny_bind (wpAny_field he hd h1 ?_)
  rw [if_neg (show ¬ ((Value.ref T == Value.none) = true) from by simp)]
  have fin : wpAny (model X.prog X.w) X.A (setFlight (.ref a) X.env.frame) (fun _ s4 => wpAny (model X.prog X.w) X.A (throw (.ref a) : Sem Flow) (SP X pins E) X.xe s4) X.xe { t with heap := g } := by
    rw [hf]
    refine HandSPX.setFlight_upZ fl fun g' hh up' => wpAny_throw (tk _ _ ?_)
    exact ⟨a, B, r, pins, σ, H, c, d, rfl, J, nb, up.trans up', .inr (.inr (by rw [hs]; exact hh)), L.na, os, ag, w⟩
  first
    | exact wpAny_bind (wpAny_pure (wpAny_bind fin))
    | exact wpAny_bind fin
/-- the clauses, one after the other -/
theorem Lnd.clauses (hs : X.stack = X.env :: X.outer) (hf : X.env.frame = some X.env.locals) (hN : X.N.Nodup) (tk : Takes X Wout) (L : Lnd X pins σ H a c d t g) {hds : List ExceptHandler} {l : List Cls1} (ok : ClsOk X hds l) :
    wCls X.K Wout E l c d σ H → wpAny (model X.prog X.w) X.A (handleBy (.ref a) X.env hds) (SP X pins E) X.xe { t with heap := g } := by
  induction ok with
  | nil => exact fun w => L.on hs hf tk w
  | @cons x c1 n i tt b₀ suite np p' hds l hc hn hsu r ih =>
    rintro ⟨b, hb, hy, hno⟩
    obtain ⟨oe, vs, he, hz, hd⟩ := L.obj
    have S := L.suite hf he hd
    refine wpAny_handleBy_cons (codeAny_handlers_test ?_) (by intro q; cases q)
    have LT : PySem.W.Looks (model X.prog X.w) g (typeOf (.ref a)) c := fun A Q E s k q => wpAny_typeOf_ref (k _ _ he) (by rw [hz.1]; exact q)
    have LM := PySem.W.exm_one (M := model X.prog X.w) L.inv.kIn LT hb
    have test : ∀ {Q : Value → Shared → Prop} {E : Value → Shared → Prop}, Q c1 { t with heap := g } → wpAny (model X.prog X.w) (X.A.mark (some (.ref a))) (eval (.Name x np) X.env) Q E { t with heap := g } := fun {Q E} q => by
      obtain ⟨hg, hdbg, hm | ⟨hm, hv, hnn⟩⟩ := hc
      · exact ld_glob (X := X.suite a ((a, oe) :: (X.pn ++ pins))) S hg hm q hdbg
      · exact ld_blt (X := X.suite a ((a, oe) :: (X.pn ++ pins))) S hg hm hv q hnn hdbg
    refine test (LM.here ?_)
    cases b with
    | false => exact ih (hno rfl)
    | true =>
      cases hn with
      | no =>
        refine codeAny_handlers_suite (L.enter fun g' L' => ?_)
        obtain ⟨oe', vs', he', hz', hd'⟩ := L'.obj
        refine wpAny_mono ((hsu a oe' c d (X.pn ++ pins) hz' ⟨_, hd'⟩).run [] _ _ H _ (L'.suite hf he' hd') (hy rfl a L.na)) (fun f u q => ?_) fun _ _ z => z.elim
        match f, q with
        | .next, ⟨s6, H6, S6, q6⟩ => exact ⟨_, _, S6.unsuite L.ok, q6⟩
        | .brk, ⟨s6, H6, S6, q6⟩ => exact ⟨_, _, S6.unsuite L.ok, q6⟩
        | .cont, ⟨s6, H6, S6, q6⟩ => exact ⟨_, _, S6.unsuite L.ok, q6⟩
        | .ret y, ⟨v6, s6, H6, S6, r6, q6⟩ => exact ⟨_, _, _, S6.unsuite L.ok, r6, q6⟩
      | @yes n i hi hln =>
        refine codeAny_handlers_suite_as (L.enter fun g' L' => ?_)
        obtain ⟨oe', vs', he', hz', hd'⟩ := L'.obj
        refine store_ok (X := X.suite a ((a, oe') :: (X.pn ++ pins))) (v := .ref a) (L'.suite hf he' hd') hN hi (.inl hln) rfl (fun s5 S5 => ?_) (.inr hln)
        refine wpAny_mono ((hsu a oe' c d (X.pn ++ pins) hz' ⟨_, hd'⟩).run [] _ _ H _ S5 (hy rfl a L.na)) (fun f u q => ?_) fun _ _ z => z.elim
        have fin : ∀ {s6 : L2.St} {H6 : Hp} {Q : Shared → Prop}, L2.Inv (X.suite a ((a, oe') :: (X.pn ++ pins))) [] s6 H6 u → (∀ s7, L2.Inv X pins (s6.set i none) H6 s7 → Q s7) →
            wpAny (model X.prog X.w) X.A (do bindName X.env n .none; unbindBehindTheSuite X.env n p') (fun _ s7 => Q s7) X.xe u := fun {s6 H6 Q} S6 hq => gone_ok (S6.unsuite L.ok) hN hi hln hq
        match f, q with
        | .next, ⟨s6, H6, S6, q6⟩ => exact fin S6 fun s7 J7 => ⟨_, _, J7, q6⟩
        | .brk, ⟨s6, H6, S6, q6⟩ => exact fin S6 fun s7 J7 => ⟨_, _, J7, q6⟩
        | .cont, ⟨s6, H6, S6, q6⟩ => exact fin S6 fun s7 J7 => ⟨_, _, J7, q6⟩
        | .ret y, ⟨v6, s6, H6, S6, r6, q6⟩ => exact fin S6 fun s7 J7 => ⟨_, _, _, J7, r6, q6⟩
theorem ps_try_cls {body : List Stmt} {h₀ : ExceptHandler} {hds : List ExceptHandler} {l : List Cls1} {pos : Pos} {tb : WX → TS} (hs : X.stack = X.env :: X.outer) (hf : X.env.frame = some X.env.locals) (hN : X.N.Nodup) (tk : Takes X Wout)
    (hb : ∀ (W : WX) (pn : List (Addr × Obj)) (xe : Value → Shared → Prop), Takes (X.tr pn xe) W → PassesOwn (model X.prog X.w) X.A X.env xe → PSs (X.tr pn xe) body (tb W)) (ok : ClsOk X (h₀ :: hds) l) :
    PS X (.Try body (h₀ :: hds) [] [] pos) (fun E σ H => tb (wCls X.K Wout E l) E σ H) := by
  refine ⟨fun pins s σ H E I h => ?_⟩
  have hfr : X.A.frames = some (X.env :: X.outer) := by rw [I.ok.frames, hs]
  refine wpAny_Try_except (wpAny_mono ((hb (wCls X.K Wout E l) (X.pn ++ pins) (fun e s₁ => wpAny (model X.prog X.w) X.A (noteFrame e X.env) (fun _ s₂ => wpAny (model X.prog X.w) X.A (setFlight e none) (fun _ s₃ =>
    wpAny (model X.prog X.w) X.A (handleBy e X.env (h₀ :: hds)) (SP X pins E) X.xe s₃) X.xe s₂) X.xe s₁) (fun u s' xx => ?_) PassesOwn.looking).run [] s σ H E (I.toTry _) h) (fun f s1 q => ?_) fun e s1 z => z)
  · obtain ⟨a, B, r, pn', σ', H', c, d, eu, J', nb, up, sky, na, os, ag, w⟩ := xx
    subst eu
    rw [show (X.tr (X.pn ++ pins) (fun e s₁ => wpAny (model X.prog X.w) X.A (noteFrame e X.env) (fun _ s₂ => wpAny (model X.prog X.w) X.A (setFlight e none) (fun _ s₃ => wpAny (model X.prog X.w) X.A (handleBy e X.env (h₀ :: hds)) (SP X pins E) X.xe s₃) X.xe s₂) X.xe s₁)).stack = X.env :: X.outer from hs] at sky
    show wpAny (model X.prog X.w) X.A (noteFrame (.ref a) X.env) _ _ _
    exact Sky.land Zc.steady hfr hf sky fun g fl up2 => Lnd.clauses hs hf hN tk ⟨I.ok, na, B, r, J'.ofTry I.ok, nb, up.trans up2, fl, os, ag⟩ ok w
  · match f, q with
    | .next, ⟨σ', H', J, q⟩ => exact wpAny_execs_nil ⟨σ', H', J.ofTry I.ok, q⟩
    | .brk, ⟨σ', H', J, q⟩ => exact ⟨σ', H', J.ofTry I.ok, q⟩
    | .cont, ⟨σ', H', J, q⟩ => exact ⟨σ', H', J.ofTry I.ok, q⟩
    | .ret u, ⟨v, σ', H', J, r, q⟩ => exact ⟨v, σ', H', J.ofTry I.ok, r, q⟩
end

/-! ### the typed rule -/
/-- a caught exception, as what its name stands for -/
structure XR (y : XV) (dd : Addr) where
  a : Addr
instance {y : XV} {dd : Addr} : Rep (XR y dd) := ⟨fun K B v r => v = .ref r.a ∧ ∃ vs, B dd = some (.xd vs) ∧ FRep K B vs y.fs, fun e ⟨h1, vs, h2, h3⟩ => ⟨h1, vs, e _ _ h2, h3.mono e⟩⟩
def onT (i : Option Nat) (t : TV) (ρ : TEnv) : TEnv := match i with
  | none => ρ
  | some i => ρ.set i (some t)
def offT (i : Option Nat) (D : DE) : DE := match i with
  | none => D
  | some i => { nx := fun ρ m => D.nx (ρ.set i none) m, rt := D.rt, bk := fun ρ m => D.bk (ρ.set i none) m, ct := fun ρ m => D.ct (ρ.set i none) m }
/-- a clause: the class, the name's slot, the suite -/
abbrev ClsT := Value × Option Nat × List Stmt
/-- what the clauses must show of an exception y -/
def xcl (X : Cx) (Z : Zs) (D : DE) (xp : XV → TEnv → Mu → Prop) : List ClsT → XV → TEnv → Mu → Prop
  | [] => xp
  | (c, i, su) :: l => fun y ρ m => ∃ b, PySem.W.exmOne X.K y.cls c = some b ∧ (b = true → ∀ (a dd : Addr) (oe : Obj) (pn : List (Addr × Obj)), Zc y.cls (some dd) oe → (∃ vs, oe.data = .fields vs) → Wss (X.suite a ((a, oe) :: pn)) Z su (onT i (tv (XR.mk a : XR y dd)) ρ) m (offT i D)) ∧
      (b = false → xcl X Z D xp l y ρ m)
inductive HdT (X : Cx) : List ExceptHandler → List ClsT → Prop
  | nil : HdT X [] []
  | cons {x : Str} {c : Value} {n : Option Str} {i : Option Nat} {b₀ : Stmt} {suite : List Stmt} {np p' : Pos} {hds : List ExceptHandler} {l : List ClsT} : Names X x c → NmOk X n i → HdT X hds l →
      HdT X (.ExceptHandler (some (.Name x np)) n (b₀ :: suite) p' :: hds) ((c, i, b₀ :: suite) :: l)
section
variable {X : Cx} {Z : Zs} {ρ : TEnv} {m : Mu} {D : DE} {xp : XV → TEnv → Mu → Prop}
def suS (X : Cx) (su : List Stmt) (a : Addr) (c : Value) (d : Option Addr) : TS := fun E σ H => ∀ (oe : Obj) (pn : List (Addr × Obj)), Zc c d oe → (∃ vs, oe.data = .fields vs) → tssS (X.suite a ((a, oe) :: pn)) su E σ H
def rdC (X : Cx) (l : List ClsT) : List Cls1 := l.map fun p => (p.1, p.2.1, suS X p.2.2)
theorem clsOk_rd {hds : List ExceptHandler} {l : List ClsT} (h : HdT X hds l) : ClsOk X hds (rdC X l) := by
  induction h with
  | nil => exact .nil
  | cons h1 h2 _ ih => exact .cons h1 h2 (fun a oe cls d pn hz hf => ⟨fun pins s σ H E I h => h oe pn hz hf pins s I⟩) ih
theorem eok_off {B : Hp} {E : Ends} {i : Option Nat} (k : EOk Z B D E) : EOk Z B (offT i D) (offN i E) := by
  cases i with
  | none => exact k
  | some i => exact ⟨fun s B' H' r m' a b c d => k.nx _ B' H' _ m' a (b.unset i) c d, k.rt, fun s B' H' r m' a b c d => k.bk _ B' H' _ m' a (b.unset i) c d, fun s B' H' r m' a b c d => k.ct _ B' H' _ m' a (b.unset i) c d⟩
theorem wcls_of {E : Ends} {Wout : WX} {B0 H0 : Hp} {m0 : Mu} {S : Sta Z B0 H0 m0} (k : EOk ⟨Z.K, B0, H0, m0⟩ B0 D E) (hout : ∀ c d σ H, (∃ ρ, xk ⟨Z.K, B0, H0, m0⟩ ρ xp σ c d H) → Wout c d σ H) : ∀ (l : List ClsT) (c : Value) (d : Option Addr) (σ : L2.St) (H : Hp),
    (∃ ρ, xk ⟨Z.K, B0, H0, m0⟩ ρ (xcl X ⟨Z.K, B0, H0, m0⟩ D xp l) σ c d H) → wCls X.K Wout E (rdC X l) c d σ H
  | [], c, d, σ, H, h => hout c d σ H h
  | (c1, i, su) :: l, c, d, σ, H, ⟨ρ, B, m, y, he, s, ⟨ec, dd, vs, ed, hb, fr⟩, b, hx, h1, h2⟩ => by
    subst ec
    subst ed
    refine ⟨b, hx, fun e a na oe pn hz hf => ?_, fun e => wcls_of (S := S) k hout l _ _ σ H ⟨ρ, B, m, y, he, s, ⟨rfl, dd, vs, rfl, hb, fr⟩, h2 e⟩⟩
    refine h1 e a dd oe pn hz hf _ B H (offN i E) ?_ s (eok_off (k.mono s.go.ext))
    cases i with
    | none => exact he
    | some i => exact he.set i (show TV.rep Z.K B (V.ref a) (tv (XR.mk a : XR y dd)) from ⟨rfl, vs, hb, fr⟩)
/-- try: body, except C as e: suite, .. -/
theorem ws_try {body : List Stmt} {h₀ : ExceptHandler} {hds : List ExceptHandler} {pos : Pos} (l : List ClsT) (hx : XT X Z xp) (hN : X.N.Nodup) (hd : HdT X (h₀ :: hds) l)
    (h : ∀ (B0 H0 : Hp) (pn : List (Addr × Obj)) (xe : Value → Shared → Prop), XT (X.tr pn xe) ⟨Z.K, B0, H0, m⟩ (xcl X ⟨Z.K, B0, H0, m⟩ D xp l) → PassesOwn (model X.prog X.w) X.A X.env xe → Wss (X.tr pn xe) ⟨Z.K, B0, H0, m⟩ body ρ m D)
    (hs : X.stack = X.env :: X.outer := by rfl) (hf : X.env.frame = some X.env.locals := by rfl) : Ws X Z (.Try body (h₀ :: hds) [] [] pos) ρ m D := fun σ B H E hE hS kE pins s I => by
  have hx' : Takes X (fun c d σ H' => ∃ ρ, xk ⟨Z.K, B, H, m⟩ ρ xp σ c d H') := hx.imp fun c d σ H' ⟨ρ, B', m', y, a, b, c⟩ => ⟨ρ, B', m', y, a, hS.back b, c⟩
  refine (ps_try_cls (tb := fun W E σ H => ∀ pn xe, Takes (X.tr pn xe) W → PassesOwn (model X.prog X.w) X.A X.env xe → tssS (X.tr pn xe) body E σ H) hs hf hN hx' (fun W pn xe tk po => ⟨fun pins s σ H E I h => h pn xe tk po pins s I⟩) (clsOk_rd hd)).run pins s σ H E I ?_
  intro pn xe tk po
  have kE' := kE.re hS
  exact h B H pn xe (tk.imp fun c d σ H' z => wcls_of (S := hS) kE' (fun _ _ _ _ z => z) l c d σ H' z) po σ B H E hE hS.re kE'
end
end Ty

set_option Elab.async false
set_option linter.all false
set_option maxRecDepth 100000
set_option maxHeartbeats 2000000
namespace Ty
open PySem PySem.Spec PyProof.Rows L2

/-! ### the same value, otherwise called -/
def Cv (t u : TV) : Prop := ∀ K B v, TV.rep K B v t → TV.rep K B v u
inductive Cvs : List TV → List TV → Prop
  | nil : Cvs [] []
  | cons {t u : TV} {ts us : List TV} : Cv t u → Cvs ts us → Cvs (t :: ts) (u :: us)
theorem Cv.rfl {t : TV} : Cv t t := fun _ _ _ h => h
theorem Cvs.rfl : ∀ {ts : List TV}, Cvs ts ts
  | [] => .nil
  | _ :: _ => .cons Cv.rfl Cvs.rfl
theorem Cvs.reps {K : PySem.W.Frag} {B : Hp} : ∀ {vs : List V} {ts us : List TV}, Cvs ts us → Reps K B vs ts → Reps K B vs us
  | _, _, _, .nil, .nil => .nil
  | _, _, _, .cons c r, .cons a b => .cons (c _ _ _ a) (Cvs.reps r b)
/-- a list, by what stands in it -/
def LstU (m : Mu) (t : TV) (ts : List TV) : Prop := ∀ K B H v, HpOk K B H m → TV.rep K B v t → ∃ a vs, v = .ref a ∧ H a = some (.lst vs) ∧ Reps K B vs ts
section
variable {m : Mu} {t : TV} {ts : List TV}
theorem lu_l {α : Type} [Rep α] {xs : List α} : LstU m (tv xs) (xs.map fun x => tv x) := fun K B H v S h => by
  obtain ⟨a, vs, h1, h2, h3⟩ := (show ∃ a vs, v = .ref a ∧ B a = some (.lst vs) ∧ Paired (Rep.rep K B) vs xs from h)
  exact ⟨a, vs, h1, S.ex _ _ h2, Reps.of_paired h3⟩
theorem lu_hl : LstU m (hl ts) ts := fun K B H v S h => by
  obtain ⟨a, vs, h1, h2, h3⟩ := (show ∃ a vs, v = .ref a ∧ B a = some (.lst vs) ∧ Reps K B vs ts from h)
  exact ⟨a, vs, h1, S.ex _ _ h2, h3⟩
theorem lu_own {p : Addr} {n : Nat} (h : m[n]? = some (p, mL ts)) : LstU m (tv (Ref.mk p)) ts := fun K B H v S r => by
  obtain ⟨_, o, ho, vs, e, q⟩ := S.at_ n p _ h
  subst e
  exact ⟨p, vs, r, ho, q⟩
end
/-! ### data -/
def kD : Key → PyData
  | .inl i => .int i
  | .inr x => .str x
mutual
inductive Dr (K : PySem.W.Frag) (H : Hp) : V → PyData → Prop
  | non : Dr K H .non .none
  | bl (b : Bool) : Dr K H (.bl b) (.bool b)
  | int (i : Int) : Dr K H (.int i) (.int i)
  | str (x : Str) : Dr K H (.str x) (.str x)
  | lst {a : Addr} {xs : List V} {ds : List PyData} : H a = some (.lst xs) → DrAll K H xs ds → Dr K H (.ref a) (.list ds)
  | tup {a : Addr} {xs : List V} {ds : List PyData} : SqT K H a xs → DrAll K H xs ds → Dr K H (.ref a) (.tuple ds)
  | dct {a : Addr} {kvs : List (Key × V)} {ds : List (PyData × PyData)} : H a = some (.dK kvs) → DrKv K H kvs ds → Dr K H (.ref a) (.dict ds)
inductive DrAll (K : PySem.W.Frag) (H : Hp) : List V → List PyData → Prop
  | nil : DrAll K H [] []
  | cons {v : V} {vs : List V} {d : PyData} {ds : List PyData} : Dr K H v d → DrAll K H vs ds → DrAll K H (v :: vs) (d :: ds)
inductive DrKv (K : PySem.W.Frag) (H : Hp) : List (Key × V) → List (PyData × PyData) → Prop
  | nil : DrKv K H [] []
  | cons {k : Key} {v : V} {kvs : List (Key × V)} {d : PyData} {ds : List (PyData × PyData)} : Dr K H v d → DrKv K H kvs ds → DrKv K H ((k, v) :: kvs) ((kD k, d) :: ds)
end
mutual
theorem Dr.mono {K : PySem.W.Frag} {H H' : Hp} (e : Ex H H') : ∀ (d : PyData) (v : V), Dr K H v d → Dr K H' v d
  | .none, _, h => by cases h; exact .non
  | .bool _, _, h => by cases h; exact .bl _
  | .int _, _, h => by cases h; exact .int _
  | .str _, _, h => by cases h; exact .str _
  | .list ds, _, h => by cases h with | lst h1 h2 => exact .lst (e _ _ h1) (Dr.monoAll e ds _ h2)
  | .tuple ds, _, h => by cases h with | tup h1 h2 => exact .tup (e.seqT h1) (Dr.monoAll e ds _ h2)
  | .dict ds, _, h => by cases h with | dct h1 h2 => exact .dct (e _ _ h1) (Dr.monoKv e ds _ h2)
theorem Dr.monoAll {K : PySem.W.Frag} {H H' : Hp} (e : Ex H H') : ∀ (ds : List PyData) (vs : List V), DrAll K H vs ds → DrAll K H' vs ds
  | [], _, h => by cases h; exact .nil
  | d :: ds, _, h => by cases h with | cons h1 h2 => exact .cons (Dr.mono e d _ h1) (Dr.monoAll e ds _ h2)
theorem Dr.monoKv {K : PySem.W.Frag} {H H' : Hp} (e : Ex H H') : ∀ (ds : List (PyData × PyData)) (vs : List (Key × V)), DrKv K H vs ds → DrKv K H' vs ds
  | [], _, h => by cases h; exact .nil
  | (_, d) :: ds, _, h => by cases h with | cons h1 h2 => exact .cons (Dr.mono e d _ h1) (Dr.monoKv e ds _ h2)
end
instance : Rep PyData := ⟨fun K B v d => Dr K B v d, fun e h => Dr.mono e _ _ h⟩
section
variable {X : Cx} {pins : List (Addr × Obj)} {σ : L2.St} {H : Hp} {s : Shared}
theorem not_sys (I : L2.Inv X pins σ H s) (hb : (X.base.get? sysModules).isSome = true) {a : Addr} {o : HO} (h : H a = some o) : sysModules ≠ a := fun e => by
  subst e
  obtain ⟨u, hu⟩ := Option.isSome_iff_exists.mp hb
  rw [(I.env0.bs _ u hu).2] at h
  cases h
mutual
theorem Dr.reads (I : L2.Inv X pins σ H s) (hb : (X.base.get? sysModules).isSome = true) : ∀ (d : PyData) (v : V) (u : Value), Dr X.K H v d → RelV v u → ∃ as, Reads s.heap u d as ∧ sysModules ∉ as
  | .none, _, _, h, r => by
    cases h; cases r
    exact ⟨_, Reads.none, by simp⟩
  | .bool b, _, _, h, r => by
    cases h; cases r
    exact ⟨_, Reads.bool b, by simp⟩
  | .int i, _, _, h, r => by
    cases h
    obtain ⟨t, rfl⟩ := r
    exact ⟨_, Reads.int i t, by simp⟩
  | .str x, _, _, h, r => by
    cases h
    obtain ⟨t, rfl⟩ := r
    exact ⟨_, Reads.str x t, by simp⟩
  | .list ds, _, _, h, r => by
    cases h with
    | lst hs ha =>
      cases r
      obtain ⟨its, rv, ⟨o, n, ho, hc, _, hd⟩, _⟩ := I.list (.of hs)
      obtain ⟨as, hr, hn⟩ := Dr.readsAll I hb ds _ its ha rv
      exact ⟨_, Reads.list ho hc hd hr, fun z => (List.mem_cons.mp z).elim (not_sys I hb hs) hn⟩
  | .tuple ds, _, _, h, r => by
    cases h with
    | tup hs ha =>
      cases r
      obtain ⟨its, rv, ⟨o, ho, hc, n, hd⟩, _⟩ := I.tuple hs
      obtain ⟨as, hr, hn⟩ := Dr.readsAll I hb ds _ its ha rv
      exact ⟨_, Reads.tuple ho hc hd hr, hn⟩
  | .dict ds, _, _, h, r => by
    cases h with
    | dct hs ha =>
      cases r
      obtain ⟨_, ya, va, ra, da⟩ := (show ObjOk X.prog X.w H s.heap _ (.dK _) from I.hok _ _ hs)
      obtain ⟨as, hr, hn⟩ := Dr.readsKv I hb ds _ va ha ra
      refine ⟨_, PyProof.V.reads_dictOf (knd := mixKind X.prog X.w) (enc := kD) (fun k key hk => ?_) da hr, fun z => (List.mem_cons.mp z).elim (not_sys I hb hs) hn⟩
      rcases keyIs_shape (show keyIs k key = true from hk) with ⟨i, t, rfl, rfl⟩ | ⟨x, t, rfl, rfl⟩
      · exact Reads.int i t
      · exact Reads.str x t
theorem Dr.readsAll (I : L2.Inv X pins σ H s) (hb : (X.base.get? sysModules).isSome = true) : ∀ (ds : List PyData) (vs : List V) (us : List Value), DrAll X.K H vs ds → Vals vs us → ∃ as, ReadsAll s.heap us ds as ∧ sysModules ∉ as
  | [], _, _, h, r => by
    cases h; cases r
    exact ⟨_, ReadsAll.nil, by simp⟩
  | d :: ds, _, _, h, r => by
    cases h with
    | cons h1 h2 =>
      cases r with
      | cons r1 r2 =>
        obtain ⟨as, q1, n1⟩ := Dr.reads I hb d _ _ h1 r1
        obtain ⟨bs, q2, n2⟩ := Dr.readsAll I hb ds _ _ h2 r2
        exact ⟨_, ReadsAll.cons q1 q2, fun z => (List.mem_append.mp z).elim n1 n2⟩
theorem Dr.readsKv (I : L2.Inv X pins σ H s) (hb : (X.base.get? sysModules).isSome = true) : ∀ (ds : List (PyData × PyData)) (kvs : List (Key × V)) (us : List (Key × Value)), DrKv X.K H kvs ds → KV kvs us → ∃ as, PyProof.V.PairsRead s.heap kD us ds as ∧ sysModules ∉ as
  | [], _, _, h, r => by
    cases h; cases r
    exact ⟨_, .nil, by simp⟩
  | (k0, d) :: ds, _, _, h, r => by
    cases h with
    | cons h1 h2 =>
      cases r with
      | @cons _ q _ qs r1 r2 =>
        obtain ⟨e1, rv⟩ := r1
        obtain ⟨as, q1, n1⟩ := Dr.reads I hb d _ _ h1 rv
        obtain ⟨bs, q2, n2⟩ := Dr.readsKv I hb ds _ _ h2 r2
        obtain ⟨k1, u1⟩ := q
        cases (show _ = k1 from e1)
        exact ⟨_, .cons q1 q2, fun z => (List.mem_append.mp z).elim n1 n2⟩
end
end
/-- a thing that stands for data, wherever the things m may change stand -/
def AsD (m : Mu) (t : TV) (d : PyData) : Prop := ∀ K B H v, HpOk K B H m → TV.rep K B v t → Dr K H v d
inductive AsDs (m : Mu) : List TV → List PyData → Prop
  | nil : AsDs m [] []
  | cons {t : TV} {ts : List TV} {d : PyData} {ds : List PyData} : AsD m t d → AsDs m ts ds → AsDs m (t :: ts) (d :: ds)
section
variable {m : Mu} {t : TV} {ts : List TV} {d : PyData} {ds : List PyData}
theorem asd_int {i : Int} : AsD m (tv i) (.int i) := fun _ _ _ v _ h => by rw [show v = .int i from h]; exact .int i
theorem asd_str {i : Str} : AsD m (tv i) (.str i) := fun _ _ _ v _ h => by rw [show v = .str i from h]; exact .str i
theorem asd_bool {i : Bool} : AsD m (tv i) (.bool i) := fun _ _ _ v _ h => by rw [show v = .bl i from h]; exact .bl i
theorem asd_none {u : Unit} : AsD m (tv u) .none := fun _ _ _ v _ h => by rw [show v = .non from h]; exact .non
theorem asd_data : AsD m (tv d) d := fun _ _ _ v S h => Dr.mono S.ex _ _ h
theorem AsDs.all {K : PySem.W.Frag} {B H : Hp} (S : HpOk K B H m) : ∀ {vs : List V} {ts : List TV} {ds : List PyData}, AsDs m ts ds → Reps K B vs ts → DrAll K H vs ds
  | _, _, _, .nil, .nil => .nil
  | _, _, _, .cons a r, .cons b q => .cons (a _ _ _ _ S b) (AsDs.all S r q)
theorem asd_list (hu : LstU m t ts) (h : AsDs m ts ds) : AsD m t (.list ds) := fun K B H v S r => by
  obtain ⟨a, vs, ev, hh, rr⟩ := hu K B H v S r
  rw [ev]
  exact .lst hh (h.all S rr)
theorem asd_tup (hu : TupU t ts) (h : AsDs m ts ds) : AsD m t (.tuple ds) := fun K B H v S r => by
  obtain ⟨a, vs, ev, hh, rr⟩ := hu K B v r
  rw [ev]
  exact .tup (S.ex.seqT hh) (h.all S rr)
theorem asds_map {α : Type} [Rep α] {f : α → PyData} : ∀ {xs : List α}, (∀ x, x ∈ xs → AsD m (tv x) (f x)) → AsDs m (xs.map fun x => tv x) (xs.map f)
  | [], _ => .nil
  | x :: xs, h => .cons (h x List.mem_cons_self) (asds_map fun y hy => h y (List.mem_cons_of_mem _ hy))
end
/-! ### rules -/
theorem getb_l {α : Type} {xs : List α} : (xs.drop 0).take xs.length = xs := by simp
section
variable {X : Cx} {Z : Zs} {ρ : TEnv} {m : Mu} {D : DE} {P : TV → Mu → Prop} {t : TV} {ts : List TV} {d e : PyData} {k : Nat}
theorem we_cv {ex : Expr} (h : We X Z ex ρ m fun x m' => ∃ y, Cv x y ∧ P y m') : We X Z ex ρ m P := fun σ B H Q he hS q => h σ B H Q he hS fun v B' H' m' x a b c ⟨y, cv, p⟩ => q v B' H' m' y a b (cv _ _ _ c) p
theorem wa_cv {es : List Expr} {PA : List TV → Mu → Prop} (h : Wa X Z es ρ m fun xs m' => ∃ ys, Cvs xs ys ∧ PA ys m') : Wa X Z es ρ m PA := fun σ B H Q he hS q => h σ B H Q he hS fun v B' H' m' x a b c ⟨y, cv, p⟩ => q v B' H' m' y a b (cv.reps c) p
/-- what may change is let go -/
theorem Sta.sub {B H : Hp} {m' : Mu} (S : Sta Z B H m) (h : m'.Sublist m) : Sta Z B H m' :=
  ⟨⟨S.hp.ex, S.hp.nd.sublist (h.map _), fun i p c hi => by
    obtain ⟨j, hj⟩ := List.getElem?_of_mem (h.subset (List.mem_of_getElem? hi))
    exact S.hp.at_ j p c hj⟩, ⟨S.go.ext, S.go.keep, S.go.dom, S.go.nw, fun p hp => S.go.ks p ((h.map _).subset hp)⟩⟩
theorem we_drop {ex : Expr} (h : We X Z ex ρ m fun x m' => ∃ m'', m''.Sublist m' ∧ P x m'') : We X Z ex ρ m P := fun σ B H Q he hS q => h σ B H Q he hS fun v B' H' m' x a b c ⟨m2, sb, p⟩ => q v B' H' m2 x a (b.sub sb) c p
theorem ws_drop {st : Stmt} (h : Ws X Z st ρ m { D with nx := fun ρ' m' => ∃ m'', m''.Sublist m' ∧ D.nx ρ' m'' }) : Ws X Z st ρ m D := fun σ B H E he hS q => h σ B H E he hS
  ⟨fun s' B' H' r' m' a b c ⟨m2, sb, p⟩ => q.nx s' B' H' r' m2 a b (c.sub sb) p, q.rt, q.bk, q.ct⟩
theorem lstU_at {B H : Hp} {v : V} (hu : LstU m t ts) (S : Sta Z B H m) (r : TV.rep Z.K B v t) : ∃ a vs, v = .ref a ∧ H a = some (.lst vs) ∧ Reps Z.K B vs ts := hu _ _ _ _ S.hp r
theorem ix_lU {u : TV} {i : Int} (hu : LstU m t ts) (hi : atT ts i = some u) (h : P u m) (hK : X.K = Z.K := by rfl) : IxP X Z t (tv i) m P := .of ix_list fun B H Q v w hS hv hw k => by
  obtain ⟨a, vs, ev, hq, rr⟩ := lstU_at hu hS hv
  obtain ⟨j, hj, hx⟩ := atI_len rr.length hi
  obtain ⟨z, hz, rz⟩ := rr.at' hx
  exact ⟨a, vs, i, z, ev, hw, .of hq, by unfold atI; rw [hj]; exact hz, k z B H m u (Ex.refl _) hS rz h⟩
theorem len_lU (hu : LstU m t ts) (h : P (tv (ts.length : Int)) m) : CallP X Z (.builtin "len") [t] m P := .of call_len_seq fun B H Q vs hS hv k => by
  obtain ⟨v, rfl, r⟩ := reps1 hv
  obtain ⟨a, ws, ev, hq, rr⟩ := lstU_at hu hS r
  refine ⟨a, ws, by rw [ev], .inl (.of hq), ?_⟩
  rw [rr.length]
  exact k _ B H m _ (Ex.refl _) hS (rep_int _) h
theorem Reps.drop {K : PySem.W.Frag} {B : Hp} : ∀ (n : Nat) {vs : List V} {ts : List TV}, Reps K B vs ts → Reps K B (vs.drop n) (ts.drop n)
  | 0, _, _, h => h
  | n + 1, _, _, .nil => .nil
  | n + 1, _, _, .cons _ r => Reps.drop n r
theorem Reps.take {K : PySem.W.Frag} {B : Hp} : ∀ (n : Nat) {vs : List V} {ts : List TV}, Reps K B vs ts → Reps K B (vs.take n) (ts.take n)
  | 0, _, _, h => .nil
  | n + 1, _, _, .nil => .nil
  | n + 1, _, _, .cons a r => .cons a (Reps.take n r)
def cutT (ts : List TV) (lo hi : Option Int) : List TV := (ts.drop (HT.sIx ts.length 0 lo)).take (HT.sIx ts.length ts.length hi - HT.sIx ts.length 0 lo)
theorem sl_lU {lo hi : Option Int} (hu : LstU m t ts) (h : P (hl (cutT ts lo hi)) m) : SlP X Z t lo hi m P := .of sl_list fun B H Q v hS hv k => by
  obtain ⟨a, vs, ev, hq, rr⟩ := lstU_at hu hS hv
  refine ⟨a, vs, ev, .of hq, fun p hp => ?_⟩
  have hn := hS.noneB hp
  refine k (.ref p) _ _ m (hl _) (Ex.new hn) (hS.newB hp) ⟨p, _, rfl, upd_same, ?_⟩ h
  unfold cutV
  rw [rr.length]
  exact ((rr.drop _).take _).mono (Ex.new hn)
/-- xs + ys: a new list that never changes -/
theorem add_lU {u : TV} {us : List TV} (hu : LstU m t ts) (hv : LstU m u us) (hz : ts.length + us.length ≤ 1000000) (h : P (hl (ts ++ us)) m) : OpP X Z (binaryOp .Add) t u m P := .of op_cat fun B H Q v w hS h1 h2 k => by
  obtain ⟨a, vs, ev, hq, rr⟩ := lstU_at hu hS h1
  obtain ⟨b, ws, ew, hq2, rr2⟩ := lstU_at hv hS h2
  refine ⟨a, b, vs, ws, ev, ew, hq, hq2, by rw [rr.length, rr2.length, sizeLine_eq]; omega, fun p hp => ?_⟩
  have hn := hS.noneB hp
  exact k (.ref p) _ _ m (hl (ts ++ us)) (Ex.new hn) (hS.newB hp) ⟨p, _, rfl, upd_same, (rr.append rr2).mono (Ex.new hn)⟩ h
/-- .. that may change -/
theorem add_lO {u : TV} {us : List TV} (hu : LstU m t ts) (hv : LstU m u us) (hz : ts.length + us.length ≤ 1000000) (h : ∀ p, P (tv (Ref.mk p)) (m ++ [(p, mL (ts ++ us))])) : OpP X Z (binaryOp .Add) t u m P := .of op_cat fun B H Q v w hS h1 h2 k => by
  obtain ⟨a, vs, ev, hq, rr⟩ := lstU_at hu hS h1
  obtain ⟨b, ws, ew, hq2, rr2⟩ := lstU_at hv hS h2
  refine ⟨a, b, vs, ws, ev, ew, hq, hq2, by rw [rr.length, rr2.length, sizeLine_eq]; omega, fun p hp => ?_⟩
  exact k (.ref p) B _ _ (tv (Ref.mk p)) (Ex.refl _) (hS.newM hp (c := mL (ts ++ us)) ⟨_, rfl, rr.append rr2⟩) (show V.ref p = .ref p from rfl) (h p)
/-- over a list -/
theorem wi_lU {R : List TV → (Mu → Prop) → Mu → Prop} {tg iter : Expr} (h : We X Z iter ρ m fun t m1 => ∃ ts, LstU m1 t ts ∧ R ts (fun m' => LstU m' t ts) m1) : Wi X Z tg iter ρ m R := by
  refine .of (pi_list pe_sem) fun σ B H Q he hs k => we_sub h he hs fun v B1 H1 m1 t a1 b1 c1 d1 ⟨ts, hu, r⟩ => ?_
  obtain ⟨a, vs, ev, hq, rr⟩ := lstU_at hu c1 d1
  refine ⟨a, ev, ⟨vs, .of hq⟩, k _ B1 H1 m1 ts _ a1 c1 (fun B' H' m' e s hg => ?_) r⟩
  obtain ⟨b, ws, ew, hw, rw'⟩ := lstU_at hg s (TV.mono e d1)
  have eb : a = b := V.ref.inj (ev.symm.trans ew)
  subst eb
  refine ⟨fun i t ht => ?_, ⟨ws, .of hw, by rw [rw'.length]; exact Nat.le_refl _⟩⟩
  obtain ⟨u, hu, ru⟩ := rw'.at' ht
  refine ⟨⟨ws, u, .of hw, hu⟩, fun y H'' hy => ?_⟩
  obtain ⟨rfl, hy⟩ := hy
  have := hy ws (.of hw)
  rw [hu] at this
  cases this
  exact ⟨B', Ex.refl _, s, ru⟩
/-! ### repr, ==, != -/
def isC : PyData → Bool
  | .list _ => true
  | .tuple _ => true
  | .dict _ => true
  | _ => false
theorem Dr.ref {K : PySem.W.Frag} {H : Hp} {v : V} (h : Dr K H v d) (c : isC d = true) : ∃ a, v = .ref a := by
  cases h <;> first | exact ⟨_, rfl⟩ | cases c
/-- room, whether an exception is handled or not -/
structure RmH (k : Nat) (A : Around) : Prop where
  dp : A.depth + 3 * k + 5 < recursionLimit
  un : A.units + 16 * k + 200 < cLine
theorem repr_d (hd : AsD m t d) (hgd : X.A.guards = some []) (hr : RmH k X.A) (hb : (X.base.get? sysModules).isSome = true) (hc : isC d = true) (hs : d.showable = true) (hp : d.depth ≤ 60) (hz : d.shown.length ≤ 16000000) (h : P (tv d.shown) m) (hK : X.K = Z.K := by rfl) : CallP X Z (.builtin "repr") [t] m P :=
  fun B H Q vs hS hv q pins s σ us I r => by
    obtain ⟨v, rfl, rv⟩ := reps1 hv
    have dr : Dr X.K H v d := hK ▸ hd _ _ _ _ hS.hp rv
    obtain ⟨a, rfl⟩ := dr.ref hc
    cases r with
    | @cons _ u0 _ ur ra rn =>
      cases rn
      obtain rfl : u0 = Value.ref a := ra
      obtain ⟨as, rd, ns⟩ := dr.reads I hb _ _ (.ref a) (show RelV (V.ref a) (Value.ref a) from rfl)
      have hu := hr.un
      exact repr_of_reads' (h₀ := s.heap) rd hs (fun _ => ns) hgd (by omega) (fun _ _ e => e) (fun h' u tk hk => ⟨.str d.shown, H, I.kept (t' := tk) hk, ⟨u, rfl⟩, q _ B H m _ (Ex.refl _) hS (rep_str _) h⟩) (line_of hz)
theorem room_units {A : Around} (hr : RmH k A) : A.units + 64 < cLine := by have := hr.un; omega
theorem eq_d {u : TV} (hd : AsD m t d) (he : AsD m u e) (hr : RmH k X.A) (hb : (X.base.get? sysModules).isSome = true) (sd : SeqAt.shaped d = true) (se : SeqAt.shaped e = true) (h : P (tv (PyData.eqv d e)) m) (hK : X.K = Z.K := by rfl) : OpP X Z (compareOp .Eq) t u m P :=
  fun B H Q v w hS hv hw q pins s σ vv uu I rv ru => by
    obtain ⟨as, r1, _⟩ := Dr.reads I hb _ _ vv (hK ▸ hd _ _ _ _ hS.hp hv) rv
    obtain ⟨bs, r2, _⟩ := Dr.reads I hb _ _ uu (hK ▸ he _ _ _ _ hS.hp hw) ru
    exact SeqAt.compareEq_shaped r1 r2 sd se (room_units hr) ⟨.bl _, H, I, rfl, q _ B H m _ (Ex.refl _) hS (rep_bool _) h⟩
theorem ne_d {u : TV} (hd : AsD m t d) (he : AsD m u e) (hr : RmH k X.A) (hb : (X.base.get? sysModules).isSome = true) (sd : SeqAt.shaped d = true) (se : SeqAt.shaped e = true) (h : P (tv (!PyData.eqv d e)) m) (hK : X.K = Z.K := by rfl) : OpP X Z (compareOp .NotEq) t u m P :=
  fun B H Q v w hS hv hw q pins s σ vv uu I rv ru => by
    obtain ⟨as, r1, _⟩ := Dr.reads I hb _ _ vv (hK ▸ hd _ _ _ _ hS.hp hv) rv
    obtain ⟨bs, r2, _⟩ := Dr.reads I hb _ _ uu (hK ▸ he _ _ _ _ hS.hp hw) ru
    exact SeqAt.compareNe_shaped r1 r2 sd se (room_units hr) ⟨.bl _, H, I, rfl, q _ B H m _ (Ex.refl _) hS (rep_bool _) h⟩
/-! ### lists and texts: more -/
theorem inV_is {i : Int} {ns : List Int} : inV (.int i) (ns.map V.int) = decide (i ∈ ns) := by
  unfold inV
  rw [List.any_map, Bool.eq_iff_iff, List.any_eq_true, decide_eq_true_eq]
  refine ⟨fun ⟨x, hx, e⟩ => ?_, fun h => ⟨i, h, by simp [eqV]⟩⟩
  have : x = i := by simpa [eqV] using e
  exact this ▸ hx
theorem inV_ss {i : Str} {ns : List Str} : inV (.str i) (ns.map V.str) = decide (i ∈ ns) := by
  unfold inV
  rw [List.any_map, Bool.eq_iff_iff, List.any_eq_true, decide_eq_true_eq]
  refine ⟨fun ⟨x, hx, e⟩ => ?_, fun h => ⟨i, h, by simp [eqV]⟩⟩
  have : x = i := by simpa [eqV] using e
  exact this ▸ hx
theorem flat_ints {ns : List Int} : (ns.map V.int).all flatV = true := by simp [flatV]
theorem flat_strs {ns : List Str} : (ns.map V.str).all flatV = true := by simp [flatV]
theorem in_il {i : Int} {ns : List Int} (h : P (tv (decide (i ∈ ns))) m) : OpP X Z (compareOp .In) (tv i) (tv ns) m P := .of op_in_seq fun B H Q v w hS hv hw q => by
  obtain ⟨a, vs, ev, _, hh, pr⟩ := rep_list hS.ex hw
  have := rep_ints pr
  subst this
  rw [show v = .int i from hv]
  refine ⟨a, _, ev, .inl (.of hh), rfl, flat_ints, ?_⟩
  rw [inV_is]
  exact q _ B H m _ (Ex.refl _) hS (rep_bool _) h
theorem in_sl {i : Str} {ns : List Str} (h : P (tv (decide (i ∈ ns))) m) : OpP X Z (compareOp .In) (tv i) (tv ns) m P := .of op_in_seq fun B H Q v w hS hv hw q => by
  obtain ⟨a, vs, ev, _, hh, pr⟩ := rep_list hS.ex hw
  have := rep_strs pr
  subst this
  rw [show v = .str i from hv]
  refine ⟨a, _, ev, .inl (.of hh), rfl, flat_strs, ?_⟩
  rw [inV_ss]
  exact q _ B H m _ (Ex.refl _) hS (rep_bool _) h
/-- a text so many times over -/
theorem mul_si {x : Str} {n : Int} (h0 : 0 ≤ n) (h1 : n < 1000000) (hz : x.length * n.toNat ≤ 1000000) (h : P (tv (Txt.mul x n)) m) : OpP X Z (binaryOp .Mult) (tv x) (tv n) m P :=
  fun B H Q v w hS hv hw q pins s σ vv uu I rv ru => by
    have e1 : v = .str x := hv
    have e2 : w = .int n := hw
    subst e1; subst e2
    obtain ⟨t1, rfl⟩ := rv
    obtain ⟨t2, rfl⟩ := ru
    refine SB.mul ⟨?_, fun h1 h2 h3 => ?_, fun _ _ => ?_⟩ fun t' k => ⟨.str _, H, I.tok _, ⟨_, rfl⟩, q _ B H m _ (Ex.refl _) hS (rep_str _) h⟩
    · rw [decide_eq_false (by omega), decide_eq_false (by omega)]; rfl
    · have hn : 0 < n := by omega
      have := (Int.ediv_lt_iff_lt_mul hn).mp h3
      have e : (x.length : Int) * n ≤ 1000000 := by
        have e : ((x.length * n.toNat : Nat) : Int) = (x.length : Int) * n := by rw [Int.natCast_mul, Int.toNat_of_nonneg h0]
        rw [← e]; exact Int.ofNat_le.mpr hz
      omega
    · unfold Builtin.Str.tooLong
      exact decide_eq_false (by have := sizeLine_eq; omega)
theorem join_l {x : Str} {ys : List Str} (hz : (ys.map (·.length)).sum + ys.length * x.length ≤ 16777216) (h : P (tv (Txt.join x ys)) m) : MetP X Z "str.join" (tv x) [tv ys] m P := .of mt_join fun B H Q v vs hS hv hx q => by
  obtain ⟨w, rfl, r⟩ := reps1 hx
  obtain ⟨a, ws, ev, _, hh, pr⟩ := rep_list hS.ex r
  have := rep_strs pr
  subst this
  exact ⟨x, a, ys, hv, by rw [ev], .inl (.of hh), hz, q _ B H m _ (Ex.refl _) hS (rep_str _) h⟩
/-- a list that may change grows -/
theorem append_o {p : Addr} {n : Nat} {u : TV} (hm : m[n]? = some (p, mL ts)) (hz : ts.length ≤ 1000000) (h : P (tv ()) (m.set n (p, mL (ts ++ [u])))) : MetP X Z "list.append" (tv (Ref.mk p)) [u] m P :=
  fun B H Q v vs hS hv hx q pins s σ vv us I rv r => mt_append pins s σ H v vs vv us Q I rv r (by
    obtain ⟨w, rfl, rw'⟩ := reps1 hx
    obtain ⟨ws, hh, pr⟩ := mL_at hS hm
    refine ⟨p, ws, w, hv, rfl, hh, by rw [pr.length, sizeLine_eq]; omega, ?_⟩
    exact q .non B _ _ (tv ()) (Ex.refl _) (hS.write (d := mL (ts ++ [u])) hm ⟨_, rfl, pr.append (.cons rw' .nil)⟩) (show V.non = .non from rfl) h)
theorem ty_lU (hu : LstU m t ts) : TyP Z "list" t m := fun B H v hS h => by
  obtain ⟨a, vs, ev, hq, rr⟩ := lstU_at hu hS h
  subst ev
  exact .inl ⟨rfl, vs, .of hq⟩
/-! ### fields of an instance that may change -/
theorem mI_at {B H : Hp} {p C : Addr} {i : Nat} {fs : List (Str × TV)} (S : Sta Z B H m) (h : m[i]? = some (p, mI C fs)) : ∃ dx vs, H p = some (.ins C dx vs) ∧ FRep Z.K B vs fs := by
  obtain ⟨_, o, ho, dx, vs, e, r⟩ := S.hp.at_ i p _ h
  subst e
  exact ⟨dx, vs, ho, r⟩
variable {ex o : Expr} {f : Str} {pos p' : Pos}
theorem we_fld (h : We X Z ex ρ m fun t m1 => ∃ (p C : Addr) (i : Nat) (fs : List (Str × TV)) (u : TV), t = tv (Ref.mk p) ∧ m1[i]? = some (p, mI C fs) ∧ fs.lookup f = some u ∧ Cls X.K C ∧ NoAttr X.K C f ∧ P u m1)
    (hb : attributeBase ex f X.env (eval ex X.env) = eval ex X.env := by rfl) : We X Z (.Attribute ex f pos) ρ m P := .of (pe_fld pe_sem hb) fun σ B H Q he hs q => we_sub h he hs fun v B1 H1 m1 t a1 b1 c1 d1 e1 => by
  obtain ⟨p, C, i, fs, u, rfl, hi, hl, c, n, hp⟩ := e1
  obtain ⟨dx, vs, ho, fr⟩ := mI_at c1 hi
  obtain ⟨w, hw, rw'⟩ := fr.look hl
  exact ⟨p, C, dx, vs, w, d1, ho, c, n, hw, q w B1 H1 m1 u a1 c1 rw' hp⟩
theorem ws_fld (h : We X Z ex ρ m fun u m1 => We X Z o ρ m1 fun t m2 => ∃ (p C : Addr) (i : Nat) (fs : List (Str × TV)), t = tv (Ref.mk p) ∧ m2[i]? = some (p, mI C fs) ∧ fs.length < 1000 ∧ Cls X.K C ∧ NoAttr X.K C f ∧ D.nx ρ (m2.set i (p, mI C (putT f u fs))))
    (hs : swapsWith ex (some (.Attribute o f p')) pos.line X.env = pure false := by rfl) : Ws X Z (.Assign [.Attribute o f p'] ex pos) ρ m D := .of (ps_fld pe_sem pe_sem hs) fun σ B H E he hS q => we_sub h he hS fun v B1 H1 m1 u a1 b1 c1 d1 e1 => we_sub e1 b1 c1 fun w B2 H2 m2 t a2 b2 c2 d2 e2 => by
  obtain ⟨p, C, i, fs, rfl, hi, hl, c, n, hp⟩ := e2
  obtain ⟨dx, vs, ho, fr⟩ := mI_at c2 hi
  refine ⟨p, C, dx, vs, d2, ho, c, n, by rw [fr.length]; exact hl, ?_⟩
  exact q.nx σ B2 _ ρ _ (a1.trans a2) b2 (c2.write (d := mI C (putT f u fs)) hi ⟨dx, _, rfl, FRep.put (TV.mono a2 d1) fr⟩) hp
theorem ins_own {p C : Addr} {i : Nat} {fs : List (Str × TV)} {mname : Str} (hi : m[i]? = some (p, mI C fs)) (hl : fs.lookup mname = none) : InsP Z C mname (tv (Ref.mk p)) m := fun B H v S r => by
  obtain ⟨dx, vs, ho, fr⟩ := mI_at S hi
  refine ⟨p, dx, vs, r, ho, ?_⟩
  have aux : ∀ {vs : List (Str × V)} {fs : List (Str × TV)}, FRep Z.K B vs fs → fs.lookup mname = none → vs.lookup mname = none := by
    intro vs fs h
    induction h with
    | nil => intro _; rfl
    | cons a b ih =>
      intro hl
      unfold List.lookup at hl ⊢
      split at hl
      · cases hl
      · exact ih hl
  exact aux fr hl
end
end Ty

set_option Elab.async false
set_option linter.all false
set_option maxRecDepth 100000
set_option maxHeartbeats 4000000
namespace PySem.W
open PySem PySem.Spec PySem.Calls PyProof.Rows
/-- the class of a caught exception that bears a dict, asked as an attribute -/
theorem ty_exClass {prog : Program} {w : World} {A : Around} {E : Value → Shared → Prop} {s : Shared} {K : Frag} {x D : Addr} {ox : Obj} {od : Option Obj} {Q : Option Value → Shared → Prop} (C : L2.ExcC K D) (X : K.In s.heap) (I : InstAt s.heap x ox D od) (h : Q (some (.ref D)) { s with toks := s.toks + 1 }) :
    wpAny (model prog w) A (getAttr? (.ref x) "__class__") Q E s := by
  have hf : findObj K D od "__class__" = some (.bind (.builtin "getset_descriptor.__get__") (.builtin "object.__class__")) := findObj_dataE (by obtain ⟨cd, hc, _⟩ := any_some C.hd; rw [hc]; rfl) C.ha C.hn C.ht
  obtain ⟨hp, g, d, t, os⟩ := s
  have T0 := I.type (M := model prog w)
  have T3 := looks_find (M := model prog w) X I hf
  have nb : (Value.builtin "BaseException.__getattribute__" == Value.builtin "object.__getattribute__") = false := by decide +kernel
  unfold getAttr? getAttrBy? getAttrBy
  refine wpAny_bind (wpAny_mkText (wpAny_bind (wpAny_attempt (wpAny_holding (wpAny_bind (T0.at (wpAny_bind ((looks_findIn X C.hg).at ?_))))))))
  show wpAny _ _ (if (onTheHeap (Value.ref D) && Value.builtin "BaseException.__getattribute__" == Value.builtin "object.__getattribute__") = true then _ else _) _ _ _
  rw [if_neg (by rw [nb, Bool.and_false]; exact Bool.false_ne_true)]
  unfold getAttrByItsOwn hookBefore
  refine wpAny_bind ?_
  rw [if_pos (show onTheHeap (Value.ref D) = true from rfl)]
  refine (looks_findIn X C.hk).at (wpAny_bind (wpAny_attempt (wpAny_holding ?_)))
  unfold callGetattribute
  rw [show (false && onTheHeap (Value.builtin "BaseException.__getattribute__")) = false from rfl, if_neg Bool.false_ne_true]
  unfold boundAndCalled
  rw [PySem.F.excAttr_ValueError.ga.bind (.ref x)]
  refine wpAny_bind (wpAny_pure ?_)
  show wpAny _ _ (call (.builtin "BaseException.__getattribute__") [.ref x, .str "__class__" t]) _ _ _
  refine wpAny_call (codeAny_call_builtin PySem.F.excAttr_ValueError.ga.plain PySem.F.entry_bexc_ga ?_)
  refine @check_slot (model prog w) _ _ ⟨hp, g, d, t + 1, os⟩ "BaseException.__getattribute__" "BaseException" "__getattribute__" (.ref x) [.str "__class__" t] [] _ (by decide +kernel) (by decide +kernel) (T0.andThen (looks_subIn X C.hs)) (PySem.F.args_bexc_ga (.ref x) (.str "__class__" t)) ?_
  unfold Builtin.«object.__getattribute__»
  refine wpAny_bind (wpAny_of_eq (a := ((Value.ref x : Value), [Value.str "__class__" t])) (by first | rfl | (simp only [slotArgs]; rfl)) ?_)
  refine wpAny_bind (wpAny_pure (wpAny_bind (T0.at (wpAny_bind (T3.at ?_)))))
  show wpAny _ _ (holding [Value.builtin "object.__class__"] (call (.builtin "getset_descriptor.__get__") [.builtin "object.__class__", .ref x, .ref D]) >>= ret) _ _ _
  refine wpAny_bind (wpAny_holding (wpAny_call (class_get (s := ⟨hp, g, d, t + 1, os⟩) (ox := ox) (od := od) X I C.hm ?_)))
  refine wpAny_pure ?_
  show wpAny _ _ (handedOut (.ref D)) _ _ _
  rw [handedOut_of (v := .ref D) rfl]
  first
    | exact wpAny_pure (wpAny_pure h)
    | exact wpAny_pure h
    | exact wpAny_pure (wpAny_bind (wpAny_pure (wpAny_pure h)))
theorem ty_kitE {K : Frag} {x D : Addr} {ox : Obj} {od : Option Obj} (C : L2.ExcC K D) : KitX K (.ref x) (.ref D) (fun h => InstAt h x ox D od) where
  ty := fun _ _ _ I => I.type
  it := fun _ _ X _ => by
    obtain ⟨cd, hc, _⟩ := any_some C.hd
    unfold clsIn at hc
    split at hc
    · rename_i ho
      intro A' Q' E' s' k q
      unfold isType loadHead
      exact wpAny_bind (wpAny_loadPart (k _ _ (X _ _ ho)) (wpAny_pure q))
    · cases hc
  ne := fun h tp dd its n sl X htp => by
    obtain ⟨cd, hc, _⟩ := any_some C.hd
    refine Bool.eq_false_iff.mpr fun q => ?_
    have e : D = tp := Value.ref.inj (beq_iff_eq.mp q)
    subst e
    unfold clsIn at hc
    split at hc
    · rename_i ho
      have z := (X _ _ ho).symm.trans htp
      cases z
    · cases hc
  ca := fun X I k => ty_exClass C X I k
end PySem.W
namespace Ty
open PySem PySem.Spec PyProof.Rows L2
/-! ### in an except suite -/
section
variable {X : Cx} {Z : Zs} {ρ : TEnv} {m : Mu} {D : DE} {P : TV → Mu → Prop} {y : XV} {a dd C C0 : Addr} {oe : Obj} {pn : List (Addr × Obj)} {e : Expr} {f : Str} {pos : Pos}
/-- err.f -/
theorem we_xf (T : XfC X.K C) (hno : PySem.W.findIn X.K (.ref C) f = some none) (hz : Zc (.ref C) (some dd) oe) (hf : ∃ vs, oe.data = .fields vs)
    (h : We (X.suite a ((a, oe) :: pn)) Z e ρ m fun t m1 => t = tv (XR.mk a : XR y dd) ∧ ∃ u, y.fs.lookup f = some u ∧ P u m1) (hb : attributeBase e f X.env (eval e X.env) = eval e X.env := by rfl) : We (X.suite a ((a, oe) :: pn)) Z (.Attribute e f pos) ρ m P :=
  .of (pe_xf (cls := .ref C) (d := some dd) T hno hz hf pe_sem hb) fun σ B H Q he hs q => we_sub h he hs fun v B1 H1 m1 t a1 b1 c1 d1 e1 => by
    obtain ⟨et, u, hl, p⟩ := e1
    subst et
    obtain ⟨ev, vs, hb, fr⟩ := (show v = .ref a ∧ ∃ vs, B1 dd = some (.xd vs) ∧ FRep Z.K B1 vs y.fs from d1)
    obtain ⟨w, hw, rw'⟩ := fr.look hl
    exact ⟨ev, rfl, dd, vs, w, rfl, c1.ex _ _ hb, hw, q w B1 H1 m1 u a1 c1 rw' p⟩
/-- isinstance(err, C0) -/
theorem isE (CE : ExcC X.K C) (hz : Zc (.ref C) (some dd) oe) (hf : ∃ vs, oe.data = .fields vs) {b : Bool} (hk : PySem.W.kitOne X.K (.ref C) (.ref C0) = some b) (h : P (tv b) m) : CallP (X.suite a ((a, oe) :: pn)) Z (.builtin "isinstance") [tv (XR.mk a : XR y dd), tv (Ref.mk C0)] m P :=
  fun B H Q vs hS hv q pins s σ us I r => by
    obtain ⟨v, w, rfl, r1, r2⟩ := reps2 hv
    obtain ⟨ev, fs, hb, fr⟩ := (show v = .ref a ∧ ∃ vs, B dd = some (.xd vs) ∧ FRep Z.K B vs y.fs from r1)
    have ew : w = .ref C0 := r2
    subst ev; subst ew
    obtain ⟨u1, u2, rfl, q1, q2⟩ := vals2 r
    obtain rfl : u1 = Value.ref a := q1
    obtain rfl : u2 = Value.ref C0 := q2
    obtain ⟨hget, _⟩ := I.pin (a, oe) (List.mem_append_left _ List.mem_cons_self)
    obtain ⟨vs, hd⟩ := hf
    obtain ⟨mA, hns, _⟩ := (show ObjOk X.prog X.w H s.heap dd (.xd fs) from I.hok dd _ (hS.ex _ _ hb))
    obtain ⟨od, ho, _⟩ := lookIn_ns hns
    have J : PySem.W.InstAt s.heap a oe C (some od) := ⟨hget, hz.1, by unfold PySem.W.notCls; rw [hd] <;> rfl, by rw [hz.2]; exact ho⟩
    exact PySem.W.kia_one (PySem.W.ty_kitE CE) I.kIn J hk (fun z => nomatch z) fun tk => ⟨.bl b, H, I.tok tk, rfl, q _ B H m _ (Ex.refl _) hS (rep_bool _) h⟩
end
/-! ### data that never changes, laid by displays -/
def AsB (t : TV) (d : PyData) : Prop := ∀ K B v, TV.rep K B v t → Dr K B v d
inductive AsBs : List TV → List PyData → Prop
  | nil : AsBs [] []
  | cons {t : TV} {ts : List TV} {d : PyData} {ds : List PyData} : AsB t d → AsBs ts ds → AsBs (t :: ts) (d :: ds)
theorem asb_int {i : Int} : AsB (tv i) (.int i) := fun _ _ v h => by rw [show v = .int i from h]; exact .int i
theorem asb_str {i : Str} : AsB (tv i) (.str i) := fun _ _ v h => by rw [show v = .str i from h]; exact .str i
theorem asb_bool {i : Bool} : AsB (tv i) (.bool i) := fun _ _ v h => by rw [show v = .bl i from h]; exact .bl i
theorem asb_none {u : Unit} : AsB (tv u) .none := fun _ _ v h => by rw [show v = .non from h]; exact .non
theorem asb_data {d : PyData} : AsB (tv d) d := fun _ _ v h => h
theorem AsBs.all {K : PySem.W.Frag} {B : Hp} : ∀ {vs : List V} {ts : List TV} {ds : List PyData}, AsBs ts ds → Reps K B vs ts → DrAll K B vs ds
  | _, _, _, .nil, .nil => .nil
  | _, _, _, .cons a r, .cons b q => .cons (a _ _ _ b) (AsBs.all r q)
section
variable {X : Cx} {Z : Zs} {ρ : TEnv} {m : Mu} {D : DE} {P : TV → Mu → Prop} {ts : List TV} {ds : List PyData}
theorem tupD (hd : AsBs ts ds) (h : P (tv (PyData.tuple ds)) m) : TupP P ts m := ⟨tv (PyData.tuple ds), fun K B a vs hs r => .tup hs (hd.all r), h⟩
theorem cv_data {t : TV} {d : PyData} (h : AsB t d) : Cv t (tv d) := h
theorem cv_str {s : Str} : Cv (tv (PyData.str s)) (tv s) := fun K B v h => by cases (show Dr K B v (.str s) from h); exact rfl
theorem cv_int {s : Int} : Cv (tv (PyData.int s)) (tv s) := fun K B v h => by cases (show Dr K B v (.int s) from h); exact rfl
theorem cv_bool {s : Bool} : Cv (tv (PyData.bool s)) (tv s) := fun K B v h => by cases (show Dr K B v (.bool s) from h); exact rfl
theorem cv_none : Cv (tv PyData.none) (tv ()) := fun K B v h => by cases (show Dr K B v .none from h); exact rfl
theorem asb_cv {t : TV} {d : PyData} (h : Cv t (tv d)) : AsB t d := h
/-! ### dicts -/
inductive KRep (K : PySem.W.Frag) (B : Hp) : List (Key × V) → List (Key × TV) → Prop
  | nil : KRep K B [] []
  | cons {k : Key} {v : V} {t : TV} {vs : List (Key × V)} {ts : List (Key × TV)} : TV.rep K B v t → KRep K B vs ts → KRep K B ((k, v) :: vs) ((k, t) :: ts)
theorem KRep.mono {K : PySem.W.Frag} {B B' : Hp} (e : Ex B B') : ∀ {vs : List (Key × V)} {ts : List (Key × TV)}, KRep K B vs ts → KRep K B' vs ts
  | _, _, .nil => .nil
  | _, _, .cons a b => .cons (TV.mono e a) (KRep.mono e b)
def mD (kts : List (Key × TV)) : MV := ⟨fun K B o => ∃ vs, o = .dK vs ∧ KRep K B vs kts, fun e ⟨vs, h1, h2⟩ => ⟨vs, h1, h2.mono e⟩⟩
/-- {'k': v}: a dict that never changes; one that may -/
inductive DctP (P : TV → Mu → Prop) (k : Str) (u : TV) (m : Mu) : Prop
  | data {d : PyData} : AsB u d → P (tv (PyData.dict [(.str k, d)])) m → DctP P k u m
  | own : (∀ p, P (tv (Ref.mk p)) (m ++ [(p, mD [(.inr k, u)])])) → DctP P k u m
theorem we_dct1 {ek ev : Expr} {pos : Pos} (h : ∀ L : Mu, L.length = 1 → We X Z ek ρ (m ++ L) fun t m1 => ∃ x : Str, t = tv x ∧ We X Z ev ρ m1 fun u m2 => ∃ m', m2 = m' ++ L ∧ DctP P x u m') : We X Z (.Dict [some ek] [ev] pos) ρ m P :=
  .of (pe_disp (pps_cons pe_sem pe_sem pps_nil) rfl rfl (by simp) (by simp)) fun σ B H Q he hs q p hp => by
    have s1 := hs.newM (o := .dK []) hp (c := mD []) ⟨[], rfl, .nil⟩
    refine we_sub (h [(p, mD [])] rfl) he s1 fun v B1 H1 m1 t a1 b1 c1 d1 ⟨x, et, w⟩ => ?_
    subst et
    refine we_sub w b1 c1 fun u B2 H2 m2 t2 a2 b2 c2 d2 ⟨m', em, r⟩ => ?_
    subst em
    have hi : (m' ++ [(p, mD [])])[m'.length]? = some (p, mD []) := by simp
    obtain ⟨hb, o, ho, vs, eo, kr⟩ := c2.hp.at_ _ p _ hi
    subst eo
    cases kr
    refine ⟨ho, [(.inr x, u)], ?_, by simp, ?_⟩
    · rw [show v = .str x from d1]; rfl
    · have s2 := c2.write (o := .dK [(.inr x, u)]) (d := mD [(.inr x, t2)]) hi ⟨_, rfl, .cons d2 .nil⟩
      rw [List.set_append_right _ _ (Nat.le_refl _), Nat.sub_self] at s2
      have s2' : Sta Z B2 (upd H2 p (.dK [(.inr x, u)])) (m' ++ [(p, mD [(.inr x, t2)])]) := s2
      rcases r with @⟨d, hd, r⟩ | r
      · have hi2 : (m' ++ [(p, mD [(.inr x, t2)])])[m'.length]? = some (p, mD [(.inr x, t2)]) := by simp
        have s3 := s2'.freeze hi2 upd_same
        rw [List.eraseIdx_append_of_length_le (Nat.le_refl _), Nat.sub_self] at s3
        have s4 : Sta Z (upd B2 p (.dK [(.inr x, u)])) (upd H2 p (.dK [(.inr x, u)])) m' := by simpa using s3
        exact q (.ref p) _ _ m' (tv (PyData.dict [(.str x, d)])) ((a1.trans a2).trans (Ex.new hb)) s4 (show Dr Z.K (upd B2 p (.dK [(.inr x, u)])) (V.ref p) (.dict [(kD (.inr x), d)]) from .dct upd_same (.cons (Dr.mono (Ex.new hb) _ _ (hd _ _ _ d2)) .nil)) r
      · exact q (.ref p) B2 _ _ (tv (Ref.mk p)) (a1.trans a2) s2' (show V.ref p = .ref p from rfl) (r p)
theorem asd_own_dict {p : Addr} {n : Nat} {kts : List (Key × TV)} {kds : List (PyData × PyData)} (h : m[n]? = some (p, mD kts)) (hk : kds.map (·.1) = kts.map (fun q => kD q.1)) (hv : AsDs m (kts.map (·.2)) (kds.map (·.2))) : AsD m (tv (Ref.mk p)) (.dict kds) := fun K B H v S r => by
  obtain ⟨_, o, ho, vs, e, q⟩ := S.at_ n p _ h
  subst e
  rw [show v = .ref p from r]
  refine .dct ho ?_
  clear h ho r
  induction q generalizing kds with
  | nil => cases kds with
    | nil => exact .nil
    | cons _ _ => cases hk
  | cons a b ih => cases kds with
    | nil => cases hk
    | cons kd kds =>
      obtain ⟨k1, d1⟩ := kd
      have hk' := hk
      simp only [List.map_cons, List.cons.injEq] at hk'
      obtain ⟨e1, e2⟩ := hk'
      cases hv with
      | cons h1 h2 =>
        subst e1
        exact .cons (h1 _ _ _ _ S a) (ih e2 h2)
/-- xs.index(x), texts -/
theorem index_ss {x : Str} {xs : List Str} {j : Nat} (hj : xs[j]? = some x) (hn : ∀ i y, i < j → xs[i]? = some y → y ≠ x) (h : P (tv (j : Int)) m) : MetP X Z "list.index" (tv xs) [tv x] m P := .of mt_index fun B H Q v vs hS hv hx q => by
  obtain ⟨w, rfl, r⟩ := reps1 hx
  obtain ⟨a, ws, ev, _, hh, pr⟩ := rep_list hS.ex hv
  have := rep_strs pr
  subst this
  have ew : w = .str x := r
  subst ew
  refine ⟨a, _, .str x, j, .str x, ev, rfl, .of hh, rfl, flat_strs, ?_, ?_, fun i z hi hz => ?_, q _ B H m _ (Ex.refl _) hS (rep_int _) h⟩
  · rw [List.getElem?_map, hj]; rfl
  · simp [eqV]
  · rw [List.getElem?_map] at hz
    cases e : xs[i]? with
    | none => rw [e] at hz; cases hz
    | some y =>
      rw [e] at hz
      cases hz
      have := hn i y hi e
      simpa [eqV] using this
end
end Ty

set_option Elab.async false
set_option linter.all false
set_option maxRecDepth 100000
set_option maxHeartbeats 4000000
namespace Ty
open PySem PySem.Spec PyProof.Rows L2
section
variable {X : Cx} {Z : Zs} {ρ : TEnv} {m : Mu} {D : DE} {P : TV → Mu → Prop} {R : List TV → (Mu → Prop) → Mu → Prop} {tg iter : Expr}
/-- the signs of a text, each a text -/
def signsT (x : Str) : List Str := x.cps.toList.map fun c => ⟨#[c]⟩
theorem wi_str (h : We X Z iter ρ m fun t m1 => ∃ x : Str, t = tv x ∧ R ((signsT x).map fun y => tv y) gd0 m1) : Wi X Z tg iter ρ m R := by
  refine .of (pi_str pe_sem) fun σ B H Q he hs k => we_sub h he hs fun v B1 H1 m1 t a1 b1 c1 d1 ⟨x, et, r⟩ => ?_
  subst et
  refine ⟨x, d1, k _ B1 H1 m1 _ gd0 a1 c1 (fun B' H' m' e s _ => ?_) r⟩
  refine ⟨fun i t ht => ?_, ?_⟩
  · obtain ⟨y, hy, rfl⟩ := get_map ht
    unfold signsT at hy
    obtain ⟨c, hc, rfl⟩ := get_map hy
    have hc' : x.cps[i]? = some c := by simpa using hc
    refine ⟨(Array.getElem?_eq_some_iff.mp hc').1, fun y H'' hy => ?_⟩
    obtain ⟨rfl, c2, hc2, ey⟩ := hy
    rw [hc'] at hc2
    cases hc2
    exact ⟨B', Ex.refl _, s, ey⟩
  · show x.cps.size ≤ _
    simp [signsT]
/-! ### types -/
def IsTyM (m : Mu) (t : TV) (ty : String) : Prop := ∀ K B H v, HpOk K B H m → TV.rep K B v t → TyX K H v (.type ty)
theorem IsTyM.z {t : TV} {ty : String} (h : IsTyM m t ty) : IsTy Z t m ty := fun B H v S r => h _ _ _ _ S.hp r
theorem tym_int {i : Int} : IsTyM m (tv i) "int" := fun _ _ _ v _ h => by rw [show v = .int i from h]; exact .base (.int i)
theorem tym_bool {i : Bool} : IsTyM m (tv i) "bool" := fun _ _ _ v _ h => by rw [show v = .bl i from h]; exact .base (.bl i)
theorem tym_str {i : Str} : IsTyM m (tv i) "str" := fun _ _ _ v _ h => by rw [show v = .str i from h]; exact .base (.str i)
theorem tym_none {i : Unit} : IsTyM m (tv i) "NoneType" := fun _ _ _ v _ h => by rw [show v = .non from h]; exact .base .non
theorem tym_lU {t : TV} {ts : List TV} (hu : LstU m t ts) : IsTyM m t "list" := fun K B H v S r => by
  obtain ⟨a, vs, ev, hq, rr⟩ := hu K B H v S r
  rw [ev]
  exact .base (.lst hq)
theorem tym_tup {ds : List PyData} : IsTyM m (tv (PyData.tuple ds)) "tuple" := fun K B H v S r => by
  cases (show Dr K B v (.tuple ds) from r) with
  | tup hs ha =>
    rcases S.ex.seqT hs with (h | ⟨o, h⟩) | ⟨o, its, n, h, c, _⟩
    · exact .base (.tup h)
    · exact .fTuple h
    · exact .kTuple h c
theorem tym_dct {ds : List (PyData × PyData)} : IsTyM m (tv (PyData.dict ds)) "dict" := fun K B H v S r => by
  cases (show Dr K B v (.dict ds) from r) with
  | dct hs ha => exact .base (.dK (S.ex _ _ hs))
theorem isiM {t : TV} {ty T : String} {b : Bool} (ht : IsTyM m t ty) (h : P (tv b) m) (hb : kitB ty T = some b := by decide +kernel) (hK : X.K = Z.K := by rfl) : CallP X Z (.builtin "isinstance") [t, tv (Typ.mk T)] m P := isi ht.z h hb hK
end
end Ty

set_option Elab.async false
set_option linter.all false
set_option maxRecDepth 100000
set_option maxHeartbeats 4000000
namespace Ty
open PySem PySem.Spec PyProof.Rows L2
/-- data whose repr is short: ints below 10^29, plain signs; k: how deep, n: how much -/
structure Fine (k n : Nat) (d : PyData) : Prop where
  lv : d.leavesShort 30 = true
  sh : d.showable = true
  dp : d.depth ≤ k
  wt : d.weight ≤ n
structure Fines (k n : Nat) (ds : List PyData) : Prop where
  lv : PyData.leavesShortAll 30 ds = true
  sh : PyData.showableAll ds = true
  dp : PyData.depthAll ds ≤ k
  wt : PyData.weightAll ds ≤ n
theorem Fine.shown {k n : Nat} {d : PyData} (h : Fine k n d) (hn : n ≤ 400000 := by omega) : d.shown.length ≤ 16000000 := by
  have := PyData.shown_le 30 (by omega) d h.lv
  have := h.wt
  omega
theorem Fine.mono {k k' n n' : Nat} {d : PyData} (h : Fine k n d) (h1 : k ≤ k' := by omega) (h2 : n ≤ n' := by omega) : Fine k' n' d := ⟨h.lv, h.sh, Nat.le_trans h.dp h1, Nat.le_trans h.wt h2⟩
theorem fine_none : Fine 0 0 .none := ⟨rfl, rfl, Nat.le_refl _, Nat.le_refl _⟩
theorem fine_bool {b : Bool} : Fine 0 0 (.bool b) := ⟨rfl, rfl, Nat.le_refl _, Nat.le_refl _⟩
theorem log2_lt29 {i : Int} (h : i.natAbs < 10 ^ 29) : i.natAbs.log2 < 97 := by
  by_cases z : i.natAbs = 0
  · rw [z]; decide
  · rw [Nat.log2_lt z]
    exact Nat.lt_trans h (by decide)
theorem fine_int {i : Int} (h : i.natAbs < 10 ^ 29) : Fine 0 97 (.int i) := by
  have l := log2_lt29 h
  refine ⟨?_, ?_, Nat.le_refl _, ?_⟩
  · simp only [PyData.leavesShort, decide_eq_true_eq]
    have e := PySem.int_text_length_le10 (k := 29) (by decide) h
    show (Str.ofString (toString i)).length ≤ 30
    rw [PySem.ofString_length]; exact e
  · simp only [PyData.showable, decide_eq_true_eq]; omega
  · simp only [PyData.weight]
    split <;> omega
theorem fine_str {s : Str} (h : ∀ c ∈ s.cps.toList, c < 4294967296) : Fine 0 s.length (.str s) := by
  refine ⟨?_, rfl, Nat.le_refl _, Nat.le_refl _⟩
  simp only [PyData.leavesShort, List.all_eq_true, decide_eq_true_eq]
  intro c hc
  exact Nat.lt_of_lt_of_le (h c hc) (by decide)
theorem fines_nil : Fines 0 0 [] := ⟨rfl, rfl, Nat.le_refl _, Nat.le_refl _⟩
theorem fines_cons {k k' n n' : Nat} {d : PyData} {ds : List PyData} (h : Fine k n d) (t : Fines k' n' ds) : Fines (max k k') (n + 1 + n') (d :: ds) := by
  refine ⟨?_, ?_, ?_, ?_⟩
  · simp only [PyData.leavesShortAll, h.lv, t.lv]; rfl
  · simp only [PyData.showableAll, h.sh, t.sh]; rfl
  · have := h.dp
    have := t.dp
    simp only [PyData.depthAll]; omega
  · have := h.wt
    have := t.wt
    simp only [PyData.weightAll]; omega
theorem fine_list {k n : Nat} {ds : List PyData} (h : Fines k n ds) : Fine (k + 1) n (.list ds) :=
  ⟨by simpa only [PyData.leavesShort] using h.lv, by simpa only [PyData.showable] using h.sh, by simpa only [PyData.depth] using Nat.succ_le_succ h.dp, by simpa only [PyData.weight] using h.wt⟩
theorem fine_tuple {k n : Nat} {ds : List PyData} (h : Fines k n ds) : Fine (k + 1) n (.tuple ds) :=
  ⟨by simpa only [PyData.leavesShort] using h.lv, by simpa only [PyData.showable] using h.sh, by simpa only [PyData.depth] using Nat.succ_le_succ h.dp, by simpa only [PyData.weight] using h.wt⟩
theorem fine_dict1 {k n : Nat} {x : Str} {d : PyData} (hx : ∀ c ∈ x.cps.toList, c < 4294967296) (h : Fine k n d) : Fine (k + 1) (x.length + n + 2) (.dict [(.str x, d)]) := by
  have hs := fine_str hx
  refine ⟨?_, ?_, ?_, ?_⟩
  · simp only [PyData.leavesShort, PyData.leavesShortKv, h.lv, Bool.and_true]
    exact hs.lv
  · simp only [PyData.showable, PyData.showableKv, h.sh]; rfl
  · have := h.dp
    simp only [PyData.depth, PyData.depthKv]; omega
  · have := h.wt
    have := hs.wt
    have e : (PyData.str x).weight = x.cps.size := rfl
    have e2 : x.length = x.cps.size := rfl
    simp only [PyData.weight, PyData.weightKv]; omega
theorem Fines.append {k k' n n' : Nat} {ds es : List PyData} (h : Fines k n ds) (t : Fines k' n' es) : Fines (max k k') (n + n') (ds ++ es) := by
  induction ds generalizing n with
  | nil => exact ⟨t.lv, t.sh, Nat.le_trans t.dp (Nat.le_max_right _ _), Nat.le_trans t.wt (Nat.le_add_left _ _)⟩
  | cons d ds ih =>
    obtain ⟨h1, h2, h3, h4⟩ := h
    simp only [PyData.leavesShortAll, Bool.and_eq_true] at h1
    simp only [PyData.showableAll, Bool.and_eq_true] at h2
    simp only [PyData.depthAll] at h3
    simp only [PyData.weightAll] at h4
    have q := ih (n := PyData.weightAll ds) ⟨h1.2, h2.2, by omega, Nat.le_refl _⟩
    refine ⟨?_, ?_, ?_, ?_⟩
    · simp only [List.cons_append, PyData.leavesShortAll, h1.1, q.lv]; rfl
    · simp only [List.cons_append, PyData.showableAll, h2.1, q.sh]; rfl
    · have := q.dp
      simp only [List.cons_append, PyData.depthAll]; omega
    · have := q.wt
      simp only [List.cons_append, PyData.weightAll]; omega
section
variable {X : Cx} {Z : Zs} {m : Mu} {P : TV → Mu → Prop} {t : TV} {d : PyData} {k k' n : Nat}
theorem repr_f (hd : AsD m t d) (hgd : X.A.guards = some []) (hr : RmH k X.A) (hb : (X.base.get? sysModules).isSome = true) (hc : isC d = true) (hs : Fine k' n d) (h : P (tv d.shown) m) (hk : k' ≤ 60 := by omega) (hn : n ≤ 400000 := by omega) (hK : X.K = Z.K := by rfl) : CallP X Z (.builtin "repr") [t] m P :=
  repr_d hd hgd hr hb hc hs.sh (Nat.le_trans hs.dp hk) (hs.shown hn) h hK
end
/-! ### binding -/
section
variable {P : Program} {w : World} {K : PySem.W.Frag} {mg : Str → Option Value} {base : Heap} {x qual : Str} {params : Arguments} {body : List Stmt} {scope : Scope} {dvs : List V} {f C : Addr} {fd : FuncData} {k : Nat} {T : TSpec} {ps ks : List Str}
/-- n values are written, the defaults behind the first j fill up -/
theorem defK_mkD (F : FunD K x qual params body scope dvs [] f fd) (G : FnG P w K mg base k f fd ps T) (hm : mg x = some (.ref f)) (n j : Nat) (dts : List TV) (hf : Flat K (dvs.drop j) dts) (hd : dvs ≠ []) (hn : n + (dvs.length - j) = ps.length)
    (h : ∀ (T : Addr) (kV doc pm : Value) (an : Option Addr) (cdv ct : Value) (us its : List Value), us.length = n → its.length = dvs.length →
      ∃ k, bindArgs (PySem.W.fnOf x qual params body scope (.ref T) kV doc pm an cdv ct) ⟨us, []⟩ = seqItems? (.ref T) >>= k ∧ k (some its.toArray) = pure (ps.zip (us ++ its.drop j))) : DefK P w K mg base x k T dts := by
  obtain ⟨ds, hv, hb⟩ := F.binds1 (ps := ps) n j hd hn h
  exact ⟨f, fd, ps, dvs.drop j, ds, G, hm, F.kp, hb, hv, hf⟩
theorem metK_mk (cl : Cls K C) (F : FunD K x qual params body scope [] [] f fd) (hM : Meth K C x f) (G : FnG P w K mg base k f fd ps T)
    (h : ∀ (kV doc pm : Value) (an : Option Addr) (cdv ct : Value) (us : List Value), us.length = ps.length → bindArgs (PySem.W.fnOf x qual params body scope .none kV doc pm an cdv ct) ⟨us, []⟩ = pure (ps.zip us)) : MetK P w K mg base C x k T [] :=
  ⟨cl, f, fd, ps, [], [], hM, G, F.bindsN h, .nil, flat0⟩
theorem Vals.rev {vs : List V} {us : List Value} (h : Vals vs us) : Vals vs.reverse us.reverse := by
  induction h with
  | nil => exact .nil
  | cons a b ih => rw [List.reverse_cons, List.reverse_cons]; exact ih.append (.cons a .nil)
theorem Reps.rev {K : PySem.W.Frag} {B : Hp} {vs : List V} {ts : List TV} (h : Reps K B vs ts) : Reps K B vs.reverse ts.reverse := by
  induction h with
  | nil => exact .nil
  | cons a b ih => rw [List.reverse_cons, List.reverse_cons]; exact ih.append (.cons a .nil)
/-- names in the parameters' order, behind n values -/
theorem bindsK_in (F : FunD K x qual params body scope [] [] f fd) (n : Nat)
    (h : ∀ (kV doc pm : Value) (an : Option Addr) (cdv ct : Value) (us ws : List Value), us.length = n → ws.length = ks.length → bindArgs (PySem.W.fnOf x qual params body scope .none kV doc pm an cdv ct) ⟨us, ks.zip ws⟩ = pure (ps.zip (us ++ ws))) :
    BindsK K fd ps n ks (fun us ws => us ++ ws) (fun us ws => us ++ ws) (fun us ws => us ++ ws) := by
  obtain ⟨oc, od, dV, kV, doc, pm, an, cdv, ct, osl, rfl, lk, hcd, hD, hK⟩ := F.ex
  rcases hD with ⟨_, rfl⟩ | ⟨e, _⟩
  · exact ⟨fun s us ws _ l1 l2 => .of_eq (h kV doc pm an cdv ct us ws l1 l2), fun a b => a.append b, fun a b => a.append b⟩
  · exact absurd rfl e
/-- .. against it -/
theorem bindsK_rev (F : FunD K x qual params body scope [] [] f fd) (n : Nat)
    (h : ∀ (kV doc pm : Value) (an : Option Addr) (cdv ct : Value) (us ws : List Value), us.length = n → ws.length = ks.length → bindArgs (PySem.W.fnOf x qual params body scope .none kV doc pm an cdv ct) ⟨us, ks.zip ws⟩ = pure (ps.zip (us ++ ws.reverse))) :
    BindsK K fd ps n ks (fun us ws => us ++ ws.reverse) (fun us ws => us ++ ws.reverse) (fun us ws => us ++ ws.reverse) := by
  obtain ⟨oc, od, dV, kV, doc, pm, an, cdv, ct, osl, rfl, lk, hcd, hD, hK⟩ := F.ex
  rcases hD with ⟨_, rfl⟩ | ⟨e, _⟩
  · exact ⟨fun s us ws _ l1 l2 => .of_eq (h kV doc pm an cdv ct us ws l1 l2), fun a b => a.append (Vals.rev b), fun a b => a.append (Reps.rev b)⟩
  · exact absurd rfl e
theorem signs_len {x : Str} : (signsT x).length = x.length := by simp [signsT, PySem.Str.length]
end
theorem canLay_strs : ∀ {xs : List Str}, (∀ y ∈ xs, ∀ c ∈ y.cps.toList, c < 0x110000) → PyData.canLayAll0 (xs.map PyData.str) = true ∧ PyData.depthAll (xs.map PyData.str) = 0
  | [], _ => ⟨rfl, rfl⟩
  | y :: xs, h => by
    obtain ⟨h1, h2⟩ := canLay_strs (xs := xs) fun z hz => h z (List.mem_cons_of_mem _ hz)
    have e : PyData.strOk y = true := by
      unfold PyData.strOk
      rw [← Array.all_toList, List.all_eq_true]
      exact fun c hc => decide_eq_true (h y List.mem_cons_self c hc)
    simp only [List.map_cons, PyData.canLayAll0, PyData.canLay0, PyData.depthAll, PyData.depth, h1, h2, e]
    exact ⟨rfl, rfl⟩
theorem shaped_strs {xs : List Str} (h : ∀ y ∈ xs, ∀ c ∈ y.cps.toList, c < 0x110000) : SeqAt.shaped (.list (xs.map PyData.str)) = true := by
  obtain ⟨h1, h2⟩ := canLay_strs h
  unfold SeqAt.shaped
  simp only [PyData.canLay0, PyData.depth, h1, h2]
  decide
theorem signs_c {x : Str} {y : Str} (h : y ∈ signsT x) : ∃ c ∈ x.cps.toList, y = ⟨#[c]⟩ := by
  unfold signsT at h
  obtain ⟨c, hc, e⟩ := List.mem_map.mp h
  exact ⟨c, hc, e.symm⟩
end Ty

set_option Elab.async false
set_option linter.all false
set_option maxRecDepth 100000
set_option maxHeartbeats 4000000
namespace Ty
open PySem PySem.Spec PyProof.Rows L2
theorem str_ext {x y : Str} (h : x.cps.toList = y.cps.toList) : x = y := by
  obtain ⟨⟨a⟩⟩ := x
  obtain ⟨⟨b⟩⟩ := y
  exact congrArg (fun l => (⟨⟨l⟩⟩ : Str)) h
theorem app_list (x y : Str) : (x ++ y).cps.toList = x.cps.toList ++ y.cps.toList := by
  show (x.cps ++ y.cps).toList = _
  simp
theorem str_llen (x : Str) : x.length = x.cps.toList.length := by simp [PySem.Str.length]
theorem app_len (x y : Str) : (x ++ y).length = x.length + y.length := by rw [str_llen, str_llen, str_llen, app_list, List.length_append]
theorem slice_mem {x : Str} {l u : Option Int} {c : Nat} (h : c ∈ (Txt.slice x l u).cps.toList) : c ∈ x.cps.toList := by
  unfold Txt.slice at h
  split at h
  · exact h
  · obtain ⟨k, _, e⟩ := List.mem_filterMap.mp (by simpa using h)
    have e' : x.cps.toList[k]? = some c := by simpa using e
    exact List.mem_of_getElem? e'
theorem slice_to_list {x : Str} {j : Int} (h0 : 0 ≤ j) (h1 : j ≤ x.length) : (Txt.slice x none (some j)).cps.toList = x.cps.toList.take j.toNat := by
  have e := beq_iff_eq.mp (slice_closes_to (x := x) (j := j) ⟨h0, by rw [← str_llen]; exact h1⟩)
  rw [e]
  simp
theorem join_mem {sep : Str} {ys : List Str} {c : Nat} (h : c ∈ (Txt.join sep ys).cps.toList) : (∃ t ∈ ys, c ∈ t.cps.toList) ∨ c ∈ sep.cps.toList := by
  rw [show Txt.join sep ys = Str.join sep ys from beq_iff_eq.mp (join_closes (sep := sep) (sep' := sep) (ys := ys) rfl)] at h
  rcases (mem_join sep c ys).mp h with h | h
  · exact .inl h
  · exact .inr h.2
theorem mul_mem {x : Str} {k : Nat} {n : Int} {c : Nat} (hx : x = ⟨#[k]⟩) (h : c ∈ (Txt.mul x n).cps.toList) : c = k := by
  subst hx
  rw [mul_one_list] at h
  exact (List.mem_replicate.mp h).2
theorem mul_len {x : Str} {k : Nat} {n : Int} (hx : x = ⟨#[k]⟩) : (Txt.mul x n).length = n.toNat := by
  subst hx
  rw [str_llen, mul_one_list, List.length_replicate]
section
variable {X : Cx} {Z : Zs} {ρ : TEnv} {m : Mu} {P : TV → Mu → Prop} {elt : Expr} {scope : Scope} {own : List (Str × Nat)} {j : Nat}
/-- over lo, lo + 1, ..: an invariant over what is laid and what may change -/
theorem lcp_rng {β : Type} [Rep β] {lo : Int} {n : Nat} (J : Nat → List β → Mu → Prop) (h0 : J 0 [] m) (hl : ∀ i ys m', J i ys m' → ys.length = i) (hn : n ≤ 1000000)
    (hs : ∀ (s0 : Shared) (H0 : Hp) (C : Addr) (cl : List (Str × Addr)) (fp : List Addr) (i : Nat) (ys : List β) (m' : Mu) (p : Addr), i < n → J i ys m' →
      We (blkX X scope s0 H0 C cl fp) Z elt ((wipeT ρ (ownIx own)).set j (some (tv (lo + (i : Int))))) (m' ++ [(p, mL (ys.map fun y => tv y))]) fun y m4 => ∃ (z : β) (m5 : Mu), y = tv z ∧ m4 = m5 ++ [(p, mL (ys.map fun y => tv y))] ∧ J (i + 1) (ys ++ [z]) m5)
    (hd : ∀ ys m', J n ys m' → P (tv ys) m') : LcP X Z elt [] scope (rb1 ρ own j) P (rngT lo n) gd0 m := by
  refine ⟨fun i acc m' => ∃ ys : List β, acc = (ys.map fun y => tv y) ∧ J i ys m', ⟨[], rfl, h0⟩, ?_, by rw [rng_len]; exact hn, fun _ _ _ _ _ => trivial, ?_, ?_⟩
  · rintro i acc m' ⟨ys, rfl, h⟩
    rw [List.length_map, hl i ys m' h]
    exact Nat.le_refl _
  · rintro s0 H0 C cl fp i t acc m' p ρ' ht ⟨ys, rfl, h⟩ rfl
    obtain ⟨hi, rfl⟩ := rng_at ht
    refine wts_nil ⟨fun _ s1 H1 C1 cl1 fp1 => (hs s1 H1 C1 cl1 fp1 i ys m' p hi h).imp ?_, fun z => nomatch z⟩
    rintro y m4 ⟨z, m5, rfl, rfl, q⟩
    exact ⟨m5, rfl, ys ++ [z], by rw [List.map_append]; rfl, q⟩
  · rintro acc m' ⟨ys, rfl, h⟩
    rw [rng_len] at h
    exact .data rfl (hd ys m' h)
end
theorem ty_s {Z : Zs} {m : Mu} {x : Str} : TyP Z "str" (tv x) m := fun B H v S h => by
  rw [show v = .str x from h]
  exact rfl
section
variable {X : Cx} {Z : Zs} {m : Mu} {P : TV → Mu → Prop}
theorem ix_lE {α : Type} [Rep α] {xs : List α} {i : Int} (Q : α → Prop) (hi : ∃ e, Ty.atT xs i = some e ∧ Q e) (h : ∀ e, Q e → P (tv e) m) (hK : X.K = Z.K := by rfl) : IxP X Z (tv xs) (tv i) m P :=
  let ⟨e, h1, h2⟩ := hi
  ix_l h1 (h e h2) hK
end
section
variable {X : Cx} {Z : Zs} {m : Mu} {P : TV → Mu → Prop}
theorem index_sB {x : Str} {xs : List Str} (j : Nat) (h : P (tv (j : Int)) m) (hj : xs[j]? = some x := by rfl) (hn : (xs.take j).all (fun y => !decide (y = x)) = true := by decide +kernel) : MetP X Z "list.index" (tv xs) [tv x] m P :=
  index_ss hj (fun i y hi hy e => by
    subst e
    have hm : y ∈ xs.take j := List.mem_of_getElem? (i := i) (by rw [List.getElem?_take_of_lt hi]; exact hy)
    have := List.all_eq_true.mp hn y hm
    simp at this) h
end
end Ty

set_option Elab.async false
set_option linter.all false
set_option maxRecDepth 100000
set_option maxHeartbeats 4000000
namespace Ty
open PySem PySem.Spec PyProof.Rows L2
/-! ### the script -/
structure Scr where
  l : List Int
instance : Rep Scr := ⟨fun K B v x => ∃ a, v = .ref a ∧ SqL K B a (x.l.map V.int), fun e ⟨a, h1, h2⟩ => ⟨a, h1, e.seqL h2⟩⟩
section
variable {X : Cx} {Z : Zs} {m : Mu} {P : TV → Mu → Prop} {x : Scr}
theorem scr_at {B H : Hp} {v : V} (S : Sta Z B H m) (h : TV.rep Z.K B v (tv x)) : ∃ a, v = .ref a ∧ SqL Z.K H a (x.l.map V.int) :=
  let ⟨a, h1, h2⟩ := (show ∃ a, v = .ref a ∧ SqL Z.K B a (x.l.map V.int) from h)
  ⟨a, h1, S.ex.seqL h2⟩
theorem ix_scr {i e : Int} (hi : Ty.atT x.l i = some e) (h : P (tv e) m) (hK : X.K = Z.K := by rfl) : IxP X Z (tv x) (tv i) m P := .of ix_list fun B H Q v u hS hv hu k => by
  obtain ⟨a, ev, hq⟩ := scr_at hS hv
  obtain ⟨j, hj, hx⟩ := atI_len (xs := x.l.map V.int) (by simp) hi
  refine ⟨a, _, i, .int e, ev, hu, by rw [hK]; exact hq, ?_, k _ B H m (tv e) (Ex.refl _) hS (rep_int _) h⟩
  unfold atI
  rw [hj]
  show (x.l.map V.int)[j]? = some (V.int e)
  rw [List.getElem?_map, hx]
  rfl
theorem len_scr (h : P (tv (x.l.length : Int)) m) (hK : X.K = Z.K := by rfl) : CallP X Z (.builtin "len") [tv x] m P := .of call_len_seq fun B H Q vs hS hv k => by
  obtain ⟨v, rfl, r⟩ := reps1 hv
  obtain ⟨a, ev, hq⟩ := scr_at hS r
  refine ⟨a, _, by rw [ev], .inl (by rw [hK]; exact hq), ?_⟩
  rw [List.length_map]
  exact k _ B H m _ (Ex.refl _) hS (rep_int _) h
theorem sl_scr {lo hi : Option Int} (h : P (tv ((x.l.drop (HT.sIx x.l.length 0 lo)).take (HT.sIx x.l.length x.l.length hi - HT.sIx x.l.length 0 lo))) m) (hK : X.K = Z.K := by rfl) : SlP X Z (tv x) lo hi m P := .of sl_list fun B H Q v hS hv k => by
  obtain ⟨a, ev, hq⟩ := scr_at hS hv
  refine ⟨a, _, ev, by rw [hK]; exact hq, fun p hp => ?_⟩
  have hn := hS.noneB hp
  refine k (.ref p) _ _ m (tv _) (Ex.new hn) (hS.newB hp) ?_ h
  refine ⟨p, _, rfl, upd_same, ?_⟩
  unfold cutV
  rw [List.length_map, ← List.map_drop, ← List.map_take]
  exact of_ints
end
/-! ### an own exception class, decided -/
def oexB (K : PySem.W.Frag) (C : Addr) : Bool := (match K.lookup C with
  | some ⟨.type "type", _, .cls cd, sl⟩ => (match cd.mro, sl.toList with
    | .ref C' :: bm, [_, _, _, _, some (.builtin n), _] => C' == C && n == "ValueError.__new__" && !cd.hasDel && cd.hasDict && PySem.HandSPX.refsVE bm
    | _, _ => false)
  | _ => false) && (decide (PySem.W.findIn K (.ref C) "__setattr__" = some (some (.builtin "object.__setattr__"))) && (decide (PySem.W.subIn K (.ref C) (.type "BaseException") = some true) && (decide (PySem.W.typeIn K (.ref C) = some (.type "type")) && PySem.W.keepIn K (.ref C))))
theorem oexB_ok {K : PySem.W.Frag} {C : Addr} (h : oexB K C = true) : OexC K C := by
  unfold oexB at h
  simp only [Bool.and_eq_true, decide_eq_true_eq] at h
  obtain ⟨q, h1, h2, h3, h4⟩ := h
  refine ⟨?_, h1, h2, h3, h4⟩
  split at q
  · rename_i dd cd sl ho
    split at q
    · rename_i C' bm k0 k1 k2 k3 n k5 hm hs
      simp only [Bool.and_eq_true, beq_iff_eq, Bool.not_eq_true'] at q
      obtain ⟨⟨⟨⟨rfl, rfl⟩, hdel⟩, hdct⟩, hbm⟩ := q
      obtain ⟨nm, bs, mro, ns, qn, hd, sn, sub, ab, col, del⟩ := cd
      dsimp only at hm hdel hdct
      subst hm hdel hdct
      have hsl : sl = #[k0, k1, k2, k3, some (.builtin "ValueError.__new__"), k5] := by
        obtain ⟨l⟩ := sl
        simp only at hs
        rw [hs]
      subst hsl
      exact ⟨nm, qn, ns, bs, bm, sn, sub, ab, col, dd, k0, k1, k2, k3, k5, ho, hbm⟩
    · cases q
  · cases q
def excB (K : PySem.W.Frag) (D : Addr) : Bool := decide (PySem.W.findIn K (.ref D) "__getattribute__" = some (some (.builtin "BaseException.__getattribute__"))) && (decide (PySem.W.findIn K (.ref D) "__getattr__" = some none) && (decide (PySem.W.subIn K (.ref D) (.type "BaseException") = some true) && (PySem.W.hasDictIn K D &&
  (decide (PySem.W.findIn K (.ref D) "__class__" = some (some (.builtin "object.__class__"))) && (decide (PySem.W.specialIn K (.builtin "object.__class__") "__get__" = some (some (.builtin "getset_descriptor.__get__"))) && (decide (PySem.W.takesIn K (.builtin "object.__class__") = some true) && decide (PySem.W.mroIn K D (.type "object") = some true)))))))
theorem excB_ok {K : PySem.W.Frag} {D : Addr} (h : excB K D = true) : ExcC K D := by
  unfold excB at h
  simp only [Bool.and_eq_true, decide_eq_true_eq] at h
  obtain ⟨h1, h2, h3, h4, h5, h6, h7, h8⟩ := h
  exact ⟨h1, h2, h3, h4, h5, h6, h7, h8⟩
def cFB (K : PySem.W.Frag) (C0 : Addr) : Bool := match PySem.W.findCls K (.ref C0) (.type "type") "__init__" with
  | some (.val (.builtin n)) => decide (n = "ValueError.__init__")
  | _ => false
def supB (K : PySem.W.Frag) (C0 : Addr) : Bool := decide (PySem.W.specialIn K (.ref C0) "__getattribute__" = some (some (.builtin "type.__getattribute__"))) && (PySem.W.readsIn K C0 (.type "type") && cFB K C0)
theorem supB_ok {K : PySem.W.Frag} {C0 : Addr} (h : supB K C0 = true) : SupI K C0 := by
  unfold supB at h
  simp only [Bool.and_eq_true, decide_eq_true_eq] at h
  obtain ⟨h1, h2, h3⟩ := h
  refine ⟨h1, h2, ?_⟩
  unfold cFB at h3
  split at h3
  · rename_i n e
    rw [e, of_decide_eq_true h3]
  · cases h3
/-! ### the Hook: what the module's names reach, and two tables of the start -/
def obX (n : Nat) (fa : List He.Fa) (fn : List He.DefD) (ex : PySem.W.Frag → Bool) (g : Addr → Option Obj) : He.AlD :=
  let K := He.frG g (He.asD g n ++ [sysModules, cStatics])
  let r := He.obsD fa fn K
  (r.1 && ex K, r.2)
def hookX (n : Nat) (fa : List He.Fa) (fn : List He.DefD) (ex : PySem.W.Frag → Bool) : PySem.W.Hook where
  α := He.AlD
  obs := fun s => obX n fa fn ex s.heap.get?
  val := fun _ => He.valD fn
  says := fun _ h => ∃ K : PySem.W.Frag, K.In h ∧ He.SaysD fa fn K ∧ ex K = true
  of := fun w s e => by
    have e' : ((He.obsD fa fn (He.frG s.heap.get? (He.asD s.heap.get? n ++ [sysModules, cStatics]))).1 && ex (He.frG s.heap.get? (He.asD s.heap.get? n ++ [sysModules, cStatics])), (He.obsD fa fn (He.frG s.heap.get? (He.asD s.heap.get? n ++ [sysModules, cStatics]))).2) = (true, fn.map He.DefD.val) := e
    have e1 := congrArg Prod.fst e'
    have e2 := congrArg Prod.snd e'
    obtain ⟨h1, h2⟩ := Bool.and_eq_true_iff.mp (show (_ && _) = true from e1)
    exact ⟨_, He.frG_in, Prod.ext h1 e2, h2⟩
  keeps := fun _ _ _ ⟨K, hK, c, x⟩ k => ⟨K, PySem.W.Frag.In.keeps hK k, c, x⟩
theorem obX_eq {n : Nat} {fa : List He.Fa} {fn : List He.DefD} {ex : PySem.W.Frag → Bool} {g : Addr → Option Obj} {s : Shared} (h : ∀ a, g a = s.heap.get? a) : obX n fa fn ex g = (hookX n fa fn ex).obs s := by
  have e : g = s.heap.get? := funext h
  rw [e] <;> rfl
/-! ### the end of a law -/
/-- the law's def, called by the claim's caller, where nothing is tracked but the script -/
theorem end_law {P : Program} {w : World} {K : PySem.W.Frag} {mg mb : Str → Option Value} {k : Nat} {fa a : Addr} {fd : FuncData} {x : Str} {T : TSpec} {s₁ : Shared} {vs : List Value} {ns : List Int}
    (KX : K.In s₁.heap) (hns : s₁.heap.Ns mainGlobals mg) (hb : s₁.heap.Ns builtinsNs mb) (hbb : ∀ x : Str, x ≠ "__name__" → mb x = bootBuiltins x) (hlim : s₁.heap.NoLimit) (hg : s₁.gens = #[])
    (ha : s₁.heap.get? a = some { cls := .type "list", data := .seq vs.toArray }) (hi : IntsAre vs ns) (hl : ns.length ≤ sizeLine) (hr : Room k callerA) (hsy : ∃ o : Obj, K.lookup sysModules = some o ∧ ∃ es n, o.data = .dict es n)
    (F : ∀ base : Heap, K.In base → base.Ns mainGlobals mg → (base.get? sysModules).isSome = true → FnG P w K mg base k fa fd [x] T) (hbind : ∀ (s : Shared) (u : Value), BindsTo s fd ⟨[u], []⟩ [(x, u)])
    (hT : T [tv (Scr.mk ns)] [] (fun t _ => t = tv true) fun _ _ => False) :
    codeAny (model P w) callerA (.call (.ref fa) ⟨[.ref a], []⟩) (fun r s' => r = .ok (.ret (.bool true)) ∧ PySem.OldK s₁.heap s'.heap ∧ s'.os = s₁.os ∧ AllBare s'.gens) s₁ := by
  have rv := vals_ints hi
  have run : ∀ H : Hp, Only H → SqL K H a (ns.map V.int) → HOk P w H s₁.heap → (∀ b u, H b = some u → b = a ∧ K.lookup a = none) →
      codeAny (model P w) callerA (.call (.ref fa) ⟨[.ref a], []⟩) (fun r s' => r = .ok (.ret (.bool true)) ∧ PySem.OldK s₁.heap s'.heap ∧ s'.os = s₁.os ∧ AllBare s'.gens) s₁ := by
    intro H only seq ok at_
    have off : ∀ {b : Addr}, (b = a → False) → H b = none := fun {b} n => by
      cases q : H b with
      | none => rfl
      | some u => exact (n (at_ b u q).1).elim
    have dict : ∀ {b : Addr} {o : Obj} {es : Array DictEntry} {ep : Nat}, s₁.heap.get? b = some o → o.data = .dict es ep → H b = none := fun {b o es ep} e d => off fun z => by
      subst z
      rw [ha] at e
      cases e
      exact nomatch (show Data.seq vs.toArray _ = Data.dict es ep from d)
    have tbl : ∀ {b : Addr} {m : Str → Option Value}, s₁.heap.Ns b m → (hidT s₁.heap H).Ns b m := fun {b m} ⟨o, es, ep, e, d, r⟩ => ⟨o, es, ep, hidT_get e (dict e d), d, r⟩
    have KB : K.In (hidT s₁.heap H) := fun b o e => hidT_get (KX b o e) (by
      cases q : H b with
      | none => rfl
      | some u =>
        obtain ⟨rfl, z⟩ := at_ b u q
        rw [e] at z
        cases z)
    obtain ⟨osy, e1, es, n, e2⟩ := hsy
    have sys : ((hidT s₁.heap H).get? sysModules).isSome = true := by
      rw [KB _ _ e1]
      rfl
    have md : Mod K mg (hidT s₁.heap H) := ⟨KB, tbl hns, ⟨mb, tbl hb, hbb⟩, let ⟨mc, h1, h2⟩ := hlim; ⟨mc, tbl h1, h2⟩⟩
    have env : Env0 P w K mg (hidT s₁.heap H) callerA [] s₁ H := ⟨rfl, md, fun b o e => of_hidT e, Nat.le_of_eq (hidT_size _ _), trivial, (fun b z => nomatch z), ok, .of_eq hg⟩
    have sp : spOf K T [.ref a] H (fun v _ => v = .bl true) (fun _ _ _ => False) :=
      ⟨H, [], _, _, _, ⟨Ex.refl _, List.nodup_nil, fun i p c h => nomatch h⟩, .cons (show TV.rep K H (.ref a) (tv (Scr.mk ns)) from ⟨a, rfl, seq⟩) .nil, hT, fun v B' H' m' t _ _ r e => by subst e; exact r, fun _ _ _ _ _ _ _ _ _ z => z⟩
    refine codeAny_mono ((F _ KB (tbl hns) sys).run callerA [] s₁ H ⟨[.ref a], []⟩ [.ref a] [.ref a] _ _ rfl hr env (hbind s₁ (.ref a)) (.cons (show RelV (V.ref a) (Value.ref a) from rfl) .nil) sp) fun r s' h => ?_
    match r, h with
    | .error e, h =>
      obtain ⟨_, _, _, _, _, _, _, _, _, _, _, _, z⟩ := h
      exact z.elim
    | .ok .next, h => exact False.elim h
    | .ok .brk, h => exact False.elim h
    | .ok .cont, h => exact False.elim h
    | .ok (.ret u), h =>
      obtain ⟨v, H', os, bare, un, ok', ru, ev⟩ := h
      have ev' : v = .bl true := ev
      subst ev'
      obtain rfl : u = Value.bool true := ru
      refine ⟨rfl, OldK.of_keep fun b o e => ?_, os, bare⟩
      rcases only b with z | ⟨ob, xs, z⟩
      · exact un.keep b o e z (fun y => nomatch y) (by simp)
      · obtain ⟨g1, _⟩ := ok b _ z
        obtain ⟨g2, _⟩ := ok' b _ (un.frzs b ob _ z)
        rw [e] at g1
        cases g1
        exact g2
  cases kn : K.lookup a with
  | some o =>
    have e := KX a o kn
    rw [ha] at e
    cases e
    exact run (fun _ => none) (fun _ => .inl rfl) (.inr ⟨_, vs.toArray, _, kn, rfl, rfl, rfl, by rw [List.size_toArray, hi.length]; exact hl, by simpa using rv⟩) (fun b u z => nomatch (show (none : Option HO) = some u from z)) fun b u z => nomatch (show (none : Option HO) = some u from z)
  | none =>
    have cs : ∀ b, (if b = a then some (HO.frz { cls := .type "list", data := .seq vs.toArray } (.lst (ns.map V.int))) else none) = none ∨ b = a := fun b => by
      by_cases h : b = a
      · exact .inr h
      · exact .inl (if_neg h)
    refine run (fun b => if b = a then some (.frz { cls := .type "list", data := .seq vs.toArray } (.lst (ns.map V.int))) else none) (fun b => (cs b).imp id fun h => ⟨_, _, if_pos h⟩) (.inl (.inr ⟨_, if_pos rfl⟩)) (fun b u z => ?_) fun b u z => ?_
    · rcases cs b with h | h
      · exact nomatch h.symm.trans z
      · subst h
        have z' := (if_pos rfl).symm.trans z
        cases z'
        exact ⟨ha, by rw [List.length_map]; exact hl, vs, _, rv, ha⟩
    · rcases cs b with h | h
      · exact nomatch h.symm.trans z
      · exact ⟨h, kn⟩
/-- the goal that the head leaves, from the law's promise -/
theorem walk_law {l : PySem.W.OpenLaw} {n k : Nat} {q : Program} {loose : List Str} {XP : (Str → Option Value) → Heap → Prop} {YP : World → Heap → Prop} {d : DefRec} {x : Str} (hn : l.most = some n) (hn2 : n ≤ sizeLine) (hdf : d.params.defaults = []) (hr : Room k callerA)
    (F : ∀ (w : World) (mg : Str → Option Value) (fa : Addr) (h : Heap), YP w h → h.Ns mainGlobals mg → mg d.name = some (.ref fa) →
      ∃ (K : PySem.W.Frag) (fd : FuncData) (T : TSpec), K.In h ∧ (∃ o : Obj, K.lookup sysModules = some o ∧ ∃ es n, o.data = .dict es n) ∧ (∀ (s : Shared) (u : Value), BindsTo s fd ⟨[u], []⟩ [(x, u)]) ∧ (∀ ns : List Int, ns.length ≤ n → T [tv (Scr.mk ns)] [] (fun t _ => t = tv true) fun _ _ => False) ∧
        ∀ base : Heap, K.In base → base.Ns mainGlobals mg → (base.get? sysModules).isSome = true → FnG l.prog w K mg base k fa fd [x] T) :
    PySem.W.WalkO q loose XP YP l.row.toRowW d [] (fun f vs => PySem.call f vs) := by
  refine Att.attach_call hn hdf fun w s₀ s₁ mg mb fa o pm cd doc a vs ns G Y ho hd hcd hmg hobj hints hlen hg => ?_
  obtain ⟨K, fd, T, KX, hsy, hb, hT, hF⟩ := F w mg fa _ Y G.T.g hmg
  exact end_law KX G.T.g G.T.b G.T.builtins G.T.nolimit hg hobj hints (Nat.le_trans hlen hn2) hr hsy hF hb (hT ns hlen)
end Ty

set_option Elab.async false
set_option linter.all false
set_option maxRecDepth 100000
set_option maxHeartbeats 2000000
namespace Ty
open PySem PySem.Spec PyProof.Rows L2
/-! ### texts of numbers, f'..' -/
abbrev istr (i : Int) : Str := Str.ofString (toString i)
section
variable {X : Cx} {Z : Zs} {ρ : TEnv} {m : Mu} {D : DE} {P : TV → Mu → Prop} {e : Expr} {es : List Expr} {pos : Pos}
theorem we_fmt (h : We X Z e ρ m fun t m1 => (∃ y : Str, t = tv y ∧ y.length ≤ 16000000 ∧ P (tv y) m1) ∨ ∃ i : Int, t = tv i ∧ i.natAbs.log2 < 1920 ∧ P (tv (istr i)) m1) : We X Z (.FormattedValue e (-1) none pos) ρ m P :=
  .of (pe_fmt pe_sem) fun σ B H Q he hs k => we_sub h he hs fun v B1 H1 m1 t a1 b1 c1 d1 e1 => by
    rcases e1 with ⟨y, rfl, hz, p⟩ | ⟨i, rfl, hz, p⟩
    · exact .inl ⟨y, d1, line_of hz, k _ B1 H1 m1 (tv y) a1 c1 (rep_str _) p⟩
    · exact .inr ⟨i, d1, hz, k _ B1 H1 m1 (tv (istr i)) a1 c1 (rep_str _) p⟩
/-- the parts of f'..' -/
def Wj (X : Cx) (Z : Zs) (es : List Expr) (acc : Str) (ρ : TEnv) (m : Mu) (R : Str → Mu → Prop) : Prop := ∀ (σ : L2.St) (B H : Hp) (Q : Str → Hp → Prop), EnvOk Z.K B σ ρ → Sta Z B H m → (∀ o B' H' m', Ex B B' → Sta Z B' H' m' → R o m' → Q o H') → tJs (es.map (teS X)) acc σ H Q
theorem wj_nil {acc : Str} {R : Str → Mu → Prop} (h : R acc m) : Wj X Z [] acc ρ m R := fun σ B H Q he hs k => k acc B H m (Ex.refl _) hs h
theorem wj_cons {acc : Str} {R : Str → Mu → Prop} (h : We X Z e ρ m fun t m1 => ∃ y : Str, t = tv y ∧ (acc ++ y).length ≤ 16000000 ∧ Wj X Z es (acc ++ y) ρ m1 R) : Wj X Z (e :: es) acc ρ m R := fun σ B H Q he hs k => we_sub h he hs fun v B1 H1 m1 t a1 b1 c1 d1 ⟨y, et, hz, w⟩ => by
  subst et
  exact ⟨y, d1, line_of hz, w σ B1 H1 Q b1 c1 fun o B' H' m' a b c => k o B' H' m' (a1.trans a) b c⟩
theorem pj_sem : ∀ {es : List Expr}, PJ X es (es.map (teS X))
  | [] => .nil
  | _ :: _ => .cons pe_sem pj_sem
theorem we_fstr {v1 v2 : Expr} {rest : List Expr} (h : Wj X Z (v1 :: v2 :: rest) Str.empty ρ m fun o m' => P (tv o) m') : We X Z (.JoinedStr (v1 :: v2 :: rest) pos) ρ m P :=
  .of (pe_joined pj_sem) fun σ B H Q he hs k => h σ B H _ he hs fun o B' H' m' a b c => k (.str o) B' H' m' (tv o) a b (rep_str _) c
theorem str_i {i : Int} (hz : i.natAbs.log2 < 1920) (h : P (tv (istr i)) m) : CallP X Z (.type "str") [tv i] m P := .of call_str_int fun B H Q vs hS hv k => by
  obtain ⟨v, rfl, r⟩ := reps1 hv
  exact ⟨i, congrArg (fun z => [z]) r, hz, k _ B H m _ (Ex.refl _) hS (rep_str _) h⟩
theorem int_s {x : Str} {n : Int} (hn : PySem.intText? x = some n) (hl : x.length ≤ 640) (h : P (tv n) m) : CallP X Z (.type "int") [tv x] m P := .of call_int_str fun B H Q vs hS hv k => by
  obtain ⟨v, rfl, r⟩ := reps1 hv
  exact ⟨x, n, congrArg (fun z => [z]) r, hn, hl, k _ B H m _ (Ex.refl _) hS (rep_int _) h⟩
/-! ### pieces of a text -/
theorem new_strs {B H : Hp} {Q : VK} {ys : List Str} (hS : Sta Z B H m) (k : ∀ v' B' H' m' z, Ex B B' → Sta Z B' H' m' → TV.rep Z.K B' v' z → P z m' → Q v' H') (h : LstP P (ys.map fun y => tv y) m) : rNewStrs ys H Q := fun p hp => by
  have hb := hS.noneB hp
  have rr : Reps Z.K B (ys.map V.str) (ys.map fun y => tv y) := Reps.of_paired of_strs
  rcases h with @⟨α, ri, zs, ex, q⟩ | q | q
  · rw [ex] at rr
    exact k (.ref p) _ _ m (tv zs) (Ex.new hb) (hS.newB hp) (show TV.rep Z.K (upd B p (.lst (ys.map V.str))) (.ref p) (tv zs) from ⟨p, _, rfl, upd_same, Paired.monoR (Ex.new hb) (Reps.to_paired rr)⟩) q
  · exact k (.ref p) _ _ m (hl _) (Ex.new hb) (hS.newB hp) (show TV.rep Z.K (upd B p (.lst (ys.map V.str))) (.ref p) (hl (ys.map fun y => tv y)) from ⟨p, _, rfl, upd_same, rr.mono (Ex.new hb)⟩) q
  · exact k (.ref p) B _ _ (tv (Ref.mk p)) (Ex.refl _) (hS.newM hp (c := mL (ys.map fun y => tv y)) ⟨_, rfl, rr⟩) (show V.ref p = .ref p from rfl) (q p)
theorem split_s {x y : Str} (hy : (y.length == 0) = false) (hx : x.length ≤ 16000000) (h : LstP P ((Txt.split x y).map fun y => tv y) m) : MetP X Z "str.split" (tv x) [tv y] m P := .of mt_split fun B H Q v vs hS hv hx2 k => by
  obtain ⟨w, rfl, r⟩ := reps1 hx2
  exact ⟨x, y, hv, congrArg (fun z => [z]) r, hy, by rw [sizeLine_eq]; omega, new_strs hS k h⟩
theorem splitM_s {x y : Str} {n : Int} (hy : (y.length == 0) = false) (h1 : -(2 ^ 63) ≤ n) (h2 : n < 2 ^ 63) (hx : x.length ≤ 16000000) (h : LstP P ((Txt.splitMax x y n).map fun y => tv y) m) : MetP X Z "str.split" (tv x) [tv y, tv n] m P := .of mt_splitMax fun B H Q v vs hS hv hx2 k => by
  obtain ⟨w, u, rfl, r1, r2⟩ := reps2 hx2
  exact ⟨x, y, n, hv, by rw [show w = .str y from r1, show u = .int n from r2], hy, h1, h2, by rw [sizeLine_eq]; omega, new_strs hS k h⟩
/-! ### tuples of things of many kinds -/
inductive TL (ts : List TV) : Type where
  | mk : TL ts
instance {ts : List TV} : Rep (TL ts) := ⟨fun K B v _ => ∃ a vs, v = .ref a ∧ SqT K B a vs ∧ Reps K B vs ts, fun e ⟨a, vs, h1, h2, h3⟩ => ⟨a, vs, h1, e.seqT h2, h3.mono e⟩⟩
abbrev tl (ts : List TV) : TV := tv (TL.mk : TL ts)
theorem tu_tl {ts : List TV} : TupU (tl ts) ts := fun K B v h => h
theorem tupH {ts : List TV} (h : P (tl ts) m) : TupP P ts m := ⟨tl ts, fun K B a vs hs r => ⟨a, vs, rfl, hs, r⟩, h⟩
/-! ### list(..), tuple(..), dict(..) -/
variable {t : TV} {ts : List TV}
theorem list_o (hu : LstU m t ts ∨ TupU t ts) (h : ∀ p, P (tv (Ref.mk p)) (m ++ [(p, mL ts)])) (hK : X.K = Z.K := by rfl) : CallP X Z (.type "list") [t] m P := .of call_list_of fun B H Q vs hS hv k => by
  obtain ⟨v, rfl, r⟩ := reps1 hv
  have e : ∃ a ws, v = .ref a ∧ (SqL X.K H a ws ∨ SqT X.K H a ws) ∧ Reps Z.K B ws ts := by
    rcases hu with hu | hu
    · obtain ⟨a, ws, e, hq, rr⟩ := lstU_at hu hS r
      exact ⟨a, ws, e, .inl (.of hq), rr⟩
    · obtain ⟨a, ws, e, hq, rr⟩ := hu _ _ _ r
      exact ⟨a, ws, e, .inr (by rw [hK]; exact hS.ex.seqT hq), rr⟩
  obtain ⟨a, ws, ev, hq, rr⟩ := e
  refine ⟨a, ws, by rw [ev], hq, fun p hp => ?_⟩
  exact k (.ref p) B _ _ (tv (Ref.mk p)) (Ex.refl _) (hS.newM hp (c := mL ts) ⟨_, rfl, rr⟩) (show V.ref p = .ref p from rfl) (h p)
theorem tuple_l (hu : LstU m t ts) (h : P (tl ts) m) : CallP X Z (.type "tuple") [t] m P := .of call_tuple_of fun B H Q vs hS hv k => by
  obtain ⟨v, rfl, r⟩ := reps1 hv
  obtain ⟨a, ws, ev, hq, rr⟩ := lstU_at hu hS r
  refine ⟨a, ws, by rw [ev], .inl ⟨.of hq, fun p hp => ?_⟩⟩
  have hb := hS.noneB hp
  exact k (.ref p) _ _ m (tl ts) (Ex.new hb) (hS.newB hp) (show TV.rep Z.K (upd B p (.tup ws)) (.ref p) (tl ts) from ⟨p, ws, rfl, .inl (.inl upd_same), rr.mono (Ex.new hb)⟩) h
/-- t[lo:hi], a tuple -/
theorem sl_tU {lo hi : Option Int} (hu : TupU t ts) (h : P (tl (cutT ts lo hi)) m) (hK : X.K = Z.K := by rfl) : SlP X Z t lo hi m P := .of sl_tupA fun B H Q v hS hv k => by
  obtain ⟨a, ws, ev, hq, rr⟩ := hu _ _ _ hv
  refine ⟨a, ws, ev, by rw [hK]; exact hS.ex.seqT hq, fun hw => ?_, fun _ p hp => ?_⟩
  · refine k (.ref a) B H m (tl (cutT ts lo hi)) (Ex.refl _) hS ⟨a, ws, rfl, hq, ?_⟩ h
    have e : cutT ts lo hi = ts := by
      unfold cutT
      rw [← rr.length, hw.1, hw.2, List.drop_zero, Nat.sub_zero, rr.length, List.take_length]
    rw [e]
    exact rr
  · have hn := hS.noneB hp
    refine k (.ref p) _ _ m (tl (cutT ts lo hi)) (Ex.new hn) (hS.newB hp) ⟨p, _, rfl, .inl (.inl upd_same), ?_⟩ h
    unfold cutV
    rw [rr.length]
    exact ((rr.drop _).take _).mono (Ex.new hn)
end
end Ty

set_option Elab.async false
set_option linter.all false
set_option maxRecDepth 100000
set_option maxHeartbeats 2000000
namespace Ty
open PySem PySem.Spec PyProof.Rows L2
/-! ### data as values -/
def pty : PyData → String
  | .none => "NoneType"
  | .bool _ => "bool"
  | .int _ => "int"
  | .str _ => "str"
  | .list _ => "list"
  | .tuple _ => "tuple"
  | .dict _ => "dict"
theorem DrAll.reps {K : PySem.W.Frag} {B : Hp} : ∀ {vs : List V} {ds : List PyData}, DrAll K B vs ds → Reps K B vs (ds.map fun d => tv d)
  | [], _, h => by cases h; exact .nil
  | v :: vs, _, h => by cases h with | cons a b => exact .cons a (DrAll.reps b)
theorem DrKv.krep {K : PySem.W.Frag} {B : Hp} : ∀ {vs : List (Key × V)} {ds : List (PyData × PyData)}, DrKv K B vs ds → ∃ kts : List (Key × TV), KRep K B vs kts ∧ kts.map (fun q => (kD q.1, q.2)) = ds.map fun q => (q.1, tv q.2)
  | [], _, h => by cases h; exact ⟨[], .nil, rfl⟩
  | v :: vs, _, h => by
    cases h with
    | @cons k v kvs d ds a b =>
      obtain ⟨kts, h1, h2⟩ := DrKv.krep b
      exact ⟨(k, tv d) :: kts, .cons a h1, by simp only [List.map_cons, h2]⟩
section
variable {X : Cx} {Z : Zs} {ρ : TEnv} {m : Mu} {D : DE} {P : TV → Mu → Prop} {e : Expr} {es : List Expr} {pos : Pos} {t : TV} {ts : List TV} {d : PyData} {ds : List PyData} {kds : List (PyData × PyData)}
theorem lu_data : LstU m (tv (PyData.list ds)) (ds.map fun d => tv d) := fun K B H v S h => by
  cases (show Dr K B v (.list ds) from h) with
  | lst ha hd => exact ⟨_, _, rfl, S.ex _ _ ha, DrAll.reps hd⟩
theorem tu_data : TupU (tv (PyData.tuple ds)) (ds.map fun d => tv d) := fun K B v h => by
  cases (show Dr K B v (.tuple ds) from h) with
  | tup ha hd => exact ⟨_, _, rfl, ha, DrAll.reps hd⟩
theorem tym_data : ∀ {d : PyData}, IsTyM m (tv d) (pty d)
  | .none => fun _ _ _ v _ h => by cases (show Dr _ _ v .none from h); exact .base .non
  | .bool b => fun _ _ _ v _ h => by cases (show Dr _ _ v (.bool b) from h); exact .base (.bl b)
  | .int b => fun _ _ _ v _ h => by cases (show Dr _ _ v (.int b) from h); exact .base (.int b)
  | .str b => fun _ _ _ v _ h => by cases (show Dr _ _ v (.str b) from h); exact .base (.str b)
  | .list _ => tym_lU lu_data
  | .tuple _ => tym_tup
  | .dict _ => tym_dct
theorem isC_or (d : PyData) (h : isC d = false) : d = .none ∨ (∃ b, d = .bool b) ∨ (∃ b, d = .int b) ∨ ∃ b, d = .str b := by
  cases d <;> simp [isC] at h ⊢
/-- repr of any data -/
theorem repr_a (hd : AsD m t d) (hgd : X.A.guards = some []) (hr : RmH k X.A) (hb : (X.base.get? sysModules).isSome = true) (hs : d.showable = true) (hp : d.depth ≤ 60) (hz : d.shown.length ≤ 16000000) (h : P (tv d.shown) m) (hK : X.K = Z.K := by rfl) : CallP X Z (.builtin "repr") [t] m P := by
  cases hc : isC d with
  | true => exact repr_d hd hgd hr hb hc hs hp hz h hK
  | false =>
    refine fun B H Q vs hS hv q pins s σ us I r => ?_
    obtain ⟨v, rfl, rv⟩ := reps1 hv
    have dr : Dr X.K H v d := hK ▸ hd _ _ _ _ hS.hp rv
    cases r with
    | @cons _ u0 _ ur ra rn =>
      cases rn
      cases dr with
      | non =>
        obtain rfl : u0 = Value.none := ra
        exact PySem.P.repr_of_none ⟨.str "None", H, I.tok _, ⟨_, rfl⟩, q _ B H m (tv (PyData.none.shown)) (Ex.refl _) hS (rep_str _) h⟩
      | bl b =>
        obtain rfl : u0 = Value.bool b := ra
        exact PySem.P.repr_of_bool ⟨.str (PyData.bool b).shown, H, I.tok _, ⟨_, rfl⟩, q _ B H m _ (Ex.refl _) hS (rep_str _) h⟩
      | int i =>
        obtain ⟨tk, rfl⟩ := ra
        exact PySem.P.repr_of_int (by simpa [PyData.showable] using hs) ⟨.str (PyData.int i).shown, H, I.tok _, ⟨_, rfl⟩, q _ B H m _ (Ex.refl _) hS (rep_str _) h⟩
      | str x =>
        obtain ⟨tk, rfl⟩ := ra
        exact PySem.P.repr_of_str ⟨.str (PyData.str x).shown, H, I.tok _, ⟨_, rfl⟩, q _ B H m _ (Ex.refl _) hS (rep_str _) h⟩ (line_of hz)
      | lst _ _ => cases hc
      | tup _ _ => cases hc
      | dct _ _ => cases hc
/-- dict(d): a copy, that may change or not -/
theorem dict_d (h : P (tv (PyData.dict kds)) m ∨ ∀ p kts, kts.map (fun q => (kD q.1, q.2)) = kds.map (fun q => (q.1, tv q.2)) → P (tv (Ref.mk p)) (m ++ [(p, mD kts)])) : CallP X Z (.type "dict") [tv (PyData.dict kds)] m P := .of call_dictD fun B H Q vs hS hv k => by
  obtain ⟨v, rfl, r⟩ := reps1 hv
  cases (show Dr Z.K B v (.dict kds) from r) with
  | @dct a kvs _ ha hd =>
    refine ⟨a, kvs, rfl, .inl (hS.ex _ _ ha), fun p hp => ?_⟩
    have hb := hS.noneB hp
    rcases h with h | h
    · exact k (.ref p) _ _ m (tv (PyData.dict kds)) (Ex.new hb) (hS.newB hp) (show Dr Z.K (upd B p (.dK kvs)) (.ref p) (.dict kds) from .dct upd_same (Dr.monoKv (Ex.new hb) _ _ hd)) h
    · obtain ⟨kts, h1, h2⟩ := DrKv.krep hd
      exact k (.ref p) B _ _ (tv (Ref.mk p)) (Ex.refl _) (hS.newM hp (c := mD kts) ⟨_, rfl, h1⟩) (show V.ref p = .ref p from rfl) (h p kts h2)
def putD (kts : List (Key × TV)) (k : Key) (v : TV) : List (Key × TV) := if (kts.any fun kv => decide (kv.1 = k)) = true then kts.map (fun kv => if kv.1 = k then (kv.1, v) else kv) else kts ++ [(k, v)]
theorem KRep.any {K : PySem.W.Frag} {B : Hp} {k : Key} : ∀ {vs : List (Key × V)} {ts : List (Key × TV)}, KRep K B vs ts → (vs.any fun kv => decide (kv.1 = k)) = ts.any fun kv => decide (kv.1 = k)
  | _, _, .nil => rfl
  | _, _, .cons _ r => by simp only [List.any_cons, KRep.any r]
theorem KRep.length {K : PySem.W.Frag} {B : Hp} : ∀ {vs : List (Key × V)} {ts : List (Key × TV)}, KRep K B vs ts → vs.length = ts.length
  | _, _, .nil => rfl
  | _, _, .cons _ r => by simp only [List.length_cons, KRep.length r]
theorem KRep.mapK {K : PySem.W.Frag} {B : Hp} {k : Key} {v : V} {t : TV} (hv : TV.rep K B v t) : ∀ {vs : List (Key × V)} {ts : List (Key × TV)}, KRep K B vs ts → KRep K B (vs.map fun kv => if kv.1 = k then (kv.1, v) else kv) (ts.map fun kv => if kv.1 = k then (kv.1, t) else kv)
  | _, _, .nil => .nil
  | _, _, @KRep.cons _ _ k1 v1 t1 vs ts a r => by
    simp only [List.map_cons]
    by_cases e : k1 = k
    · rw [if_pos e, if_pos e]
      exact .cons hv (KRep.mapK hv r)
    · rw [if_neg e, if_neg e]
      exact .cons a (KRep.mapK hv r)
theorem KRep.snoc {K : PySem.W.Frag} {B : Hp} {k : Key} {v : V} {t : TV} (hv : TV.rep K B v t) : ∀ {vs : List (Key × V)} {ts : List (Key × TV)}, KRep K B vs ts → KRep K B (vs ++ [(k, v)]) (ts ++ [(k, t)])
  | _, _, .nil => .cons hv .nil
  | _, _, .cons a r => .cons a (KRep.snoc hv r)
theorem KRep.put {K : PySem.W.Frag} {B : Hp} {k : Key} {v : V} {t : TV} (hv : TV.rep K B v t) {vs : List (Key × V)} {ts : List (Key × TV)} (h : KRep K B vs ts) : KRep K B (putK vs k v) (putD ts k t) := by
  unfold putK putD
  rw [h.any]
  split
  · exact KRep.mapK hv h
  · exact KRep.snoc hv h
/-- d['k'] = v -/
theorem ws_dput {o ex i : Expr} {pos' : Pos} (hu : X.A.units + 1 < cLine) (h : We X Z ex ρ m fun u m1 => We X Z o ρ m1 fun t m2 => We X Z i ρ m2 fun y m3 => ∃ (p : Addr) (n : Nat) (kts : List (Key × TV)) (x : Str), t = tv (Ref.mk p) ∧ y = tv x ∧ m3[n]? = some (p, mD kts) ∧ kts.length < 1000 ∧ D.nx ρ (m3.set n (p, mD (putD kts (.inr x) u))))
    (hs : swapsWith ex (some (.Subscript o i pos')) pos.line X.env = pure false := by rfl) : Ws X Z (.Assign [.Subscript o i pos'] ex pos) ρ m D := .of (ps_dput hu pe_sem pe_sem pe_sem hs) fun σ B H E he hS q => we_sub h he hS fun v B1 H1 m1 u a1 b1 c1 d1 e1 => we_sub e1 b1 c1 fun w B2 H2 m2 t a2 b2 c2 d2 e2 => we_sub e2 b2 c2 fun y B3 H3 m3 z a3 b3 c3 d3 e3 => by
  obtain ⟨p, n, kts, x, rfl, rfl, hi, hl, hp⟩ := e3
  obtain ⟨_, ob, ho, kvs, eo, kr⟩ := c3.hp.at_ n p _ hi
  subst eo
  refine ⟨p, upd H3 p (.dK (putK kvs (.inr x) v)), d2, ?_, ?_⟩
  · rw [show y = kV (.inr x) from d3]
    exact .k ho (by rw [kr.length, sizeLine_eq]; omega)
  · exact q.nx σ B3 _ ρ _ ((a1.trans a2).trans a3) b3 (c3.write (d := mD (putD kts (.inr x) u)) hi ⟨_, rfl, KRep.put (TV.mono (a2.trans a3) d1) kr⟩) hp
/-- {} -/
theorem we_dct0 (h : P (tv (PyData.dict [])) m) : We X Z (.Dict [] [] pos) ρ m P := .of pe_dnewK fun σ B H Q he hS q p hp => by
  have hb := hS.noneB hp
  exact q (.ref p) _ _ m (tv (PyData.dict [])) (Ex.new hb) (hS.newB hp) (show Dr Z.K (upd B p (.dK [])) (.ref p) (.dict []) from .dct upd_same .nil) h
/-- dict([(k, v)]) -/
theorem dict_p {x : Str} (hcalm : X.calm = true) (hu : LstU m t [u]) (ht : TupU u [tv x, w']) (hw : AsB w' d) (h : P (tv (PyData.dict [(.str x, d)])) m) (hK : X.K = Z.K := by rfl) : CallP X Z (.type "dict") [t] m P := .of (call_dictP hcalm) fun B H Q vs hS hv k => by
  obtain ⟨v, rfl, r⟩ := reps1 hv
  obtain ⟨a, ws, ev, hq, rr⟩ := lstU_at hu hS r
  obtain ⟨y, rfl, ry⟩ := reps1 rr
  obtain ⟨b, zs, ey, hz, rz⟩ := ht _ _ _ ry
  obtain ⟨z1, z2, rfl, q1, q2⟩ := reps2 rz
  subst ev ey
  have e1 : z1 = .str x := q1
  subst e1
  refine ⟨a, [b], [(.inr x, z2)], rfl, .of hq, .cons (by rw [hK]; exact hS.ex.seqT hz) .nil, fun p hp => ?_⟩
  have hb := hS.noneB hp
  exact k (.ref p) _ _ m (tv (PyData.dict [(.str x, d)])) (Ex.new hb) (hS.newB hp) (show Dr Z.K (upd B p (.dK [(.inr x, z2)])) (.ref p) (.dict [(kD (.inr x), d)]) from .dct upd_same (.cons (Dr.mono (Ex.new hb) _ _ (hw _ _ _ q2)) .nil)) h
end
end Ty

set_option Elab.async false
set_option linter.all false
set_option maxRecDepth 100000
set_option maxHeartbeats 2000000
namespace Ty
open PySem PySem.Spec PyProof.Rows L2
section
variable {X : Cx} {Z : Zs} {ρ : TEnv} {m : Mu} {D : DE} {P : TV → Mu → Prop} {e : Expr} {es : List Expr} {pos p p1 : Pos} {x : Str} {T : TSpec} {k k' : Nat} {C : Addr} {dts : List TV}
/-- X(e, ..), an own exception class, as a value -/
theorem we_xmk (F : OexK X.prog X.w X.K X.mg X.base x C k T dts) (hgd : X.A.guards = some []) (hr : Room k' X.A)
    (h : Wa X Z (e :: es) ρ m fun xs m1 => xs.length ≤ 900 ∧ ∀ a, FrP T (tv (Ref.mk a) :: (xs ++ dts)) (m1 ++ [(a, mXo a C none)]) (fun t m2 => t = tv () ∧ P (tv (Ref.mk a)) m2) fun _ _ => False)
    (hkk : k + 1 ≤ k' := by decide) (hK : X.K = Z.K := by rfl) (hg : Gl X x := by rfl) (hdb : (x == ("__debug__" : Str)) = false := by decide)
    (he : starEach (e :: es) X.env = (false, eval e X.env) :: starEach es X.env := by rfl) (hpl : (backTo p1 (starEach es X.env)).any (·.1) = false := by rfl) :
    We X Z (.Call (.Name x p) (e :: es) [] p1) ρ m P := fun σ B H Q hE hS kQ pins s I => by
  obtain ⟨hm, TC, fI, fd, ps, dvs, ds, iC, tI, G, hb, hd, hf⟩ := F
  obtain ⟨nm, q, N, bs, bm, sn, sub, ab, col, dd, k0, k1, k2, k3, k5, hC, hbm⟩ := TC.cls
  have hr1 : Room (k + 1) X.A := hr.mono hkk
  refine wpAny_Call_Name_kw (ld_glob I hg hm ?_ hdb)
  refine PySem.W.callWith_K (h₀ := X.base) I.ok.mod.kin TC.kC (wpAny_mono (h σ B H (fun vs H1 => vs.length ≤ 900 ∧ ∀ a, H1 a = none → spOf Z.K T (.ref a :: (vs ++ dvs)) (upd H1 a (exo a C none)) (fun v H2 => v = .non ∧ Q (.ref a) H2) (fun _ _ _ => False))
    hE hS (fun vs B1 H1 m1 xs e1 s1 r1 w1 => ?_) p1 pins s I) (fun us s1 hh => ?_) fun _ _ z => z) he hpl
  · refine ⟨by rw [r1.length]; exact w1.1, fun a ha => ?_⟩
    have s2 := s1.newM (o := exo a C none) ha (c := mXo a C none) rfl
    refine spOf_imp ((w1.2 a).sp (xp := noX) (ρ := ρ) (hE.mono e1) s2 (.cons (show V.ref a = .ref a from rfl) (r1.append ((hK ▸ hf) B1))) fun v B' H' m' x eB s3 rv pp => ?_) fun c d H' ⟨_, _, _, _, _, _, z⟩ => z.elim
    obtain ⟨rfl, px⟩ := pp
    exact ⟨rv, kQ (.ref a) B' H' m' (tv (Ref.mk a)) (e1.trans eB) s3 (show V.ref a = .ref a from rfl) px⟩
  · obtain ⟨vs, H1, I1, r1, hz, q1⟩ := hh
    refine ⟨I1.kIn, ?_⟩
    show wpAny _ _ (call (.ref C) us) _ _ _
    obtain ⟨hp, g, dr, tk, os⟩ := s1
    have hsz : hp.objs.size ≤ hp.objs.size + 1 := Nat.le_succ _
    have hn : H1 (hp.objs.size + 1) = none := I1.hok.fresh hsz
    have hq := q1 (hp.objs.size + 1) hn
    have kk : ∀ b o, hp.get? b = some o → ((hp.push (PySem.W.kdv_tup us)).push (PySem.HandSPX.excO C hp.objs.size)).get? b = some o := fun b o e => Heap.get?_push_of_some _ (Heap.get?_push_of_some _ e)
    have hget : ((hp.push (PySem.W.kdv_tup us)).push (PySem.HandSPX.excO C hp.objs.size)).get? (hp.objs.size + 1) = some (PySem.HandSPX.excO C hp.objs.size) := by heap_get
    have I2 : Inv X pins σ (upd H1 (hp.objs.size + 1) (exo (hp.objs.size + 1) C none)) ⟨(hp.push (PySem.W.kdv_tup us)).push (PySem.HandSPX.excO C hp.objs.size), g, dr, tk, os⟩ :=
      I1.laid (t' := tk) (a := hp.objs.size + 1) (o := exo (hp.objs.size + 1) C none) (h' := (hp.push (PySem.W.kdv_tup us)).push (PySem.HandSPX.excO C hp.objs.size)) kk hsz (exo_ok hget)
    have r2 : Vals (V.ref (hp.objs.size + 1) :: (vs ++ dvs)) (Value.ref (hp.objs.size + 1) :: (us ++ ds)) := .cons rfl (r1.append hd)
    have hl : (Value.ref (hp.objs.size + 1) :: us ++ ds).length = ps.length := r2.length.symm.trans (spOf_len G.len hq)
    have hus : us.length ≤ sizeLine := by
      rw [← Paired.length r1, sizeLine_eq]
      omega
    refine wpAny_call (PySem.HandSPX.call_own F.excBase_ValueError (fun Y => PySem.HandSPX.refsVE_contains Y bm hbm) (I1.kIn _ _ hC) (PySem.W.looks_findIn I1.kIn iC) (fun self => PySem.W.bind_fn I1.kIn self tI) hus
      (codeAny_mono (G.run _ X.stack _ _ ⟨Value.ref (hp.objs.size + 1) :: us, []⟩ (Value.ref (hp.objs.size + 1) :: (us ++ ds)) _ _ (fun _ _ _ => False) (under_guards.trans hgd) (hr1.make C us []) (I2.env0.make C us []) (hb _ (Value.ref (hp.objs.size + 1) :: us) I2.kIn hl) r2 (hK ▸ hq)) fun r s' hq' => ?_))
    match r, hq' with
    | .error er, hq' =>
      obtain ⟨_, _, _, _, _, _, _, _, _, _, _, _, z⟩ := hq'
      exact z.elim
    | .ok (.ret u), hq' =>
      obtain ⟨v, H', I3, rv, ev, q3⟩ := I2.after hq'
      subst ev
      exact ⟨rv, ⟨V.ref (hp.objs.size + 1), H', I3, rfl, q3⟩⟩
    | .ok .next, hq' => exact False.elim hq'
    | .ok .brk, hq' => exact False.elim hq'
    | .ok .cont, hq' => exact False.elim hq'
end
end Ty
namespace HN
open PySem PySem.Spec PyProof.Rows PySem.SeqAt
section
variable {prog : Program} {w : World} {A : Around} {E : Value → Shared → Prop} {s : Shared} {K : PySem.W.Frag} {x C : Addr} {ox : Obj} {od : Option Obj}
theorem call_objEq_self {Q : Value → Shared → Prop} (X : K.In s.heap) (I : PySem.W.InstAt s.heap x ox C od) (hm : PySem.W.mroIn K C (.type "object") = some true) (hq : Q (.bool true) s) :
    wpAny (model prog w) A (call (.builtin "object.__eq__") [.ref x, .ref x]) Q E s :=
  wpAny_call (codeAny_call_builtin F.cmp_object.eq.plain F.cmpEntry_eq (PySem.W.check_slot F.cmpKind_eq F.cmpSplit_eq (I.type.andThen (PySem.W.looks_mroIn X hm)) (F.cmpArgs_eq _ _) (objEq_entry_same hq)))
theorem rc_self {Q : Value → Shared → Prop} (hu : A.units < cLine) (X : K.In s.heap) (I : PySem.W.InstAt s.heap x ox C od) (hm : PySem.W.mroIn K C (.type "object") = some true) (hs : PySem.W.findIn K (.ref C) "__eq__" = some (some (.builtin "object.__eq__"))) (h : Q (.bool true) s) :
    wpAny (model prog w) A (richCompare .Eq (.ref x) (.ref x)) Q E s := by
  have one : wpAny (model prog w) A (tryCompare (.ref x) "__eq__" (.ref x)) (fun r s' => r = some (.bool true) ∧ s' = s) E s := by
    unfold tryCompare
    exact wpAny_bind (ifBound_objEq X I hs (call_objEq_self X I hm (wpAny_pure ⟨rfl, rfl⟩)))
  simp only [richCompare, cmpInfo_Eq, oneThing_ref]
  refine wpAny_holding (wpAny_bind (wpAny_cRoomFor hu ?_))
  refine wpAny_bind (I.type.here ?_)
  refine wpAny_bind (I.type.here ?_)
  rw [if_neg (by simp)]
  refine wpAny_bind (wpAny_pure ?_)
  simp only [Bool.false_eq_true, if_false, Bool.not_false, if_true]
  refine wpAny_bind (m := tryCompare (.ref x) _ (.ref x)) (wpAny_mono one (fun r s1 z => ?_) fun _ _ e => e)
  obtain ⟨z1, z2⟩ := z
  subst z1
  subst z2
  exact wpAny_pure h
end
end HN
namespace Ty
open PySem PySem.Spec PyProof.Rows L2
section
variable {X : Cx} {Z : Zs} {m : Mu} {P : TV → Mu → Prop} {C a dx : Addr} {fs : List (Str × TV)} {i j : Nat}
/-- an exception that isn't raised yet, by its own dict -/
theorem xo_inst {pins : List (Addr × Obj)} {σ : L2.St} {B H : Hp} {s : Shared} (I : L2.Inv X pins σ H s) (S : Sta Z B H m) (hi : m[i]? = some (a, mXo a C (some dx))) (hj : m[j]? = some (dx, mXd dx fs)) : ∃ ox od, PySem.W.InstAt s.heap a ox C od := by
  obtain ⟨t1, h1⟩ := exo_at I.hok (mX_at S hi)
  obtain ⟨_, o, ho, vs, eo, _⟩ := S.hp.at_ j dx _ hj
  subst eo
  obtain ⟨mA, hns, _⟩ := exd_at I.hok ho
  obtain ⟨od, h2, _⟩ := lookIn_ns hns
  exact ⟨_, some od, h1, rfl, rfl, h2⟩
theorem eq_xo (hi : m[i]? = some (a, mXo a C (some dx))) (hj : m[j]? = some (dx, mXd dx fs)) (hr : Room k X.A) (ho : PySem.W.mroIn X.K C (.type "object") = some true) (hs : PySem.W.findIn X.K (.ref C) "__eq__" = some (some (.builtin "object.__eq__"))) (h : P (tv true) m) : OpP X Z (compareOp .Eq) (tv (Ref.mk a)) (tv (Ref.mk a)) m P :=
  fun B H Q v w hS hv hw q pins s σ vv uu I rv ru => by
    rw [show v = .ref a from hv] at rv
    rw [show w = .ref a from hw] at ru
    obtain rfl : vv = Value.ref a := rv
    obtain rfl : uu = Value.ref a := ru
    obtain ⟨ox, od, J⟩ := xo_inst I hS hi hj
    exact HN.rc_self hr.units0 I.kIn J ho hs ⟨.bl true, H, I, rfl, q _ B H m _ (Ex.refl _) hS (rep_bool _) h⟩
/-- isinstance of it -/
theorem isi_xo {c : TV} {w : Value} (hi : m[i]? = some (a, mXo a C (some dx))) (hj : m[j]? = some (dx, mXd dx fs)) (CE : ExcC X.K C) {b : Bool} (hw : ∀ B v, TV.rep Z.K B v c → ∀ u, RelV v u → u = w) (hk : PySem.W.kitOne X.K (.ref C) w = some b) (h : P (tv b) m) : CallP X Z (.builtin "isinstance") [tv (Ref.mk a), c] m P :=
  fun B H Q vs hS hv q pins s σ us I r => by
    obtain ⟨v, u, rfl, r1, r2⟩ := reps2 hv
    have ev : v = .ref a := r1
    subst ev
    obtain ⟨u1, u2, rfl, q1, q2⟩ := vals2 r
    obtain rfl : u1 = Value.ref a := q1
    obtain rfl := hw _ _ r2 _ q2
    obtain ⟨ox, od, J⟩ := xo_inst I hS hi hj
    exact PySem.W.kia_one (PySem.W.ty_kitE CE) I.kIn J hk (fun z => nomatch z) fun tk => ⟨.bl b, H, I.tok tk, rfl, q _ B H m _ (Ex.refl _) hS (rep_bool _) h⟩
theorem isi_xoT {T : String} (hi : m[i]? = some (a, mXo a C (some dx))) (hj : m[j]? = some (dx, mXd dx fs)) (CE : ExcC X.K C) {b : Bool} (hk : PySem.W.kitOne X.K (.ref C) (.type T) = some b) (h : P (tv b) m) : CallP X Z (.builtin "isinstance") [tv (Ref.mk a), tv (Typ.mk T)] m P :=
  isi_xo hi hj CE (fun B v r u ru => by rw [show v = .ty T from r] at ru; exact ru) hk h
end
end Ty

set_option Elab.async false
set_option linter.all false
set_option maxRecDepth 100000
set_option maxHeartbeats 2000000
namespace Ty
open PySem PySem.Spec PyProof.Rows L2
open PySem.Builtin PySem.Builtin.Str PySem.StrLaws
/-! ### split(' ', k) -/
theorem lim_run (s sub : PySem.Str) (hi limit lo : Nat) (hw : 1 ≤ sub.length) : ∀ (m cur : Nat) (st : Array Nat × Nat), ChainG s sub hi lo st.fst.toList st.snd → st.fst.size ≤ limit → (st.fst.size < limit → ∀ k, st.snd ≤ k → k < cur → ¬ At s sub hi k) →
    ChainG s sub hi lo (forIn (List.range' cur m) st (occBody s sub hi limit)).run.fst.toList (forIn (List.range' cur m) st (occBody s sub hi limit)).run.snd ∧
    (forIn (List.range' cur m) st (occBody s sub hi limit)).run.fst.size ≤ limit ∧
    ((forIn (List.range' cur m) st (occBody s sub hi limit)).run.fst.size < limit → ∀ k, (forIn (List.range' cur m) st (occBody s sub hi limit)).run.snd ≤ k → k < cur + m → ¬ At s sub hi k)
  | 0, cur, st, h, hl, hn => ⟨h, hl, hn⟩
  | m + 1, cur, st, h, hl, hn => by
    rw [List.range'_succ, List.forIn_cons]
    unfold occBody
    have e : cur + (m + 1) = (cur + 1) + m := by omega
    rw [e]
    split
    · rename_i hc
      refine lim_run s sub hi limit lo hw m (cur + 1) _ ?_ ?_ ?_
      · show ChainG s sub hi lo (st.fst.push cur).toList (cur + sub.length)
        rw [Array.toList_push]
        exact chainG_snoc h hc.1.1.2 ⟨hc.1.2, hc.2⟩ (hn hc.1.1.1)
      · show (st.fst.push cur).size ≤ limit
        rw [Array.size_push]
        have := hc.1.1.1
        omega
      · intro _ k h1 h2
        have h1' : cur + sub.length ≤ k := h1
        omega
    · rename_i hc
      refine lim_run s sub hi limit lo hw m (cur + 1) _ h hl ?_
      intro hs k h1 h2 hA
      by_cases hk : k < cur
      · exact hn hs k h1 hk hA
      · have ek : k = cur := by omega
        subst ek
        exact hc ⟨⟨⟨hs, h1⟩, hA.1⟩, hA.2⟩
theorem occ_lim (x y : PySem.Str) (hw : 1 ≤ y.length) (lim : Nat) : ∃ f, ChainG x y x.length 0 (occurrences x y 0 x.length lim) f ∧ (occurrences x y 0 x.length lim).length ≤ lim ∧ ((occurrences x y 0 x.length lim).length < lim → ∀ k, f ≤ k → ¬ At x y x.length k) := by
  rw [occ_eq]
  have key := lim_run x y x.length lim 0 hw (x.length + 1 - 0) 0 ((#[] : Array Nat), 0) rfl (by simp) (fun _ k _ h => by omega)
  refine ⟨_, key.1, ?_, fun hs k hk hA => ?_⟩
  · have := key.2.1
    simpa using this
  · exact key.2.2 (by simpa using hs) k hk (by have := hA.1; omega) hA
def spk (s : Nat) : Nat → List Nat → List Nat → List (List Nat)
  | _, acc, [] => [acc]
  | 0, acc, c :: r => [acc ++ c :: r]
  | k + 1, acc, c :: r => if c = s then acc :: spk s k [] r else spk s (k + 1) (acc ++ [c]) r
theorem spk_nil {s k : Nat} {acc : List Nat} : spk s k acc [] = [acc] := by cases k <;> rfl
theorem spk_zero {s : Nat} {acc : List Nat} : ∀ {l : List Nat}, spk s 0 acc l = [acc ++ l]
  | [] => by rw [spk_nil, List.append_nil]
  | _ :: _ => rfl
theorem spk_app {s k : Nat} : ∀ {u v acc : List Nat}, s ∉ u → spk s (k + 1) acc (u ++ v) = spk s (k + 1) (acc ++ u) v
  | [], v, acc, _ => by rw [List.nil_append, List.append_nil]
  | c :: u, v, acc, h => by
    have h1 : ¬ c = s := fun e => h (e ▸ List.mem_cons_self)
    show (if c = s then _ else spk s (k + 1) (acc ++ [c]) (u ++ v)) = _
    rw [if_neg h1, spk_app (fun q => h (List.mem_cons_of_mem _ q)), List.append_assoc] <;> rfl
theorem spk_none {s k : Nat} {u acc : List Nat} (h : s ∉ u) : spk s k acc u = [acc ++ u] := by
  cases k with
  | zero => exact spk_zero
  | succ k =>
    have e := spk_app (k := k) (v := []) (acc := acc) h
    rw [List.append_nil, spk_nil] at e
    exact e
theorem spk_cut {s k : Nat} {u r acc : List Nat} (h : s ∉ u) : spk s (k + 1) acc (u ++ s :: r) = (acc ++ u) :: spk s k [] r := by
  rw [spk_app h]
  show (if s = s then _ else _) = _
  rw [if_pos rfl]
theorem parts_spk {x : PySem.Str} {s : Nat} : ∀ (cuts : List Nat) (a f k : Nat), a ≤ x.cps.toList.length → ChainG x ⟨#[s]⟩ x.length a cuts f → cuts.length ≤ k → (cuts.length < k → ∀ j, f ≤ j → ¬ At x ⟨#[s]⟩ x.length j) →
    (partsFrom x 1 a cuts).map (fun y => y.cps.toList) = spk s k [] (x.cps.toList.drop a)
  | [], a, f, k, ha, h, hl, hn => by
    have e : f = a := h
    subst e
    show [(strSub x f x.length).cps.toList] = _
    have e1 : (strSub x f x.length).cps.toList = x.cps.toList.drop f := _root_.TL.tl_strSub_end x f
    rw [e1]
    cases k with
    | zero => rw [spk_zero, List.nil_append]
    | succ k =>
      rw [spk_none, List.nil_append]
      intro hm
      obtain ⟨j, hj⟩ := List.getElem?_of_mem hm
      rw [List.getElem?_drop] at hj
      exact hn (Nat.succ_pos _) (f + j) (by omega) ((subAt_one x s (f + j)).mpr hj)
  | c :: r, a, f, k, ha, h, hl, hn => by
    obtain ⟨h1, h2, h3, h4⟩ := h
    cases k with
    | zero => cases hl
    | succ k =>
      have hc := (subAt_one x s c).mp h2
      have hlt : c < x.cps.toList.length := (List.getElem?_eq_some_iff.mp hc).1
      have ih := parts_spk r (c + 1) f k (by omega) h4 (by simpa using hl) (fun q => hn (by simpa using q))
      show (strSub x a c).cps.toList :: (partsFrom x 1 (c + 1) r).map (fun y => y.cps.toList) = _
      rw [ih, strSub_toList]
      have e : x.cps.toList.drop a = (x.cps.toList.drop a).take (c - a) ++ s :: x.cps.toList.drop (c + 1) := by
        have e1 : x.cps.toList.drop c = s :: x.cps.toList.drop (c + 1) := by
          rw [List.drop_eq_getElem_cons hlt]
          rw [(List.getElem?_eq_some_iff.mp hc).2]
        rw [← e1]
        have e2 : x.cps.toList.drop c = (x.cps.toList.drop a).drop (c - a) := by rw [List.drop_drop, show a + (c - a) = c from by omega]
        rw [e2, List.take_append_drop]
      have nm : s ∉ (x.cps.toList.drop a).take (c - a) := fun hm => by
        obtain ⟨j, hj⟩ := List.getElem?_of_mem hm
        have hjl : j < c - a := by
          have h5 := (List.getElem?_eq_some_iff.mp hj).1
          rw [List.length_take] at h5
          omega
        rw [List.getElem?_take_of_lt hjl, List.getElem?_drop] at hj
        exact h3 (a + j) (by omega) (by omega) ((subAt_one x s (a + j)).mpr hj)
      conv => rhs; rw [e]
      rw [spk_cut nm, List.nil_append]
/-- x.split(sign, k) -/
theorem splitMax_spk (x : PySem.Str) {s : Nat} (hs : s < 256) {k : Int} (hk : 0 ≤ k) : (Txt.splitMax x ⟨#[s]⟩ k).map (fun y => y.cps.toList) = spk s k.toNat [] x.cps.toList := by
  have hlim : limitOf x k = k.toNat := by unfold limitOf; rw [if_neg (by omega)]
  obtain ⟨f, g, hl, hn⟩ := occ_lim x ⟨#[s]⟩ (Nat.le_refl _) k.toNat
  have key := parts_spk _ 0 f k.toNat (Nat.zero_le _) g hl hn
  rw [List.drop_zero] at key
  have none_case : occurrences x ⟨#[s]⟩ 0 x.length k.toNat = [] → [x].map (fun y => y.cps.toList) = spk s k.toNat [] x.cps.toList := fun ho => by
    rw [ho] at key
    rw [← key]
    show [x.cps.toList] = [(strSub x 0 x.length).cps.toList]
    rw [show (strSub x 0 x.length).cps.toList = x.cps.toList.drop 0 from _root_.TL.tl_strSub_end x 0, List.drop_zero]
  unfold Txt.splitMax
  rw [hlim]
  by_cases h1 : (decide (x.length < (⟨#[s]⟩ : PySem.Str).length) || decide (strKind x < strKind ⟨#[s]⟩)) = true
  · rw [if_pos h1]
    have hk2 : ¬ strKind x < strKind ⟨#[s]⟩ := _root_.TL.kind_ok (by simpa using hs)
    have hlt : x.length < 1 := by
      simp only [Bool.or_eq_true, decide_eq_true_eq] at h1
      rcases h1 with h | h
      · exact h
      · exact absurd h hk2
    refine none_case ?_
    cases ho : occurrences x ⟨#[s]⟩ 0 x.length k.toNat with
    | nil => rfl
    | cons c r =>
      rw [ho] at g
      have hc : c + 1 ≤ x.length := g.2.1.1
      omega
  · rw [if_neg h1]
    by_cases h2 : (occurrences x ⟨#[s]⟩ 0 x.length k.toNat).isEmpty = true
    · rw [if_pos h2]
      exact none_case (List.isEmpty_iff.mp h2)
    · rw [if_neg h2, partsBetween_eq]
      exact key
end Ty

set_option Elab.async false
set_option linter.all false
set_option maxRecDepth 100000
set_option maxHeartbeats 2000000
namespace Dy
open PySem PySem.Spec PyProof.Rows L2 Ty
/-! ### what may be computed: values without a heap -/
inductive D where
  | non | bl (b : Bool) | int (i : Int) | str (s : Str)
  | lst (xs : List D) | tup (xs : List D) | dct (kvs : List (D × D)) | set (xs : List D)
  | ins (C : Nat) (fs : List (Nat × D)) | exc (C : Nat) (fs : List (Nat × D)) | ref (a : Addr)
  deriving Inhabited
/-- a field of an exception: an argument as it was passed, or a value -/
inductive FV where
  | arg (i : Nat) | dat (d : D)
structure XE where
  cls : Nat
  fs : List (Nat × FV)
inductive Res (α : Type _) where
  | ok (a : α) | ex (y : XE) | bad
def Ok {α : Type _} (r : Res α) (Q : α → Prop) (E : XE → Prop) : Prop := match r with
  | .ok a => Q a
  | .ex y => E y
  | .bad => False
def Sm {α : Type _} (o : Option α) (Q : α → Prop) : Prop := match o with
  | some a => Q a
  | none => False
def bo {α β : Type _} (o : Option α) (k : α → Res β) : Res β := match o with
  | some a => k a
  | none => .bad
def FV.sub (l : List FV) : FV → FV
  | .arg i => l.getD i (.dat .non)
  | .dat d => .dat d
def XE.sub (l : List FV) (y : XE) : XE := ⟨y.cls, y.fs.map fun q => (q.1, q.2.sub l)⟩
/-- behind a call of a def that may raise, its arguments l -/
def bx {α β : Type _} (r : Res α) (l : List FV) (k : α → Res β) : Res β := match r with
  | .ok a => k a
  | .ex y => .ex (y.sub l)
  | .bad => .bad
/-- a def that does not raise -/
def Res.opt {α : Type _} : Res α → Option α
  | .ok a => some a
  | .ex _ => none
  | .bad => none
/-- where ways join -/
def jn {S : Type _} {β : Type _} (k : S → Res β) (f : (S → Res β) → Res β) : Res β := f k
/-- for x in xs -/
def forC {S β : Type} : List D → S → (D → S → (S → Res β) → (S → Res β) → Res β) → (S → Res β) → Res β
  | [], s, _, k => k s
  | x :: xs, s, f, k => f x s (fun s' => forC xs s' f k) k
/-- while: so many turns at most -/
def whileC {S β : Type} : Nat → S → (S → (S → Res β) → (S → Res β) → Res β) → (S → Res β) → Res β
  | 0, _, _, _ => .bad
  | n + 1, s, f, k => f s (fun s' => whileC n s' f k) k
/-- [f x for x in xs], what f needs besides being s -/
def mapO {β : Type} (f : D → Option β) : List D → Option (List β)
  | [] => some []
  | x :: xs => (f x).bind fun y => (mapO f xs).bind fun ys => some (y :: ys)
def filO (p : D → Option Bool) (f : D → Option D) : List D → Option (List D)
  | [] => some []
  | x :: xs => (p x).bind fun b => if b then (f x).bind fun y => (filO p f xs).bind fun ys => some (y :: ys) else filO p f xs
/-- .. that may raise or change a state -/
def mapC {S β : Type} (f : D → S → (D → S → Res β) → Res β) : List D → List D → S → (List D → S → Res β) → Res β
  | [], acc, s, k => k acc s
  | x :: xs, acc, s, k => f x s fun y s' => mapC f xs (acc ++ [y]) s' k
section
variable {α β : Type _} {Q : α → Prop} {E : XE → Prop}
theorem Ok.bo {o : Option α} {k : α → Res β} {Q : β → Prop} : Ok (bo o k) Q E ↔ Sm o fun a => Ok (k a) Q E := by cases o <;> exact Iff.rfl
theorem Ok.get {o : Option α} {k : α → Res β} {Q : β → Prop} (h : Ok (Dy.bo o k) Q E) : ∃ a, o = some a ∧ Ok (k a) Q E := by
  cases o with
  | none => exact False.elim h
  | some a => exact ⟨a, rfl, h⟩
theorem Sm.get {o : Option α} (h : Sm o Q) : ∃ a, o = some a ∧ Q a := by
  cases o with
  | none => exact False.elim h
  | some a => exact ⟨a, rfl, h⟩
theorem Sm.of {o : Option α} {a : α} (e : o = some a) (h : Q a) : Sm o Q := by subst e; exact h
theorem Sm.imp {o : Option α} {Q' : α → Prop} (h : Sm o Q) (k : ∀ a, Q a → Q' a) : Sm o Q' := by
  cases o with
  | none => exact h
  | some a => exact k a h
theorem Ok.imp {r : Res α} {Q' : α → Prop} {E' : XE → Prop} (h : Ok r Q E) (k : ∀ a, Q a → Q' a) (ke : ∀ y, E y → E' y) : Ok r Q' E' := by
  cases r with
  | ok a => exact k a h
  | ex y => exact ke y h
  | bad => exact h
theorem Ok.bx {r : Res α} {l : List FV} {k : α → Res β} {Q : β → Prop} : Ok (bx r l k) Q E ↔ Ok r (fun a => Ok (k a) Q E) fun y => E (y.sub l) := by cases r <;> exact Iff.rfl
theorem Sm.opt {r : Res α} (h : Sm r.opt Q) : Ok r Q fun _ => False := by
  cases r with
  | ok a => exact h
  | ex y => exact h
  | bad => exact h
theorem Ok.opt {r : Res α} (h : Ok r Q fun _ => False) : Sm r.opt Q := by
  cases r with
  | ok a => exact h
  | ex y => exact h
  | bad => exact h
theorem jn_s {S : Type _} {k : S → Res α} {f : (S → Res α) → Res α} (h : Ok (jn k f) Q E) : ∃ kk, kk = k ∧ Ok (f kk) Q E := ⟨k, rfl, h⟩
theorem opt_some {r : Res α} {a : α} : r.opt = some a ↔ r = .ok a := by cases r <;> simp [Res.opt]
theorem Ok.eq {r : Res α} {a : α} (h : Ok r (fun b => b = a) fun _ => False) : r = .ok a := by
  cases r with
  | ok b => exact congrArg Res.ok h
  | ex y => exact h.elim
  | bad => exact h.elim
theorem bo_some {a : α} {k : α → Res β} : bo (some a) k = k a := rfl
theorem bo_none {k : α → Res β} : bo (none : Option α) k = .bad := rfl
theorem bx_ok {a : α} {l : List FV} {k : α → Res β} : bx (.ok a) l k = k a := rfl
theorem bx_ex {y : XE} {l : List FV} {k : α → Res β} : bx (.ex y) l k = .ex (y.sub l) := rfl
theorem bx_bad {l : List FV} {k : α → Res β} : bx .bad l k = .bad := rfl
theorem opt_ok {a : α} : (Res.ok a).opt = some a := rfl
theorem opt_ex {y : XE} : (Res.ex y : Res α).opt = none := rfl
theorem opt_bad : (Res.bad : Res α).opt = none := rfl
theorem opt_bo {o : Option α} {k : α → Res β} : (bo o k).opt = o.bind fun a => (k a).opt := by cases o <;> rfl
theorem opt_ite {c : Prop} [Decidable c] {x y : Res α} : (if c then x else y).opt = if c then x.opt else y.opt := by split <;> rfl
end
/-! ### operations -/
namespace D
/-- a value that is True or False -/
def bool : D → Option Bool
  | .bl b => some b
  | _ => none
/-- the kinds of built-in types -/
def tyn : D → String
  | .non => "NoneType" | .bl _ => "bool" | .int _ => "int" | .str _ => "str" | .lst _ => "list" | .tup _ => "tuple" | .dct _ => "dict" | .set _ => "set"
  | _ => ""
def add : D → D → Option D
  | .int i, .int j => some (.int (i + j))
  | .str x, .str y => if x.length + y.length ≤ 16000000 then some (.str (x ++ y)) else none
  | .lst xs, .lst ys => if xs.length + ys.length ≤ 1000000 then some (.lst (xs ++ ys)) else none
  | _, _ => none
def sub : D → D → Option D
  | .int i, .int j => some (.int (i - j))
  | _, _ => none
def mul : D → D → Option D
  | .int i, .int j => if ((-(2 ^ 64) < i ∧ i < 2 ^ 64) ∨ (-(2 ^ 64) < j ∧ j < 2 ^ 64)) then some (.int (i * j)) else none
  | .str x, .int n => if 0 ≤ n ∧ n < 1000000 ∧ x.length * n.toNat ≤ 1000000 then some (.str (Txt.mul x n)) else none
  | _, _ => none
def fdiv : D → D → Option D
  | .int i, .int j => if 0 < j ∧ j < 1073741824 then some (.int (i / j)) else none
  | _, _ => none
def mod : D → D → Option D
  | .int i, .int j => if 0 < j then some (.int (i % j)) else none
  | _, _ => none
def pow : D → D → Option D
  | .int i, .int j => if 0 ≤ j ∧ j ≤ 1000000 ∧ i.natAbs < 2 ^ 64 then some (.int (i ^ j.toNat)) else none
  | _, _ => none
def neg : D → Option D
  | .int i => some (.int (-i))
  | _ => none
def lt : D → D → Option Bool
  | .int i, .int j => some (decide (i < j))
  | .str x, .str y => some (decide (x.cps.toList < y.cps.toList))
  | _, _ => none
def le : D → D → Option Bool
  | .int i, .int j => some (decide (i ≤ j))
  | .str x, .str y => some (!decide (y.cps.toList < x.cps.toList))
  | _, _ => none
def gt : D → D → Option Bool
  | .int i, .int j => some (decide (j < i))
  | _, _ => none
def ge : D → D → Option Bool
  | .int i, .int j => some (decide (j ≤ i))
  | _, _ => none
/-! data, as the kit has it -/
mutual
def py : D → Option PyData
  | .non => some .none
  | .bl b => some (.bool b)
  | .int i => some (.int i)
  | .str s => some (.str s)
  | .lst xs => (pys xs).map .list
  | .tup xs => (pys xs).map .tuple
  | .dct kvs => (pykv kvs).map .dict
  | _ => none
def pys : List D → Option (List PyData)
  | [] => some []
  | x :: xs => match py x, pys xs with
    | some d, some ds => some (d :: ds)
    | _, _ => none
def pykv : List (D × D) → Option (List (PyData × PyData))
  | [] => some []
  | (k, v) :: r => match k, py v, pykv r with
    | .int i, some d, some ds => some ((.int i, d) :: ds)
    | .str s, some d, some ds => some ((.str s, d) :: ds)
    | _, _, _ => none
end
/-- None, a truth value, a number, a text -/
def flat : D → Bool
  | .non => true | .bl _ => true | .int _ => true | .str _ => true
  | _ => false
/-- == of flat values of one kind or of kinds that are never equal -/
def eqF : D → D → Option Bool
  | .non, .non => some true
  | .int i, .int j => some (decide (i = j))
  | .bl i, .bl j => some (decide (i = j))
  | .str i, .str j => some (decide (i = j))
  | .non, .int _ => some false | .int _, .non => some false
  | .non, .bl _ => some false | .bl _, .non => some false
  | .non, .str _ => some false | .str _, .non => some false
  | .int _, .str _ => some false | .str _, .int _ => some false
  | .bl _, .str _ => some false | .str _, .bl _ => some false
  | _, _ => none
def eqP (a b : D) : Option Bool := match a.py, b.py with
  | some x, some y => if SeqAt.shaped x = true ∧ SeqAt.shaped y = true then some (PyData.eqv x y) else none
  | _, _ => none
def eq (a b : D) : Option Bool := match eqF a b with
  | some r => some r
  | none => eqP a b
def ne (a b : D) : Option Bool := (eq a b).map not
def isNone : D → Bool
  | .non => true
  | _ => false
def items : D → Option (List D)
  | .lst xs => if xs.length ≤ 1000000 then some xs else none
  | .tup xs => if xs.length ≤ 1000000 then some xs else none
  | .str x => if x.length ≤ 1000000 then some (x.cps.toList.map fun c => .str ⟨#[c]⟩) else none
  | _ => none
def len : D → Option D
  | .lst xs => some (.int xs.length)
  | .tup xs => some (.int xs.length)
  | .str x => if x.length ≤ 16000000 then some (.int x.length) else none
  | _ => none
def ix : D → D → Option D
  | .lst xs, .int i => Ty.atT xs i
  | .tup xs, .int i => Ty.atT xs i
  | .str x, .int i => if x.length ≤ 16000000 then (Ty.atT x.cps.toList i).map fun c => .str ⟨#[c]⟩ else none
  | _, _ => none
def part : Option D → Option (Option Int)
  | none => some none
  | some (.int i) => some (some i)
  | _ => none
def cutL {α : Type _} (ts : List α) (lo hi : Option Int) : List α := (ts.drop (HT.sIx ts.length 0 lo)).take (HT.sIx ts.length ts.length hi - HT.sIx ts.length 0 lo)
def slice (d : D) (l u : Option Int) : Option D := match d with
  | .lst xs => some (.lst (cutL xs l u))
  | .tup xs => some (.tup (cutL xs l u))
  | .str x => if x.length ≤ 16000000 then some (.str (Txt.slice x l u)) else none
  | _ => none
def toInt : D → Option Int
  | .int i => some i
  | _ => none
/-- a sign in a text; a flat value in a list or tuple of such -/
def eqFB : D → D → Bool
  | .non, .non => true
  | .bl a, .bl b => a == b
  | .bl a, .int b => (if a then 1 else 0) == b
  | .int a, .bl b => a == (if b then 1 else 0)
  | .int a, .int b => a == b
  | .str a, .str b => a == b
  | _, _ => false
def mem (a : D) : D → Option Bool
  | .str y => match a with
    | .str x => match x.cps.toList with
      | [c] => some (decide (c ∈ y.cps.toList))
      | _ => none
    | _ => none
  | .lst xs => if flat a && xs.all flat then some (xs.any fun y => eqFB y a) else none
  | .tup xs => if flat a && xs.all flat then some (xs.any fun y => eqFB y a) else none
  | _ => none
def intsD : List D → Option (List Int)
  | [] => some []
  | .int i :: r => (intsD r).map (i :: ·)
  | _ => none
def blsD : List D → Option (List Bool)
  | [] => some []
  | .bl i :: r => (blsD r).map (i :: ·)
  | _ => none
def strsD : List D → Option (List Str)
  | [] => some []
  | .str i :: r => (strsD r).map (i :: ·)
  | _ => none
def abs : D → Option D
  | .int i => some (.int (if i < 0 then -i else i))
  | _ => none
def max2 : D → D → Option D
  | .int i, .int j => some (.int (max i j))
  | _, _ => none
def min2 : D → D → Option D
  | .int i, .int j => some (.int (min i j))
  | _, _ => none
def sum : D → Option D
  | .lst xs => (intsD xs).map fun l => .int l.sum
  | _ => none
def all : D → Option D
  | .lst xs => (blsD xs).map fun l => .bl (l.all id)
  | _ => none
def any : D → Option D
  | .lst xs => (blsD xs).map fun l => .bl (l.any id)
  | _ => none
/-- isinstance of built-in types -/
def isi (d : D) (T : String) : Option Bool := match d with
  | .exc _ _ => if T ∈ (["str", "list", "tuple", "dict", "int", "bool"] : List String) then some false else none
  | d => if d.tyn = "" then none else kitB d.tyn T
/-- == of a thing with itself -/
def eqSelf : D → Option Bool
  | .exc _ _ => some true
  | d => eq d d
def int1 : D → Option D
  | .int i => some (.int i)
  | .str x => match PySem.intText? x with
    | some n => if x.length ≤ 640 then some (.int n) else none
    | none => none
  | _ => none
def str1 : D → Option D
  | .int i => if i.natAbs.log2 < 1920 then some (.str (istr i)) else none
  | _ => none
def list1 : D → Option D
  | .lst xs => some (.lst xs)
  | .tup xs => some (.lst xs)
  | _ => none
/-- dict of one pair -/
def dict1 : D → Option D
  | .lst [.tup [.str k, v]] => some (.dct [(.str k, v)])
  | .dct kvs => some (.dct kvs)
  | _ => none
def index2 : D → D → Option D
  | .str x, .str y => match Builtin.Str.occurrences x y 0 x.length 1 with
    | i :: _ => some (.int (i : Nat))
    | [] => none
  | _, _ => none
def list1L : D → Option (List D)
  | .lst xs => some xs
  | .tup xs => some xs
  | _ => none
def tuple1 : D → Option D
  | .lst xs => some (.tup xs)
  | .tup xs => some (.tup xs)
  | _ => none
def repr (d : D) : Option D := match d.py with
  | some x => if x.showable = true ∧ x.depth ≤ 60 ∧ x.shown.length ≤ 16000000 then some (.str x.shown) else none
  | none => none
def fmt : D → Option Str
  | .int i => if i.natAbs.log2 < 1920 then some (istr i) else none
  | .str x => if x.length ≤ 16000000 then some x else none
  | _ => none
def cat (acc y : Str) : Option Str := if (acc ++ y).length ≤ 16000000 then some (acc ++ y) else none
def lines (xs : List Str) : D := .lst (xs.map .str)
def split2 : D → D → Option D
  | .str x, .str y => if (y.length == 0) = false ∧ x.length ≤ 16000000 then some (lines (Txt.split x y)) else none
  | _, _ => none
def split2L : D → D → Option (List D)
  | .str x, .str y => if (y.length == 0) = false ∧ x.length ≤ 16000000 then some ((Txt.split x y).map .str) else none
  | _, _ => none
def addL : D → D → Option (List D)
  | .lst xs, .lst ys => if xs.length + ys.length ≤ 1000000 then some (xs ++ ys) else none
  | _, _ => none
def asL : D → Option (List D)
  | .lst xs => some xs
  | _ => none
def split3 : D → D → D → Option D
  | .str x, .str y, .int n => if (y.length == 0) = false ∧ -(2 ^ 63) ≤ n ∧ n < 2 ^ 63 ∧ x.length ≤ 16000000 then some (lines (Txt.splitMax x y n)) else none
  | _, _, _ => none
def join : D → D → Option D
  | .str x, .lst ys => match strsD ys with
    | some l => if (l.map (·.length)).sum + l.length * x.length ≤ 16777216 then some (.str (Txt.join x l)) else none
    | none => none
  | _, _ => none
def un2 : D → Option (D × D)
  | .tup [a, b] => some (a, b)
  | _ => none
def un3 : D → Option (D × D × D)
  | .tup [a, b, c] => some (a, b, c)
  | _ => none
def un4 : D → Option (D × D × D × D)
  | .tup [a, b, c, d] => some (a, b, c, d)
  | _ => none
def un5 : D → Option (D × D × D × D × D)
  | .tup [a, b, c, d, e] => some (a, b, c, d, e)
  | _ => none
/-- lists that may change -/
def appL (xs : List D) (y : D) : Option (List D) := if xs.length ≤ 1000000 then some (xs ++ [y]) else none
def putL (xs : List D) : D → D → Option (List D)
  | .int i, y => (ixN xs.length i).map fun j => xs.set j y
  | _, _ => none
/-- the receiver of a text's method -/
def asS : D → Option Unit
  | .str _ => some ()
  | _ => none
def rngL (lo : Int) (n : Nat) : List D := (List.range n).map fun (k : Nat) => .int (lo + (k : Int))
def rng1 : D → Option (List D)
  | .int n => if n ≤ 1000000 ∧ -(2 ^ 62) ≤ n then some (rngL 0 n.toNat) else none
  | _ => none
def rng2 (i j : Int) : Option (List D) := if -(2 ^ 62) ≤ i ∧ i < 2 ^ 62 ∧ -(2 ^ 62) ≤ j ∧ j < 2 ^ 62 ∧ j - i ≤ 1000000 then some (rngL i (j - i).toNat) else none
end D
def XE.fld (y : XE) (n : Nat) : Option FV := y.fs.lookup n
end Dy

set_option Elab.async false
set_option linter.all false
set_option maxRecDepth 100000
set_option maxHeartbeats 2000000
namespace Dy
open PySem PySem.Spec PyProof.Rows L2 Ty
/-! ### names of attributes by numbers; where classes stand -/
def attrS : List String := ["_acts", "_books", "_deeds", "_disks", "_ground", "_leading", "_letters", "_life", "_log", "_made", "_noted", "_up", "_volumes", "_ways", "aheads", "aim", "answer", "asked", "at", "base", "book", "chapter", "count", "counts", "disk", "era", "fault", "first", "fresh", "front", "given", "ground", "heirs", "homes", "house", "houses", "k", "key", "known", "lacking", "last", "life", "line_keys", "lines", "logs", "made", "makers", "many", "near", "now", "number", "numbers", "order", "picture", "place", "read", "roads", "settled", "sides", "stage", "still", "synced", "taken", "text", "told", "tree", "u", "v", "waited", "ways", "why", "wished", "world", "x", "z"]
def attrs : List Str := attrS.map Str.ofString
def anm (i : Nat) : Str := attrs.getD i ""
theorem attrs_nodup : attrs.Nodup := by decide +kernel
theorem anm_inj {i j : Nat} (hi : i < attrs.length) (hj : j < attrs.length) (h : anm i = anm j) : i = j := by
  have e1 : attrs[i]? = some (anm i) := by unfold anm; rw [List.getD_eq_getElem?_getD]; simp [hi]
  have e2 : attrs[j]? = some (anm j) := by unfold anm; rw [List.getD_eq_getElem?_getD]; simp [hj]
  rw [h, ← e2] at e1
  exact (List.getElem?_inj hi attrs_nodup).mp e1
class CE where
  a : Nat → Addr
variable [CE]
def kDD : Key → D
  | .inl i => .int i
  | .inr x => .str x
/-- what is known of an own exception class whose objects are held as values -/
structure ExcK (K : PySem.W.Frag) (C : Addr) : Prop where
  ec : ExcC K C
  oq : PySem.W.mroIn K C (.type "object") = some true
  qq : PySem.W.findIn K (.ref C) "__eq__" = some (some (.builtin "object.__eq__"))
  ki : ∀ T ∈ (["str", "list", "tuple", "dict", "int", "bool"] : List String), PySem.W.kitOne K (.ref C) (.type T) = some false
mutual
inductive Rp (K : PySem.W.Frag) (B : Hp) : V → D → Prop
  | non : Rp K B .non .non
  | bl (b : Bool) : Rp K B (.bl b) (.bl b)
  | int (i : Int) : Rp K B (.int i) (.int i)
  | str (x : Str) : Rp K B (.str x) (.str x)
  | lst {a : Addr} {xs : List V} {ds : List D} : B a = some (.lst xs) → RpA K B xs ds → Rp K B (.ref a) (.lst ds)
  | tup {a : Addr} {xs : List V} {ds : List D} : SqT K B a xs → RpA K B xs ds → Rp K B (.ref a) (.tup ds)
  | dct {a : Addr} {kvs : List (Key × V)} {ds : List (D × D)} : B a = some (.dK kvs) → RpK K B kvs ds → Rp K B (.ref a) (.dct ds)
  | ins {a dx : Addr} {C : Nat} {vs : List (Str × V)} {fs : List (Nat × D)} : B a = some (.ins (CE.a C) dx vs) → RpF K B vs fs → Rp K B (.ref a) (.ins C fs)
  | exc {a dx : Addr} {C : Nat} {vs : List (Str × V)} {fs : List (Nat × D)} : ExcK K (CE.a C) → B a = some (exo a (CE.a C) (some dx)) → B dx = some (exd dx vs) → RpF K B vs fs → Rp K B (.ref a) (.exc C fs)
  | ref (a : Addr) : Rp K B (.ref a) (.ref a)
inductive RpA (K : PySem.W.Frag) (B : Hp) : List V → List D → Prop
  | nil : RpA K B [] []
  | cons {v : V} {vs : List V} {d : D} {ds : List D} : Rp K B v d → RpA K B vs ds → RpA K B (v :: vs) (d :: ds)
inductive RpK (K : PySem.W.Frag) (B : Hp) : List (Key × V) → List (D × D) → Prop
  | nil : RpK K B [] []
  | cons {k : Key} {v : V} {kvs : List (Key × V)} {d : D} {ds : List (D × D)} : Rp K B v d → RpK K B kvs ds → RpK K B ((k, v) :: kvs) ((kDD k, d) :: ds)
inductive RpF (K : PySem.W.Frag) (B : Hp) : List (Str × V) → List (Nat × D) → Prop
  | nil : RpF K B [] []
  | cons {n : Nat} {v : V} {vs : List (Str × V)} {d : D} {ds : List (Nat × D)} : n < attrs.length → Rp K B v d → RpF K B vs ds → RpF K B ((anm n, v) :: vs) ((n, d) :: ds)
end
mutual
theorem Rp.mono {K : PySem.W.Frag} {H H' : Hp} (e : Ex H H') : ∀ (d : D) (v : V), Rp K H v d → Rp K H' v d
  | .non, _, h => by cases h; exact .non
  | .bl _, _, h => by cases h; exact .bl _
  | .int _, _, h => by cases h; exact .int _
  | .str _, _, h => by cases h; exact .str _
  | .lst ds, _, h => by cases h with | lst h1 h2 => exact .lst (e _ _ h1) (Rp.monoA e ds _ h2)
  | .tup ds, _, h => by cases h with | tup h1 h2 => exact .tup (e.seqT h1) (Rp.monoA e ds _ h2)
  | .dct ds, _, h => by cases h with | dct h1 h2 => exact .dct (e _ _ h1) (Rp.monoK e ds _ h2)
  | .set _, _, h => by cases h
  | .ins C fs, _, h => by cases h with | ins h1 h2 => exact .ins (e _ _ h1) (Rp.monoF e fs _ h2)
  | .exc C fs, _, h => by cases h with | exc h0 h1 h2 h3 => exact .exc h0 (e _ _ h1) (e _ _ h2) (Rp.monoF e fs _ h3)
  | .ref a, _, h => by cases h; exact .ref a
theorem Rp.monoA {K : PySem.W.Frag} {H H' : Hp} (e : Ex H H') : ∀ (ds : List D) (vs : List V), RpA K H vs ds → RpA K H' vs ds
  | [], _, h => by cases h; exact .nil
  | d :: ds, _, h => by cases h with | cons h1 h2 => exact .cons (Rp.mono e d _ h1) (Rp.monoA e ds _ h2)
theorem Rp.monoK {K : PySem.W.Frag} {H H' : Hp} (e : Ex H H') : ∀ (ds : List (D × D)) (vs : List (Key × V)), RpK K H vs ds → RpK K H' vs ds
  | [], _, h => by cases h; exact .nil
  | (_, d) :: ds, _, h => by cases h with | cons h1 h2 => exact .cons (Rp.mono e d _ h1) (Rp.monoK e ds _ h2)
theorem Rp.monoF {K : PySem.W.Frag} {H H' : Hp} (e : Ex H H') : ∀ (ds : List (Nat × D)) (vs : List (Str × V)), RpF K H vs ds → RpF K H' vs ds
  | [], _, h => by cases h; exact .nil
  | (_, d) :: ds, _, h => by cases h with | cons h0 h1 h2 => exact .cons h0 (Rp.mono e d _ h1) (Rp.monoF e ds _ h2)
end
instance : Rep D := ⟨fun K B v d => Rp K B v d, fun e h => Rp.mono e _ _ h⟩
abbrev td (d : D) : TV := tv d
theorem RpA.reps {K : PySem.W.Frag} {B : Hp} : ∀ {vs : List V} {ds : List D}, RpA K B vs ds → Reps K B vs (ds.map td)
  | [], _, h => by cases h; exact .nil
  | v :: vs, _, h => by cases h with | cons a b => exact .cons a (RpA.reps b)
theorem RpA.of {K : PySem.W.Frag} {B : Hp} : ∀ {vs : List V} {ds : List D}, Reps K B vs (ds.map td) → RpA K B vs ds
  | [], [], _ => .nil
  | _ :: _, _ :: _, .cons a b => .cons a (RpA.of b)
/-! ### a cell: what may change, its content -/
def fT (fs : List (Nat × D)) : List (Str × TV) := fs.map fun q => (anm q.1, td q.2)
def mK (kvs : List (D × D)) : MV := ⟨fun K B o => ∃ vs, o = .dK vs ∧ RpK K B vs kvs, fun e ⟨vs, h1, h2⟩ => ⟨vs, h1, Rp.monoK e _ _ h2⟩⟩
def mC : D → MV
  | .lst xs => mL (xs.map td)
  | .dct kvs => mK kvs
  | .ins C fs => mI (CE.a C) (fT fs)
  | _ => ⟨fun _ _ _ => False, fun _ h => h⟩
def isCell : D → Bool
  | .lst _ => true
  | .dct _ => true
  | .ins _ fs => fs.all fun q => decide (q.1 < attrs.length)
  | _ => false
/-- t is d: as a value for good, or as a cell that has it now -/
def Vw (m : Mu) (t : TV) (d : D) : Prop := Cv t (td d) ∨ ∃ (p : Addr) (n : Nat), t = tv (Ref.mk p) ∧ m[n]? = some (p, mC d) ∧ isCell d = true
section
variable {m : Mu} {t : TV} {d : D} {K : PySem.W.Frag} {B H : Hp} {v : V}
theorem Vw.p : Vw m (td d) d := .inl Cv.rfl
theorem Vw.cell {p : Addr} (n : Nat) (h : m[n]? = some (p, mC d)) (c : isCell d = true) : Vw m (tv (Ref.mk p)) d := .inr ⟨p, n, rfl, h, c⟩
/-- one more cell ahead -/
theorem Vw.c {x : Addr × MV} (h : Vw m t d) : Vw (x :: m) t d := h.imp id fun ⟨p, n, e, h1, c⟩ => ⟨p, n + 1, e, h1, c⟩
theorem Vw.flat (h : Vw m t d) (c : isCell d = false) : Cv t (td d) := h.elim id fun ⟨_, _, _, _, c'⟩ => by rw [c] at c'; cases c'
theorem Vw.int {i : Int} (h : Vw m t (.int i)) : Cv t (tv i) := fun K B v r => by cases (show Rp K B v (.int i) from h.flat rfl K B v r); exact rfl
theorem Vw.str {i : Str} (h : Vw m t (.str i)) : Cv t (tv i) := fun K B v r => by cases (show Rp K B v (.str i) from h.flat rfl K B v r); exact rfl
theorem Vw.bl {i : Bool} (h : Vw m t (.bl i)) : Cv t (tv i) := fun K B v r => by cases (show Rp K B v (.bl i) from h.flat rfl K B v r); exact rfl
theorem Vw.non (h : Vw m t .non) : Cv t (tv ()) := fun K B v r => by cases (show Rp K B v .non from h.flat rfl K B v r); exact rfl
theorem cv_int {i : Int} : Cv (tv i) (td (.int i)) := fun K B v r => by rw [show v = .int i from r]; exact Rp.int i
theorem cv_str {i : Str} : Cv (tv i) (td (.str i)) := fun K B v r => by rw [show v = .str i from r]; exact Rp.str i
theorem cv_bl {i : Bool} : Cv (tv i) (td (.bl i)) := fun K B v r => by rw [show v = .bl i from r]; exact Rp.bl i
theorem cv_non {u : Unit} : Cv (tv u) (td .non) := fun K B v r => by rw [show v = .non from r]; exact Rp.non
theorem cv_hl {xs : List D} : Cv (hl (xs.map td)) (td (.lst xs)) := fun K B v ⟨a, vs, h1, h2, h3⟩ => by rw [h1]; exact Rp.lst h2 (RpA.of h3)
theorem cv_tl {xs : List D} : Cv (tl (xs.map td)) (td (.tup xs)) := fun K B v ⟨a, vs, h1, h2, h3⟩ => by rw [h1]; exact Rp.tup h2 (RpA.of h3)
theorem cv_lD {xs : List D} : Cv (tv xs) (td (.lst xs)) := fun K B v ⟨a, vs, h1, h2, h3⟩ => by rw [h1]; exact Rp.lst h2 (RpA.of (Reps.of_paired h3))
theorem of_cv_int {K : PySem.W.Frag} {B : Hp} {v : V} {i : Int} (h : TV.rep K B v (td (.int i))) : v = .int i := by cases (show Rp K B v (.int i) from h); rfl
theorem rp_strs {K : PySem.W.Frag} {B : Hp} : ∀ {vs : List V} {xs : List Str}, RpA K B vs (xs.map .str) → vs = xs.map V.str
  | _, [], h => by cases h; rfl
  | _, x :: xs, h => by cases h with | cons a b => cases a; rw [rp_strs b]; rfl
theorem rp_ints {K : PySem.W.Frag} {B : Hp} : ∀ {vs : List V} {xs : List Int}, RpA K B vs (xs.map .int) → vs = xs.map V.int
  | _, [], h => by cases h; rfl
  | _, x :: xs, h => by cases h with | cons a b => cases a; rw [rp_ints b]; rfl
theorem rp_bls {K : PySem.W.Frag} {B : Hp} : ∀ {vs : List V} {xs : List Bool}, RpA K B vs (xs.map .bl) → vs = xs.map V.bl
  | _, [], h => by cases h; rfl
  | _, x :: xs, h => by cases h with | cons a b => cases a; rw [rp_bls b]; rfl
theorem intsD_is : ∀ {xs : List D} {l : List Int}, D.intsD xs = some l → xs = l.map .int
  | [], _, h => by cases h; rfl
  | .int i :: xs, l, h => by
    simp only [D.intsD, Option.map_eq_some_iff] at h
    obtain ⟨r, hr, rfl⟩ := h
    rw [intsD_is hr]; rfl
theorem blsD_is : ∀ {xs : List D} {l : List Bool}, D.blsD xs = some l → xs = l.map .bl
  | [], _, h => by cases h; rfl
  | .bl i :: xs, l, h => by
    simp only [D.blsD, Option.map_eq_some_iff] at h
    obtain ⟨r, hr, rfl⟩ := h
    rw [blsD_is hr]; rfl
theorem strsD_is : ∀ {xs : List D} {l : List Str}, D.strsD xs = some l → xs = l.map .str
  | [], _, h => by cases h; rfl
  | .str i :: xs, l, h => by
    simp only [D.strsD, Option.map_eq_some_iff] at h
    obtain ⟨r, hr, rfl⟩ := h
    rw [strsD_is hr]; rfl
theorem Vw.lu {xs : List D} (h : Vw m t (.lst xs)) : LstU m t (xs.map td) := fun K B H v S r => by
  rcases h with h | ⟨p, n, e, h1, _⟩
  · have q := h K B v r
    cases (show Rp K B v (.lst xs) from q) with
    | lst ha hd => exact ⟨_, _, rfl, S.ex _ _ ha, hd.reps⟩
  · subst e
    exact lu_own (h := h1) K B H v S r
theorem Vw.tu {xs : List D} (h : Vw m t (.tup xs)) : TupU t (xs.map td) := fun K B v r => by
  cases (show Rp K B v (.tup xs) from h.flat rfl K B v r) with
  | tup ha hd => exact ⟨_, _, rfl, ha, hd.reps⟩
theorem dK_at {p : Addr} {n : Nat} {kvs : List (D × D)} (S : HpOk K B H m) (h : m[n]? = some (p, mK kvs)) : ∃ vs, H p = some (.dK vs) ∧ RpK K B vs kvs := by
  obtain ⟨_, o, ho, vs, e, r⟩ := S.at_ n p _ h
  subst e
  exact ⟨vs, ho, r⟩
theorem Vw.ty (h : Vw m t d) (hd : d.tyn ≠ "") : IsTyM m t d.tyn := fun K B H v S r => by
  rcases h with h | ⟨p, n, e, h1, c⟩
  · have q : Rp K B v d := h K B v r
    cases q with
    | non => exact .base .non
    | bl b => exact .base (.bl b)
    | int b => exact .base (.int b)
    | str b => exact .base (.str b)
    | lst ha _ => exact .base (.lst (S.ex _ _ ha))
    | tup ha _ =>
      rcases S.ex.seqT ha with (h | ⟨o, h⟩) | ⟨o, its, n, h, c, _⟩
      · exact .base (.tup h)
      · exact .fTuple h
      · exact .kTuple h c
    | dct ha _ => exact .base (.dK (S.ex _ _ ha))
    | ins _ _ => exact absurd rfl hd
    | exc _ _ _ _ => exact absurd rfl hd
    | ref _ => exact absurd rfl hd
  · subst e
    cases d with
    | lst xs => exact tym_lU (lu_own (h := h1)) K B H v S r
    | dct kvs =>
      obtain ⟨vs, h2, _⟩ := dK_at S h1
      rw [show v = .ref p from r]
      exact .base (.dK h2)
    | ins C fs => exact absurd rfl hd
    | _ => cases c
end
mutual
theorem Rp.dr {K : PySem.W.Frag} {B : Hp} : ∀ (d : D) (x : PyData) (v : V), d.py = some x → Rp K B v d → Dr K B v x
  | .non, x, v, e, h => by cases h; cases e; exact .non
  | .bl _, x, v, e, h => by cases h; cases e; exact .bl _
  | .int _, x, v, e, h => by cases h; cases e; exact .int _
  | .str _, x, v, e, h => by cases h; cases e; exact .str _
  | .lst ds, x, v, e, h => by
    cases h with
    | lst h1 h2 =>
      simp only [D.py, Option.map_eq_some_iff] at e
      obtain ⟨l, e, rfl⟩ := e
      exact .lst h1 (Rp.drA ds l _ e h2)
  | .tup ds, x, v, e, h => by
    cases h with
    | tup h1 h2 =>
      simp only [D.py, Option.map_eq_some_iff] at e
      obtain ⟨l, e, rfl⟩ := e
      exact .tup h1 (Rp.drA ds l _ e h2)
  | .dct ds, x, v, e, h => by
    cases h with
    | dct h1 h2 =>
      simp only [D.py, Option.map_eq_some_iff] at e
      obtain ⟨l, e, rfl⟩ := e
      exact .dct h1 (Rp.drK ds l _ e h2)
  | .set _, x, v, e, h => by cases h
  | .ins C fs, x, v, e, h => by simp [D.py] at e
  | .exc C fs, x, v, e, h => by simp [D.py] at e
  | .ref a, x, v, e, h => by simp [D.py] at e
theorem Rp.drA {K : PySem.W.Frag} {B : Hp} : ∀ (ds : List D) (l : List PyData) (vs : List V), D.pys ds = some l → RpA K B vs ds → DrAll K B vs l
  | [], l, vs, e, h => by cases h; simp only [D.pys, Option.some.injEq] at e; subst e; exact .nil
  | d :: ds, l, vs, e, h => by
    cases h with
    | cons h1 h2 =>
      simp only [D.pys] at e
      split at e
      · rename_i x xs e1 e2
        cases e
        exact .cons (Rp.dr d _ _ e1 h1) (Rp.drA ds _ _ e2 h2)
      · cases e
theorem Rp.drK {K : PySem.W.Frag} {B : Hp} : ∀ (ds : List (D × D)) (l : List (PyData × PyData)) (vs : List (Key × V)), D.pykv ds = some l → RpK K B vs ds → DrKv K B vs l
  | [], l, vs, e, h => by cases h; simp only [D.pykv, Option.some.injEq] at e; subst e; exact .nil
  | (k0, d) :: ds, l, vs, e, h => by
    cases h with
    | @cons k v kvs _ _ h1 h2 =>
      cases k with
      | inl i =>
        simp only [kDD, D.pykv] at e
        split at e
        · rename_i x xs hk e1 e2
          cases hk
          cases e
          exact .cons (k := .inl _) (Rp.dr d _ _ e1 h1) (Rp.drK ds _ _ e2 h2)
        · rename_i hk e1 e2
          cases hk
        · cases e
      | inr i =>
        simp only [kDD, D.pykv] at e
        split at e
        · rename_i hk e1 e2
          cases hk
        · rename_i x xs hk e1 e2
          cases hk
          cases e
          exact .cons (k := .inr _) (Rp.dr d _ _ e1 h1) (Rp.drK ds _ _ e2 h2)
        · cases e
end
theorem DrKv.mono' {K : PySem.W.Frag} {H H' : Hp} (e : Ex H H') {ds : List (PyData × PyData)} {vs : List (Key × V)} (h : DrKv K H vs ds) : DrKv K H' vs ds := Dr.monoKv e ds vs h
theorem Vw.asd {m : Mu} {t : TV} {d : D} {x : PyData} (h : Vw m t d) (e : d.py = some x) : AsD m t x := fun K B H v S r => by
  rcases h with h | ⟨p, n, et, h1, c⟩
  · exact Dr.mono S.ex _ _ (Rp.dr d x v e (h K B v r))
  · subst et
    cases d with
    | lst xs =>
      obtain ⟨a, vs, ev, hh, rr⟩ := lu_own (h := h1) K B H v S r
      simp only [D.py, Option.map_eq_some_iff] at e
      obtain ⟨l, e, rfl⟩ := e
      rw [ev]
      exact .lst hh (Dr.monoAll S.ex _ _ (Rp.drA xs l _ e (RpA.of rr)))
    | dct kvs =>
      obtain ⟨vs, h2, hr⟩ := dK_at S h1
      simp only [D.py, Option.map_eq_some_iff] at e
      obtain ⟨l, e, rfl⟩ := e
      rw [show v = .ref p from r]
      exact .dct h2 (Dr.monoKv S.ex _ _ (Rp.drK kvs l _ e hr))
    | ins C fs => simp [D.py] at e
    | _ => cases c
end Dy

set_option Elab.async false
set_option linter.all false
set_option maxRecDepth 100000
set_option maxHeartbeats 4000000
namespace Dy
open PySem PySem.Spec PyProof.Rows L2 Ty
variable [CE]
/-- the same answer, otherwise called -/
def Cp (P : TV → Mu → Prop) : TV → Mu → Prop := fun z m' => ∃ w, Cv z w ∧ P w m'
section
variable {X : Cx} {Z : Zs} {ρ : TEnv} {m : Mu} {P : TV → Mu → Prop} {t u t' u' : TV} {f : Value → Value → Sem Value} {g : Value} {ts ts' : List TV} {id : String} {lo hi : Option Int}
theorem OpP.out (h : OpP X Z f t u m (Cp P)) : OpP X Z f t u m P := fun B H Q v w hS hv hu k => h B H Q v w hS hv hu fun v' B' H' m' z a b c ⟨w, cv, p⟩ => k v' B' H' m' w a b (cv _ _ _ c) p
theorem OpP.cv (h : OpP X Z f t' u' m P) (c1 : Cv t t') (c2 : Cv u u') : OpP X Z f t u m P := fun B H Q v w hS hv hu k => h B H Q v w hS (c1 _ _ _ hv) (c2 _ _ _ hu) k
theorem CallP.out (h : CallP X Z g ts m (Cp P)) : CallP X Z g ts m P := fun B H Q v hS hv k => h B H Q v hS hv fun v' B' H' m' z a b c ⟨w, cv, p⟩ => k v' B' H' m' w a b (cv _ _ _ c) p
theorem CallP.cv (h : CallP X Z g ts' m P) (c : Cvs ts ts') : CallP X Z g ts m P := fun B H Q v hS hv k => h B H Q v hS (c.reps hv) k
theorem MetP.out (h : MetP X Z id t ts m (Cp P)) : MetP X Z id t ts m P := fun B H Q v w hS hv hu k => h B H Q v w hS hv hu fun v' B' H' m' z a b c ⟨w, cv, p⟩ => k v' B' H' m' w a b (cv _ _ _ c) p
theorem MetP.cv (h : MetP X Z id t' ts' m P) (c1 : Cv t t') (c2 : Cvs ts ts') : MetP X Z id t ts m P := fun B H Q v w hS hv hu k => h B H Q v w hS (c1 _ _ _ hv) (c2.reps hu) k
theorem IxP.out (h : IxP X Z t u m (Cp P)) : IxP X Z t u m P := fun B H Q v w hS hv hu k => h B H Q v w hS hv hu fun v' B' H' m' z a b c ⟨w, cv, p⟩ => k v' B' H' m' w a b (cv _ _ _ c) p
theorem IxP.cv (h : IxP X Z t' u' m P) (c1 : Cv t t') (c2 : Cv u u') : IxP X Z t u m P := fun B H Q v w hS hv hu k => h B H Q v w hS (c1 _ _ _ hv) (c2 _ _ _ hu) k
theorem SlP.out (h : SlP X Z t lo hi m (Cp P)) : SlP X Z t lo hi m P := fun B H Q v hS hv k => h B H Q v hS hv fun v' B' H' m' z a b c ⟨w, cv, p⟩ => k v' B' H' m' w a b (cv _ _ _ c) p
theorem SlP.cv (h : SlP X Z t' lo hi m P) (c : Cv t t') : SlP X Z t lo hi m P := fun B H Q v hS hv k => h B H Q v hS (c _ _ _ hv) k
abbrev Cvs1 (h : Cv t t') : Cvs [t] [t'] := .cons h .nil
abbrev Cvs2 (h : Cv t t') (h2 : Cv u u') : Cvs [t, u] [t', u'] := .cons h (.cons h2 .nil)
variable {pos : Pos} {j : Nat}
/-! ### constants, names of constants -/
theorem e_int {i : Int} (h : P (td (.int i)) m) : We X Z (.Constant (.int i) j pos) ρ m P := we_cv (we_int ⟨_, cv_int, h⟩)
theorem e_bool {i : Bool} (h : P (td (.bl i)) m) : We X Z (.Constant (.bool i) j pos) ρ m P := we_cv (we_bool ⟨_, cv_bl, h⟩)
theorem e_str {i : Str} (h : P (td (.str i)) m) : We X Z (.Constant (.str i) j pos) ρ m P := we_cv (we_str ⟨_, cv_str, h⟩)
theorem e_none (h : P (td .non) m) : We X Z (.Constant .none j pos) ρ m P := we_cv (we_none ⟨_, cv_non, h⟩)
theorem e_globI {x : Str} {i : Int} (hm : ∃ t, X.mg x = some (.int i t)) (h : P (td (.int i)) m) (hg : Gl X x := by rfl) (hd : (x == ("__debug__" : Str)) = false := by decide) : We X Z (.Name x pos) ρ m P := we_cv (we_globI hm ⟨_, cv_int, h⟩ hg hd)
theorem e_globS {x : Str} {i : Str} (hm : ∃ t, X.mg x = some (.str i t)) (h : P (td (.str i)) m) (hg : Gl X x := by rfl) (hd : (x == ("__debug__" : Str)) = false := by decide) : We X Z (.Name x pos) ρ m P := we_cv (we_globS hm ⟨_, cv_str, h⟩ hg hd)
end
section
variable {X : Cx} {Z : Zs} {ρ : TEnv} {m : Mu} {P : TV → Mu → Prop} {t u w : TV} {a b c d : D} {β : Type} {Q : β → Prop} {E : XE → Prop} {n : Nat}
/-! ### operators -/
section
variable {k : D → Res β}
theorem o_add (va : Vw m t a) (vb : Vw m u b) (hT : Ok (bo (D.add a b) k) Q E) (h : ∀ d, Ok (k d) Q E → P (td d) m) : OpP X Z (binaryOp .Add) t u m P := by
  obtain ⟨d, e, hT⟩ := hT.get
  have h := h d hT
  unfold D.add at e
  split at e
  · cases e
    exact OpP.cv (OpP.out (add_ii ⟨_, cv_int, h⟩)) va.int vb.int
  · split at e
    · rename_i hz
      cases e
      exact OpP.cv (OpP.out (add_ss hz ⟨_, cv_str, h⟩)) va.str vb.str
    · cases e
  · split at e
    · rename_i hz
      cases e
      refine OpP.out (add_lU va.lu vb.lu (by simpa using hz) ⟨_, ?_, h⟩)
      rw [← List.map_append]
      exact cv_hl
    · cases e
  · cases e
theorem o_sub (va : Vw m t a) (vb : Vw m u b) (hT : Ok (bo (D.sub a b) k) Q E) (h : ∀ d, Ok (k d) Q E → P (td d) m) : OpP X Z (binaryOp .Sub) t u m P := by
  obtain ⟨d, e, hT⟩ := hT.get
  have h := h d hT
  unfold D.sub at e
  split at e
  · cases e
    exact OpP.cv (OpP.out (sub_ii ⟨_, cv_int, h⟩)) va.int vb.int
  · cases e
theorem o_mul (va : Vw m t a) (vb : Vw m u b) (hT : Ok (bo (D.mul a b) k) Q E) (h : ∀ d, Ok (k d) Q E → P (td d) m) : OpP X Z (binaryOp .Mult) t u m P := by
  obtain ⟨d, e, hT⟩ := hT.get
  have h := h d hT
  unfold D.mul at e
  split at e
  · split at e
    · rename_i hz
      cases e
      exact OpP.cv (OpP.out (mul_ii hz ⟨_, cv_int, h⟩)) va.int vb.int
    · cases e
  · split at e
    · rename_i hz
      cases e
      exact OpP.cv (OpP.out (mul_si hz.1 hz.2.1 hz.2.2 ⟨_, cv_str, h⟩)) va.str vb.int
    · cases e
  · cases e
theorem o_fdiv (va : Vw m t a) (vb : Vw m u b) (hT : Ok (bo (D.fdiv a b) k) Q E) (h : ∀ d, Ok (k d) Q E → P (td d) m) : OpP X Z (binaryOp .FloorDiv) t u m P := by
  obtain ⟨d, e, hT⟩ := hT.get
  have h := h d hT
  unfold D.fdiv at e
  split at e
  · split at e
    · rename_i hz
      cases e
      exact OpP.cv (OpP.out (fdiv_ii hz ⟨_, cv_int, h⟩)) va.int vb.int
    · cases e
  · cases e
theorem o_mod (va : Vw m t a) (vb : Vw m u b) (hT : Ok (bo (D.mod a b) k) Q E) (h : ∀ d, Ok (k d) Q E → P (td d) m) : OpP X Z (binaryOp .Mod) t u m P := by
  obtain ⟨d, e, hT⟩ := hT.get
  have h := h d hT
  unfold D.mod at e
  split at e
  · split at e
    · rename_i hz
      cases e
      exact OpP.cv (OpP.out (mod_ii hz ⟨_, cv_int, h⟩)) va.int vb.int
    · cases e
  · cases e
theorem o_pow (va : Vw m t a) (vb : Vw m u b) (hT : Ok (bo (D.pow a b) k) Q E) (h : ∀ d, Ok (k d) Q E → P (td d) m) : OpP X Z (binaryOp .Pow) t u m P := by
  obtain ⟨d, e, hT⟩ := hT.get
  have h := h d hT
  unfold D.pow at e
  split at e
  · split at e
    · rename_i hz
      cases e
      exact OpP.cv (OpP.out (pow_ii hz ⟨_, cv_int, h⟩)) va.int vb.int
    · cases e
  · cases e
theorem e_neg {ex : Expr} {pos : Pos} (h : We X Z ex ρ m fun t m1 => ∃ a : D, Vw m1 t a ∧ Sm (D.neg a) fun d => P (td d) m1) : We X Z (.UnaryOp .USub ex pos) ρ m P :=
  we_cv (we_neg (we_cv (h.imp fun t m1 ⟨a, va, hT⟩ => by
    obtain ⟨d, e, h⟩ := hT.get
    unfold D.neg at e
    split at e
    · cases e
      exact ⟨_, va.int, _, rfl, _, cv_int, h⟩
    · cases e)))
end
/-! ### comparisons -/
section
variable {k : Bool → Res β}
theorem o_lt (va : Vw m t a) (vb : Vw m u b) (hT : Ok (bo (D.lt a b) k) Q E) (h : ∀ d, Ok (k d) Q E → P (tv d) m) : OpP X Z (compareOp .Lt) t u m P := by
  obtain ⟨d, e, hT⟩ := hT.get
  have h := h d hT
  unfold D.lt at e
  split at e
  · cases e
    exact OpP.cv (lt_ii h) va.int vb.int
  · rename_i x y
    cases e
    have q : OpP X Z (compareOp .Lt) (tv x) (tv y) m P := OpP.of op_lt_str fun B H Q v u hS hv hu k => ⟨x, y, hv, hu, k _ B H m _ (Ex.refl _) hS (rep_bool _) h⟩
    exact OpP.cv q va.str vb.str
  · cases e
theorem o_le (va : Vw m t a) (vb : Vw m u b) (hT : Ok (bo (D.le a b) k) Q E) (h : ∀ d, Ok (k d) Q E → P (tv d) m) : OpP X Z (compareOp .LtE) t u m P := by
  obtain ⟨d, e, hT⟩ := hT.get
  have h := h d hT
  unfold D.le at e
  split at e
  · cases e
    exact OpP.cv (le_ii h) va.int vb.int
  · cases e
    exact OpP.cv (le_ss h) va.str vb.str
  · cases e
theorem o_gt (va : Vw m t a) (vb : Vw m u b) (hT : Ok (bo (D.gt a b) k) Q E) (h : ∀ d, Ok (k d) Q E → P (tv d) m) : OpP X Z (compareOp .Gt) t u m P := by
  obtain ⟨d, e, hT⟩ := hT.get
  have h := h d hT
  unfold D.gt at e
  split at e
  · cases e
    exact OpP.cv (gt_ii h) va.int vb.int
  · cases e
theorem o_ge (va : Vw m t a) (vb : Vw m u b) (hT : Ok (bo (D.ge a b) k) Q E) (h : ∀ d, Ok (k d) Q E → P (tv d) m) : OpP X Z (compareOp .GtE) t u m P := by
  obtain ⟨d, e, hT⟩ := hT.get
  have h := h d hT
  unfold D.ge at e
  split at e
  · cases e
    exact OpP.cv (ge_ii h) va.int vb.int
  · cases e
theorem eqF_v {a b : D} {r : Bool} (e : D.eqF a b = some r) : ∃ v u : V, (∀ {K B w}, Rp K B w a → w = v) ∧ (∀ {K B w}, Rp K B w b → w = u) ∧ scal v u = true ∧ decide (v = u) = r ∧ isCell a = false ∧ isCell b = false := by
  unfold D.eqF at e
  split at e <;> first | (cases e; done) | skip
  · cases e; exact ⟨.non, .non, fun h => by cases h; rfl, fun h => by cases h; rfl, rfl, by decide, rfl, rfl⟩
  · rename_i i j; cases e; exact ⟨.int i, .int j, fun h => by cases h; rfl, fun h => by cases h; rfl, rfl, decide_eq_decide.mpr ⟨fun q => V.int.inj q, fun q => congrArg V.int q⟩, rfl, rfl⟩
  · rename_i i j; cases e; exact ⟨.bl i, .bl j, fun h => by cases h; rfl, fun h => by cases h; rfl, rfl, decide_eq_decide.mpr ⟨fun q => V.bl.inj q, fun q => congrArg V.bl q⟩, rfl, rfl⟩
  · rename_i i j; cases e; exact ⟨.str i, .str j, fun h => by cases h; rfl, fun h => by cases h; rfl, rfl, decide_eq_decide.mpr ⟨fun q => V.str.inj q, fun q => congrArg V.str q⟩, rfl, rfl⟩
  · rename_i i; cases e; exact ⟨.non, .int i, fun h => by cases h; rfl, fun h => by cases h; rfl, rfl, by simp, rfl, rfl⟩
  · rename_i i; cases e; exact ⟨.int i, .non, fun h => by cases h; rfl, fun h => by cases h; rfl, rfl, by simp, rfl, rfl⟩
  · rename_i i; cases e; exact ⟨.non, .bl i, fun h => by cases h; rfl, fun h => by cases h; rfl, rfl, by simp, rfl, rfl⟩
  · rename_i i; cases e; exact ⟨.bl i, .non, fun h => by cases h; rfl, fun h => by cases h; rfl, rfl, by simp, rfl, rfl⟩
  · rename_i i; cases e; exact ⟨.non, .str i, fun h => by cases h; rfl, fun h => by cases h; rfl, rfl, by simp, rfl, rfl⟩
  · rename_i i; cases e; exact ⟨.str i, .non, fun h => by cases h; rfl, fun h => by cases h; rfl, rfl, by simp, rfl, rfl⟩
  · rename_i i j; cases e; exact ⟨.int i, .str j, fun h => by cases h; rfl, fun h => by cases h; rfl, rfl, by simp, rfl, rfl⟩
  · rename_i i j; cases e; exact ⟨.str i, .int j, fun h => by cases h; rfl, fun h => by cases h; rfl, rfl, by simp, rfl, rfl⟩
  · rename_i i j; cases e; exact ⟨.bl i, .str j, fun h => by cases h; rfl, fun h => by cases h; rfl, rfl, by simp, rfl, rfl⟩
  · rename_i i j; cases e; exact ⟨.str i, .bl j, fun h => by cases h; rfl, fun h => by cases h; rfl, rfl, by simp, rfl, rfl⟩
variable {kr : Nat}
theorem eqP_v {a b : D} {r : Bool} (e : D.eqP a b = some r) : ∃ x y, a.py = some x ∧ b.py = some y ∧ SeqAt.shaped x = true ∧ SeqAt.shaped y = true ∧ PyData.eqv x y = r := by
  unfold D.eqP at e
  split at e
  · rename_i x y e1 e2
    split at e
    · rename_i hz
      cases e
      exact ⟨x, y, e1, e2, hz.1, hz.2, rfl⟩
    · cases e
  · cases e
theorem o_eq (hr : RmH kr X.A) (hsys : (X.base.get? sysModules).isSome = true) (va : Vw m t a) (vb : Vw m u b) (hT : Ok (bo (D.eq a b) k) Q E) (h : ∀ d, Ok (k d) Q E → P (tv d) m) (hK : X.K = Z.K := by rfl) : OpP X Z (compareOp .Eq) t u m P := by
  obtain ⟨d, e, hT⟩ := hT.get
  have h := h d hT
  unfold D.eq at e
  split at e
  · rename_i r e1
    cases e
    obtain ⟨v, w, h1, h2, hs, hd, c1, c2⟩ := eqF_v e1
    refine OpP.of op_eq fun B H Q v' u' hS hv hu k => ?_
    rw [h1 (va.flat c1 _ _ _ hv), h2 (vb.flat c2 _ _ _ hu)]
    exact ⟨hs, k _ B H m _ (Ex.refl _) hS (rep_bool _) (by rw [hd]; exact h)⟩
  · obtain ⟨x, y, e1, e2, s1, s2, e3⟩ := eqP_v e
    exact eq_d (va.asd e1) (vb.asd e2) hr hsys s1 s2 (by rw [e3]; exact h) hK
theorem o_ne (hr : RmH kr X.A) (hsys : (X.base.get? sysModules).isSome = true) (va : Vw m t a) (vb : Vw m u b) (hT : Ok (bo (D.ne a b) k) Q E) (h : ∀ d, Ok (k d) Q E → P (tv d) m) (hK : X.K = Z.K := by rfl) : OpP X Z (compareOp .NotEq) t u m P := by
  obtain ⟨d, e, hT⟩ := hT.get
  have h := h d hT
  unfold D.ne at e
  obtain ⟨r, e0, er⟩ := Option.map_eq_some_iff.mp e
  subst er
  clear e
  have e := e0
  clear e0
  unfold D.eq at e
  split at e
  · rename_i r' e1
    obtain rfl : r' = r := Option.some.inj e
    obtain ⟨v, w, h1, h2, hs, hd, c1, c2⟩ := eqF_v e1
    refine OpP.of op_ne fun B H Q v' u' hS hv hu k => ?_
    rw [h1 (va.flat c1 _ _ _ hv), h2 (vb.flat c2 _ _ _ hu)]
    exact ⟨hs, k _ B H m _ (Ex.refl _) hS (rep_bool _) (by rw [hd]; exact h)⟩
  · obtain ⟨x, y, e1, e2, s1, s2, e3⟩ := eqP_v e
    exact ne_d (va.asd e1) (vb.asd e2) hr hsys s1 s2 (by rw [e3]; exact h) hK
end
theorem Vw.none (va : Vw m t a) : IsNone t a.isNone := fun K B v r => by
  rcases va with h | ⟨p, i, rfl, _, c⟩
  · cases (show Rp K B v a from h K B v r) <;> first | rfl | exact decide_eq_false (fun q => nomatch q)
  · rw [show v = .ref p from r]
    cases a <;> first | rfl | cases c
theorem o_is (va : Vw m t a) (h : P (tv a.isNone) m) : OpP X Z (compareOp .Is) t (td .non) m P := OpP.cv (isN va.none h) Cv.rfl (Vw.p (m := m)).non
theorem o_isnot (va : Vw m t a) (h : P (tv (!a.isNone)) m) : OpP X Z (compareOp .IsNot) t (td .non) m P := OpP.cv (notN va.none h) Cv.rfl (Vw.p (m := m)).non
/-! ### in -/
theorem rp_flat {K : PySem.W.Frag} {B : Hp} {v : V} {d : D} (h : Rp K B v d) (f : d.flat = true) : flatV v = true := by cases h <;> first | rfl | cases f
theorem rp_eqF {K : PySem.W.Frag} {B : Hp} {v v' : V} {d d' : D} (h : Rp K B v d) (h' : Rp K B v' d') (f : d.flat = true) (f' : d'.flat = true) : eqV v v' = D.eqFB d d' := by
  cases h <;> (first | (cases f; done) | skip) <;> (cases h' <;> (first | (cases f'; done) | rfl))
theorem any_eq {K : PySem.W.Frag} {B : Hp} {v : V} {d : D} (h : Rp K B v d) (f : d.flat = true) : ∀ {vs : List V} {ds : List D}, RpA K B vs ds → ds.all D.flat = true → vs.all flatV = true ∧ inV v vs = ds.any fun y => D.eqFB y d
  | _, [], r, _ => by cases r; exact ⟨rfl, rfl⟩
  | _, x :: ds, r, a => by
    cases r with
    | cons r1 r2 =>
      simp only [List.all_cons, Bool.and_eq_true] at a
      obtain ⟨h1, h2⟩ := any_eq h f r2 a.2
      refine ⟨by rw [List.all_cons, h1, rp_flat r1 a.1]; rfl, ?_⟩
      unfold inV at h2 ⊢
      rw [List.any_cons, List.any_cons, h2, rp_eqF r1 h a.1 f]
theorem flat_cell {a : D} (f : a.flat = true) : isCell a = false := by cases a <;> first | rfl | cases f
theorem mem_at {xs : List D} {B H : Hp} {v w : V} (hS : Sta Z B H m) (va : Vw m t a) (vb : Vw m u (.lst xs) ∨ Vw m u (.tup xs)) (hv : TV.rep Z.K B v t) (hw : TV.rep Z.K B w u) (f : a.flat = true) (fs : xs.all D.flat = true) :
    ∃ p vs, w = .ref p ∧ (SqL Z.K H p vs ∨ SqT Z.K H p vs) ∧ flatV v = true ∧ vs.all flatV = true ∧ inV v vs = xs.any fun y => D.eqFB y a := by
  have ra : Rp Z.K B v a := va.flat (flat_cell f) _ _ _ hv
  rcases vb with vb | vb
  · obtain ⟨p, vs, ew, hq, rr⟩ := lstU_at vb.lu hS hw
    obtain ⟨h1, h2⟩ := any_eq ra f (RpA.of rr) fs
    exact ⟨p, vs, ew, .inl (.of hq), rp_flat ra f, h1, h2⟩
  · obtain ⟨p, vs, ew, hq, rr⟩ := vb.tu _ _ _ hw
    obtain ⟨h1, h2⟩ := any_eq ra f (RpA.of rr) fs
    exact ⟨p, vs, ew, .inr (hS.ex.seqT hq), rp_flat ra f, h1, h2⟩
section
variable {k : Bool → Res β}
theorem o_in (va : Vw m t a) (vb : Vw m u b) (hT : Ok (bo (D.mem a b) k) Q E) (h : ∀ d, Ok (k d) Q E → P (tv d) m) (hK : X.K = Z.K := by rfl) : OpP X Z (compareOp .In) t u m P := by
  obtain ⟨d, e, hT⟩ := hT.get
  have h := h d hT
  unfold D.mem at e
  split at e
  · split at e
    · split at e
      · rename_i y _ x _ c hc
        cases e
        have ex : x = ⟨#[c]⟩ := str_ext hc
        subst ex
        exact OpP.cv (in_cs h) va.str vb.str
      · cases e
    · cases e
  · split at e
    · rename_i xs hz
      cases e
      simp only [Bool.and_eq_true] at hz
      refine OpP.of op_in_seq fun B H Q v w hS hv hw q => ?_
      obtain ⟨p, vs, ew, hq, f1, f2, e3⟩ := mem_at hS va (.inl vb) hv hw hz.1 hz.2
      exact ⟨p, vs, ew, by rw [hK]; exact hq, f1, f2, by rw [e3]; exact q _ B H m _ (Ex.refl _) hS (rep_bool _) h⟩
    · cases e
  · split at e
    · rename_i xs hz
      cases e
      simp only [Bool.and_eq_true] at hz
      refine OpP.of op_in_seq fun B H Q v w hS hv hw q => ?_
      obtain ⟨p, vs, ew, hq, f1, f2, e3⟩ := mem_at hS va (.inr vb) hv hw hz.1 hz.2
      exact ⟨p, vs, ew, by rw [hK]; exact hq, f1, f2, by rw [e3]; exact q _ B H m _ (Ex.refl _) hS (rep_bool _) h⟩
    · cases e
  · cases e
theorem o_notin (va : Vw m t a) (vb : Vw m u b) (hT : Ok (bo (D.mem a b) k) Q E) (h : ∀ d, Ok (k d) Q E → P (tv (!d)) m) (hK : X.K = Z.K := by rfl) : OpP X Z (compareOp .NotIn) t u m P := by
  obtain ⟨d, e, hT⟩ := hT.get
  have h := h d hT
  unfold D.mem at e
  split at e
  · split at e
    · split at e
      · rename_i y _ x _ c hc
        cases e
        have ex : x = ⟨#[c]⟩ := str_ext hc
        subst ex
        exact OpP.cv (notIn_cs h) va.str vb.str
      · cases e
    · cases e
  · split at e
    · rename_i xs hz
      cases e
      simp only [Bool.and_eq_true] at hz
      refine OpP.of op_notIn_seq fun B H Q v w hS hv hw q => ?_
      obtain ⟨p, vs, ew, hq, f1, f2, e3⟩ := mem_at hS va (.inl vb) hv hw hz.1 hz.2
      exact ⟨p, vs, ew, by rw [hK]; exact hq, f1, f2, by rw [e3]; exact q _ B H m _ (Ex.refl _) hS (rep_bool _) h⟩
    · cases e
  · split at e
    · rename_i xs hz
      cases e
      simp only [Bool.and_eq_true] at hz
      refine OpP.of op_notIn_seq fun B H Q v w hS hv hw q => ?_
      obtain ⟨p, vs, ew, hq, f1, f2, e3⟩ := mem_at hS va (.inr vb) hv hw hz.1 hz.2
      exact ⟨p, vs, ew, by rw [hK]; exact hq, f1, f2, by rw [e3]; exact q _ B H m _ (Ex.refl _) hS (rep_bool _) h⟩
    · cases e
  · cases e
end
end
end Dy

set_option Elab.async false
set_option linter.all false
set_option maxRecDepth 100000
set_option maxHeartbeats 4000000
namespace Dy
open PySem PySem.Spec PyProof.Rows L2 Ty
variable [CE]
theorem rpt {K : PySem.W.Frag} {B : Hp} {v : V} {d : D} (h : Rp K B v d) : TV.rep K B v (td d) := h
theorem WpA.imp {Z : Zs} {t : TA} {ρ : TEnv} {m : Mu} {P P' : List TV → Mu → Prop} (h : WpA Z t ρ m P) (k : ∀ x m', P x m' → P' x m') : WpA Z t ρ m P' :=
  fun σ B H Q e s q => h σ B H Q e s fun v B' H' m' x a b c d => q v B' H' m' x a b c (k _ _ d)
section
variable {α β : Type} {Q : β → Prop} {E : XE → Prop}
/-- behind a call of a def that does not raise -/
theorem sm_s {o : Option α} {k : α → Res β} {Q' : α → Prop} (hT : Ok (bo o k) Q E) (h : ∀ d, Ok (k d) Q E → Q' d) : Sm o Q' := by
  obtain ⟨a, e, hT⟩ := hT.get
  exact Sm.of e (h a hT)
/-! ### exceptions as values of the typed layer -/
def FV.tv (ts : List TV) : FV → TV
  | .arg i => ts.getD i (td .non)
  | .dat d => td d
def XE.xv (ts : List TV) (y : XE) : XV := ⟨.ref (CE.a y.cls), y.fs.map fun q => (anm q.1, q.2.tv ts)⟩
theorem fv_sub {l : List FV} {ts : List TV} (v : FV) : (v.sub l).tv ts = v.tv (l.map (FV.tv ts)) := by
  cases v with
  | dat d => rfl
  | arg i =>
    show (l.getD i (.dat .non)).tv ts = (l.map (FV.tv ts)).getD i (td .non)
    rw [List.getD_eq_getElem?_getD, List.getD_eq_getElem?_getD, List.getElem?_map]
    cases l[i]? <;> rfl
theorem xv_sub {l : List FV} {ts : List TV} (y : XE) : (y.sub l).xv ts = y.xv (l.map (FV.tv ts)) := by
  unfold XE.xv XE.sub
  dsimp only
  rw [List.map_map]
  congr 1
  refine List.map_congr_left fun q _ => ?_
  show (anm q.1, (q.2.sub l).tv ts) = _
  rw [fv_sub]
/-- behind a call of a def that may raise -/
theorem ok_s {r : Res α} {l : List FV} {k : α → Res β} {xp : XV → Mu → Prop} {m0 : Mu} {ts us : List TV} {Q' : α → Prop} {E' : XE → Prop} (hT : Ok (bx r l k) Q fun y => xp (y.xv ts) m0) (hl : l.map (FV.tv ts) = us)
    (h : ∀ d, Ok (k d) Q (fun y => xp (y.xv ts) m0) → Q' d) (hx : ∀ y, xp (y.xv us) m0 → E' y) : Ok r Q' E' := by
  refine (Ok.bx.mp hT).imp h fun y hy => hx y ?_
  have e := xv_sub (l := l) (ts := ts) y
  rw [hl] at e
  rw [← e]
  exact hy
theorem xt_drop {X : Cx} {Z : Zs} {xp : XV → Mu → Prop} (h : XT X Z fun y _ m => xp y m) : XT X Z fun y _ m => ∃ m', m'.Sublist m ∧ xp y m' :=
  h.imp fun c d σ H ⟨ρ, B, m, y, a, b, r, m', s, p⟩ => ⟨ρ, B, m', y, a, b.sub s, r, p⟩
end
section
variable {X : Cx} {Z : Zs} {ρ : TEnv} {m : Mu} {P : TV → Mu → Prop} {PB : Bool → Mu → Prop} {t u w : TV} {a b c d : D} {β : Type} {Q : β → Prop} {E : XE → Prop} {n kr : Nat} {e : Expr} {es : List Expr} {pos : Pos}
/-! ### subscripts -/
theorem atT_map {α γ : Type _} {f : α → γ} {xs : List α} {i : Int} : Ty.atT (xs.map f) i = (Ty.atT xs i).map f := by
  unfold Ty.atT
  rw [List.length_map]
  cases ixN xs.length i with
  | none => rfl
  | some j => show (xs.map f)[j]? = (xs[j]?).map f; rw [List.getElem?_map]
section
variable {k : D → Res β}
theorem o_ix (va : Vw m t a) (vb : Vw m u b) (hT : Ok (bo (D.ix a b) k) Q E) (h : ∀ d, Ok (k d) Q E → P (td d) m) (hK : X.K = Z.K := by rfl) : IxP X Z t u m P := by
  obtain ⟨d, e, hT⟩ := hT.get
  have h := h d hT
  unfold D.ix at e
  split at e
  · refine IxP.cv (ix_lU va.lu (u := td d) ?_ h hK) Cv.rfl vb.int
    rw [atT_map, e]; rfl
  · refine IxP.cv (ix_tupU va.tu (u := td d) ?_ h hK) Cv.rfl vb.int
    rw [atT_map, e]; rfl
  · split at e
    · rename_i hz
      obtain ⟨c, hc, rfl⟩ := Option.map_eq_some_iff.mp e
      exact IxP.cv (IxP.out (ix_s hz hc ⟨_, cv_str, h⟩)) va.str vb.int
    · cases e
  · cases e
theorem cut_map {xs : List D} {l u : Option Int} : cutT (xs.map td) l u = (D.cutL xs l u).map td := by
  unfold cutT D.cutL
  rw [List.length_map, List.map_take, List.map_drop]
theorem o_sl {l u : Option Int} (va : Vw m t a) (hT : Ok (bo (D.slice a l u) k) Q E) (h : ∀ d, Ok (k d) Q E → P (td d) m) (hK : X.K = Z.K := by rfl) : SlP X Z t l u m P := by
  obtain ⟨d, e, hT⟩ := hT.get
  have h := h d hT
  unfold D.slice at e
  split at e
  · cases e
    refine SlP.out (sl_lU va.lu ⟨_, ?_, h⟩)
    rw [cut_map]
    exact cv_hl
  · cases e
    refine SlP.out (sl_tU va.tu ⟨_, ?_, h⟩ hK)
    rw [cut_map]
    exact cv_tl
  · split at e
    · rename_i hz
      cases e
      exact SlP.cv (SlP.out (sl_s hz ⟨_, cv_str, h⟩)) va.str
    · cases e
  · cases e
theorem e_part {RO : Option Int → Mu → Prop} (h : We X Z e ρ m fun t m1 => ∃ a : D, Vw m1 t a ∧ Sm (D.toInt a) fun i => RO (some i) m1) : Wo X Z (some e) ρ m RO :=
  wo_some (we_cv (Wp.imp h fun t m1 ⟨a, va, hT⟩ => by
    obtain ⟨i, e, h⟩ := hT.get
    unfold D.toInt at e
    split at e
    · cases e
      exact ⟨_, va.int, _, rfl, h⟩
    · cases e))
/-! ### built-in functions -/
theorem o_len (va : Vw m t a) (hT : Ok (bo (D.len a) k) Q E) (h : ∀ d, Ok (k d) Q E → P (td d) m) (hK : X.K = Z.K := by rfl) : CallP X Z (.builtin "len") [t] m P := by
  obtain ⟨d, e, hT⟩ := hT.get
  have h := h d hT
  unfold D.len at e
  split at e
  · cases e
    exact CallP.out (len_lU va.lu (by rw [List.length_map]; exact ⟨_, cv_int, h⟩))
  · cases e
    exact CallP.out (len_tupU va.tu (by rw [List.length_map]; exact ⟨_, cv_int, h⟩) hK)
  · split at e
    · rename_i hz
      cases e
      exact CallP.cv (CallP.out (len_s hz ⟨_, cv_int, h⟩)) (Cvs1 va.str)
    · cases e
  · cases e
theorem o_abs (va : Vw m t a) (hT : Ok (bo (D.abs a) k) Q E) (h : ∀ d, Ok (k d) Q E → P (td d) m) : CallP X Z (.builtin "abs") [t] m P := by
  obtain ⟨d, e, hT⟩ := hT.get
  have h := h d hT
  unfold D.abs at e
  split at e
  · cases e
    exact CallP.cv (CallP.out (abs_i ⟨_, cv_int, h⟩)) (Cvs1 va.int)
  · cases e
theorem o_max2 (hc : X.calm = true) (va : Vw m t a) (vb : Vw m u b) (hT : Ok (bo (D.max2 a b) k) Q E) (h : ∀ d, Ok (k d) Q E → P (td d) m) : CallP X Z (.builtin "max") [t, u] m P := by
  obtain ⟨d, e, hT⟩ := hT.get
  have h := h d hT
  unfold D.max2 at e
  split at e
  · cases e
    exact CallP.cv (CallP.out (max_ii hc ⟨_, cv_int, h⟩)) (Cvs2 va.int vb.int)
  · cases e
theorem o_min2 (hc : X.calm = true) (va : Vw m t a) (vb : Vw m u b) (hT : Ok (bo (D.min2 a b) k) Q E) (h : ∀ d, Ok (k d) Q E → P (td d) m) : CallP X Z (.builtin "min") [t, u] m P := by
  obtain ⟨d, e, hT⟩ := hT.get
  have h := h d hT
  unfold D.min2 at e
  split at e
  · cases e
    exact CallP.cv (CallP.out (min_ii hc ⟨_, cv_int, h⟩)) (Cvs2 va.int vb.int)
  · cases e
theorem o_sum (hc : X.calm = true) (va : Vw m t a) (hT : Ok (bo (D.sum a) k) Q E) (h : ∀ d, Ok (k d) Q E → P (td d) m) (hK : X.K = Z.K := by rfl) : CallP X Z (.builtin "sum") [t] m P := by
  obtain ⟨d, e, hT⟩ := hT.get
  have h := h d hT
  unfold D.sum at e
  split at e
  · obtain ⟨l, hl, rfl⟩ := Option.map_eq_some_iff.mp e
    have ex := intsD_is hl
    subst ex
    refine CallP.of (cr_sum hc) fun B H Q vs hS hv k => ?_
    obtain ⟨v, rfl, r⟩ := reps1 hv
    obtain ⟨a, ws, ev, hq, rr⟩ := lstU_at va.lu hS r
    have e2 := rp_ints (RpA.of rr)
    subst e2
    exact ⟨a, l, by rw [ev], .of hq, k _ B H m _ (Ex.refl _) hS (rpt (Rp.int _)) h⟩
  · cases e
theorem o_all (hc : X.calm = true) (va : Vw m t a) (hT : Ok (bo (D.all a) k) Q E) (h : ∀ d, Ok (k d) Q E → P (td d) m) (hK : X.K = Z.K := by rfl) : CallP X Z (.builtin "all") [t] m P := by
  obtain ⟨d, e, hT⟩ := hT.get
  have h := h d hT
  unfold D.all at e
  split at e
  · obtain ⟨l, hl, rfl⟩ := Option.map_eq_some_iff.mp e
    have ex := blsD_is hl
    subst ex
    refine CallP.of (cr_all hc) fun B H Q vs hS hv k => ?_
    obtain ⟨v, rfl, r⟩ := reps1 hv
    obtain ⟨a, ws, ev, hq, rr⟩ := lstU_at va.lu hS r
    have e2 := rp_bls (RpA.of rr)
    subst e2
    exact ⟨a, l, by rw [ev], .of hq, k _ B H m _ (Ex.refl _) hS (rpt (Rp.bl _)) h⟩
  · cases e
theorem o_any (hc : X.calm = true) (va : Vw m t a) (hT : Ok (bo (D.any a) k) Q E) (h : ∀ d, Ok (k d) Q E → P (td d) m) (hK : X.K = Z.K := by rfl) : CallP X Z (.builtin "any") [t] m P := by
  obtain ⟨d, e, hT⟩ := hT.get
  have h := h d hT
  unfold D.any at e
  split at e
  · obtain ⟨l, hl, rfl⟩ := Option.map_eq_some_iff.mp e
    have ex := blsD_is hl
    subst ex
    refine CallP.of (cr_any hc) fun B H Q vs hS hv k => ?_
    obtain ⟨v, rfl, r⟩ := reps1 hv
    obtain ⟨a, ws, ev, hq, rr⟩ := lstU_at va.lu hS r
    have e2 := rp_bls (RpA.of rr)
    subst e2
    exact ⟨a, l, by rw [ev], .of hq, k _ B H m _ (Ex.refl _) hS (rpt (Rp.bl _)) h⟩
  · cases e
/-- data at a known place -/
structure Pin where
  p : Addr
  d : D
instance : Rep Pin := ⟨fun K B v x => v = .ref x.p ∧ Rp K B v x.d, fun e h => ⟨h.1, Rp.mono e _ _ h.2⟩⟩
theorem pin_cv {p : Addr} {d : D} : Cv (tv (Pin.mk p d)) (td d) := fun K B v h => h.2
theorem Vw.pin {m : Mu} {p : Addr} {d : D} : Vw m (tv (Pin.mk p d)) d := .inl pin_cv
theorem rpf_ns {K : PySem.W.Frag} {B : Hp} {v : V} {C : Nat} {fs : List (Nat × D)} (h : Rp K B v (.exc C fs)) : ∃ a dx vs, v = .ref a ∧ ExcK K (CE.a C) ∧ B a = some (exo a (CE.a C) (some dx)) ∧ B dx = some (exd dx vs) ∧ RpF K B vs fs := by
  cases h with
  | exc h0 h1 h2 h3 => exact ⟨_, _, _, rfl, h0, h1, h2, h3⟩
theorem exc_inst {pins : List (Addr × Obj)} {σ : L2.St} {B H : Hp} {s : Shared} {a dx C : Addr} {vs : List (Str × V)} (I : L2.Inv X pins σ H s) (h1 : H a = some (exo a C (some dx))) (h2 : H dx = some (exd dx vs)) : ∃ ox od, PySem.W.InstAt s.heap a ox C od := by
  obtain ⟨t1, g1⟩ := exo_at I.hok h1
  obtain ⟨mA, hns, _⟩ := exd_at I.hok h2
  obtain ⟨od, g2, _⟩ := lookIn_ns hns
  exact ⟨_, some od, g1, rfl, rfl, g2⟩
theorem o_isi {T : String} {k : Bool → Res β} (va : Vw m t a) (hT : Ok (bo (D.isi a T) k) Q E) (h : ∀ d, Ok (k d) Q E → P (tv d) m) (hK : X.K = Z.K := by rfl) : CallP X Z (.builtin "isinstance") [t, tv (Typ.mk T)] m P := by
  obtain ⟨d, e, hT⟩ := hT.get
  have h := h d hT
  unfold D.isi at e
  split at e
  · split at e
    · rename_i C fs hz
      cases e
      refine fun B H Q vs hS hv q pins s σ us I r => ?_
      obtain ⟨v, u, rfl, r1, r2⟩ := reps2 hv
      obtain ⟨a, dx, vs, ev, hx, g1, g2, _⟩ := rpf_ns (show Rp Z.K B v (.exc C fs) from va.flat rfl _ _ _ r1)
      subst ev
      obtain ⟨u1, u2, rfl, q1, q2⟩ := vals2 r
      obtain rfl : u1 = Value.ref a := q1
      rw [show u = .ty T from r2] at q2
      obtain rfl : u2 = Value.type T := q2
      obtain ⟨ox, od, J⟩ := exc_inst (B := B) I (hS.ex _ _ g1) (hS.ex _ _ g2)
      rw [← hK] at hx
      exact PySem.W.kia_one (PySem.W.ty_kitE hx.ec) I.kIn J (hx.ki T hz) (fun z => nomatch z) fun tk => ⟨.bl false, H, I.tok tk, rfl, q _ B H m _ (Ex.refl _) hS (rep_bool _) h⟩
    · cases e
  · split at e
    · cases e
    · rename_i hz
      exact isiM (va.ty hz) h e hK
theorem o_eqself {k : Bool → Res β} {p : Addr} (hr : RmH kr X.A) (hsys : (X.base.get? sysModules).isSome = true) (hT : Ok (bo (D.eqSelf a) k) Q E) (h : ∀ d, Ok (k d) Q E → P (tv d) m) (hK : X.K = Z.K := by rfl) : OpP X Z (compareOp .Eq) (tv (Pin.mk p a)) (tv (Pin.mk p a)) m P := by
  obtain ⟨d, e, hT1⟩ := hT.get
  have h' := h d hT1
  unfold D.eqSelf at e
  split at e
  · cases e
    refine fun B H Q v w hS hv hw q pins s σ vv uu I rv ru => ?_
    obtain ⟨ev, hv⟩ := (show v = .ref p ∧ Rp Z.K B v (.exc _ _) from hv)
    obtain ⟨ew, hw⟩ := (show w = .ref p ∧ Rp Z.K B w (.exc _ _) from hw)
    obtain ⟨a, dx, vs, ea, hx, g1, g2, _⟩ := rpf_ns hv
    subst ev ew
    cases ea
    obtain rfl : vv = Value.ref p := rv
    obtain rfl : uu = Value.ref p := ru
    obtain ⟨ox, od, J⟩ := exc_inst (B := B) I (hS.ex _ _ g1) (hS.ex _ _ g2)
    rw [← hK] at hx
    exact HN.rc_self (Nat.lt_of_le_of_lt (by omega : X.A.units ≤ X.A.units + 16 * kr + 200) hr.un) I.kIn J hx.oq hx.qq ⟨.bl true, H, I, rfl, q _ B H m _ (Ex.refl _) hS (rep_bool _) h'⟩
  · have hT2 : Ok (bo (D.eq a a) k) Q E := by
      rw [e]; exact hT1
    exact o_eq hr hsys (.inl pin_cv) (.inl pin_cv) hT2 h hK
theorem o_int1 (va : Vw m t a) (hT : Ok (bo (D.int1 a) k) Q E) (h : ∀ d, Ok (k d) Q E → P (td d) m) : CallP X Z (.type "int") [t] m P := by
  obtain ⟨d, e, hT⟩ := hT.get
  have h := h d hT
  unfold D.int1 at e
  split at e
  · cases e
    exact CallP.cv (CallP.out (int_i ⟨_, cv_int, h⟩)) (Cvs1 va.int)
  · split at e
    · rename_i hn
      split at e
      · rename_i hz
        cases e
        exact CallP.cv (CallP.out (int_s hn hz ⟨_, cv_int, h⟩)) (Cvs1 va.str)
      · cases e
    · cases e
  · cases e
theorem o_str1 (va : Vw m t a) (hT : Ok (bo (D.str1 a) k) Q E) (h : ∀ d, Ok (k d) Q E → P (td d) m) : CallP X Z (.type "str") [t] m P := by
  obtain ⟨d, e, hT⟩ := hT.get
  have h := h d hT
  unfold D.str1 at e
  split at e
  · split at e
    · rename_i hz
      cases e
      exact CallP.cv (CallP.out (str_i hz ⟨_, cv_str, h⟩)) (Cvs1 va.int)
    · cases e
  · cases e
theorem o_list1 (va : Vw m t a) (hT : Ok (bo (D.list1 a) k) Q E) (h : ∀ d, Ok (k d) Q E → P (td d) m) (hK : X.K = Z.K := by rfl) : CallP X Z (.type "list") [t] m P := by
  obtain ⟨d, e, hT⟩ := hT.get
  have h := h d hT
  unfold D.list1 at e
  have key : ∀ xs : List D, (LstU m t (xs.map td) ∨ TupU t (xs.map td)) → d = .lst xs → CallP X Z (.type "list") [t] m P := fun xs hu ed => by
    subst ed
    refine CallP.of call_list_of fun B H Q vs hS hv k => ?_
    obtain ⟨v, rfl, r⟩ := reps1 hv
    have e : ∃ a ws, v = .ref a ∧ (SqL X.K H a ws ∨ SqT X.K H a ws) ∧ Reps Z.K B ws (xs.map td) := by
      rcases hu with hu | hu
      · obtain ⟨a, ws, e, hq, rr⟩ := lstU_at hu hS r
        exact ⟨a, ws, e, .inl (.of hq), rr⟩
      · obtain ⟨a, ws, e, hq, rr⟩ := hu _ _ _ r
        exact ⟨a, ws, e, .inr (by rw [hK]; exact hS.ex.seqT hq), rr⟩
    obtain ⟨a, ws, ev, hq, rr⟩ := e
    refine ⟨a, ws, by rw [ev], hq, fun p hp => ?_⟩
    have hb := hS.noneB hp
    exact k (.ref p) _ _ m (td (.lst xs)) (Ex.new hb) (hS.newB hp) (Rp.lst upd_same (RpA.of (rr.mono (Ex.new hb)))) h
  split at e
  · cases e; exact key _ (.inl va.lu) rfl
  · cases e; exact key _ (.inr va.tu) rfl
  · cases e
theorem o_tuple1 (va : Vw m t a) (hT : Ok (bo (D.tuple1 a) k) Q E) (h : ∀ d, Ok (k d) Q E → P (td d) m) (hK : X.K = Z.K := by rfl) : CallP X Z (.type "tuple") [t] m P := by
  obtain ⟨d, e, hT⟩ := hT.get
  have h := h d hT
  unfold D.tuple1 at e
  split at e
  · cases e
    exact CallP.out (tuple_l va.lu ⟨_, cv_tl, h⟩)
  · cases e
    refine CallP.of call_tuple_of fun B H Q vs hS hv k => ?_
    obtain ⟨v, rfl, r⟩ := reps1 hv
    obtain ⟨a, ws, ev, hq, rr⟩ := va.tu _ _ _ r
    refine ⟨a, ws, by rw [ev], .inr ⟨by rw [hK]; exact hS.ex.seqT hq, ?_⟩⟩
    exact k (.ref a) B H m _ (Ex.refl _) hS (rpt (Rp.tup hq (RpA.of rr))) h
  · cases e
theorem o_repr (hgd : X.A.guards = some []) (hr : RmH kr X.A) (hsys : (X.base.get? sysModules).isSome = true) (va : Vw m t a) (hT : Ok (bo (D.repr a) k) Q E) (h : ∀ d, Ok (k d) Q E → P (td d) m) (hK : X.K = Z.K := by rfl) : CallP X Z (.builtin "repr") [t] m P := by
  obtain ⟨d, e, hT⟩ := hT.get
  have h := h d hT
  unfold D.repr at e
  split at e
  · rename_i x hx
    split at e
    · rename_i hz
      cases e
      exact CallP.out (repr_a (va.asd hx) hgd hr hsys hz.1 hz.2.1 hz.2.2 ⟨_, cv_str, h⟩ hK)
    · cases e
  · cases e
/-! ### methods of built-in types -/
theorem strs_rpA {K : PySem.W.Frag} {B : Hp} : ∀ {vs : List V} {ys : List Str}, Paired (Rep.rep K B) vs ys → RpA K B vs (ys.map .str)
  | _, _, .nil => .nil
  | _, _, .cons a b => .cons (cv_str _ _ _ a) (strs_rpA b)
theorem lstp_strs {ys : List Str} (h : P (td (D.lines ys)) m) : LstP (Cp P) (ys.map fun y => tv y) m := by
  refine .data (ys := ys) rfl ⟨_, ?_, h⟩
  intro K B v ⟨a, vs, h1, h2, h3⟩
  rw [h1]
  exact Rp.lst h2 (strs_rpA h3)
theorem o_split2 (va : Vw m t a) (vb : Vw m u b) (hT : Ok (bo (D.split2 a b) k) Q E) (h : ∀ d, Ok (k d) Q E → P (td d) m) : MetP X Z "str.split" t [u] m P := by
  obtain ⟨d, e, hT⟩ := hT.get
  have h := h d hT
  unfold D.split2 at e
  split at e
  · split at e
    · rename_i hz
      cases e
      exact MetP.cv (MetP.out (split_s hz.1 hz.2 (lstp_strs h))) va.str (Cvs1 vb.str)
    · cases e
  · cases e
theorem o_split3 (va : Vw m t a) (vb : Vw m u b) (vc : Vw m w c) (hT : Ok (bo (D.split3 a b c) k) Q E) (h : ∀ d, Ok (k d) Q E → P (td d) m) : MetP X Z "str.split" t [u, w] m P := by
  obtain ⟨d, e, hT⟩ := hT.get
  have h := h d hT
  unfold D.split3 at e
  split at e
  · split at e
    · rename_i hz
      cases e
      exact MetP.cv (MetP.out (splitM_s hz.1 hz.2.1 hz.2.2.1 hz.2.2.2 (lstp_strs h))) va.str (Cvs2 vb.str vc.int)
    · cases e
  · cases e
theorem o_join (va : Vw m t a) (vb : Vw m u b) (hT : Ok (bo (D.join a b) k) Q E) (h : ∀ d, Ok (k d) Q E → P (td d) m) : MetP X Z "str.join" t [u] m P := by
  obtain ⟨d, e, hT⟩ := hT.get
  have h := h d hT
  unfold D.join at e
  split at e
  · split at e
    · rename_i l hl
      split at e
      · rename_i hz
        cases e
        have ex := strsD_is hl
        subst ex
        refine MetP.of mt_join fun B H Q v vs hS hv hx q => ?_
        obtain ⟨w, rfl, r⟩ := reps1 hx
        obtain ⟨a, ws, ev, hq, rr⟩ := lstU_at vb.lu hS r
        have e2 := rp_strs (RpA.of rr)
        subst e2
        exact ⟨_, a, l, va.str _ _ _ hv, by rw [ev], .inl (.of hq), hz, q _ B H m _ (Ex.refl _) hS (rpt (Rp.str _)) h⟩
      · cases e
    · cases e
  · cases e
end
theorem ty_str (h : Vw m t (.str x)) : TyP Z "str" t m := fun B H v S r => by
  rw [show v = .str x from h.str _ _ _ r]
  rfl
/-- a receiver of a text's method: whatever it is, it is a text where the method answers -/
theorem ty_list {xs : List D} (h : Vw m t (.lst xs)) : TyP Z "list" t m := ty_lU h.lu
/-! ### f'..' -/
theorem e_fmt (h : We X Z e ρ m fun t m1 => ∃ a : D, Vw m1 t a ∧ Sm (D.fmt a) fun s => P (tv s) m1) : We X Z (.FormattedValue e (-1) none pos) ρ m P :=
  we_fmt (we_cv (Wp.imp h fun t m1 ⟨a, va, hT⟩ => by
    obtain ⟨s, e, h⟩ := hT.get
    unfold D.fmt at e
    split at e
    · split at e
      · rename_i hz
        cases e
        exact ⟨_, va.int, .inr ⟨_, rfl, hz, h⟩⟩
      · cases e
    · split at e
      · rename_i hz
        cases e
        exact ⟨_, va.str, .inl ⟨_, rfl, hz, h⟩⟩
      · cases e
    · cases e))
theorem cat_s {acc y : Str} {k : Str → Res β} {R : Prop} (hT : Ok (bo (D.cat acc y) k) Q E) (h : (acc ++ y).length ≤ 16000000 → Ok (k (acc ++ y)) Q E → R) : R := by
  obtain ⟨s, e, hT⟩ := hT.get
  unfold D.cat at e
  split at e
  · rename_i hz
    cases e
    exact h hz hT
  · cases e
/-! ### displays -/
theorem e_list (h : Wa X Z es ρ m fun xs m1 => ∃ ds : List D, xs = ds.map td ∧ ds.length ≤ 1000000 ∧ P (td (.lst ds)) m1) : We X Z (.List es pos) ρ m P :=
  we_cv (we_list (WpA.imp h fun xs m1 ⟨ds, e, hl, p⟩ => ⟨by rw [e, List.length_map]; exact hl, .data (ys := ds) e ⟨_, cv_lD, p⟩⟩))
theorem e_tup {x1 : Nat} (h : Wa X Z es ρ m fun xs m1 => ∃ ds : List D, xs = ds.map td ∧ ds.length ≤ 1000000 ∧ P (td (.tup ds)) m1) : We X Z (.Tuple es x1 pos) ρ m P :=
  we_cv (we_tuple (WpA.imp h fun xs m1 ⟨ds, e, hl, p⟩ => ⟨by rw [e, List.length_map]; exact hl, by subst e; exact tupH ⟨_, cv_tl, p⟩⟩))
theorem we_perm {ex : Expr} (h : We X Z ex ρ m fun x m' => ∃ m'', m'.Perm m'' ∧ P x m'') : We X Z ex ρ m P := fun σ B H Q he hS q => h σ B H Q he hS fun v B' H' m' x a b c ⟨m2, sb, p⟩ => q v B' H' m2 x a (b.perm sb) c p
theorem ahead {x : Addr × MV} : (m ++ [x]).Perm (x :: m) := List.perm_append_comm
/-- a list that may change -/
theorem e_listO (h : Wa X Z es ρ m fun xs m1 => ∃ ds : List D, xs = ds.map td ∧ ds.length ≤ 1000000 ∧ ∀ p, P (tv (Ref.mk p)) ((p, mC (.lst ds)) :: m1)) : We X Z (.List es pos) ρ m P :=
  we_perm (we_list (WpA.imp h fun xs m1 ⟨ds, e, hl, h⟩ => ⟨by rw [e, List.length_map]; exact hl, .own fun p => ⟨_, ahead, by subst e; exact h p⟩⟩))
theorem o_list1O {k : List D → Res β} (va : Vw m t a) (hT : Ok (bo (D.list1L a) k) Q E) (h : ∀ d p, Ok (k d) Q E → P (tv (Ref.mk p)) (m ++ [(p, mC (.lst d))])) (hK : X.K = Z.K := by rfl) : CallP X Z (.type "list") [t] m P := by
  obtain ⟨d, e, hT⟩ := hT.get
  unfold D.list1L at e
  split at e
  · cases e
    exact list_o (.inl va.lu) (fun p => h _ p hT) hK
  · cases e
    exact list_o (.inr va.tu) (fun p => h _ p hT) hK
  · cases e
/-! ### tests -/
theorem t_val (h : We X Z e ρ m fun t m1 => ∃ a : D, Vw m1 t a ∧ Sm (D.bool a) fun b => PB b m1) (he : ∀ whole, isTrue e X.env whole = (do let v ← whole; standAt e.pos; holding [v] (truthy v)) := by intro _; rfl) : Wt X Z e ρ m PB :=
  wt_val (we_cv (Wp.imp h fun t m1 ⟨a, va, hT⟩ => by
    obtain ⟨b, e, h⟩ := hT.get
    unfold D.bool at e
    split at e
    · cases e
      exact ⟨_, va.bl, _, rfl, h⟩
    · cases e)) he
theorem b_val {PA : TV → Mu → Prop} {a : D} {R : Bool → Res β} (va : Vw m t a) (hT : Ok (bo (D.bool a) R) Q E) (h : ∀ b, Ok (R b) Q E → PB b m) : ∃ y, Cv t y ∧ BoolP PB y m := by
  obtain ⟨b, e, hT⟩ := hT.get
  unfold D.bool at e
  split at e
  · cases e
    exact ⟨_, va.bl, _, rfl, h _ hT⟩
  · cases e
/-! ### calls of defs -/
theorem e_call {x : Str} {kk k' : Nat} {T : TSpec} {dts : List TV} {p : Pos} {xp : XV → TEnv → Mu → Prop} (F : DefK X.prog X.w X.K X.mg X.base x kk T dts) (hgd : X.A.guards = some []) (hr : Room k' X.A) (hx : XT X Z xp) (h : Wa X Z (e :: es) ρ m fun xs m1 => T (xs ++ dts) m1 P (fun y m' => xp y ρ m')) (hkk : kk ≤ k' := by decide) (hK : X.K = Z.K := by rfl) (hg : Gl X x := by rfl) (hdb : (x == ("__debug__" : Str)) = false := by decide)
    (he : starEach (e :: es) X.env = (false, eval e X.env) :: starEach es X.env := by rfl) (hpl : (backTo pos (starEach es X.env)).any (·.1) = false := by rfl) : We X Z (.Call (.Name x p) (e :: es) [] pos) ρ m P :=
  we_call F hgd hr hx (WpA.imp h fun _ _ q => FrP.all q) hkk hK hg hdb he hpl
theorem e_call0 {x : Str} {kk k' : Nat} {T : TSpec} {dts : List TV} {p : Pos} {xp : XV → TEnv → Mu → Prop} (F : DefK X.prog X.w X.K X.mg X.base x kk T dts) (hgd : X.A.guards = some []) (hr : Room k' X.A) (hx : XT X Z xp) (h : T dts m P (fun y m' => xp y ρ m')) (hkk : kk ≤ k' := by decide) (hK : X.K = Z.K := by rfl) (hg : Gl X x := by rfl) (hdb : (x == ("__debug__" : Str)) = false := by decide) : We X Z (.Call (.Name x p) [] [] pos) ρ m P :=
  we_call0 F hgd hr hx (FrP.all h) hkk hK hg hdb
end
end Dy

set_option Elab.async false
set_option linter.all false
set_option maxRecDepth 100000
set_option maxHeartbeats 4000000
namespace Dy
open PySem PySem.Spec PyProof.Rows L2 Ty
variable [CE]
section
variable {X : Cx} {Z : Zs} {ρ : TEnv} {m : Mu} {P : TV → Mu → Prop} {PB : Bool → Mu → Prop} {t u w : TV} {a b c d : D} {β : Type} {Q : β → Prop} {E : XE → Prop} {n kr : Nat} {e : Expr} {es : List Expr} {pos : Pos} {tg iter : Expr}
theorem recv_s {k : Unit → Res β} {B : Prop} (va : Vw m t a) (hT : Ok (bo (D.asS a) k) Q E) (h : Ok (k ()) Q E → B) : TyP Z "str" t m ∧ B := by
  obtain ⟨_, e, hT⟩ := hT.get
  unfold D.asS at e
  split at e
  · exact ⟨ty_str va, h hT⟩
  · cases e
/-! ### what is walked -/
def iAny (K : PySem.W.Frag) (te : TE) : TI := fun σ H R => te σ H fun v H1 => (∃ a, v = .ref a ∧ (∃ xs, SqL K H1 a xs) ∧ R (Itl K a) H1) ∨ (∃ a, v = .ref a ∧ (∃ xs, SqT K H1 a xs) ∧ R (Itt K a) H1) ∨ ∃ x, v = .str x ∧ R (Its x) H1
theorem pi_any {te : TE} (he : PE X e te) : PI X tg e (iAny X.K te) := by
  refine ⟨fun pins s σ H R I h => ?_⟩
  refine thn (he.run pins s σ H _ I h) fun v s1 ⟨x, H1, I1, r1, q1⟩ => ?_
  rcases q1 with ⟨a, e, ⟨xs, hq⟩, q⟩ | ⟨a, e, ⟨xs, hq⟩, q⟩ | ⟨x, ex, q⟩
  · subst e
    cases r1
    obtain ⟨its, rv, p, hz⟩ := I1.list hq
    refine wpAny_pyIter_list p.isList ?_
    refine ⟨s1.heap.objs.size, [s1.heap.objs.size], _, _, H1, rfl, I1.kept (t' := s1.toks) fun b o e => Heap.get?_push_of_some _ e, turn_list a _, ⟨_, Heap.get?_push_size _ rfl, rfl, rfl⟩, fun b hb => ?_, q⟩
    have e : b = s1.heap.objs.size := by simpa using hb
    subst e
    exact I1.fpOk (Nat.le_refl _) (I1.hok.fresh (Nat.le_refl _))
  · subst e
    cases r1
    obtain ⟨its, rv, p, hz⟩ := I1.tuple hq
    refine wpAny_pyIter_tuple (show s1.heap.IsTuple a its.toArray from p) ?_
    refine ⟨s1.heap.objs.size, [s1.heap.objs.size], _, _, H1, rfl, I1.kept (t' := s1.toks) fun b o e => Heap.get?_push_of_some _ e, turn_tuple a _, ⟨_, Heap.get?_push_size _ rfl, rfl, rfl⟩, fun b hb => ?_, q⟩
    have e : b = s1.heap.objs.size := by simpa using hb
    subst e
    exact I1.fpOk (Nat.le_refl _) (I1.hok.fresh (Nat.le_refl _))
  · subst ex
    obtain ⟨t, rfl⟩ := r1
    cases ha : x.cps.all (· < 128)
    · exact wpAny_pyIter_wide ha (pi_one (tk := s1.toks) I1 _ (turn_str _ x t "str_iterator" (.inr rfl)) ⟨_, Heap.get?_push_size _ rfl, rfl, rfl⟩ q)
    · exact wpAny_pyIter_ascii ha (pi_one (tk := s1.toks) I1 _ (turn_str _ x t "str_ascii_iterator" (.inl rfl)) ⟨_, Heap.get?_push_size _ rfl, rfl, rfl⟩ q)
theorem wi_D {S : List TV → (Mu → Prop) → Mu → Prop} (h : We X Z e ρ m fun t m1 => ∃ a : D, Vw m1 t a ∧ Sm (D.items a) fun xs => xs.length ≤ 1000000 → S (xs.map td) (fun m' => Vw m' t a) m1) (hK : X.K = Z.K := by rfl) : Wi X Z tg e ρ m S := by
  refine .of (pi_any pe_sem) fun σ B H Q' he hs k => we_sub h he hs fun v B1 H1 m1 t a1 b1 c1 d1 ⟨a, va, hT⟩ => ?_
  rw [hK]
  obtain ⟨xs, e, hr⟩ := hT.get
  clear hT
  unfold D.items at e
  split at e
  · split at e
    · rename_i hl
      cases e
      have r := hr hl
      obtain ⟨p, vs, ev, hq, rr⟩ := lstU_at va.lu c1 d1
      refine .inl ⟨p, ev, ⟨vs, .of hq⟩, k _ B1 H1 m1 _ _ a1 c1 (fun B' H' m' e s hg => ?_) r⟩
      obtain ⟨b, ws, ew, hw, rw'⟩ := lstU_at hg.lu s (TV.mono e d1)
      have eb : p = b := V.ref.inj (ev.symm.trans ew)
      subst eb
      refine ⟨fun i t ht => ?_, ⟨ws, .of hw, by rw [rw'.length]; exact Nat.le_refl _⟩⟩
      obtain ⟨u, hu, ru⟩ := rw'.at' ht
      refine ⟨⟨ws, u, .of hw, hu⟩, fun y H'' hy => ?_⟩
      obtain ⟨rfl, hy⟩ := hy
      have := hy ws (.of hw)
      rw [hu] at this
      cases this
      exact ⟨B', Ex.refl _, s, ru⟩
    · cases e
  · split at e
    · rename_i hl
      cases e
      have r := hr hl
      obtain ⟨p, vs, ev, hq, rr⟩ := va.tu _ _ _ d1
      refine .inr (.inl ⟨p, ev, ⟨vs, c1.ex.seqT hq⟩, k _ B1 H1 m1 _ _ a1 c1 (fun B' H' m' e s _ => ⟨fun i t ht => ?_, ?_⟩) r⟩)
      · obtain ⟨u, hu, ru⟩ := rr.at' ht
        have hl : SqT Z.K H' p vs := (e.trans s.ex).seqT hq
        refine ⟨⟨vs, u, hl, hu⟩, fun y H'' hy => ?_⟩
        obtain ⟨rfl, hy⟩ := hy
        have := hy vs hl
        rw [hu] at this
        cases this
        exact ⟨B', Ex.refl _, s, TV.mono e ru⟩
      · exact ⟨vs, (e.trans s.ex).seqT hq, by rw [rr.length]; exact Nat.le_refl _⟩
    · cases e
  · split at e
    · rename_i x hl
      cases e
      have r := hr (by simpa [PySem.Str.length] using hl)
      refine .inr (.inr ⟨x, va.str _ _ _ d1, k _ B1 H1 m1 _ _ a1 c1 (fun B' H' m' e s _ => ⟨fun i t ht => ?_, ?_⟩) r⟩)
      · obtain ⟨y, hy, rfl⟩ := get_map ht
        obtain ⟨c, hc, rfl⟩ := get_map hy
        have hc' : x.cps[i]? = some c := by simpa using hc
        refine ⟨(Array.getElem?_eq_some_iff.mp hc').1, fun y H'' hy => ?_⟩
        obtain ⟨rfl, c2, hc2, ey⟩ := hy
        rw [hc'] at hc2
        cases hc2
        exact ⟨B', Ex.refl _, s, by rw [ey]; exact rpt (Rp.str _)⟩
      · show x.cps.size ≤ _
        simp
    · cases e
  · cases e
theorem _root_.Ty.Cvs.at {ts us : List TV} (h : Cvs ts us) : ∀ {i : Nat} {u : TV}, us[i]? = some u → ∃ t, ts[i]? = some t ∧ Cv t u := by
  induction h with
  | nil => intro i u e; simp at e
  | cons a b ih =>
    intro i u e
    cases i with
    | zero => simp at e; subst e; exact ⟨_, rfl, a⟩
    | succ i => simpa using ih (by simpa using e)
theorem _root_.Ty.Cvs.len {ts us : List TV} (h : Cvs ts us) : ts.length = us.length := by
  induction h with
  | nil => rfl
  | cons a b ih => simp [ih]
theorem wi_cv {S : List TV → (Mu → Prop) → Mu → Prop} (h : Wi X Z tg iter ρ m fun its Gd m1 => ∃ its', Cvs its its' ∧ S its' Gd m1) : Wi X Z tg iter ρ m S := fun σ B H Q he hS k => h σ B H Q he hS fun J B' H' m' items Gd a b c ⟨its', cv, d⟩ => k J B' H' m' its' Gd a b (fun B2 H2 m2 e s g => by
  obtain ⟨h1, h2⟩ := c B2 H2 m2 e s g
  refine ⟨fun i t ht => ?_, by rw [← cv.len]; exact h2⟩
  obtain ⟨t0, ht0, ct⟩ := cv.at ht
  obtain ⟨g1, g2⟩ := h1 i t0 ht0
  refine ⟨g1, fun x H'' hy => ?_⟩
  obtain ⟨B3, e3, s3, r3⟩ := g2 x H'' hy
  exact ⟨B3, e3, s3, ct _ _ _ r3⟩) d
theorem cvs_map {α : Type _} {f g : α → TV} (h : ∀ x, Cv (f x) (g x)) : ∀ l : List α, Cvs (l.map f) (l.map g)
  | [] => .nil
  | x :: l => .cons (h x) (cvs_map h l)
theorem cvs_rng (lo : Int) (n : Nat) : Cvs (rngT lo n) ((D.rngL lo n).map td) := by
  unfold rngT D.rngL
  rw [List.map_map]
  exact cvs_map (fun k => cv_int) _
theorem wi_rng1 {S : List TV → (Mu → Prop) → Mu → Prop} {p : Pos} (hm : X.mg "range" = none) (h : We X Z e ρ m fun t m1 => ∃ a : D, Vw m1 t a ∧ Sm (D.rng1 a) fun xs => xs.length ≤ 1000000 → S (xs.map td) gd0 m1) (hg : Gl X "range" := by rfl) (hs : starEach [e] X.env = [(false, eval e X.env)] := by rfl) :
    Wi X Z tg (.Call (.Name "range" p) [e] [] pos) ρ m S :=
  wi_cv (wi_range1 hm (we_cv (Wp.imp h fun t m1 ⟨a, va, hT⟩ => by
    obtain ⟨xs, e, hr⟩ := hT.get
    unfold D.rng1 at e
    split at e
    · split at e
      · rename_i hz
        cases e
        exact ⟨_, va.int, _, rfl, hz.2, by omega, _, cvs_rng _ _, hr (by simp [D.rngL]; omega)⟩
      · cases e
    · cases e)) hg hs)
theorem wi_rng2 {S : List TV → (Mu → Prop) → Mu → Prop} {e2 : Expr} {p : Pos} (hm : X.mg "range" = none) (h : We X Z e ρ m fun t m1 => ∃ a : D, Vw m1 t a ∧ Sm (D.toInt a) fun i => We X Z e2 ρ m1 fun u m2 => ∃ b : D, Vw m2 u b ∧ Sm (D.toInt b) fun j => Sm (D.rng2 i j) fun xs => xs.length ≤ 1000000 → S (xs.map td) gd0 m2)
    (hg : Gl X "range" := by rfl) (hs : starEach [e, e2] X.env = [(false, eval e X.env), (false, eval e2 X.env)] := by rfl) (hs2 : starEach [e2] X.env = [(false, eval e2 X.env)] := by rfl) :
    Wi X Z tg (.Call (.Name "range" p) [e, e2] [] pos) ρ m S :=
  wi_cv (wi_range2 hm (we_cv (Wp.imp h fun t m1 ⟨a, va, hT⟩ => by
    obtain ⟨i, e, h⟩ := hT.get
    unfold D.toInt at e
    split at e
    · cases e
      refine ⟨_, va.int, we_cv (Wp.imp h fun u m2 ⟨b, vb, hT2⟩ => ?_)⟩
      obtain ⟨j, ej, hT3⟩ := hT2.get
      clear hT2
      unfold D.toInt at ej
      split at ej
      · cases ej
        obtain ⟨xs, e3, h3⟩ := hT3.get
        unfold D.rng2 at e3
        split at e3
        · rename_i hz
          cases e3
          exact ⟨_, vb.int, _, _, rfl, rfl, ⟨hz.1, hz.2.1, hz.2.2.1, hz.2.2.2.1⟩, _, cvs_rng _ _, h3 (by simp [D.rngL]; omega)⟩
        · cases e3
      · cases ej
    · cases e)) hg hs hs2)
end
end Dy

set_option Elab.async false
set_option linter.all false
set_option maxRecDepth 100000
set_option maxHeartbeats 4000000
namespace Dy
open PySem PySem.Spec PyProof.Rows L2 Ty
variable [CE]
section
variable {X : Cx} {Z : Zs} {ρ : TEnv} {m : Mu} {P : TV → Mu → Prop} {PB : Bool → Mu → Prop} {t u w : TV} {a b c d : D} {β : Type} {Q : β → Prop} {E : XE → Prop} {n kr : Nat} {e : Expr} {es : List Expr} {pos : Pos} {tg iter elt : Expr} {scope : Scope} {own : List (Str × Nat)} {De : DE}
theorem Vw.l {L : Mu} (h : Vw m t d) : Vw (m ++ L) t d := h.imp id fun ⟨p, n, e, h1, c⟩ => ⟨p, n, e, by rw [List.getElem?_append_left (List.getElem?_eq_some_iff.mp h1).1]; exact h1, c⟩
/-! ### comprehensions -/
def gOf (f : D → Option D) (x : D) : D := (f x).getD .non
theorem mapO_is {f : D → Option D} : ∀ {xs ys : List D}, mapO f xs = some ys → (∀ x ∈ xs, f x = some (gOf f x)) ∧ ys = xs.map (gOf f)
  | [], ys, h => by
    cases h
    exact ⟨(fun _ h => nomatch h), rfl⟩
  | x :: xs, ys, h => by
    unfold mapO at h
    obtain ⟨y, hy, h⟩ := Option.bind_eq_some_iff.mp h
    obtain ⟨r, hr, h⟩ := Option.bind_eq_some_iff.mp h
    cases h
    obtain ⟨h1, h2⟩ := mapO_is hr
    have e : gOf f x = y := by unfold gOf; rw [hy]; rfl
    refine ⟨fun z hz => ?_, by rw [List.map_cons, e, h2]⟩
    rcases List.mem_cons.mp hz with q | q
    · subst q; rw [e]; exact hy
    · exact h1 z q
def pOf (p : D → Option Bool) (x : D) : Bool := (p x).getD false
theorem filO_is {p : D → Option Bool} {f : D → Option D} : ∀ {xs ys : List D}, filO p f xs = some ys → (∀ x ∈ xs, p x = some (pOf p x) ∧ (pOf p x = true → f x = some (gOf f x))) ∧ ys = (xs.filter (pOf p)).map (gOf f)
  | [], ys, h => by
    cases h
    exact ⟨(fun _ h => nomatch h), rfl⟩
  | x :: xs, ys, h => by
    unfold filO at h
    obtain ⟨b, hb, h⟩ := Option.bind_eq_some_iff.mp h
    have ep : pOf p x = b := by unfold pOf; rw [hb]; rfl
    cases b with
    | false =>
      rw [if_neg (by simp)] at h
      obtain ⟨h1, h2⟩ := filO_is h
      refine ⟨fun z hz => ?_, by rw [List.filter_cons, ep]; exact h2⟩
      rcases List.mem_cons.mp hz with q | q
      · subst q; rw [ep]; exact ⟨hb, fun z => nomatch z⟩
      · exact h1 z q
    | true =>
      rw [if_pos rfl] at h
      obtain ⟨y, hy, h⟩ := Option.bind_eq_some_iff.mp h
      obtain ⟨r, hr, h⟩ := Option.bind_eq_some_iff.mp h
      cases h
      obtain ⟨h1, h2⟩ := filO_is hr
      have e : gOf f x = y := by unfold gOf; rw [hy]; rfl
      refine ⟨fun z hz => ?_, by rw [List.filter_cons, ep, if_pos rfl, List.map_cons, e, h2]⟩
      rcases List.mem_cons.mp hz with q | q
      · subst q; rw [ep, e]; exact ⟨hb, fun _ => hy⟩
      · exact h1 z q
/-- nothing else changes, an item gives what f says -/
theorem lcp_mapO {xs : List D} {Gd : Mu → Prop} {i : Nat} {f : D → Option D} {k : List D → Res β} (hT : Ok (bo (mapO f xs) k) Q E) (hsz : xs.length ≤ 1000000) (hG : ∀ L, Gd (m ++ L))
    (h : ∀ (s0 : Shared) (H0 : Hp) (C : Addr) (cl : List (Str × Addr)) (fp : List Addr) (L : Mu) (x y : D), f x = some y → We (blkX X scope s0 H0 C cl fp) Z elt ((wipeT ρ (ownIx own)).set i (some (td x))) (m ++ L) fun z m4 => z = td y ∧ m4 = m ++ L)
    (hP : ∀ ys, Ok (k ys) Q E → P (td (.lst ys)) m) : LcP X Z elt [] scope (rb1 ρ own i) (Cp P) (xs.map td) Gd m := by
  obtain ⟨ys, e, hT⟩ := hT.get
  obtain ⟨h1, h2⟩ := mapO_is e
  subst h2
  exact lcp_map (gOf f) hsz (fun acc p => hG _) (fun s0 H0 C cl fp L x hx => h s0 H0 C cl fp L x _ (h1 x hx)) ⟨_, cv_lD, hP _ hT⟩
/-- .. with a test -/
theorem lcp_filO {xs : List D} {Gd : Mu → Prop} {i : Nat} {cnd : Expr} {p : D → Option Bool} {f : D → Option D} {k : List D → Res β} (hT : Ok (bo (filO p f xs) k) Q E) (hsz : xs.length ≤ 1000000) (hG : ∀ L, Gd (m ++ L))
    (ht : ∀ (s0 : Shared) (H0 : Hp) (C : Addr) (cl : List (Str × Addr)) (fp : List Addr) (L : Mu) (x : D) (b : Bool), p x = some b → Wt (blkX X scope s0 H0 C cl fp) Z cnd ((wipeT ρ (ownIx own)).set i (some (td x))) (m ++ L) fun b' m4 => b' = b ∧ m4 = m ++ L)
    (h : ∀ (s0 : Shared) (H0 : Hp) (C : Addr) (cl : List (Str × Addr)) (fp : List Addr) (L : Mu) (x y : D), f x = some y → We (blkX X scope s0 H0 C cl fp) Z elt ((wipeT ρ (ownIx own)).set i (some (td x))) (m ++ L) fun z m4 => z = td y ∧ m4 = m ++ L)
    (hP : ∀ ys, Ok (k ys) Q E → P (td (.lst ys)) m) : LcP X Z elt [cnd] scope (rb1 ρ own i) (Cp P) (xs.map td) Gd m := by
  obtain ⟨ys, e, hT⟩ := hT.get
  obtain ⟨h1, h2⟩ := filO_is e
  subst h2
  exact lcp_filter (pOf p) (gOf f) hsz (fun acc p => hG _) (fun s0 H0 C cl fp L x hx => ht s0 H0 C cl fp L x _ (h1 x hx).1) (fun s0 H0 C cl fp L x hx hp => h s0 H0 C cl fp L x _ ((h1 x hx).2 hp)) ⟨_, cv_lD, hP _ hT⟩
/-- an item may change what may change, or raise -/
theorem lcp_mapC {S : Type} {Gd : Mu → Prop} {i : Nat} {f : D → S → (D → S → Res β) → Res β} {k : List D → S → Res β} (mu : S → Mu) {xs : List D} {s0 : S} (hT : Ok (mapC f xs [] s0 k) Q E) (hm : m = mu s0) (hsz : xs.length ≤ 1000000) (hG : ∀ s L, Gd (mu s ++ L))
    (h : ∀ (sh : Shared) (H0 : Hp) (C : Addr) (cl : List (Str × Addr)) (fp : List Addr) (L : Mu) (x : D) (s : S) (kk : D → S → Res β), Ok (f x s kk) Q E → We (blkX X scope sh H0 C cl fp) Z elt ((wipeT ρ (ownIx own)).set i (some (td x))) (mu s ++ L) fun z m4 => ∃ y s', Ok (kk y s') Q E ∧ z = td y ∧ m4 = mu s' ++ L)
    (hP : ∀ ys s, Ok (k ys s) Q E → P (td (.lst ys)) (mu s)) : LcP X Z elt [] scope (rb1 ρ own i) (Cp P) (xs.map td) Gd m := by
  refine ⟨fun j acc m' => ∃ (ys : List D) (s : S), acc = ys.map td ∧ ys.length ≤ j ∧ m' = mu s ∧ Ok (mapC f (xs.drop j) ys s k) Q E, ⟨[], s0, rfl, Nat.le_refl _, hm, hT⟩, ?_, by simpa using hsz, ?_, ?_, ?_⟩
  · rintro j acc m' ⟨ys, s, rfl, hl, _, _⟩
    simpa using hl
  · rintro j acc m' p ⟨ys, s, rfl, hl, rfl, _⟩
    exact hG s _
  · rintro sh H0 C cl fp j t acc m' p ρ' ht ⟨ys, s, rfl, hl, rfl, hT⟩ rfl
    obtain ⟨x, hx, rfl⟩ := get_map ht
    have hj := (List.getElem?_eq_some_iff.mp hx).1
    have ed : xs.drop j = x :: xs.drop (j + 1) := by rw [List.drop_eq_getElem_cons hj, (List.getElem?_eq_some_iff.mp hx).2]
    rw [ed] at hT
    refine wts_nil ⟨fun _ s1 H1 C1 cl1 fp1 => (h s1 H1 C1 cl1 fp1 [(p, mL (ys.map td))] x s _ hT).imp ?_, fun z => nomatch z⟩
    rintro z m4 ⟨y, s', hk, rfl, rfl⟩
    exact ⟨mu s', rfl, ys ++ [y], s', by rw [List.map_append]; rfl, by rw [List.length_append]; simpa using hl, rfl, hk⟩
  · rintro acc m' ⟨ys, s, rfl, hl, rfl, hT⟩
    rw [List.length_map, List.drop_length] at hT
    exact .data (ys := ys) rfl ⟨_, cv_lD, hP ys s hT⟩
/-! ### what is still asked of what may change -/
def Le (M m' : Mu) : Prop := ∃ l, M.Perm l ∧ l.Sublist m'
theorem Le.rfl {M : Mu} : Le M M := ⟨M, .refl _, .refl _⟩
theorem Le.trans {a b c : Mu} (h : Le a b) (k : Le b c) : Le a c := by
  obtain ⟨l, p, s⟩ := h
  obtain ⟨l', p', s'⟩ := k
  obtain ⟨l2, q1, q2⟩ := List.exists_perm_sublist s p'
  exact ⟨l2, p.trans q1.symm, q2.trans s'⟩
theorem _root_.Ty.Sta.le {B H : Hp} {M : Mu} (S : Sta Z B H m) (h : Le M m) : Sta Z B H M := by
  obtain ⟨l, p, s⟩ := h
  exact (S.sub s).perm p.symm
theorem wss_le {l : List Stmt} {M : Mu} (hl : Le M m) (h : Wss X Z l ρ M De) : Wss X Z l ρ m De := fun σ B H E he hS k => h σ B H E he (hS.le hl) k
theorem we_le {M : Mu} (hl : Le M m) (h : We X Z e ρ M P) : We X Z e ρ m P := fun σ B H E he hS k => h σ B H E he (hS.le hl) k
/-- ends that ask for less -/
def DE.le (De : DE) : DE := { nx := fun ρ m => ∃ M, Le M m ∧ De.nx ρ M, rt := fun t m => ∃ M, Le M m ∧ De.rt t M, bk := fun ρ m => ∃ M, Le M m ∧ De.bk ρ M, ct := fun ρ m => ∃ M, Le M m ∧ De.ct ρ M }
theorem eok_le {B : Hp} {En : Ends} (k : EOk Z B De En) : EOk Z B (DE.le De) En :=
  ⟨fun s B' H' r m' a b c ⟨M, l, d⟩ => k.nx s B' H' r M a b (c.le l) d, fun v B' H' m' x a b c ⟨M, l, d⟩ => k.rt v B' H' M x a (b.le l) c d, fun s B' H' r m' a b c ⟨M, l, d⟩ => k.bk s B' H' r M a b (c.le l) d, fun s B' H' r m' a b c ⟨M, l, d⟩ => k.ct s B' H' r M a b (c.le l) d⟩
theorem wss_leE {l : List Stmt} (h : Wss X Z l ρ m (DE.le De)) : Wss X Z l ρ m De := fun σ B H E he hS k => h σ B H E he hS (eok_le k)
theorem xt_le {xp : XV → Mu → Prop} (h : XT X Z fun y _ m => xp y m) : XT X Z fun y _ m => ∃ m', Le m' m ∧ xp y m' :=
  h.imp fun c d σ H ⟨ρ, B, m, y, a, b, r, m', s, p⟩ => ⟨ρ, B, m', y, a, b.le s, r, p⟩
/-- a list that may change is let go: it is data from here on -/
theorem wss_frz {l : List Stmt} {p : Addr} {xs : List D} (i n : Nat) (hρ : ρ[i]? = some (some (tv (Ref.mk p)))) (hm : m[n]? = some (p, mC (.lst xs))) (h : Wss X Z l (ρ.set i (some (td (.lst xs)))) (m.eraseIdx n) De) : Wss X Z l ρ m De := fun σ B H E he hS k => by
  obtain ⟨vs, hv, rv⟩ := mL_at hS hm
  have hb := (hS.hp.at_ n p _ hm).1
  have s2 := hS.freeze hm hv
  obtain ⟨v, h1, h2⟩ := he.sl i _ hρ
  have ev : v = .ref p := h2
  subst ev
  have he2 : EnvOk Z.K (upd B p (.lst vs)) (σ.set i (some (.ref p))) (ρ.set i (some (td (.lst xs)))) := (he.mono (Ex.new hb)).set i (rpt (Rp.lst upd_same (RpA.of (rv.mono (Ex.new hb)))))
  have es : σ.set i (some (.ref p)) = σ := by
    refine List.ext_getElem? fun j => ?_
    by_cases q : i = j
    · subst q
      rw [List.getElem?_set_self (List.getElem?_eq_some_iff.mp h1).1, h1]
    · rw [List.getElem?_set_ne q]
  rw [es] at he2
  exact h σ _ H E he2 s2 (k.mono (Ex.new hb))
/-! ### for, while -/
theorem forp_D {S : Type} {body : List Stmt} {Gd : Mu → Prop} {fb : D → S → (S → Res β) → (S → Res β) → Res β} {kont : S → Res β} {xs : List D} {s0 : S} (env : S → TEnv → Prop) (mu : S → Mu) (hT : Ok (forC xs s0 fb kont) Q E) (h0 : env s0 ρ) (hm : Le (mu s0) m) (hG : ∀ s m', Le (mu s) m' → Gd m')
    (hs : ∀ (x : D) (s : S) (ρ' : TEnv) (nx br : S → Res β), env s ρ' → Ok (fb x s nx br) Q E → Wg X Z tg (td x) ρ' (mu s) fun ρ2 m2 => Wss X Z body ρ2 m2 { nx := fun ρ3 m3 => ∃ s', Ok (nx s') Q E ∧ env s' ρ3 ∧ Le (mu s') m3, rt := De.rt, bk := fun ρ3 m3 => ∃ s', Ok (br s') Q E ∧ env s' ρ3 ∧ Le (mu s') m3, ct := fun ρ3 m3 => ∃ s', Ok (nx s') Q E ∧ env s' ρ3 ∧ Le (mu s') m3 })
    (hd : ∀ (s : S) (ρ' : TEnv) (m' : Mu), Le (mu s) m' → env s ρ' → Ok (kont s) Q E → De.nx ρ' m') : ForP X Z tg body ρ De (xs.map td) Gd m := by
  refine ⟨fun i ρ' m' => ∃ s, Ok (forC (xs.drop i) s fb kont) Q E ∧ env s ρ' ∧ Le (mu s) m', ⟨s0, hT, h0, hm⟩, ?_, ?_, ?_⟩
  · rintro i ρ' m' ⟨s, _, _, hl⟩
    exact hG s m' hl
  · rintro i t ρ' m' ht ⟨s, hT, he, hl⟩
    obtain ⟨x, hx, rfl⟩ := get_map ht
    have hj := (List.getElem?_eq_some_iff.mp hx).1
    have ed : xs.drop i = x :: xs.drop (i + 1) := by rw [List.drop_eq_getElem_cons hj, (List.getElem?_eq_some_iff.mp hx).2]
    rw [ed] at hT
    refine fun σ B H v Q' a b c k => hs x s ρ' _ _ he hT σ B H v Q' a (b.le hl) c fun σ' B' H' ρ2 m2 e1 e2 e3 w => k σ' B' H' ρ2 m2 e1 e2 e3 (WpS.imp w (fun _ _ h => h) (fun _ _ h => h) ?_ fun _ _ h => h)
    rintro ρ3 m3 ⟨s', q3, q1, ql⟩
    exact hd s' ρ3 m3 ql q1 q3
  · rintro ρ' m' ⟨s, hT, he, hl⟩
    rw [List.length_map, List.drop_length] at hT
    exact hd s ρ' m' hl he hT
theorem s_while {S : Type} {cnd : Expr} {body : List Stmt} {fb : S → (S → Res β) → (S → Res β) → Res β} {kont : S → Res β} {s0 : S} {N : Nat} (env : S → TEnv → Prop) (mu : S → Mu) (hT : Ok (whileC N s0 fb kont) Q E) (h0 : env s0 ρ) (hm : Le (mu s0) m)
    (hs : ∀ (s : S) (ρ' : TEnv) (nx br : S → Res β), env s ρ' → Ok (fb s nx br) Q E → Wt X Z cnd ρ' (mu s) fun bb m1 => (bb = true → Wss X Z body ρ' m1 { nx := fun ρ3 m3 => ∃ s', Ok (nx s') Q E ∧ env s' ρ3 ∧ Le (mu s') m3, rt := De.rt, bk := fun ρ3 m3 => ∃ s', Ok (br s') Q E ∧ env s' ρ3 ∧ Le (mu s') m3, ct := fun ρ3 m3 => ∃ s', Ok (nx s') Q E ∧ env s' ρ3 ∧ Le (mu s') m3 }) ∧ (bb = false → ∃ s', Ok (br s') Q E ∧ env s' ρ' ∧ Le (mu s') m1))
    (hd : ∀ (s : S) (ρ' : TEnv) (m' : Mu), Le (mu s) m' → env s ρ' → Ok (kont s) Q E → De.nx ρ' m') (hp : PassesOwn (model X.prog X.w) X.A X.env X.xe) : Ws X Z (.While cnd body [] pos) ρ m De := by
  refine ws_while (fun n ρ' m' => ∃ s, Ok (whileC n s fb kont) Q E ∧ env s ρ' ∧ Le (mu s) m') N ⟨s0, hT, h0, hm⟩ ?_ hp
  rintro n ρ' m' ⟨s, hT, he, hl⟩
  cases n with
  | zero => exact False.elim hT
  | succ n =>
    refine fun σ B H Q' a b k => WpT.imp (hs s ρ' _ _ he hT) (P' := fun b m1 => (b = true → Wss X Z body ρ' m1 { nx := fun ρ2 m2 => ∃ k, k < n + 1 ∧ ∃ s, Ok (whileC k s fb kont) Q E ∧ env s ρ2 ∧ Le (mu s) m2, rt := De.rt, bk := De.nx, ct := fun ρ2 m2 => ∃ k, k < n + 1 ∧ ∃ s, Ok (whileC k s fb kont) Q E ∧ env s ρ2 ∧ Le (mu s) m2 }) ∧ (b = false → De.nx ρ' m1)) ?_ σ B H Q' a (b.le hl) k
    rintro b m1 ⟨h1, h2⟩
    refine ⟨fun hb => WpS.imp (h1 hb) ?_ (fun _ _ h => h) ?_ ?_, fun hb => ?_⟩
    · rintro ρ3 m3 ⟨s', q3, q1, q2⟩
      exact ⟨n, Nat.lt_succ_self _, s', q3, q1, q2⟩
    · rintro ρ3 m3 ⟨s', q3, q1, ql⟩
      exact hd s' ρ3 m3 ql q1 q3
    · rintro ρ3 m3 ⟨s', q3, q1, q2⟩
      exact ⟨n, Nat.lt_succ_self _, s', q3, q1, q2⟩
    · obtain ⟨s', q3, q1, ql⟩ := h2 hb
      exact hd s' ρ' m1 ql q1 q3
/-! ### lists that may change -/
theorem o_append {xs : List D} {y : D} {p : Addr} {k : List D → Res β} (n : Nat) (hm : m[n]? = some (p, mC (.lst xs))) (hT : Ok (bo (D.appL xs y) k) Q E) (h : ∀ d, Ok (k d) Q E → P (td .non) (m.set n (p, mC (.lst d)))) : MetP X Z "list.append" (tv (Ref.mk p)) [td y] m P := by
  obtain ⟨d, e, hT⟩ := hT.get
  have h := h d hT
  unfold D.appL at e
  split at e
  · rename_i hz
    cases e
    refine MetP.out (append_o hm (by simpa using hz) ⟨_, cv_non, ?_⟩)
    have e : mL (xs.map td ++ [td y]) = mC (.lst (xs ++ [y])) := by show _ = mL ((xs ++ [y]).map td); rw [List.map_append]; rfl
    rw [e]
    exact h
  · cases e
theorem g_put {o i : Expr} {v : D} {R : TEnv → Mu → Prop} (h : We X Z o ρ m fun x m1 => We X Z i ρ m1 fun y m2 => ∃ (p : Addr) (n : Nat) (xs : List D) (j : D), x = tv (Ref.mk p) ∧ Vw m2 y j ∧ m2[n]? = some (p, mC (.lst xs)) ∧ Sm (D.putL xs j v) fun d => R ρ (m2.set n (p, mC (.lst d))))
    (ha : ∀ v, assign (.Subscript o i pos) X.env v = (do
      let ov ← holding [v] (eval o X.env)
      let iv ← holding [v, ov] (eval i X.env)
      standAt pos
      holding [v, ov, iv] (setItem ov iv v)
      release [v, ov, iv] []) := by intro _; rfl) : Wg X Z (.Subscript o i pos) (td v) ρ m R :=
  wg_subL (Wp.imp h fun x m1 w => we_cv (Wp.imp w fun y m2 ⟨p, n, xs, j, ex, vj, hm, hT⟩ => by
    obtain ⟨d, e, h⟩ := hT.get
    unfold D.putL at e
    split at e
    · obtain ⟨j', hj, rfl⟩ := Option.map_eq_some_iff.mp e
      refine ⟨_, vj.int, p, n, xs.map td, _, j', ex, rfl, hm, by rw [List.length_map]; exact hj, ?_⟩
      have e : mL ((xs.map td).set j' (td v)) = mC (.lst (xs.set j' v)) := by show _ = mL ((xs.set j' v).map td); rw [List.map_set]
      rw [e]
      exact h
    · cases e)) ha
/-! ### targets -/
theorem g_un2 {x y : Expr} {k2 : Nat} {k : D × D → Res β} {R : TEnv → Mu → Prop} (hT : Ok (bo (D.un2 a) k) Q E) (h : ∀ d, Ok (k d) Q E → Wgs X Z [x, y] [td d.1, td d.2] ρ m R) (hc : X.calm = true) (hn : (assignEach [x, y] X.env).length = 2 := by rfl) (hst : (assignEach [x, y] X.env).findIdx? (·.1) = none := by rfl) (hK : X.K = Z.K := by rfl) : Wg X Z (.Tuple [x, y] k2 pos) (td a) ρ m R := by
  obtain ⟨d, e, hT⟩ := hT.get
  have h := h d hT
  unfold D.un2 at e
  split at e
  · cases e
    exact wg_tup (Vw.p (m := m)).tu h hc hn hst hK
  · cases e
theorem g_un3 {x y z : Expr} {k2 : Nat} {k : D × D × D → Res β} {R : TEnv → Mu → Prop} (hT : Ok (bo (D.un3 a) k) Q E) (h : ∀ d, Ok (k d) Q E → Wgs X Z [x, y, z] [td d.1, td d.2.1, td d.2.2] ρ m R) (hc : X.calm = true) (hn : (assignEach [x, y, z] X.env).length = 3 := by rfl) (hst : (assignEach [x, y, z] X.env).findIdx? (·.1) = none := by rfl) (hK : X.K = Z.K := by rfl) : Wg X Z (.Tuple [x, y, z] k2 pos) (td a) ρ m R := by
  obtain ⟨d, e, hT⟩ := hT.get
  have h := h d hT
  unfold D.un3 at e
  split at e
  · cases e
    exact wg_tup (Vw.p (m := m)).tu h hc hn hst hK
  · cases e
theorem g_un4 {x y z q : Expr} {k2 : Nat} {k : D × D × D × D → Res β} {R : TEnv → Mu → Prop} (hT : Ok (bo (D.un4 a) k) Q E) (h : ∀ d, Ok (k d) Q E → Wgs X Z [x, y, z, q] [td d.1, td d.2.1, td d.2.2.1, td d.2.2.2] ρ m R) (hc : X.calm = true) (hn : (assignEach [x, y, z, q] X.env).length = 4 := by rfl) (hst : (assignEach [x, y, z, q] X.env).findIdx? (·.1) = none := by rfl) (hK : X.K = Z.K := by rfl) : Wg X Z (.Tuple [x, y, z, q] k2 pos) (td a) ρ m R := by
  obtain ⟨d, e, hT⟩ := hT.get
  have h := h d hT
  unfold D.un4 at e
  split at e
  · cases e
    exact wg_tup (Vw.p (m := m)).tu h hc hn hst hK
  · cases e
theorem g_un5 {x y z q r : Expr} {k2 : Nat} {k : D × D × D × D × D → Res β} {R : TEnv → Mu → Prop} (hT : Ok (bo (D.un5 a) k) Q E) (h : ∀ d, Ok (k d) Q E → Wgs X Z [x, y, z, q, r] [td d.1, td d.2.1, td d.2.2.1, td d.2.2.2.1, td d.2.2.2.2] ρ m R) (hc : X.calm = true) (hn : (assignEach [x, y, z, q, r] X.env).length = 5 := by rfl) (hst : (assignEach [x, y, z, q, r] X.env).findIdx? (·.1) = none := by rfl) (hK : X.K = Z.K := by rfl) : Wg X Z (.Tuple [x, y, z, q, r] k2 pos) (td a) ρ m R := by
  obtain ⟨d, e, hT⟩ := hT.get
  have h := h d hT
  unfold D.un5 at e
  split at e
  · cases e
    exact wg_tup (Vw.p (m := m)).tu h hc hn hst hK
  · cases e
/-- .. of a view -/
theorem g_cv {t' : TV} {R : TEnv → Mu → Prop} (cv : Cv t t') (h : Wg X Z tg t' ρ m R) : Wg X Z tg t ρ m R := fun σ B H v Q a b c k => h σ B H v Q a b (cv _ _ _ c) k
theorem un_cv {α : Type} {f : D → Option α} {k : α → Res β} {B : Prop} (va : Vw m t a) (hT : Ok (bo (f a) k) Q E) (hf : ∀ d x, f d = some x → isCell d = false) (h : Cv t (td a) → B) : B := by
  obtain ⟨d, e, _⟩ := hT.get
  exact h (va.flat (hf _ _ e))
/-! ### raise -/
/-- __init__ of an own exception class whose attributes are its arguments -/
def T_xi (C : Nat) (ns : List Nat) : TSpec := fun xs m post _ => ∃ (a : Addr) (ts : List TV), xs = tv (Ref.mk a) :: ts ∧ ts.length = ns.length ∧ m = [(a, mXo a (CE.a C) none)] ∧ ∀ dx, post (tv ()) [(a, mXo a (CE.a C) (some dx)), (dx, mXd dx ((ns.zip ts).reverse.map fun q => (anm q.1, q.2)))]
theorem brT {b : Bool} {x y : Res β} (h : Ok (if b = true then x else y) Q E) (hb : b = true) : Ok x Q E := by rw [if_pos hb] at h; exact h
theorem brF {b : Bool} {x y : Res β} (h : Ok (if b = true then x else y) Q E) (hb : b = false) : Ok y Q E := by rw [if_neg (by rw [hb]; exact Bool.false_ne_true)] at h; exact h
theorem s_retN (h : De.rt (td .non) m) : Ws X Z (.Return none pos) ρ m De := .of ps_retN fun σ B H E he hS k => k.rt .non B H m (td .non) (Ex.refl _) hS (rpt .non) h
theorem j_cons {acc : Str} {S : Str → Mu → Prop} (h : We X Z e ρ m fun t m1 => ∃ y : Str, t = tv y ∧ Sm (D.cat acc y) fun s => Wj X Z es s ρ m1 S) : Wj X Z (e :: es) acc ρ m S :=
  wj_cons (Wp.imp h fun t m1 ⟨y, et, hT⟩ => by
    obtain ⟨s, e, h⟩ := hT.get
    unfold D.cat at e
    split at e
    · rename_i hz
      cases e
      exact ⟨y, et, hz, h⟩
    · cases e)
theorem e_fstr {v1 v2 : Expr} {rest : List Expr} (h : Wj X Z (v1 :: v2 :: rest) Str.empty ρ m fun o m' => P (td (.str o)) m') : We X Z (.JoinedStr (v1 :: v2 :: rest) pos) ρ m P :=
  we_cv (we_fstr fun σ B H Q he hS k => h σ B H Q he hS fun o B' H' m' a b c => k o B' H' m' a b ⟨_, cv_str, c⟩)
/-- y = [..] -/
theorem s_lc1 (l i : Nat) {ifs : List Expr} {y x : Str} {py px spos : Pos} (h : Wi X Z (.Name x px) iter ρ m (LcP X Z elt ifs scope (rb1 ρ own i) (Cp fun t m' => De.nx (ρ.set l (some t)) m'))) (hc : X.calm = true) (hN : X.N.Nodup) (ok : BlkOk X.N X.env.scope scope own) (hy : X.N[l]? = some y := by rfl) (hyl : X.env.scope.names.lookup y = some .local := by rfl)
    (hsw : swapsWith (.ListComp elt [⟨.Name x px, iter, ifs, 0⟩] scope pos) (some (.Name y py)) spos.line X.env = pure true := by exact sw_true rfl rfl rfl (by decide +kernel)) (hi : X.N[i]? = some x := by rfl) (hio : i ∈ ownIx own := by decide)
    (hx : ∀ (s : Shared) (H : Hp) (C : Addr) (cl : List (Str × Addr)) (fp : List Addr), Loc (blkX X scope s H C cl fp).env.scope x := by first | exact fun _ _ _ _ _ => Or.inl rfl | exact fun _ _ _ _ _ => Or.inr rfl)
    (hf : ∀ (s : Shared) (H : Hp) (C : Addr) (cl : List (Str × Addr)) (fp : List Addr), (blkX X scope s H C cl fp).fn x = true ∨ (blkX X scope s H C cl fp).env.scope.names.lookup x = some .local := by first | exact fun _ _ _ _ _ => Or.inr rfl | exact fun _ _ _ _ _ => Or.inl rfl)
    (hs : ∀ x, foldedSetIterable iter X.env x = pure x := by intro _; rfl) : Ws X Z (.Assign [.Name y py] (.ListComp elt [⟨.Name x px, iter, ifs, 0⟩] scope pos) spos) ρ m De :=
  .of (ps_setLc (own := own) (g := gName i) (tt := tisB X scope ifs) (te := teB X scope elt) hc hN hy hyl hsw pi_sem ok (fun s H C cl fp => pg_name (X := blkX X scope s H C cl fp) hN hi (hx s H C cl fp) (hf s H C cl fp))
    (fun s H C cl fp => ⟨fun pins s' σ H' Q I h => h s H C cl fp pins s' I⟩) (fun s H C cl fp => ⟨fun pins s' σ H' Q I h => h s H C cl fp pins s' I⟩) hs)
    fun σ B H E he hS k => by
      have w := wp_lc (X := X) (ρb := rb1 ρ own i) (g := gName i) (wi := tiS X (.Name x px) iter) (own := own) (P := Cp fun t m' => De.nx (ρ.set l (some t)) m')
        fun σ B H Q he hS k => h σ B H Q he hS fun J B' H' m' items Gd a b c d => k J B' H' m' items Gd a b c ⟨d, fun t σ B H v m Q _ E S r q => q _ _ (by rw [wipe_set hio, wipe_idem]) (E.set i r) rfl⟩
      exact w σ B H (fun v H' => E.nx (σ.set l (some v)) H') he hS fun v B' H' m' t a b c ⟨y, cv, d⟩ => k.nx _ B' H' _ m' a ((he.mono a).set l (cv _ _ _ c)) b d
theorem subl0 : m.Sublist m := List.Sublist.refl _
theorem subl1 {m' : Mu} {x : Addr × MV} (h : m'.Sublist m) : m'.Sublist (x :: m) := h.cons x
theorem subll {m' L : Mu} (h : m'.Sublist m) : m'.Sublist (m ++ L) := h.trans (List.sublist_append_left _ _)
end
section
variable {P : Program} {w : World} {K : PySem.W.Frag} {mg : Str → Option Value} {base : Heap} {x qual : Str} {params : Arguments} {body : List Stmt} {scope : Scope} {dvs : List V} {kws : List (Str × V)} {f : Addr} {fd : FuncData}
/-- a def that ends without return gives None -/
theorem fn_okD {N ps : List Str} {k : Nat} {T : TSpec} (F : FunD K x qual params body scope dvs kws f fd) (S : FnScope N ps scope) (len : ∀ xs m post xpost, T xs m post xpost → xs.length = ps.length)
    (hbody : ∀ (cdv : Value) (A : Around) (outer : List Env) (s : Shared) (H : Hp) (E : XK) (B0 H0 : Hp) (xs : List TV) (m : Mu) (post : TV → Mu → Prop) (xpost : XV → Mu → Prop), (bodyX P w K mg base N qual scope f cdv A outer s H E).A.guards = some [] → Room k (bodyX P w K mg base N qual scope f cdv A outer s H E).A → T xs m post xpost →
      XT (bodyX P w K mg base N qual scope f cdv A outer s H E) ⟨K, B0, H0, m⟩ (fun y _ m' => xpost y m') →
      Wss (bodyX P w K mg base N qual scope f cdv A outer s H E) ⟨K, B0, H0, m⟩ body (xs.map some ++ List.replicate (N.length - xs.length) none) m { nx := fun _ m' => post (td .non) m', rt := post }) :
    FnG P w K mg base (k + 1) f fd ps T := by
  obtain ⟨oc, od, dV, kV, doc, pm, an, cdv, ct, osl, rfl, lk, hcd, _, _⟩ := F.ex
  refine ⟨len, fun A outer s H args us vs Q E hg hr e0 hb r hsp => ?_⟩
  obtain ⟨B, m, xs, post, xpost, ok, rr, t, k1, k2⟩ := id hsp
  have hl := spOf_len len hsp
  have KX : K.In s.heap := e0.mod.kin.keeps fun b o e => (e0.bs b o e).1
  refine codeAny_call_function hr.depth (KX _ _ lk) rfl S.co S.gen rfl (PySem.W.codeRec_of KX hcd) (hb _ _ _ _ ?_)
  refine wpAny_newFunctionEnv_cells S.kind (fun y hy => ?_) fun env he s1 x1 => ?_
  · rcases S.par y.1 (List.of_mem_zip (a := y.1) (b := y.2) hy).1 with q | q
    · exact .inl q
    · exact .inr ⟨q, PySem.W.cellsFrom_some _ _ _ (.inl q)⟩
  subst he
  refine ⟨(e0.mod.nolimit.keeps fun b o e => (e0.bs b o e).1).keeps x1.toInCall.keep, codeAny_func ?_⟩
  have I : Inv (bodyX P w K mg base N qual scope f cdv A outer s H E) [] (L2.start N vs) H s1 := inv_start S hr.hd e0 hl r x1
  have W := hbody cdv A outer s H E B H xs m post xpost hg (hr.deeper _) t ((takes_of (E := E) rfl rfl rfl rfl).imp fun c d σ H' ⟨_, B', m', y, _, s', ry, p⟩ => k2 c d B' H' m' y s'.go s'.hp ry p)
  have go := W (L2.start N vs) B H { nx := fun _ H' => Q .non H', rt := Q } (envOk_start rr) ⟨ok, .refl⟩ ⟨fun s' B' H' r' m' a b c d => k1 .non B' H' m' (td .non) c.go c.hp (rpt .non) d,
    fun v B' H' m' x a b c d => k1 v B' H' m' x b.go b.hp c d, fun _ _ _ _ _ _ _ _ z => z.elim, fun _ _ _ _ _ _ _ _ z => z.elim⟩ [] s1 I
  refine wpAny_mono go (fun fl s' hs => ?_) fun e s' hs => hs
  match fl, hs with
  | .ret u, ⟨v, σ', H', J, rv, q⟩ => exact ⟨v, H', J.os, J.bare, J.base, J.hok, rv, q⟩
  | .next, ⟨σ', H', J, q⟩ => exact ⟨.non, H', J.os, J.bare, J.base, J.hok, rfl, q⟩
  | .brk, ⟨σ', H', J, q⟩ => exact q.elim
  | .cont, ⟨σ', H', J, q⟩ => exact q.elim
end
end Dy

set_option Elab.async false
set_option linter.all false
set_option maxRecDepth 100000
set_option maxHeartbeats 4000000
namespace Dy
open PySem PySem.Spec PyProof.Rows L2 Ty
variable [CE]
section
variable {α β : Type} {Q : β → Prop} {E : XE → Prop}
theorem opt_s {r : Res α} {k : α → Res β} {Q' : α → Prop} {E' : XE → Prop} (hT : Ok (bo r.opt k) Q E) (h : ∀ d, Ok (k d) Q E → Q' d) : Ok r Q' E' := by
  obtain ⟨a, e, hT⟩ := hT.get
  rw [opt_some] at e
  subst e
  exact h a hT
end
theorem D.un2_flat : ∀ (d : D) x, D.un2 d = some x → isCell d = false := fun d x h => by unfold D.un2 at h; split at h <;> first | rfl | cases h
theorem D.un3_flat : ∀ (d : D) x, D.un3 d = some x → isCell d = false := fun d x h => by unfold D.un3 at h; split at h <;> first | rfl | cases h
theorem D.un4_flat : ∀ (d : D) x, D.un4 d = some x → isCell d = false := fun d x h => by unfold D.un4 at h; split at h <;> first | rfl | cases h
theorem D.un5_flat : ∀ (d : D) x, D.un5 d = some x → isCell d = false := fun d x h => by unfold D.un5 at h; split at h <;> first | rfl | cases h
section
variable {X : Cx} {Z : Zs} {ρ : TEnv} {m : Mu} {P : TV → Mu → Prop} {e : Expr} {es : List Expr} {pos p : Pos} {x : Str} {kk k' n : Nat} {T : TSpec} {dts : List TV} {xp : XV → TEnv → Mu → Prop} {ks : List Str} {kws : List Keyword} {gT : List TV → List TV → List TV}
/-- what the callee changes stands ahead -/
theorem e_callP (F : DefK X.prog X.w X.K X.mg X.base x kk T dts) (hgd : X.A.guards = some []) (hr : Room k' X.A) (hx : XT X Z xp) (h : Wa X Z (e :: es) ρ m fun xs m1 => ∃ m2, m1.Perm m2 ∧ T (xs ++ dts) m2 (fun y m' => ∃ m'', m'.Perm m'' ∧ P y m'') (fun y m' => ∃ m'', m'.Perm m'' ∧ xp y ρ m'')) (hkk : kk ≤ k' := by decide) (hK : X.K = Z.K := by rfl) (hg : Gl X x := by rfl) (hdb : (x == ("__debug__" : Str)) = false := by decide)
    (he : starEach (e :: es) X.env = (false, eval e X.env) :: starEach es X.env := by rfl) (hpl : (backTo pos (starEach es X.env)).any (·.1) = false := by rfl) : We X Z (.Call (.Name x p) (e :: es) [] pos) ρ m P :=
  we_call F hgd hr hx (WpA.imp h fun _ _ ⟨m2, hp, q⟩ => .perm (mf := m2) (r := []) (by simpa using hp) (by simpa using q)) hkk hK hg hdb he hpl
theorem e_callK (F : DefN X.prog X.w X.K X.mg X.base x kk T n ks gT) (hgd : X.A.guards = some []) (hr : Room k' X.A) (hx : XT X Z xp) (h : Wa X Z (e :: es) ρ m fun xs m1 => Wk X Z kws ρ m1 fun ys m2 => xs.length = n ∧ ys.length = ks.length ∧ T (gT xs ys) m2 P (fun y m' => xp y ρ m')) (hkk : kk ≤ k' := by decide) (hK : X.K = Z.K := by rfl) (hg : Gl X x := by rfl) (hdb : (x == ("__debug__" : Str)) = false := by decide)
    (hall : (backToKw pos (keywordEach kws X.env)).all (·.1.isSome) = true := by rfl) (hks : (backToKw pos (keywordEach kws X.env)).filterMap (·.1) = ks := by rfl) (he : starEach (e :: es) X.env = (false, eval e X.env) :: starEach es X.env := by rfl)
    (hpl : ((backTo pos (starEach (e :: es) X.env)).any (·.1) || (backToKw pos (keywordEach kws X.env)).any (·.1.isNone)) = false := by rfl) : We X Z (.Call (.Name x p) (e :: es) kws pos) ρ m P :=
  we_callK F hgd hr hx (WpA.imp h fun _ _ w => WpA.imp w fun _ _ ⟨a, b, c⟩ => ⟨a, b, FrP.all c⟩) hkk hK hg hdb hall hks he hpl
theorem e_callK0 (F : DefN X.prog X.w X.K X.mg X.base x kk T 0 ks gT) (hgd : X.A.guards = some []) (hr : Room k' X.A) (hx : XT X Z xp) (h : Wk X Z kws ρ m fun ys m2 => ys.length = ks.length ∧ T (gT [] ys) m2 P (fun y m' => xp y ρ m')) (hkk : kk ≤ k' := by decide) (hK : X.K = Z.K := by rfl) (hg : Gl X x := by rfl) (hdb : (x == ("__debug__" : Str)) = false := by decide)
    (hall : (backToKw pos (keywordEach kws X.env)).all (·.1.isSome) = true := by rfl) (hks : (backToKw pos (keywordEach kws X.env)).filterMap (·.1) = ks := by rfl)
    (hpl : ((backTo pos (starEach [] X.env)).any (·.1) || (backToKw pos (keywordEach kws X.env)).any (·.1.isNone)) = false := by rfl) : We X Z (.Call (.Name x p) [] kws pos) ρ m P :=
  we_callK0 F hgd hr hx (WpA.imp h fun _ _ ⟨b, c⟩ => ⟨b, FrP.all c⟩) hkk hK hg hdb hall hks hpl
end
end Dy

set_option Elab.async false
set_option linter.all false
set_option maxRecDepth 100000
set_option maxHeartbeats 4000000
namespace Dy
open PySem PySem.Spec PyProof.Rows L2 Ty
variable [CE]
section
variable {m M m' : Mu} {t : TV} {d : D}
theorem Vw.le (hl : Le M m) (h : Vw M t d) : Vw m t d := by
  rcases h with h | ⟨p, n, e, h1, c⟩
  · exact .inl h
  · obtain ⟨l, pm, s⟩ := hl
    obtain ⟨j, hj⟩ := List.getElem?_of_mem (s.subset (pm.subset (List.mem_of_getElem? h1)))
    exact .inr ⟨p, j, e, hj, c⟩
/-! ### a list or a dict that is handed over for good, or a value that never changes -/
def isMut : D → Bool
  | .lst _ => true
  | .dct _ => true
  | _ => false
def Own (m : Mu) (t : TV) (d : D) (m1 : Mu) : Prop := (isMut d = false ∧ Cv t (td d) ∧ m1 = m) ∨ ∃ p, t = tv (Ref.mk p) ∧ m = (p, mC d) :: m1 ∧ isCell d = true
theorem Own.vw {m1 : Mu} (h : Own m t d m1) : Vw m t d := by
  rcases h with ⟨_, h, _⟩ | ⟨p, e, rfl, c⟩
  · exact .inl h
  · exact .inr ⟨p, 0, e, rfl, c⟩
theorem Own.le {m1 : Mu} (h : Own m t d m1) : Le m1 m := by
  rcases h with ⟨_, _, rfl⟩ | ⟨p, e, rfl, c⟩
  · exact Le.rfl
  · exact ⟨m1, .refl _, List.sublist_cons_self _ _⟩
/-! ### attributes of exceptions as views -/
def FV.dd (ds : List D) : FV → D
  | .arg i => ds.getD i .non
  | .dat d => d
inductive Vws (m : Mu) : List TV → List D → Prop
  | nil : Vws m [] []
  | cons {t : TV} {d : D} {ts : List TV} {ds : List D} : Vw m t d → Vws m ts ds → Vws m (t :: ts) (d :: ds)
theorem vw_fv {ts : List TV} {ds : List D} (h : Vws m ts ds) (v : FV) : Vw m (v.tv ts) (v.dd ds) := by
  cases v with
  | dat d => exact Vw.p
  | arg i =>
    show Vw m (ts.getD i (td .non)) (ds.getD i .non)
    induction h generalizing i with
    | nil => exact Vw.p
    | cons a b ih => cases i with
      | zero => exact a
      | succ i => exact ih i
end
section
variable {α β : Type} {Q : β → Prop} {E : XE → Prop}
/-- behind a call of a def that may raise, in a try -/
theorem ok_t {r : Res α} {l : List FV} {k : α → Res β} {ρ : TEnv} {m0 mc : Mu} {ts us : List TV} {Q' : α → Prop} (hT : Ok (bx r l k) Q E) (hl : l.map (FV.tv ts) = us) (hm : Le m0 mc)
    (h : ∀ d, Ok (k d) Q E → Q' d) : Ok r Q' fun y => ∃ y', y.xv us = y'.xv ts ∧ E y' ∧ ρ = ρ ∧ Le m0 mc := by
  refine (Ok.bx.mp hT).imp h fun y hy => ⟨y.sub l, ?_, hy, rfl, hm⟩
  rw [xv_sub, hl]
end
/-- try: the answers, what the clauses say of an exception, what comes behind -/
def tryR {S β : Type} (A : Res (S ⊕ β)) (H : XE → Res β) (k : S → Res β) : Res β := match A with
  | .ok (.inl s) => k s
  | .ok (.inr r) => .ok r
  | .ex y => H y
  | .bad => .bad
section
variable {S β : Type} {Q : β → Prop} {E : XE → Prop}
def tQ (k : S → Res β) (Q : β → Prop) (E : XE → Prop) : S ⊕ β → Prop
  | .inl s => Ok (k s) Q E
  | .inr r => Q r
theorem tryR_s {A : Res (S ⊕ β)} {H : XE → Res β} {k : S → Res β} (h : Ok (tryR A H k) Q E) : Ok A (tQ k Q E) fun y => Ok (H y) Q E := by
  cases A with
  | ok a => cases a <;> exact h
  | ex y => exact h
  | bad => exact h
theorem tryR_iff {A : Res (S ⊕ β)} {H : XE → Res β} {k : S → Res β} : Ok (tryR A H k) Q E ↔ Ok A (tQ k Q E) fun y => Ok (H y) Q E := by
  cases A with
  | ok a => cases a <;> exact Iff.rfl
  | ex y => exact Iff.rfl
  | bad => exact Iff.rfl
end
section
variable {X : Cx} {Z : Zs} {ρ : TEnv} {m : Mu} {De : DE} {xp : XV → TEnv → Mu → Prop}
theorem ws_tryD {body : List Stmt} {h₀ : ExceptHandler} {hds : List ExceptHandler} {pos : Pos} {E1 : XE → Prop} {ts : List TV} (l : List ClsT) (hx : XT X Z xp) (hN : X.N.Nodup) (hd : HdT X (h₀ :: hds) l)
    (hH : ∀ (B0 H0 : Hp) (y : XE), E1 y → xcl X ⟨Z.K, B0, H0, m⟩ De xp l (y.xv ts) ρ m)
    (h : ∀ (B0 H0 : Hp) (pn : List (Addr × Obj)) (xe : Value → Shared → Prop), XT (X.tr pn xe) ⟨Z.K, B0, H0, m⟩ (fun y' ρ' m' => ∃ y : XE, y' = y.xv ts ∧ E1 y ∧ ρ' = ρ ∧ Le m m') → PassesOwn (model X.prog X.w) X.A X.env xe → Wss (X.tr pn xe) ⟨Z.K, B0, H0, m⟩ body ρ m De)
    (hs : X.stack = X.env :: X.outer := by rfl) (hf : X.env.frame = some X.env.locals := by rfl) : Ws X Z (.Try body (h₀ :: hds) [] [] pos) ρ m De :=
  ws_try l hx hN hd (fun B0 H0 pn xe hx po => h B0 H0 pn xe (hx.imp fun c d σ H' ⟨ρ', B, m', y', he, s, r, y, e1, e2, e3, hl⟩ => by
    subst e1 e3
    exact ⟨ρ', B, m, y.xv ts, he, s.le hl, r, hH B0 H0 y e2⟩) po) hs hf
end
section
variable {X : Cx} {Z : Zs} {ρ : TEnv} {m : Mu} {P : TV → Mu → Prop} {y : XE} {ts : List TV} {a dd : Addr} {oe : Obj} {pn : List (Addr × Obj)} {e : Expr} {pos : Pos} {f : Str}
theorem lookup_xv {n : Nat} {v : FV} (hn : n < attrs.length) (hy : ∀ q ∈ y.fs, q.1 < attrs.length) (h : y.fs.lookup n = some v) : (y.xv ts).fs.lookup (anm n) = some (v.tv ts) := by
  unfold XE.xv
  dsimp only
  generalize y.fs = fs at h hy
  induction fs with
  | nil => cases h
  | cons q fs ih =>
    obtain ⟨i, w⟩ := q
    rw [List.lookup_cons] at h
    rw [List.map_cons, List.lookup_cons]
    by_cases ei : n = i
    · subst ei
      simp only [beq_self_eq_true] at h ⊢
      cases h
      rfl
    · have e1 : (n == i) = false := by simpa using ei
      have e2 : (anm n == anm i) = false := beq_false_of_ne fun q => ei (anm_inj hn (hy (i, w) List.mem_cons_self) q)
      rw [e1] at h
      rw [e2]
      exact ih h fun q hq => hy q (List.mem_cons_of_mem _ hq)
end
/-- an attribute of an exception: only where the class has no such name of its own -/
def XE.at (y : XE) (tab : List (Nat × Nat)) (n : Nat) : Option FV := if tab.contains (y.cls, n) = true ∧ n < attrs.length ∧ (y.fs.all fun q => decide (q.1 < attrs.length)) = true then y.fs.lookup n else none
theorem at_s {y : XE} {tab : List (Nat × Nat)} {n : Nat} {v : FV} {ts : List TV} (h : y.at tab n = some v) : (y.cls, n) ∈ tab ∧ (y.xv ts).fs.lookup (anm n) = some (v.tv ts) := by
  unfold XE.at at h
  split at h
  · rename_i hz
    exact ⟨by simpa using hz.1, lookup_xv hz.2.1 (fun q hq => of_decide_eq_true (List.all_eq_true.mp hz.2.2 q hq)) h⟩
  · cases h
/-- e.f of what is caught -/
theorem e_xf {X : Cx} {Z : Zs} {ρ : TEnv} {m : Mu} {P : TV → Mu → Prop} {y : XE} {ts : List TV} {a dd : Addr} {oe : Obj} {pn : List (Addr × Obj)} {pos p : Pos} {f x : Str} {β : Type} {Q : β → Prop} {E : XE → Prop} {tab : List (Nat × Nat)} {n : Nat} {k : FV → Res β} (i : Nat)
    (hT : Ok (bo (y.at tab n) k) Q E) (T : (y.cls, n) ∈ tab → XfC X.K (CE.a y.cls) ∧ PySem.W.findIn X.K (.ref (CE.a y.cls)) (anm n) = some none) (hz : Zc (y.xv ts).cls (some dd) oe) (hf : ∃ vs, oe.data = .fields vs) (h : ∀ v, Ok (k v) Q E → P (v.tv ts) m)
    (en : anm n = f := by rfl) (hρ : ρ[i]? = some (some (tv (XR.mk a : XR (y.xv ts) dd))) := by rfl) (hN : X.N[i]? = some x := by rfl) (hv : Vis X.env.scope x := by first | exact Or.inl rfl | exact Or.inr (Or.inl rfl) | exact Or.inr (Or.inr rfl))
    (hd : (x == ("__debug__" : Str)) = false := by decide) (hcd : (x == ("__classdict__" : Str)) = false := by decide) (hb : attributeBase (.Name x p) f (X.suite a ((a, oe) :: pn)).env (eval (.Name x p) (X.suite a ((a, oe) :: pn)).env) = eval (.Name x p) (X.suite a ((a, oe) :: pn)).env := by rfl) :
    We (X.suite a ((a, oe) :: pn)) Z (.Attribute (.Name x p) f pos) ρ m P := by
  obtain ⟨v, e, hT⟩ := hT.get
  obtain ⟨h1, h2⟩ := at_s (ts := ts) e
  obtain ⟨t1, t2⟩ := T h1
  subst en
  exact we_xf (y := y.xv ts) t1 t2 hz hf (we_name i ⟨rfl, _, h2, h v hT⟩ hρ hN hv hd hcd) hb
end Dy
namespace Dy
open PySem PySem.Spec PyProof.Rows L2 Ty
variable [CE]
section
variable {S β : Type} {Q : β → Prop} {E : XE → Prop}
theorem try_s {A : Res (S ⊕ β)} {H : XE → Res β} {k : S → Res β} (h : Ok (tryR A H k) Q E) : ∃ kk, kk = k ∧ ∃ HH, HH = H ∧ Ok A (tQ kk Q E) fun y => Ok (HH y) Q E := ⟨k, rfl, H, rfl, tryR_s h⟩
end
theorem try_h {S β : Type} {Q : β → Prop} {E : XE → Prop} {A : Res (S ⊕ β)} {H : XE → Res β} {k : S → Res β} (h : Ok (tryR A H k) Q E) : ∃ HH, HH = H ∧ Ok A (tQ k Q E) fun y => Ok (HH y) Q E := ⟨H, rfl, tryR_s h⟩
def asArg (i : Nat) : FV → Option Unit
  | .arg j => if j = i then some () else none
  | .dat _ => none
theorem asArg_is {i : Nat} {v : FV} (h : asArg i v = some ()) : v = .arg i := by
  unfold asArg at h
  split at h
  · split at h
    · rename_i e
      rw [e]
    · cases h
  · cases h
section
variable {X : Cx} {Z : Zs} {ρ : TEnv} {m : Mu} {De : DE} {P : TV → Mu → Prop} {e : Expr} {es : List Expr} {pos : Pos} {tg iter elt : Expr} {scope : Scope} {own : List (Str × Nat)} {β : Type} {Q : β → Prop} {E : XE → Prop} {t u w : TV} {a b c d : D}
theorem ws_leN {st : Stmt} (h : Ws X Z st ρ m { De with nx := fun ρ' m' => ∃ M, Le M m' ∧ De.nx ρ' M }) : Ws X Z st ρ m De := fun σ B H E he hS k => h σ B H E he hS
  ⟨fun s B' H' r m' a b c ⟨M, l, d⟩ => k.nx s B' H' r M a b (c.le l) d, k.rt, k.bk, k.ct⟩
theorem le1 {x : Addr × MV} : Le (x :: m) (m ++ [x]) := ⟨_, (List.perm_append_comm (l₁ := [x]) (l₂ := m)), .refl _⟩
/-- a list that may change is data from here on, as a value -/
theorem we_frzv (h : We X Z e ρ m fun t m' => ∃ (p : Addr) (xs : List D) (m1 : Mu), t = tv (Ref.mk p) ∧ m' = (p, mC (.lst xs)) :: m1 ∧ P (td (.lst xs)) m1) : We X Z e ρ m P := fun σ B H Q he hS k => h σ B H Q he hS fun v B' H' m' x hx hs hv ⟨p, xs, m1, e1, e2, hp⟩ => by
  subst e1 e2
  have hm : ((p, mC (.lst xs)) :: m1)[0]? = some (p, mC (.lst xs)) := rfl
  obtain ⟨vs, hh, rv⟩ := mL_at hs hm
  have hb := (hs.hp.at_ 0 p _ hm).1
  have s2 := hs.freeze hm hh
  have ev : v = .ref p := hv
  subst ev
  exact k (.ref p) _ H' m1 (td (.lst xs)) (hx.trans (Ex.new hb)) s2 (rpt (Rp.lst upd_same (RpA.of (rv.mono (Ex.new hb))))) hp
/-- comprehensions whose list may change -/
theorem lcp_mapOO {xs : List D} {Gd : Mu → Prop} {i : Nat} {f : D → Option D} {k : List D → Res β} (hT : Ok (bo (mapO f xs) k) Q E) (hsz : xs.length ≤ 1000000) (hG : ∀ L, Gd (m ++ L))
    (h : ∀ (s0 : Shared) (H0 : Hp) (C : Addr) (cl : List (Str × Addr)) (fp : List Addr) (L : Mu) (x y : D), f x = some y → We (blkX X scope s0 H0 C cl fp) Z elt ((wipeT ρ (ownIx own)).set i (some (td x))) (m ++ L) fun z m4 => z = td y ∧ m4 = m ++ L)
    (hP : ∀ ys p, Ok (k ys) Q E → P (tv (Ref.mk p)) (m ++ [(p, mC (.lst ys))])) : LcP X Z elt [] scope (rb1 ρ own i) (Cp P) (xs.map td) Gd m := by
  obtain ⟨ys, e, hT⟩ := hT.get
  obtain ⟨h1, h2⟩ := mapO_is e
  subst h2
  refine ⟨fun k acc m' => m' = m ∧ acc = ((xs.take k).map (gOf f)).map td, ⟨rfl, by simp⟩, ?_, by simpa using hsz, ?_, ?_, ?_⟩
  · rintro k acc m' ⟨_, rfl⟩
    simp
    omega
  · rintro k acc m' p ⟨rfl, _⟩
    exact hG _
  · rintro s0 H0 C cl fp k t acc m' p ρ' ht ⟨rfl, rfl⟩ rfl
    obtain ⟨x, hx, rfl⟩ := get_map ht
    refine wts_nil ⟨fun _ s1 H1 C1 cl1 fp1 => (h s1 H1 C1 cl1 fp1 _ x _ (h1 x (List.mem_of_getElem? hx))).imp ?_, fun z => nomatch z⟩
    rintro y m4 ⟨rfl, rfl⟩
    refine ⟨m', rfl, rfl, ?_⟩
    rw [List.take_add_one, hx]
    simp
  · rintro acc m' ⟨rfl, rfl⟩
    refine .own fun p => ⟨_, Cv.rfl, ?_⟩
    rw [List.length_map, List.take_length]
    exact hP _ p hT
/-- x + y: a list that may change -/
theorem o_addO {k : List D → Res β} (va : Vw m t a) (vb : Vw m u b) (hT : Ok (bo (D.addL a b) k) Q E) (h : ∀ d p, Ok (k d) Q E → P (tv (Ref.mk p)) (m ++ [(p, mC (.lst d))])) : OpP X Z (binaryOp .Add) t u m P := by
  obtain ⟨d, e, hT⟩ := hT.get
  unfold D.addL at e
  split at e
  · split at e
    · rename_i xs ys hz
      cases e
      refine add_lO va.lu vb.lu (by simpa using hz) fun p => ?_
      have q := h _ p hT
      have e : mL (List.map td xs ++ List.map td ys) = mC (.lst (xs ++ ys)) := by show _ = mL (List.map td (xs ++ ys)); rw [List.map_append]
      rw [e]
      exact q
    · cases e
  · cases e
theorem o_split2O {k : List D → Res β} (va : Vw m t a) (vb : Vw m u b) (hT : Ok (bo (D.split2L a b) k) Q E) (h : ∀ d p, Ok (k d) Q E → P (tv (Ref.mk p)) (m ++ [(p, mC (.lst d))])) : MetP X Z "str.split" t [u] m P := by
  obtain ⟨d, e, hT⟩ := hT.get
  unfold D.split2L at e
  split at e
  · split at e
    · rename_i x y hz
      cases e
      refine MetP.cv (MetP.of mt_split fun B H Q v vs hS hv hx2 k2 => ?_) va.str (Cvs1 vb.str)
      obtain ⟨w, rfl, r⟩ := reps1 hx2
      refine ⟨x, y, hv, congrArg (fun z => [z]) r, hz.1, by rw [sizeLine_eq]; omega, fun p hp => ?_⟩
      have rr : Reps Z.K B ((Txt.split x y).map V.str) (((Txt.split x y).map D.str).map td) := RpA.reps (strs_rpA of_strs)
      exact k2 (.ref p) B _ _ (tv (Ref.mk p)) (Ex.refl _) (hS.newM hp (c := mC (.lst ((Txt.split x y).map D.str))) ⟨_, rfl, rr⟩) (show V.ref p = .ref p from rfl) (h _ p hT)
    · cases e
  · cases e
end
end Dy

set_option Elab.async false
set_option linter.all false
set_option maxRecDepth 100000
set_option maxHeartbeats 4000000
namespace Dy
open PySem PySem.Spec PyProof.Rows L2 Ty
variable [CE]
section
variable {X : Cx} {Z : Zs} {ρ : TEnv} {m : Mu} {De : DE} {P : TV → Mu → Prop} {e : Expr} {es : List Expr} {pos p p1 : Pos} {β : Type} {Q : β → Prop} {E : XE → Prop} {t u w : TV} {a b c d : D} {k k' : Nat} {x : Str}
theorem e_dct0 (h : P (td (.dct [])) m) : We X Z (.Dict [] [] pos) ρ m P := .of pe_dnewK fun σ B H Q he hS q p hp => by
  have hb := hS.noneB hp
  exact q (.ref p) _ _ m (td (.dct [])) (Ex.new hb) (hS.newB hp) (rpt (Rp.dct upd_same .nil)) h
theorem o_dict1 {k : D → Res β} (hcalm : X.calm = true) (va : Vw m t a) (hT : Ok (bo (D.dict1 a) k) Q E) (h : ∀ d, Ok (k d) Q E → P (td d) m) (hK : X.K = Z.K := by rfl) : CallP X Z (.type "dict") [t] m P := by
  obtain ⟨d, e, hT⟩ := hT.get
  have h := h d hT
  unfold D.dict1 at e
  split at e
  · rename_i x v
    cases e
    refine CallP.of (call_dictP hcalm) fun B H Q vs hS hv k => ?_
    obtain ⟨w, rfl, r⟩ := reps1 hv
    obtain ⟨a, ws, ev, hq, rr⟩ := lstU_at va.lu hS r
    obtain ⟨y, rfl, ry⟩ := reps1 rr
    cases (show Rp Z.K B y (.tup [.str x, v]) from ry) with
    | @tup b zs _ hz rz =>
      cases rz with
      | cons q1 rz => cases rz with
        | @cons z2 _ _ _ q2 rz =>
          cases rz
          cases q1
          subst ev
          refine ⟨a, [b], [(.inr x, z2)], rfl, .of hq, .cons (by rw [hK]; exact hS.ex.seqT hz) .nil, fun p hp => ?_⟩
          have hb := hS.noneB hp
          exact k (.ref p) _ _ m (td (.dct [(.str x, v)])) (Ex.new hb) (hS.newB hp) (rpt (Rp.dct (kvs := [(.inr x, z2)]) upd_same (.cons (k := .inr x) (Rp.mono (Ex.new hb) _ _ q2) .nil))) h
  · rename_i kvs
    cases e
    refine CallP.of call_dictD fun B H Q vs hS hv k => ?_
    obtain ⟨w, rfl, r⟩ := reps1 hv
    have q : ∃ a vs, w = .ref a ∧ H a = some (.dK vs) ∧ RpK Z.K B vs kvs := by
      rcases va with va | ⟨p, n, rfl, hm, _⟩
      · cases (show Rp Z.K B w (.dct kvs) from va _ _ _ r) with
        | dct h1 h2 => exact ⟨_, _, rfl, hS.ex _ _ h1, h2⟩
      · obtain ⟨vs, h1, h2⟩ := dK_at hS.hp hm
        exact ⟨p, vs, r, h1, h2⟩
    obtain ⟨a, vs, ew, ha, rr⟩ := q
    subst ew
    refine ⟨a, vs, rfl, .inl ha, fun p hp => ?_⟩
    have hb := hS.noneB hp
    exact k (.ref p) _ _ m (td (.dct kvs)) (Ex.new hb) (hS.newB hp) (rpt (Rp.dct upd_same (Rp.monoK (Ex.new hb) _ _ rr))) h
  · cases e
theorem o_index2 {k : D → Res β} (va : Vw m t a) (vb : Vw m u b) (hT : Ok (bo (D.index2 a b) k) Q E) (h : ∀ d, Ok (k d) Q E → P (td d) m) : MetP X Z "str.index" t [u] m P := by
  obtain ⟨d, e, hT⟩ := hT.get
  have h := h d hT
  unfold D.index2 at e
  split at e
  · rename_i x y
    split at e
    · rename_i i r ho
      cases e
      refine MetP.cv (MetP.of mt_sindex fun B H Q v vs hS hv hx k2 => ?_) va.str (Cvs1 vb.str)
      obtain ⟨w, rfl, r⟩ := reps1 hx
      exact ⟨x, y, i, _, hv, congrArg (fun z => [z]) r, ho, k2 _ B H m _ (Ex.refl _) hS (rpt (Rp.int _)) h⟩
    · cases e
  · cases e
/-! ### X(e, ..): an own exception as a value -/
theorem fRep_f {K : PySem.W.Frag} {B : Hp} : ∀ {vs : List (Str × V)} {fs : List (Nat × D)}, (∀ q ∈ fs, q.1 < attrs.length) → FRep K B vs (fT fs) → RpF K B vs fs
  | _, [], _, h => by cases h; exact .nil
  | _, (n, d) :: fs, hn, h => by
    cases h with
    | cons a b => exact .cons (hn _ List.mem_cons_self) a (fRep_f (fun q hq => hn q (List.mem_cons_of_mem _ hq)) b)
theorem e_xmk {C : Nat} {ns : List Nat} (F : OexK X.prog X.w X.K X.mg X.base x (CE.a C) k (T_xi C ns) []) (hX : ExcK X.K (CE.a C)) (hgd : X.A.guards = some []) (hr : Room k' X.A)
    (h : Wa X Z (e :: es) ρ m fun xs m1 => ∃ ds : List D, xs = ds.map td ∧ ds.length = ns.length ∧ ds.length ≤ 900 ∧ (∀ n ∈ ns, n < attrs.length) ∧ ∀ a, P (tv (Pin.mk a (.exc C (ns.zip ds).reverse))) m1)
    (hkk : k + 1 ≤ k' := by decide) (hK : X.K = Z.K := by rfl) (hg : Gl X x := by rfl) (hdb : (x == ("__debug__" : Str)) = false := by decide)
    (he : starEach (e :: es) X.env = (false, eval e X.env) :: starEach es X.env := by rfl) (hpl : (backTo p1 (starEach es X.env)).any (·.1) = false := by rfl) :
    We X Z (.Call (.Name x p) (e :: es) [] p1) ρ m P := by
  have w : We X Z (.Call (.Name x p) (e :: es) [] p1) ρ m fun t m' => ∃ (a dx : Addr) (m1 : Mu) (fs : List (Nat × D)), t = tv (Ref.mk a) ∧ m' = m1 ++ [(a, mXo a (CE.a C) (some dx)), (dx, mXd dx (fT fs))] ∧ (∀ q ∈ fs, q.1 < attrs.length) ∧ P (tv (Pin.mk a (.exc C fs))) m1 :=
    we_xmk F hgd hr (WpA.imp h fun xs m1 ⟨ds, ex, hl, h9, hn, hp⟩ => ⟨by rw [ex, List.length_map]; exact h9, fun a => FrP.last ⟨a, xs, by rw [List.append_nil], by rw [ex, List.length_map]; exact hl, rfl, fun dx => ⟨rfl, a, dx, m1, (ns.zip ds).reverse, rfl, ?_, fun q hq => hn _ (List.of_mem_zip (List.mem_reverse.mp hq)).1, hp a⟩⟩⟩) hkk hK hg hdb he hpl
  · refine fun σ B H Q he hS q => w σ B H Q he hS fun v B' H' m' y hx hs hv ⟨a, dx, m1, fs, e1, e2, hn, hp⟩ => ?_
    subst e1 e2
    have ev : v = .ref a := hv
    subst ev
    have hi0 : (m1 ++ [(a, mXo a (CE.a C) (some dx)), (dx, mXd dx (fT fs))])[m1.length]? = some (a, mXo a (CE.a C) (some dx)) := by simp
    obtain ⟨b0, u0, hu0, eu0⟩ := hs.hp.at_ _ a _ hi0
    have eu : u0 = exo a (CE.a C) (some dx) := eu0
    subst eu
    have s1 := hs.freeze hi0 hu0
    rw [List.eraseIdx_append_of_length_le (Nat.le_refl _), Nat.sub_self] at s1
    have s1' : Sta Z (upd B' a (exo a (CE.a C) (some dx))) H' (m1 ++ [(dx, mXd dx (fT fs))]) := s1
    have hi1 : (m1 ++ [(dx, mXd dx (fT fs))])[m1.length]? = some (dx, mXd dx (fT fs)) := by simp
    obtain ⟨b1, u1, hu1, vs, ex, fr⟩ := s1'.hp.at_ _ dx _ hi1
    subst ex
    have s2 := s1'.freeze hi1 hu1
    rw [List.eraseIdx_append_of_length_le (Nat.le_refl _), Nat.sub_self] at s2
    have s2' : Sta Z (upd (upd B' a (exo a (CE.a C) (some dx))) dx (exd dx vs)) H' m1 := by simpa using s2
    have ne : a ≠ dx := fun z => by
      subst z
      rw [upd_same] at b1
      cases b1
    refine q (.ref a) _ H' m1 (tv (Pin.mk a (.exc C fs))) ((hx.trans (Ex.new b0)).trans (Ex.new b1)) s2' ⟨rfl, Rp.exc (hK ▸ hX) (by rw [upd_ne ne]; exact upd_same) upd_same ?_⟩ hp
    exact Rp.monoF (Ex.new b1) _ _ (fRep_f hn fr)
  · subst ex
    rw [show (fT (ns.zip ds).reverse) = (ns.zip (ds.map td)).reverse.map (fun q => (anm q.1, q.2)) from by
      unfold fT
      rw [List.map_reverse, List.map_reverse]
      congr 1
      rw [List.zip_map_right, List.map_map]
      rfl]
end
end Dy

set_option Elab.async false
set_option linter.all false
set_option maxRecDepth 100000
set_option maxHeartbeats 4000000
namespace Dy
open PySem PySem.Spec PyProof.Rows L2 Ty
variable [CE]
/-! ### defs called where an exception is handled -/
theorem _root_.Ty.RmH.mono {j k : Nat} {A : Around} (r : RmH k A) (h : j ≤ k) : RmH j A := ⟨by have := r.dp; omega, by have := r.un; omega⟩
theorem _root_.Ty.RmH.deeper {k : Nat} {A : Around} (r : RmH (k + 1) A) (env : Env) : RmH k (A.deeper env) :=
  ⟨by have := r.dp; show A.depth + 1 + 3 * k + 5 < _; omega, by have := r.un; show A.units + 3 + 16 * k + 200 < _; omega⟩
theorem _root_.Ty.RmH.depth {k : Nat} {A : Around} (r : RmH k A) : A.depth < recursionLimit := by have := r.dp; omega
theorem rmH_of {k : Nat} {A : Around} (r : Room k A) : RmH k A := ⟨r.dp, r.un⟩
theorem rmH_suite {k : Nat} {X : Cx} {a : Addr} {pn : List (Addr × Obj)} (r : Room k X.A) : RmH k (X.suite a pn).A := ⟨r.dp, r.un⟩
structure FnGH (P : Program) (w : World) (K : PySem.W.Frag) (mg : Str → Option Value) (base : Heap) (k : Nat) (f : Addr) (fd : FuncData) (ps : List Str) (T : TSpec) : Prop where
  len : ∀ xs m post xp, T xs m post xp → xs.length = ps.length
  run : ∀ (A : Around) (outer : List Env) (s : Shared) (H : Hp) (args : Args) (us : List Value) (vs : List V) (Q : VK) (E : XK), A.guards = some [] → RmH k A → Env0 P w K mg base A outer s H → BindsTo s fd args (ps.zip us) → Vals vs us →
    spOf K T vs H Q E → codeAny (model P w) A (.call (.ref f) args) (CR (L2.CX P w) outer P w H s Q E) s
abbrev bodyH (P : Program) (w : World) (K : PySem.W.Frag) (mg : Str → Option Value) (base : Heap) (N : List Str) (qual : Str) (scope : Scope) (f : Addr) (cdv : Value) (A : Around) (outer : List Env) (s : Shared) (H : Hp) (E : XK) : Cx :=
  { bodyX P w K mg base N qual scope f cdv A outer s H E with calm := false }
theorem inv_startH {CX : CXT} {P : Program} {w : World} {K : PySem.W.Frag} {mg : Str → Option Value} {base : Heap} {N ps : List Str} {qual : Str} {scope : Scope} {f : Addr} {cd : Value} {A : Around} {outer : List Env} {s s1 : Shared} {H : Hp} {E : XK} {us : List Value} {vs : List V}
    (S : FnScope N ps scope) (e0 : Env0 P w K mg base A outer s H) (hl : vs.length = ps.length) (r : Vals vs us)
    (x : InCallC s s.heap.objs.size (bindL (envOfC qual scope s.heap.objs.size f cd).kindOf (ps.zip us) fun _ => none) (cellsFrom (s.heap.objs.size + 1) scope.names []) (bindC (envOfC qual scope s.heap.objs.size f cd).kindOf (ps.zip us) fun _ => none) s1) :
    L2.Inv { cxOf CX P w K mg base N qual scope f cd A outer s H E with calm := false } [] (L2.start N vs) H s1 := by
  have hpl : ps.length ≤ N.length := by have := congrArg List.length S.pre; rw [List.length_take] at this; omega
  obtain ⟨h1, tk, rfl, hk⟩ := x.done
  have noA : ∀ b : Addr, b ∉ (cxOf CX P w K mg base N qual scope f cd A outer s H E).ex := fun b z => absurd (show b ∈ ([] : List Addr) from z) (by simp)
  refine ⟨⟨e0.mod, S.kind, rfl, rfl, Nat.le_refl _, fun y z c h1 h2 => ?_, fun y hy => ?_, fun y c _ h => ?_, (fun z => Bool.noConfusion (show false = true from z)), Around.frames_deeper e0.frames, .inr ⟨rfl, rfl⟩, fun b z => absurd z (noA b), e0.bs, e0.bsz, fun b _ _ => noA b, fun b z => absurd z (noA b), e0.funs, e0.frf⟩,
    rfl, e0.bare, Un.kept hk, ⟨_, x.toInCall.ns, fun i y v h1 h2 h3 => ?_⟩, fun y c h => ⟨_, x.cell y c h⟩, e0.hok.fresh (Nat.le_refl _), fun y c h => ?_, fun p hp => absurd (show p ∈ ([] : List (Addr × Obj)) from hp) (by simp), e0.hok.kept hk, ?_⟩
  · exact name_of_addr x.apart (PySem.mem_of_lookup h1) (PySem.mem_of_lookup h2)
  · have hy : scope.names.lookup y = some .cell ∨ scope.names.lookup y = some .free := hy
    rcases hy with hy | hy
    · exact cell_has hy
    · exact absurd rfl (S.nofree _ (PySem.mem_of_lookup hy))
  · exact Nat.le_of_lt (x.above y c (PySem.mem_of_lookup h))
  · have hi : i < vs.length := by
      unfold L2.start at h2
      by_cases hi : i < vs.length
      · exact hi
      · rw [List.getElem?_append_right (by simpa using hi)] at h2
        rw [List.getElem?_replicate] at h2
        split at h2 <;> cases h2
    have ha : vs[i]? = some v := by
      unfold L2.start at h2
      rw [List.getElem?_append_left (by simpa using hi), List.getElem?_map] at h2
      cases e : vs[i]? with
      | none => rw [e] at h2; cases h2
      | some a => rw [e] at h2; cases h2; rfl
    obtain ⟨u, hu, rv⟩ := r.get ha
    have hp : ps[i]? = some y := by
      rw [← S.pre, List.getElem?_take_of_lt (by omega)]; exact h1
    have ndP : ps.Nodup := by rw [← S.pre]; exact S.nd.sublist (List.take_sublist _ _)
    refine ⟨u, rv, ?_⟩
    rcases S.par y (List.mem_of_getElem? hp) with k | k
    · exact .inl ⟨k, bindL_get ndP hp hu k⟩
    · obtain ⟨c, e⟩ := cell_has (n := s.heap.objs.size + 1) k
      refine .inr ⟨.inl k, c, e, ?_⟩
      have q := x.cell y c e
      rw [bindC_get ndP hp hu (by show scope.names.lookup y ≠ _; rw [k]; decide)] at q
      exact q
  · exact e0.hok.fresh (Nat.le_of_lt (x.above y c (PySem.mem_of_lookup h)))
  · unfold L2.start
    show _ = N.length
    rw [List.length_append, List.length_map, List.length_replicate]
    omega
section
variable {P : Program} {w : World} {K : PySem.W.Frag} {mg : Str → Option Value} {base : Heap} {x qual : Str} {params : Arguments} {body : List Stmt} {scope : Scope} {dvs : List V} {kws : List (Str × V)} {f : Addr} {fd : FuncData}
theorem fn_okH {N ps : List Str} {k : Nat} {T : TSpec} (F : FunD K x qual params body scope dvs kws f fd) (S : FnScope N ps scope) (len : ∀ xs m post xpost, T xs m post xpost → xs.length = ps.length)
    (hbody : ∀ (cdv : Value) (A : Around) (outer : List Env) (s : Shared) (H : Hp) (E : XK) (B0 H0 : Hp) (xs : List TV) (m : Mu) (post : TV → Mu → Prop) (xpost : XV → Mu → Prop), (bodyH P w K mg base N qual scope f cdv A outer s H E).A.guards = some [] → RmH k (bodyH P w K mg base N qual scope f cdv A outer s H E).A → T xs m post xpost →
      Wss (bodyH P w K mg base N qual scope f cdv A outer s H E) ⟨K, B0, H0, m⟩ body (xs.map some ++ List.replicate (N.length - xs.length) none) m { nx := fun _ m' => post (td .non) m', rt := post }) :
    FnGH P w K mg base (k + 1) f fd ps T := by
  obtain ⟨oc, od, dV, kV, doc, pm, an, cdv, ct, osl, rfl, lk, hcd, _, _⟩ := F.ex
  refine ⟨len, fun A outer s H args us vs Q E hg hr e0 hb r hsp => ?_⟩
  obtain ⟨B, m, xs, post, xpost, ok, rr, t, k1, k2⟩ := id hsp
  have hl := spOf_len len hsp
  have KX : K.In s.heap := e0.mod.kin.keeps fun b o e => (e0.bs b o e).1
  refine codeAny_call_function hr.depth (KX _ _ lk) rfl S.co S.gen rfl (PySem.W.codeRec_of KX hcd) (hb _ _ _ _ ?_)
  refine wpAny_newFunctionEnv_cells S.kind (fun y hy => ?_) fun env he s1 x1 => ?_
  · rcases S.par y.1 (List.of_mem_zip (a := y.1) (b := y.2) hy).1 with q | q
    · exact .inl q
    · exact .inr ⟨q, PySem.W.cellsFrom_some _ _ _ (.inl q)⟩
  subst he
  refine ⟨(e0.mod.nolimit.keeps fun b o e => (e0.bs b o e).1).keeps x1.toInCall.keep, codeAny_func ?_⟩
  have I : L2.Inv (bodyH P w K mg base N qual scope f cdv A outer s H E) [] (L2.start N vs) H s1 := inv_startH S e0 hl r x1
  have W := hbody cdv A outer s H E B H xs m post xpost hg (hr.deeper _) t
  have go := W (L2.start N vs) B H { nx := fun _ H' => Q .non H', rt := Q } (envOk_start rr) ⟨ok, .refl⟩ ⟨fun s' B' H' r' m' a b c d => k1 .non B' H' m' (td .non) c.go c.hp (rpt .non) d,
    fun v B' H' m' x a b c d => k1 v B' H' m' x b.go b.hp c d, fun _ _ _ _ _ _ _ _ z => z.elim, fun _ _ _ _ _ _ _ _ z => z.elim⟩ [] s1 I
  refine wpAny_mono go (fun fl s' hs => ?_) fun e s' hs => hs
  match fl, hs with
  | .ret u, ⟨v, σ', H', J, rv, q⟩ => exact ⟨v, H', J.os, J.bare, J.base, J.hok, rv, q⟩
  | .next, ⟨σ', H', J, q⟩ => exact ⟨.non, H', J.os, J.bare, J.base, J.hok, rfl, q⟩
  | .brk, ⟨σ', H', J, q⟩ => exact q.elim
  | .cont, ⟨σ', H', J, q⟩ => exact q.elim
end
def DefH (P : Program) (w : World) (K : PySem.W.Frag) (mg : Str → Option Value) (base : Heap) (x : Str) (k : Nat) (T : TSpec) : Prop :=
  ∃ (f : Addr) (fd : FuncData) (ps : List Str), FnGH P w K mg base k f fd ps T ∧ mg x = some (.ref f) ∧ PySem.W.keepIn K (.ref f) = true ∧ Binds K fd ps []
theorem defH_mk {P : Program} {w : World} {K : PySem.W.Frag} {mg : Str → Option Value} {base : Heap} {x qual : Str} {params : Arguments} {body : List Stmt} {scope : Scope} {f : Addr} {fd : FuncData} {k : Nat} {T : TSpec} {ps : List Str} {kws : List (Str × V)} (F : FunD K x qual params body scope [] kws f fd) (G : FnGH P w K mg base k f fd ps T) (hm : mg x = some (.ref f))
    (h : ∀ (kV doc pm : Value) (an : Option Addr) (cdv ct : Value) (us : List Value), us.length = ps.length → bindArgs (PySem.W.fnOf x qual params body scope .none kV doc pm an cdv ct) ⟨us, []⟩ = pure (ps.zip us)) : DefH P w K mg base x k T :=
  ⟨f, fd, ps, G, hm, F.kp, F.bindsN h⟩
section
variable {X : Cx} {Z : Zs} {ρ : TEnv} {m : Mu} {P : TV → Mu → Prop} {e : Expr} {es : List Expr} {pos p : Pos} {x : Str} {kk k' n kr : Nat} {T : TSpec} {β : Type} {Q : β → Prop} {E : XE → Prop} {t u : TV} {a b d : D}
theorem e_callH (F : DefH X.prog X.w X.K X.mg X.base x kk T) (hgd : X.A.guards = some []) (hr : RmH k' X.A) (h : Wa X Z (e :: es) ρ m fun xs m1 => T xs m1 P (fun _ _ => False)) (hkk : kk ≤ k' := by decide) (hK : X.K = Z.K := by rfl) (hg : Gl X x := by rfl) (hdb : (x == ("__debug__" : Str)) = false := by decide)
    (he : starEach (e :: es) X.env = (false, eval e X.env) :: starEach es X.env := by rfl) (hpl : (backTo pos (starEach es X.env)).any (·.1) = false := by rfl) : We X Z (.Call (.Name x p) (e :: es) [] pos) ρ m P := by
  obtain ⟨f, fd, ps, G, hm, hk, hb⟩ := F
  refine fun σ B H Q' hE hS kQ pins s I => wpAny_Call_Name_kw (ld_glob I hg hm ?_ hdb)
  have xf : ∀ σ', PassesAt (L2.CX X.prog X.w) X σ' (xk Z ρ noX σ') := fun σ' => xt_passes xt0 σ'
  refine PySem.W.callWith_K (h₀ := X.base) I.ok.mod.kin hk (h σ B H (fun vs H1 => spOf Z.K T vs H1 Q' (xk Z ρ noX σ)) hE hS (fun vs B1 H1 m1 xs e1 s1 r1 w1 => ?_) pos pins s I |> fun w => thn w fun us s1 ⟨vs, H1, I1, r, q⟩ => ⟨I1.kIn, ?_⟩) he hpl
  · exact (FrP.all (T := T) (xp := fun y m' => noX y ρ m') w1).sp (hE.mono e1) s1 r1 fun v' B' H' m' x e3 s3 r3 p3 => kQ v' B' H' m' x (e1.trans e3) s3 r3 p3
  · rw [← hK] at q
    have ln : us.length = ps.length := r.length.symm.trans (spOf_len G.len q)
    have hb' := hb s1 us I1.kIn (by rw [List.append_nil]; exact ln)
    rw [List.append_nil] at hb'
    refine wpAny_call (codeAny_mono (G.run X.A X.stack s1 H1 ⟨us, []⟩ us vs Q' (xk Z ρ noX σ) hgd (hr.mono hkk) I1.env0 hb' r (hK ▸ q)) fun r' s' q => ?_)
    have q2 := g_after (c := .call (.ref f) ⟨us, []⟩) (xf σ) I1 q
    revert q2
    cases r' with
    | error er => exact fun q => q
    | ok fl => cases fl <;> exact fun q => q
end
end Dy

set_option Elab.async false
set_option linter.all false
set_option maxRecDepth 100000
set_option maxHeartbeats 4000000
namespace Dy
open PySem PySem.Spec PyProof.Rows L2 Ty
variable [CE]
/-! ### dicts that may change -/
def kput (kvs : List (D × D)) (k v : D) : List (D × D) := if (kvs.any fun q => D.eqFB q.1 k) = true then kvs.map (fun q => if D.eqFB q.1 k = true then (q.1, v) else q) else kvs ++ [(k, v)]
theorem kDD_eq (a b : Key) : D.eqFB (kDD a) (kDD b) = decide (a = b) := by
  cases a <;> cases b <;> simp [kDD, D.eqFB] <;> rw [Bool.eq_iff_iff] <;> simp
section
variable {K : PySem.W.Frag} {B : Hp}
theorem rpk_any {k : Key} : ∀ {vs : List (Key × V)} {kvs : List (D × D)}, RpK K B vs kvs → (vs.any fun kv => decide (kv.1 = k)) = kvs.any fun q => D.eqFB q.1 (kDD k)
  | _, [], h => by cases h; rfl
  | _, _ :: _, h => by
    cases h with
    | cons a b => rw [List.any_cons, List.any_cons, rpk_any b, kDD_eq]
theorem rpk_map {k : Key} {v : V} {d : D} (hv : Rp K B v d) : ∀ {vs : List (Key × V)} {kvs : List (D × D)}, RpK K B vs kvs → RpK K B (vs.map fun kv => if kv.1 = k then (kv.1, v) else kv) (kvs.map fun q => if D.eqFB q.1 (kDD k) = true then (q.1, d) else q)
  | _, [], h => by cases h; exact .nil
  | _, _ :: _, h => by
    cases h with
    | @cons k1 v1 _ d1 _ a b =>
      rw [List.map_cons, List.map_cons, kDD_eq]
      by_cases e : k1 = k
      · rw [if_pos e, if_pos (decide_eq_true e)]
        exact .cons hv (rpk_map hv b)
      · rw [if_neg e, if_neg (by rw [decide_eq_false e]; exact Bool.false_ne_true)]
        exact .cons a (rpk_map hv b)
theorem rpk_snoc {k : Key} {v : V} {d : D} (hv : Rp K B v d) : ∀ {vs : List (Key × V)} {kvs : List (D × D)}, RpK K B vs kvs → RpK K B (vs ++ [(k, v)]) (kvs ++ [(kDD k, d)])
  | _, [], h => by cases h; exact .cons hv .nil
  | _, _ :: _, h => by
    cases h with
    | cons a b => exact .cons a (rpk_snoc hv b)
theorem rpk_put {k : Key} {v : V} {d : D} (hv : Rp K B v d) {vs : List (Key × V)} {kvs : List (D × D)} (h : RpK K B vs kvs) : RpK K B (putK vs k v) (kput kvs (kDD k) d) := by
  unfold putK kput
  rw [rpk_any h]
  split
  · exact rpk_map hv h
  · exact rpk_snoc hv h
theorem rpk_len {vs : List (Key × V)} : ∀ {kvs : List (D × D)}, RpK K B vs kvs → vs.length = kvs.length
  | [], h => by cases h; rfl
  | _ :: _, h => by
    cases h with
    | cons a b => simp [rpk_len b]
end
section
variable {X : Cx} {Z : Zs} {ρ : TEnv} {m : Mu} {De : DE} {P : TV → Mu → Prop} {ex o i : Expr} {pos pos' : Pos}
/-- d[k] = v -/
theorem s_dput (hu : X.A.units + 1 < cLine) (h : We X Z ex ρ m fun u m1 => We X Z o ρ m1 fun t m2 => We X Z i ρ m2 fun y m3 => ∃ (v : D) (p : Addr) (n : Nat) (kvs : List (D × D)) (x : Str), Cv u (td v) ∧ t = tv (Ref.mk p) ∧ Cv y (tv x) ∧ m3[n]? = some (p, mC (.dct kvs)) ∧ kvs.length < 1000 ∧ De.nx ρ (m3.set n (p, mC (.dct (kput kvs (.str x) v)))))
    (hs : swapsWith ex (some (.Subscript o i pos')) pos.line X.env = pure false := by rfl) : Ws X Z (.Assign [.Subscript o i pos'] ex pos) ρ m De := .of (ps_dput hu pe_sem pe_sem pe_sem hs) fun σ B H E he hS q => we_sub h he hS fun v B1 H1 m1 u a1 b1 c1 d1 e1 => we_sub e1 b1 c1 fun w B2 H2 m2 t a2 b2 c2 d2 e2 => we_sub e2 b2 c2 fun y B3 H3 m3 z a3 b3 c3 d3 e3 => by
  obtain ⟨dv, p, n, kvs, x, cu, rfl, cy, hi, hl, hp⟩ := e3
  obtain ⟨vs, ho, kr⟩ := dK_at c3.hp hi
  refine ⟨p, upd H3 p (.dK (putK vs (.inr x) v)), d2, ?_, ?_⟩
  · have ey : y = .str x := cy _ _ _ d3
    rw [show y = kV (.inr x) from ey]
    exact .k ho (by rw [rpk_len kr, sizeLine_eq]; omega)
  · exact q.nx σ B3 _ ρ _ ((a1.trans a2).trans a3) b3 (c3.write (d := mC (.dct (kput kvs (.str x) dv))) hi ⟨_, rfl, rpk_put (k := .inr x) (Rp.mono (a2.trans a3) _ _ (cu _ _ _ d1)) kr⟩) hp
end
/-! ### a long list held by a name that is not looked into -/
def keepN (n : Nat) (d : D) : Option D := match n with
  | 0 => some d
  | n + 1 => keepN n d
termination_by n
def D.keep (d : D) : Option D := keepN 0 d
theorem D.keep_eq {d : D} : D.keep d = some d := by
  unfold D.keep
  rw [keepN]
theorem keep_s {β : Type} {Q : β → Prop} {E : XE → Prop} {a : D} {k : D → Res β} (hT : Ok (bo (D.keep a) k) Q E) : ∃ d, a = d ∧ Ok (k d) Q E := by
  rw [D.keep_eq] at hT
  exact ⟨a, rfl, hT⟩
end Dy

set_option Elab.async false
set_option linter.all false
set_option maxRecDepth 100000
set_option maxHeartbeats 4000000
namespace Dy
open PySem PySem.Spec PyProof.Rows L2 Ty
/-! ### deciders for the head -/
def iniB (K : PySem.W.Frag) (C : Str) : Bool := He.eqO (PySem.W.findIn K (.ref (He.ga K C)) "__init__") (some (some (.ref (He.ma K (He.ga K C) "__init__")))) && decide (PySem.W.typeIn K (.ref (He.ma K (He.ga K C) "__init__")) = some (.type "function"))
def sysB (K : PySem.W.Frag) : Bool := match K.lookup sysModules with
  | some ⟨_, _, .dict _ _, _⟩ => true
  | _ => false
theorem iniB_ok {K : PySem.W.Frag} {C : Str} (h : iniB K C = true) : PySem.W.findIn K (.ref (He.ga K C)) "__init__" = some (some (.ref (He.ma K (He.ga K C) "__init__"))) ∧ PySem.W.typeIn K (.ref (He.ma K (He.ga K C) "__init__")) = some (.type "function") :=
  ⟨He.eqO_ok (Bool.and_eq_true_iff.mp h).1, of_decide_eq_true (Bool.and_eq_true_iff.mp h).2⟩
theorem sysB_ok {K : PySem.W.Frag} (h : sysB K = true) : ∃ o : Obj, K.lookup sysModules = some o ∧ ∃ es n, o.data = .dict es n := by
  unfold sysB at h
  split at h
  · rename_i e
    exact ⟨_, e, _, _, rfl⟩
  · cases h
def xkB (K : PySem.W.Frag) (C : Addr) : Bool := excB K C && (decide (PySem.W.mroIn K C (.type "object") = some true) && (He.eqO (PySem.W.findIn K (.ref C) "__eq__") (some (some (.builtin "object.__eq__"))) && (["str", "list", "tuple", "dict", "int", "bool"] : List String).all fun T => decide (PySem.W.kitOne K (.ref C) (.type T) = some false)))
theorem xkB_ok {K : PySem.W.Frag} {C : Addr} (h : xkB K C = true) : ExcK K C := by
  unfold xkB at h
  simp only [Bool.and_eq_true, decide_eq_true_eq] at h
  obtain ⟨h1, h2, h3, h4⟩ := h
  exact ⟨excB_ok h1, h2, He.eqO_ok h3, fun T hT => of_decide_eq_true (List.all_eq_true.mp h4 T hT)⟩
end Dy

set_option Elab.async false
set_option linter.all false
set_option maxRecDepth 100000
set_option maxHeartbeats 2000000
namespace Dy
open PySem PySem.Spec PyProof.Rows L2 Ty
/-! ### answers, step by step -/
section
variable {α β : Type} {Q : β → Prop} {E : XE → Prop}
theorem Ok.st {o : Option α} {k : α → Res β} {P : α → Prop} (h : Sm o P) (g : ∀ a, P a → Ok (k a) Q E) : Ok (Dy.bo o k) Q E := by
  cases o with
  | none => exact h.elim
  | some a => exact g a h
theorem Ok.v {o : Option α} {k : α → Res β} {a : α} (e : o = some a) (h : Ok (k a) Q E) : Ok (Dy.bo o k) Q E := by subst e; exact h
theorem Ok.vg {c : Prop} [Decidable c] {k : α → Res β} {a : α} (hc : c) (h : Ok (k a) Q E) : Ok (Dy.bo (if c then some a else none) k) Q E := by rw [if_pos hc]; exact h
theorem Sm.eq {o : Option α} {a : α} (h : Sm o fun x => x = a) : o = some a := by
  cases o with
  | none => exact h.elim
  | some b => exact congrArg some h
theorem Sm.some {P : α → Prop} {a : α} (h : P a) : Sm (some a) P := h
theorem some_if {c : Prop} [Decidable c] {a : α} (hc : c) : (if c then some a else none) = some a := if_pos hc
theorem mapO_map {γ : Type} {f : D → Option β} {g : γ → D} {h : γ → β} : ∀ {l : List γ}, (∀ c ∈ l, f (g c) = some (h c)) → mapO f (l.map g) = some (l.map h)
  | [], _ => rfl
  | c :: l, e => by
    show (f (g c)).bind _ = _
    rw [e c List.mem_cons_self]
    show (mapO f (l.map g)).bind _ = _
    rw [mapO_map fun x hx => e x (List.mem_cons_of_mem _ hx)]
    rfl
theorem filO_map {γ : Type} {p : D → Option Bool} {f : D → Option D} {g : γ → D} {q : γ → Bool} {h : γ → D} : ∀ {l : List γ}, (∀ c ∈ l, p (g c) = some (q c)) → (∀ c ∈ l, f (g c) = some (h c)) → filO p f (l.map g) = some ((l.filter q).map h)
  | [], _, _ => rfl
  | c :: l, e, e2 => by
    show (p (g c)).bind _ = _
    rw [e c List.mem_cons_self]
    show (if q c = true then _ else _) = _
    have ih := filO_map (l := l) (fun x hx => e x (List.mem_cons_of_mem _ hx)) (fun x hx => e2 x (List.mem_cons_of_mem _ hx))
    by_cases hq : q c = true
    · rw [if_pos hq, e2 c List.mem_cons_self, List.filter_cons_of_pos hq]
      show (filO p f (l.map g)).bind _ = _
      rw [ih]
      rfl
    · rw [if_neg hq, List.filter_cons_of_neg hq, ih]
end
theorem blsD_map {γ : Type} {p : γ → Bool} : ∀ {l : List γ}, D.blsD (l.map fun c => .bl (p c)) = some (l.map p)
  | [] => rfl
  | c :: l => by
    show (D.blsD (l.map fun c => .bl (p c))).map _ = _
    rw [blsD_map]
    rfl
theorem all_map {γ : Type} {p : γ → Bool} {l : List γ} : D.all (.lst (l.map fun c => .bl (p c))) = some (.bl (l.all p)) := by
  unfold D.all
  dsimp only
  rw [blsD_map]
  simp [List.all_map]
/-- a sign as a text -/
def sg (c : Nat) : D := .str ⟨#[c]⟩
theorem items_str {x : Str} (h : x.length ≤ 1000000) : D.items (.str x) = some (x.cps.toList.map sg) := some_if h
theorem strsD_sg : ∀ {l : List Nat}, D.strsD (l.map sg) = some (l.map fun c => ⟨#[c]⟩)
  | [] => rfl
  | c :: l => by
    show (D.strsD (l.map sg)).map _ = _
    rw [strsD_sg]
    rfl
theorem pys_strs : ∀ {l : List Str}, D.pys (l.map D.str) = some (l.map PyData.str)
  | [] => by simp [D.pys]
  | c :: l => by
    simp only [List.map_cons, D.pys, D.py, pys_strs]
/-! ### comparisons of signs -/
theorem lt_1 {a b : Nat} : (([a] : List Nat) < [b]) ↔ a < b := by
  constructor
  · intro h
    cases h with
    | rel h => exact h
    | cons h => cases h
  · exact fun h => .rel h
theorem le_sg {a c : Nat} : D.le (sg a) (sg c) = some (decide (a ≤ c)) := by
  show some (!decide (([c] : List Nat) < [a])) = _
  congr 1
  have : (([c] : List Nat) < [a]) ↔ c < a := lt_1
  by_cases h : a ≤ c
  · rw [decide_eq_true h, decide_eq_false (fun q => by have := this.mp q; omega)]; rfl
  · rw [decide_eq_false h, decide_eq_true (this.mpr (by omega))]; rfl
theorem mem_sg {c : Nat} {y : Str} : D.mem (sg c) (.str y) = some (decide (c ∈ y.cps.toList)) := rfl
/-! ### data whose repr is short -/
def Fd (k n : Nat) (d : D) : Prop := ∃ x, d.py = some x ∧ Fine k n x ∧ x.canLay0 = true
def Fds (k n : Nat) (l : List D) : Prop := ∃ xs, D.pys l = some xs ∧ Fines k n xs ∧ PyData.canLayAll0 xs = true
section
variable {k k' n n' : Nat} {d : D} {l : List D}
theorem Fd.mono (h : Fd k n d) (h1 : k ≤ k' := by omega) (h2 : n ≤ n' := by omega) : Fd k' n' d := by
  obtain ⟨x, a, b, c⟩ := h
  exact ⟨x, a, b.mono h1 h2, c⟩
theorem fd_non : Fd 0 0 .non := ⟨_, rfl, fine_none, rfl⟩
theorem fd_bl {b : Bool} : Fd 0 0 (.bl b) := ⟨_, rfl, fine_bool, rfl⟩
theorem fd_int {i : Int} (h : i.natAbs < 10 ^ 29) : Fd 0 97 (.int i) := ⟨_, rfl, fine_int h, rfl⟩
theorem strOk_of {s : Str} (h : ∀ c ∈ s.cps.toList, c < 0x110000) : PyData.strOk s = true := by
  unfold PyData.strOk
  rw [← Array.all_toList, List.all_eq_true]
  exact fun c hc => decide_eq_true (h c hc)
theorem strOk_is {s : Str} (h : PyData.strOk s = true) : ∀ c ∈ s.cps.toList, c < 0x110000 := by
  unfold PyData.strOk at h
  rw [← Array.all_toList, List.all_eq_true] at h
  exact fun c hc => of_decide_eq_true (h c hc)
theorem fd_str {s : Str} (h : ∀ c ∈ s.cps.toList, c < 0x110000) : Fd 0 s.length (.str s) := ⟨_, rfl, fine_str fun c hc => Nat.lt_trans (h c hc) (by decide), strOk_of h⟩
theorem fds_nil : Fds 0 0 [] := ⟨[], by simp [D.pys], fines_nil, rfl⟩
theorem fds_cons (h : Fd k n d) (t : Fds k' n' l) : Fds (max k k') (n + 1 + n') (d :: l) := by
  obtain ⟨x, a, b, c⟩ := h
  obtain ⟨xs, a', b', c'⟩ := t
  refine ⟨x :: xs, ?_, fines_cons b b', ?_⟩
  · simp only [D.pys, a, a']
  · simp only [PyData.canLayAll0, c, c']; rfl
theorem fd_lst (h : Fds k n l) : Fd (k + 1) n (.lst l) := by
  obtain ⟨xs, a, b, c⟩ := h
  refine ⟨.list xs, ?_, fine_list b, by simpa only [PyData.canLay0] using c⟩
  simp only [D.py, a, Option.map_some]
theorem fd_tup (h : Fds k n l) : Fd (k + 1) n (.tup l) := by
  obtain ⟨xs, a, b, c⟩ := h
  refine ⟨.tuple xs, ?_, fine_tuple b, by simpa only [PyData.canLay0] using c⟩
  simp only [D.py, a, Option.map_some]
theorem fds_mem {a : D} : ∀ {l : List D}, Fds k n l → a ∈ l → Fd k n a
  | [], _, h => nomatch h
  | b :: l, ⟨xs, e, f, c⟩, h => by
    simp only [D.pys] at e
    split at e
    · rename_i y ys e1 e2
      cases e
      obtain ⟨g1, g2, g3, g4⟩ := f
      simp only [PyData.leavesShortAll, Bool.and_eq_true] at g1
      simp only [PyData.showableAll, Bool.and_eq_true] at g2
      simp only [PyData.depthAll] at g3
      simp only [PyData.weightAll] at g4
      simp only [PyData.canLayAll0, Bool.and_eq_true] at c
      rcases List.mem_cons.mp h with rfl | h
      · exact ⟨y, e1, ⟨g1.1, g2.1, by omega, by omega⟩, c.1⟩
      · exact fds_mem (l := l) ⟨ys, e2, ⟨g1.2, g2.2, by omega, by omega⟩, c.2⟩ h
    · cases e
theorem Fd.lst (h : Fd k n (.lst l)) : Fds k n l := by
  obtain ⟨x, e, f, c⟩ := h
  simp only [D.py] at e
  cases e1 : D.pys l with
  | none => rw [e1] at e; cases e
  | some xs =>
    rw [e1] at e
    cases e
    obtain ⟨g1, g2, g3, g4⟩ := f
    simp only [PyData.leavesShort] at g1
    simp only [PyData.showable] at g2
    simp only [PyData.depth] at g3
    simp only [PyData.weight] at g4
    simp only [PyData.canLay0] at c
    exact ⟨xs, e1, ⟨g1, g2, by omega, g4⟩, c⟩
theorem Fd.tup (h : Fd k n (.tup l)) : Fds k n l := by
  obtain ⟨x, e, f, c⟩ := h
  simp only [D.py] at e
  cases e1 : D.pys l with
  | none => rw [e1] at e; cases e
  | some xs =>
    rw [e1] at e
    cases e
    obtain ⟨g1, g2, g3, g4⟩ := f
    simp only [PyData.leavesShort] at g1
    simp only [PyData.showable] at g2
    simp only [PyData.depth] at g3
    simp only [PyData.weight] at g4
    simp only [PyData.canLay0] at c
    exact ⟨xs, e1, ⟨g1, g2, by omega, g4⟩, c⟩
theorem Fd.str {s : Str} (h : Fd k n (.str s)) : s.length ≤ n ∧ ∀ c ∈ s.cps.toList, c < 0x110000 := by
  obtain ⟨x, e, f, c⟩ := h
  cases e
  exact ⟨f.wt, strOk_is c⟩
theorem Fd.tyn (h : Fd k n d) : d.tyn ≠ "" := by
  obtain ⟨x, e, f, c⟩ := h
  cases d <;> first | (simp [D.tyn]; done) | (simp [D.py] at e; done)
theorem Fd.repr (h : Fd k n d) (hk : k ≤ 60 := by omega) (hn : n ≤ 400000 := by omega) : ∃ s, D.repr d = some (.str s) := by
  obtain ⟨x, e, f, c⟩ := h
  refine ⟨x.shown, ?_⟩
  unfold D.repr
  rw [e]
  exact if_pos ⟨f.sh, Nat.le_trans f.dp hk, f.shown hn⟩
theorem fds_app {l' : List D} (h : Fds k n l) (t : Fds k' n' l') : Fds (max k k') (n + n') (l ++ l') := by
  obtain ⟨xs, a, b, c⟩ := h
  obtain ⟨ys, a', b', c'⟩ := t
  have key : ∀ {l : List D} {xs : List PyData}, D.pys l = some xs → PyData.canLayAll0 xs = true → D.pys (l ++ l') = some (xs ++ ys) ∧ PyData.canLayAll0 (xs ++ ys) = true := by
    intro l
    induction l with
    | nil => intro xs a c; simp [D.pys] at a; subst a; exact ⟨a', c'⟩
    | cons d l ih =>
      intro xs a c
      simp only [D.pys] at a
      split at a
      · rename_i y zs e1 e2
        cases a
        simp only [PyData.canLayAll0, Bool.and_eq_true] at c
        obtain ⟨q1, q2⟩ := ih e2 c.2
        constructor
        · simp only [List.cons_append, D.pys, e1, q1]
        · simp only [List.cons_append, PyData.canLayAll0, c.1, q2]; rfl
      · cases a
  obtain ⟨q1, q2⟩ := key a c
  exact ⟨xs ++ ys, q1, b.append b', q2⟩
theorem Fd.shaped {x : PyData} (h : Fine k n x) (c : x.canLay0 = true) (hk : k ≤ 64) : SeqAt.shaped x = true := by
  unfold SeqAt.shaped
  rw [c, decide_eq_true (Nat.le_trans h.dp hk)]
  rfl
/-- == of data -/
theorem Fd.eqP {d' : D} (h : Fd k n d) (h' : Fd k' n' d') (hk : k ≤ 60 := by omega) (hk' : k' ≤ 60 := by omega) : ∃ x y, d.py = some x ∧ d'.py = some y ∧ D.eqP d d' = some (PyData.eqv x y) := by
  obtain ⟨x, e, f, c⟩ := h
  obtain ⟨y, e', f', c'⟩ := h'
  refine ⟨x, y, e, e', ?_⟩
  unfold D.eqP
  rw [e, e']
  exact if_pos ⟨Fd.shaped f c (by omega), Fd.shaped f' c' (by omega)⟩
/-- == of a list of texts with [] -/
theorem eq_nil {l : List Nat} (h : ∀ c ∈ l, c < 0x110000) : D.eq (.lst (l.map sg)) (.lst []) = some l.isEmpty := by
  have e : ∀ {l : List Nat}, D.pys (l.map sg) = some (l.map fun c => PyData.str ⟨#[c]⟩) := by
    intro l
    induction l with
    | nil => simp [D.pys]
    | cons c l ih => simp only [List.map_cons, D.pys, sg, D.py, ih]
  have s : SeqAt.shaped (.list (l.map fun c => PyData.str ⟨#[c]⟩)) = true := by
    have := shaped_strs (xs := l.map fun c => (⟨#[c]⟩ : Str)) (by
      intro y hy c hc
      obtain ⟨a, ha, rfl⟩ := List.mem_map.mp hy
      rw [List.mem_singleton.mp (show c ∈ [a] from hc)]
      exact h a ha)
    rw [List.map_map] at this
    exact this
  show D.eqP _ _ = _
  unfold D.eqP
  simp only [D.py, e, Option.map_some, show D.pys [] = some [] by simp [D.pys]]
  rw [if_pos ⟨s, by decide⟩]
  cases l <;> simp [PyData.eqv, PyData.eqvAll]
end
end Dy

set_option Elab.async false
set_option linter.all false
set_option maxRecDepth 100000
set_option maxHeartbeats 4000000
namespace K01
open PySem PySem.Spec PyProof.Rows L2 Ty
def top (i : Nat) : Stmt := PySem.Challenge.pw_allalong_k01_lines_and_texts.main.body.getD i (.Pass ⟨0, 0, 0, 0⟩)
abbrev s_InvalidLine_init : Stmt := inClass (top 2) 0
theorem sc_InvalidLine_init : FnScope ["self", "given"] ["self", "given"] (defScope s_InvalidLine_init) := ⟨rfl, rfl, rfl, by decide +kernel, rfl, by decide +kernel, by decide +kernel⟩
abbrev s_InvalidText_init : Stmt := inClass (top 3) 0
theorem sc_InvalidText_init : FnScope ["self", "given"] ["self", "given"] (defScope s_InvalidText_init) := ⟨rfl, rfl, rfl, by decide +kernel, rfl, by decide +kernel, by decide +kernel⟩
abbrev s_is_integer : Stmt := top 8
theorem sc_is_integer : FnScope ["value"] ["value"] (defScope s_is_integer) := ⟨rfl, rfl, rfl, by decide +kernel, rfl, by decide +kernel, by decide +kernel⟩
abbrev s_is_count : Stmt := top 9
theorem sc_is_count : FnScope ["value"] ["value"] (defScope s_is_count) := ⟨rfl, rfl, rfl, by decide +kernel, rfl, by decide +kernel, by decide +kernel⟩
abbrev s_is_index : Stmt := top 10
theorem sc_is_index : FnScope ["value", "many"] ["value", "many"] (defScope s_is_index) := ⟨rfl, rfl, rfl, by decide +kernel, rfl, by decide +kernel, by decide +kernel⟩
abbrev s_is_house : Stmt := top 11
theorem sc_is_house : FnScope ["value"] ["value"] (defScope s_is_house) := ⟨rfl, rfl, rfl, by decide +kernel, rfl, by decide +kernel, by decide +kernel⟩
abbrev s_is_signs : Stmt := top 12
theorem sc_is_signs : FnScope ["value", "most", "sign"] ["value", "most"] (defScope s_is_signs) := ⟨rfl, rfl, rfl, by decide +kernel, rfl, by decide +kernel, by decide +kernel⟩
abbrev s_count_in : Stmt := top 13
theorem sc_count_in : FnScope ["word", "sign"] ["word"] (defScope s_count_in) := ⟨rfl, rfl, rfl, by decide +kernel, rfl, by decide +kernel, by decide +kernel⟩
abbrev s_is_cell : Stmt := top 17
theorem sc_is_cell : FnScope ["value", "letter"] ["value"] (defScope s_is_cell) := ⟨rfl, rfl, rfl, by decide +kernel, rfl, by decide +kernel, by decide +kernel⟩
abbrev s_is_text : Stmt := top 18
theorem sc_is_text : FnScope ["value"] ["value"] (defScope s_is_text) := ⟨rfl, rfl, rfl, by decide +kernel, rfl, by decide +kernel, by decide +kernel⟩
abbrev s_is_line : Stmt := top 19
theorem sc_is_line : FnScope ["value", "maker", "number", "cell", "text"] ["value"] (defScope s_is_line) := ⟨rfl, rfl, rfl, by decide +kernel, rfl, by decide +kernel, by decide +kernel⟩
abbrev s_check_line : Stmt := top 20
theorem sc_check_line : FnScope ["line"] ["line"] (defScope s_check_line) := ⟨rfl, rfl, rfl, by decide +kernel, rfl, by decide +kernel, by decide +kernel⟩
abbrev s_key : Stmt := top 21
theorem sc_key : FnScope ["line"] ["line"] (defScope s_key) := ⟨rfl, rfl, rfl, by decide +kernel, rfl, by decide +kernel, by decide +kernel⟩
abbrev s_line_text : Stmt := top 22
theorem sc_line_text : FnScope ["line", "maker", "number", "cell", "text"] ["line"] (defScope s_line_text) := ⟨rfl, rfl, rfl, by decide +kernel, rfl, by decide +kernel, by decide +kernel⟩
abbrev s_line_in : Stmt := top 23
theorem sc_line_in : FnScope ["text", "parts", "line"] ["text"] (defScope s_line_in) := ⟨rfl, rfl, rfl, by decide +kernel, rfl, by decide +kernel, by decide +kernel⟩
abbrev s_read_line : Stmt := top 24
theorem sc_read_line : FnScope ["text", "line"] ["text"] (defScope s_read_line) := ⟨rfl, rfl, rfl, by decide +kernel, rfl, by decide +kernel, by decide +kernel⟩
abbrev s_l_cell : Stmt := top 26
theorem sc_l_cell : FnScope ["script", "k"] ["script", "k"] (defScope s_l_cell) := ⟨rfl, rfl, rfl, by decide +kernel, rfl, by decide +kernel, by decide +kernel⟩
abbrev s_l_box : Stmt := top 27
theorem sc_l_box : FnScope ["great"] ["great"] (defScope s_l_box) := ⟨rfl, rfl, rfl, by decide +kernel, rfl, by decide +kernel, by decide +kernel⟩
abbrev s_l_take : Stmt := top 28
theorem sc_l_take : FnScope ["box", "many", "digit", "mixed"] ["box", "many"] (defScope s_l_take) := ⟨rfl, rfl, rfl, by decide +kernel, rfl, by decide +kernel, by decide +kernel⟩
abbrev s_l_any : Stmt := top 29
theorem sc_l_any : FnScope ["box", "many", "signs", "turn"] ["box", "many"] (defScope s_l_any) := ⟨rfl, rfl, rfl, by decide +kernel, rfl, by decide +kernel, by decide +kernel⟩
abbrev s_l_letters : Stmt := top 30
theorem sc_l_letters : FnScope ["box", "many", "letters", "turn"] ["box", "many"] (defScope s_l_letters) := ⟨rfl, rfl, rfl, by decide +kernel, rfl, by decide +kernel, by decide +kernel⟩
abbrev s_l_number : Stmt := top 31
theorem sc_l_number : FnScope ["box", "which"] ["box"] (defScope s_l_number) := ⟨rfl, rfl, rfl, by decide +kernel, rfl, by decide +kernel, by decide +kernel⟩
abbrev s_l_maker : Stmt := top 32
theorem sc_l_maker : FnScope ["box", "which", "any_one"] ["box"] (defScope s_l_maker) := ⟨rfl, rfl, rfl, by decide +kernel, rfl, by decide +kernel, by decide +kernel⟩
abbrev s_l_line : Stmt := top 33
theorem sc_l_line : FnScope ["box", "which", "long", "cell", "text"] ["box"] (defScope s_l_line) := ⟨rfl, rfl, rfl, by decide +kernel, rfl, by decide +kernel, by decide +kernel⟩
abbrev s_l_count : Stmt := top 34
theorem sc_l_count : FnScope ["value"] ["value"] (defScope s_l_count) := ⟨rfl, rfl, rfl, by decide +kernel, rfl, by decide +kernel, by decide +kernel⟩
abbrev s_l_is_cell : Stmt := top 35
theorem sc_l_is_cell : FnScope ["value", "sign"] ["value"] (defScope s_l_is_cell) := ⟨rfl, rfl, rfl, by decide +kernel, rfl, by decide +kernel, by decide +kernel⟩
abbrev s_l_is_text : Stmt := top 36
theorem sc_l_is_text : FnScope ["value", "sign"] ["value"] (defScope s_l_is_text) := ⟨rfl, rfl, rfl, by decide +kernel, rfl, by decide +kernel, by decide +kernel⟩
abbrev s_l_is_line : Stmt := top 37
theorem sc_l_is_line : FnScope ["value"] ["value"] (defScope s_l_is_line) := ⟨rfl, rfl, rfl, by decide +kernel, rfl, by decide +kernel, by decide +kernel⟩
abbrev s_l_written : Stmt := top 38
theorem sc_l_written : FnScope ["line"] ["line"] (defScope s_l_written) := ⟨rfl, rfl, rfl, by decide +kernel, rfl, by decide +kernel, by decide +kernel⟩
abbrev s_l_digits : Stmt := top 39
theorem sc_l_digits : FnScope ["word", "sign"] ["word"] (defScope s_l_digits) := ⟨rfl, rfl, rfl, by decide +kernel, rfl, by decide +kernel, by decide +kernel⟩
abbrev s_l_read : Stmt := top 40
theorem sc_l_read : FnScope ["text", "parts", "line"] ["text"] (defScope s_l_read) := ⟨rfl, rfl, rfl, by decide +kernel, rfl, by decide +kernel, by decide +kernel⟩
abbrev s_l_equal : Stmt := top 41
theorem sc_l_equal : FnScope ["told", "due"] ["told", "due"] (defScope s_l_equal) := ⟨rfl, rfl, rfl, by decide +kernel, rfl, by decide +kernel, by decide +kernel⟩
abbrev s_l_copy : Stmt := top 42
theorem sc_l_copy : FnScope ["value"] ["value"] (defScope s_l_copy) := ⟨rfl, rfl, rfl, by decide +kernel, rfl, by decide +kernel, by decide +kernel⟩
abbrev s_l_very : Stmt := top 43
theorem sc_l_very : FnScope ["given", "value"] ["given", "value"] (defScope s_l_very) := ⟨rfl, rfl, rfl, by decide +kernel, rfl, by decide +kernel, by decide +kernel⟩
abbrev s_l_odd_cell : Stmt := top 44
theorem sc_l_odd_cell : FnScope ["box", "cell", "which", "at", "sign"] ["box", "cell"] (defScope s_l_odd_cell) := ⟨rfl, rfl, rfl, by decide +kernel, rfl, by decide +kernel, by decide +kernel⟩
abbrev s_l_odd_text : Stmt := top 45
theorem sc_l_odd_text : FnScope ["box", "text", "which", "at"] ["box", "text"] (defScope s_l_odd_text) := ⟨rfl, rfl, rfl, by decide +kernel, rfl, by decide +kernel, by decide +kernel⟩
abbrev s_l_odd : Stmt := top 46
theorem sc_l_odd : FnScope ["box", "line", "place", "which", "items", "odd", "more"] ["box", "line"] (defScope s_l_odd) := ⟨rfl, rfl, rfl, by decide +kernel, rfl, by decide +kernel, by decide +kernel⟩
abbrev s_l_spoilt : Stmt := top 47
theorem sc_l_spoilt : FnScope ["box", "text", "which", "near", "at", "sign", "words", "one", "other", "kept"] ["box", "text"] (defScope s_l_spoilt) := ⟨rfl, rfl, rfl, by decide +kernel, rfl, by decide +kernel, by decide +kernel⟩
abbrev s_l_short : Stmt := top 48
theorem sc_l_short : FnScope ["text", "words", "word", "sign"] ["text"] (defScope s_l_short) := ⟨rfl, rfl, rfl, by decide +kernel, rfl, by decide +kernel, by decide +kernel⟩
abbrev s_l_judged : Stmt := top 49
theorem sc_l_judged : FnScope ["value", "turn", "handed", "told", "k"] ["value", "turn"] (defScope s_l_judged) := ⟨rfl, rfl, rfl, by decide +kernel, rfl, by decide +kernel, by decide +kernel⟩
abbrev s_l_told : Stmt := top 50
theorem sc_l_told : FnScope ["value", "door", "turn", "e"] ["value", "door", "turn"] (defScope s_l_told) := ⟨rfl, rfl, rfl, by decide +kernel, rfl, by decide +kernel, by decide +kernel⟩
abbrev s_l_line_right : Stmt := top 51
theorem sc_l_line_right : FnScope ["value", "turn", "due", "again", "told"] ["value", "turn"] (defScope s_l_line_right) := ⟨rfl, rfl, rfl, by decide +kernel, rfl, by decide +kernel, by decide +kernel⟩
abbrev s_l_text_right : Stmt := top 52
theorem sc_l_text_right : FnScope ["value", "due", "turn", "handed", "told", "e"] ["value", "due", "turn"] (defScope s_l_text_right) := ⟨rfl, rfl, rfl, by decide +kernel, rfl, by decide +kernel, by decide +kernel⟩
abbrev s_l_object_right : Stmt := top 53
theorem sc_l_object_right : FnScope ["thing", "refused", "door", "e"] ["thing"] (defScope s_l_object_right) := ⟨rfl, rfl, rfl, by decide +kernel, rfl, by decide +kernel, by decide +kernel⟩
abbrev s_l_others_right : Stmt := top 54
theorem sc_l_others_right : FnScope ["line", "text", "values", "k"] ["line"] (defScope s_l_others_right) := ⟨rfl, rfl, rfl, by decide +kernel, rfl, by decide +kernel, by decide +kernel⟩
abbrev s_l_right : Stmt := top 55
theorem sc_l_right : FnScope ["box", "lines", "line", "text", "turn", "odd", "near"] ["box"] (defScope s_l_right) := ⟨rfl, rfl, rfl, by decide +kernel, rfl, by decide +kernel, by decide +kernel⟩
abbrev s_law : Stmt := top 56
theorem sc_law : FnScope ["script", "k"] ["script"] (defScope s_law) := ⟨rfl, rfl, rfl, by decide +kernel, rfl, by decide +kernel, by decide +kernel⟩
end K01

set_option Elab.async false
set_option linter.all false
set_option maxRecDepth 100000
set_option maxHeartbeats 4000000

namespace K01
open PySem PySem.Spec PyProof.Rows L2 Ty Dy
variable [CE]

structure Tx (K : PySem.W.Frag) (mg : Str → Option Value) (base : Heap) : Prop where
  f_is_integer : ∃ f fd, FunD K "is_integer" "is_integer" (defArgs s_is_integer) (defBody s_is_integer) (defScope s_is_integer) [] [] f fd ∧ mg "is_integer" = some (.ref f)
  f_is_count : ∃ f fd, FunD K "is_count" "is_count" (defArgs s_is_count) (defBody s_is_count) (defScope s_is_count) [] [] f fd ∧ mg "is_count" = some (.ref f)
  f_is_index : ∃ f fd, FunD K "is_index" "is_index" (defArgs s_is_index) (defBody s_is_index) (defScope s_is_index) [] [] f fd ∧ mg "is_index" = some (.ref f)
  f_is_house : ∃ f fd, FunD K "is_house" "is_house" (defArgs s_is_house) (defBody s_is_house) (defScope s_is_house) [] [] f fd ∧ mg "is_house" = some (.ref f)
  f_is_signs : ∃ f fd, FunD K "is_signs" "is_signs" (defArgs s_is_signs) (defBody s_is_signs) (defScope s_is_signs) [.non] [] f fd ∧ mg "is_signs" = some (.ref f)
  f_count_in : ∃ f fd, FunD K "count_in" "count_in" (defArgs s_count_in) (defBody s_count_in) (defScope s_count_in) [] [] f fd ∧ mg "count_in" = some (.ref f)
  f_is_cell : ∃ f fd, FunD K "is_cell" "is_cell" (defArgs s_is_cell) (defBody s_is_cell) (defScope s_is_cell) [] [] f fd ∧ mg "is_cell" = some (.ref f)
  f_is_text : ∃ f fd, FunD K "is_text" "is_text" (defArgs s_is_text) (defBody s_is_text) (defScope s_is_text) [] [] f fd ∧ mg "is_text" = some (.ref f)
  f_is_line : ∃ f fd, FunD K "is_line" "is_line" (defArgs s_is_line) (defBody s_is_line) (defScope s_is_line) [] [] f fd ∧ mg "is_line" = some (.ref f)
  f_check_line : ∃ f fd, FunD K "check_line" "check_line" (defArgs s_check_line) (defBody s_check_line) (defScope s_check_line) [] [] f fd ∧ mg "check_line" = some (.ref f)
  f_key : ∃ f fd, FunD K "key" "key" (defArgs s_key) (defBody s_key) (defScope s_key) [] [] f fd ∧ mg "key" = some (.ref f)
  f_line_text : ∃ f fd, FunD K "line_text" "line_text" (defArgs s_line_text) (defBody s_line_text) (defScope s_line_text) [] [] f fd ∧ mg "line_text" = some (.ref f)
  f_line_in : ∃ f fd, FunD K "line_in" "line_in" (defArgs s_line_in) (defBody s_line_in) (defScope s_line_in) [] [] f fd ∧ mg "line_in" = some (.ref f)
  f_read_line : ∃ f fd, FunD K "read_line" "read_line" (defArgs s_read_line) (defBody s_read_line) (defScope s_read_line) [] [] f fd ∧ mg "read_line" = some (.ref f)
  f_l_cell : ∃ f fd, FunD K "_law_cell" "_law_cell" (defArgs s_l_cell) (defBody s_l_cell) (defScope s_l_cell) [] [] f fd ∧ mg "_law_cell" = some (.ref f)
  f_l_box : ∃ f fd, FunD K "_law_box" "_law_box" (defArgs s_l_box) (defBody s_l_box) (defScope s_l_box) [] [] f fd ∧ mg "_law_box" = some (.ref f)
  f_l_take : ∃ f fd, FunD K "_law_take" "_law_take" (defArgs s_l_take) (defBody s_l_take) (defScope s_l_take) [] [] f fd ∧ mg "_law_take" = some (.ref f)
  f_l_any : ∃ f fd, FunD K "_law_any" "_law_any" (defArgs s_l_any) (defBody s_l_any) (defScope s_l_any) [] [] f fd ∧ mg "_law_any" = some (.ref f)
  f_l_letters : ∃ f fd, FunD K "_law_letters" "_law_letters" (defArgs s_l_letters) (defBody s_l_letters) (defScope s_l_letters) [] [] f fd ∧ mg "_law_letters" = some (.ref f)
  f_l_number : ∃ f fd, FunD K "_law_number" "_law_number" (defArgs s_l_number) (defBody s_l_number) (defScope s_l_number) [] [] f fd ∧ mg "_law_number" = some (.ref f)
  f_l_maker : ∃ f fd, FunD K "_law_maker" "_law_maker" (defArgs s_l_maker) (defBody s_l_maker) (defScope s_l_maker) [] [] f fd ∧ mg "_law_maker" = some (.ref f)
  f_l_line : ∃ f fd, FunD K "_law_line" "_law_line" (defArgs s_l_line) (defBody s_l_line) (defScope s_l_line) [] [] f fd ∧ mg "_law_line" = some (.ref f)
  f_l_count : ∃ f fd, FunD K "_law_count" "_law_count" (defArgs s_l_count) (defBody s_l_count) (defScope s_l_count) [] [] f fd ∧ mg "_law_count" = some (.ref f)
  f_l_is_cell : ∃ f fd, FunD K "_law_is_cell" "_law_is_cell" (defArgs s_l_is_cell) (defBody s_l_is_cell) (defScope s_l_is_cell) [] [] f fd ∧ mg "_law_is_cell" = some (.ref f)
  f_l_is_text : ∃ f fd, FunD K "_law_is_text" "_law_is_text" (defArgs s_l_is_text) (defBody s_l_is_text) (defScope s_l_is_text) [] [] f fd ∧ mg "_law_is_text" = some (.ref f)
  f_l_is_line : ∃ f fd, FunD K "_law_is_line" "_law_is_line" (defArgs s_l_is_line) (defBody s_l_is_line) (defScope s_l_is_line) [] [] f fd ∧ mg "_law_is_line" = some (.ref f)
  f_l_written : ∃ f fd, FunD K "_law_written" "_law_written" (defArgs s_l_written) (defBody s_l_written) (defScope s_l_written) [] [] f fd ∧ mg "_law_written" = some (.ref f)
  f_l_digits : ∃ f fd, FunD K "_law_digits" "_law_digits" (defArgs s_l_digits) (defBody s_l_digits) (defScope s_l_digits) [] [] f fd ∧ mg "_law_digits" = some (.ref f)
  f_l_read : ∃ f fd, FunD K "_law_read" "_law_read" (defArgs s_l_read) (defBody s_l_read) (defScope s_l_read) [] [] f fd ∧ mg "_law_read" = some (.ref f)
  f_l_equal : ∃ f fd, FunD K "_law_equal" "_law_equal" (defArgs s_l_equal) (defBody s_l_equal) (defScope s_l_equal) [] [] f fd ∧ mg "_law_equal" = some (.ref f)
  f_l_copy : ∃ f fd, FunD K "_law_copy" "_law_copy" (defArgs s_l_copy) (defBody s_l_copy) (defScope s_l_copy) [] [] f fd ∧ mg "_law_copy" = some (.ref f)
  f_l_very : ∃ f fd, FunD K "_law_very" "_law_very" (defArgs s_l_very) (defBody s_l_very) (defScope s_l_very) [] [] f fd ∧ mg "_law_very" = some (.ref f)
  f_l_odd_cell : ∃ f fd, FunD K "_law_odd_cell" "_law_odd_cell" (defArgs s_l_odd_cell) (defBody s_l_odd_cell) (defScope s_l_odd_cell) [] [] f fd ∧ mg "_law_odd_cell" = some (.ref f)
  f_l_odd_text : ∃ f fd, FunD K "_law_odd_text" "_law_odd_text" (defArgs s_l_odd_text) (defBody s_l_odd_text) (defScope s_l_odd_text) [] [] f fd ∧ mg "_law_odd_text" = some (.ref f)
  f_l_odd : ∃ f fd, FunD K "_law_odd" "_law_odd" (defArgs s_l_odd) (defBody s_l_odd) (defScope s_l_odd) [] [] f fd ∧ mg "_law_odd" = some (.ref f)
  f_l_spoilt : ∃ f fd, FunD K "_law_spoilt" "_law_spoilt" (defArgs s_l_spoilt) (defBody s_l_spoilt) (defScope s_l_spoilt) [] [] f fd ∧ mg "_law_spoilt" = some (.ref f)
  f_l_short : ∃ f fd, FunD K "_law_short" "_law_short" (defArgs s_l_short) (defBody s_l_short) (defScope s_l_short) [] [] f fd ∧ mg "_law_short" = some (.ref f)
  f_l_judged : ∃ f fd, FunD K "_law_judged" "_law_judged" (defArgs s_l_judged) (defBody s_l_judged) (defScope s_l_judged) [] [] f fd ∧ mg "_law_judged" = some (.ref f)
  f_l_told : ∃ f fd, FunD K "_law_told" "_law_told" (defArgs s_l_told) (defBody s_l_told) (defScope s_l_told) [] [] f fd ∧ mg "_law_told" = some (.ref f)
  f_l_line_right : ∃ f fd, FunD K "_law_line_right" "_law_line_right" (defArgs s_l_line_right) (defBody s_l_line_right) (defScope s_l_line_right) [] [] f fd ∧ mg "_law_line_right" = some (.ref f)
  f_l_text_right : ∃ f fd, FunD K "_law_text_right" "_law_text_right" (defArgs s_l_text_right) (defBody s_l_text_right) (defScope s_l_text_right) [] [] f fd ∧ mg "_law_text_right" = some (.ref f)
  f_l_object_right : ∃ f fd, FunD K "_law_object_right" "_law_object_right" (defArgs s_l_object_right) (defBody s_l_object_right) (defScope s_l_object_right) [] [] f fd ∧ mg "_law_object_right" = some (.ref f)
  f_l_others_right : ∃ f fd, FunD K "_law_others_right" "_law_others_right" (defArgs s_l_others_right) (defBody s_l_others_right) (defScope s_l_others_right) [] [] f fd ∧ mg "_law_others_right" = some (.ref f)
  f_l_right : ∃ f fd, FunD K "_law_right" "_law_right" (defArgs s_l_right) (defBody s_l_right) (defScope s_l_right) [] [] f fd ∧ mg "_law_right" = some (.ref f)
  f_law : ∃ f fd, FunD K "law" "law" (defArgs s_law) (defBody s_law) (defScope s_law) [] [] f fd ∧ mg "law" = some (.ref f)
  abs : mg "abs" = none
  all : mg "all" = none
  bool : mg "bool" = none
  dict : mg "dict" = none
  int : mg "int" = none
  isinstance : mg "isinstance" = none
  len : mg "len" = none
  list : mg "list" = none
  max : mg "max" = none
  min : mg "min" = none
  range : mg "range" = none
  repr : mg "repr" = none
  str : mg "str" = none
  sum : mg "sum" = none
  tuple : mg "tuple" = none
  DIGITS : ∃ t, mg "DIGITS" = some (.str "0123456789" t)
  MOST_DIGITS : ∃ t, mg "MOST_DIGITS" = some (.int 4000 t)
  MANY_HOUSES : ∃ t, mg "MANY_HOUSES" = some (.int 100 t)
  MOST_LETTERS : ∃ t, mg "MOST_LETTERS" = some (.int 8 t)
  MOST_SIGNS : ∃ t, mg "MOST_SIGNS" = some (.int 40 t)
  sys : (base.get? sysModules).isSome = true
  g_AlongError : mg "AlongError" = some (.ref (CE.a 0))
  g_InvalidLine : mg "InvalidLine" = some (.ref (CE.a 30))
  g_InvalidText : mg "InvalidText" = some (.ref (CE.a 41))
  sup_AlongError : SupI K (CE.a 0)
  oe_InvalidLine : OexC K (CE.a 30)
  ie_InvalidLine : ∃ f fd, FunD K "__init__" "InvalidLine.__init__" (defArgs s_InvalidLine_init) (defBody s_InvalidLine_init) (defScope s_InvalidLine_init) [] [] f fd ∧ PySem.W.findIn K (.ref (CE.a 30)) "__init__" = some (some (.ref f)) ∧ PySem.W.typeIn K (.ref f) = some (.type "function")
  n_InvalidLine_given : PySem.W.findIn K (.ref (CE.a 30)) "given" = some none
  xe_InvalidLine : XfC K (CE.a 30)
  ee_InvalidLine : ExcC K (CE.a 30)
  oe_InvalidText : OexC K (CE.a 41)
  ie_InvalidText : ∃ f fd, FunD K "__init__" "InvalidText.__init__" (defArgs s_InvalidText_init) (defBody s_InvalidText_init) (defScope s_InvalidText_init) [] [] f fd ∧ PySem.W.findIn K (.ref (CE.a 41)) "__init__" = some (some (.ref f)) ∧ PySem.W.typeIn K (.ref f) = some (.type "function")
  n_InvalidText_given : PySem.W.findIn K (.ref (CE.a 41)) "given" = some none
  xe_InvalidText : XfC K (CE.a 41)
  ee_InvalidText : ExcC K (CE.a 41)
  xk_InvalidText : ExcK K (CE.a 41)
  m_InvalidLine_InvalidLine : PySem.W.exmOne K (.ref (CE.a 30)) (.ref (CE.a 30)) = some true
  m_InvalidLine_InvalidText : PySem.W.exmOne K (.ref (CE.a 30)) (.ref (CE.a 41)) = some false
  m_InvalidText_InvalidLine : PySem.W.exmOne K (.ref (CE.a 41)) (.ref (CE.a 30)) = some false
  m_InvalidText_InvalidText : PySem.W.exmOne K (.ref (CE.a 41)) (.ref (CE.a 41)) = some true

def exq (c d : Nat) : Option Bool := match c, d with
  | 30, 30 => some true
  | 30, 41 => some false
  | 41, 30 => some false
  | 41, 41 => some true
  | _, _ => none
def xtab : List (Nat × Nat) := [(30, 30), (41, 30)]
def F_l_copy : D → Option D
  | .lst xs => some (.lst xs)
  | .dct kvs => some (.dct kvs)
  | d => if d.tyn = "" then none else some d
def T_l_copy : TSpec := fun xs m post xp => ∃ (t : TV) (d : D), xs = [t] ∧ Vw m t d ∧ Sm (F_l_copy d) fun r => post (td r) m ∨ ∀ t' m', Own m' t' r m → post t' m'
/-- what a list or a dict is behind the growing -/
def grown : D → D
  | .lst xs => .lst (xs ++ [.str "more"])
  | .dct kvs => .dct (kput kvs (.str "more") (.int 1))
  | d => d
def grows : D → Bool
  | .lst xs => decide (xs.length ≤ 1000000)
  | .dct kvs => decide (kvs.length < 1000)
  | .ins _ _ => false
  | .exc _ _ => false
  | .set _ => false
  | .ref _ => false
  | _ => true
def F_l_very (d d' : D) : Option D := if grows d' = true then (D.repr (grown d')).map fun _ => .bl true else none
def T_l_very : TSpec := fun xs m post xp => ∃ (t : TV) (d : D) (m1 : Mu), xs = [t, t] ∧ Own m t d m1 ∧ Sm (F_l_very d d) fun r => post (td r) m1
def F_is_integer (value_ : D) : Option (D) := Res.opt (jn (fun (s3 : D) => .ok s3) fun kk1 => bo (D.isi value_ "int") fun b4 => if b4 = true then bo (D.isi value_ "bool") fun b5 => kk1 (.bl (!b5)) else kk1 (.bl false))
def T_is_integer : TSpec := fun xs m post xp => ∃ (tvalue_ : TV) (value_ : D), xs = [tvalue_] ∧ Vw m tvalue_ value_ ∧ Sm (F_is_integer value_) (fun d => post (td d) m)
def F_is_count (value_ : D) : Option (D) := Res.opt (jn (fun (s3 : D) => .ok s3) fun kk1 => bo (F_is_integer value_) fun d4 => bo (D.bool d4) fun b5 => if b5 = true then bo (D.ge value_ (.int 0)) fun b6 => kk1 (.bl b6) else kk1 (.bl false))
def T_is_count : TSpec := fun xs m post xp => ∃ (tvalue_ : TV) (value_ : D), xs = [tvalue_] ∧ Vw m tvalue_ value_ ∧ Sm (F_is_count value_) (fun d => post (td d) m)
def F_is_index (value_ : D) (many_ : D) : Option (D) := Res.opt (jn (fun (s3 : D) => .ok s3) fun kk1 => bo (F_is_integer value_) fun d4 => bo (D.bool d4) fun b5 => if b5 = true then bo (D.le (.int 0) value_) fun b6 => if b6 = true then bo (D.lt value_ many_) fun b7 => kk1 (.bl b7) else kk1 (.bl false) else kk1 (.bl false))
def T_is_index : TSpec := fun xs m post xp => ∃ (tvalue_ : TV) (value_ : D) (tmany_ : TV) (many_ : D), xs = [tvalue_, tmany_] ∧ Vw m tvalue_ value_ ∧ Vw m tmany_ many_ ∧ Sm (F_is_index value_ many_) (fun d => post (td d) m)
def F_is_house (value_ : D) : Option (D) := Res.opt (bo (F_is_index value_ (.int 100)) fun d1 => .ok d1)
def T_is_house : TSpec := fun xs m post xp => ∃ (tvalue_ : TV) (value_ : D), xs = [tvalue_] ∧ Vw m tvalue_ value_ ∧ Sm (F_is_house value_) (fun d => post (td d) m)
def F_is_signs (value_ : D) (most_ : D) : Option (D) := Res.opt (jn (fun (s3 : Bool) => if s3 = true then .ok (.bl false) else bo (D.items value_) fun xs10 => bo (mapO (fun x11 => Res.opt (jn (fun (s15 : D) => .ok s15) fun kk13 => bo (D.le (.str " ") x11) fun b16 => if b16 = true then bo (D.le x11 (.str "~")) fun b17 => kk13 (.bl b17) else kk13 (.bl false))) xs10) fun ys12 => bo (D.all (.lst ys12)) fun d18 => .ok d18) fun kk1 => bo (D.isi value_ "str") fun b4 => if (!b4) = true then kk1 true else jn (fun (s7 : Bool) => kk1 s7) fun kk5 => if (!(D.isNone most_)) = true then bo (D.len value_) fun d8 => bo (D.gt d8 most_) fun b9 => kk5 b9 else kk5 false)
def T_is_signs : TSpec := fun xs m post xp => ∃ (tvalue_ : TV) (value_ : D) (tmost_ : TV) (most_ : D), xs = [tvalue_, tmost_] ∧ Vw m tvalue_ value_ ∧ Vw m tmost_ most_ ∧ Sm (F_is_signs value_ most_) (fun d => post (td d) m)
def F_count_in (word_ : D) : Option (D) := Res.opt (jn (fun (s3 : Bool) => if s3 = true then .ok .non else jn (fun (s18 : D) => .ok s18) fun kk16 => jn (fun (s21 : Bool) => if s21 = true then bo (D.int1 word_) fun d25 => kk16 (d25) else kk16 (.non)) fun kk19 => bo (D.eq word_ (.str "0")) fun b22 => if b22 = true then kk19 true else bo (D.ix word_ (.int 0)) fun d23 => bo (D.ne d23 (.str "0")) fun b24 => kk19 b24) fun kk1 => jn (fun (s6 : Bool) => if (!s6) = true then kk1 true else bo (D.items word_) fun xs10 => bo (mapO (fun x11 => Res.opt (bo (D.mem x11 (.str "0123456789")) fun b13 => .ok (.bl b13))) xs10) fun ys12 => bo (D.all (.lst ys12)) fun d14 => bo (D.bool d14) fun b15 => kk1 (!b15)) fun kk4 => bo (D.len word_) fun d7 => bo (D.le (.int 1) d7) fun b8 => if b8 = true then bo (D.le d7 (.int 4000)) fun b9 => kk4 b9 else kk4 false)
def T_count_in : TSpec := fun xs m post xp => ∃ (tword_ : TV) (word_ : D), xs = [tword_] ∧ Vw m tword_ word_ ∧ Sm (F_count_in word_) (fun d => post (td d) m)
def F_is_cell (value_ : D) : Option (D) := Res.opt (jn (fun (s3 : Bool) => if s3 = true then .ok (.bl false) else bo (D.items value_) fun xs11 => bo (mapO (fun x12 => Res.opt (jn (fun (s16 : D) => .ok s16) fun kk14 => bo (D.le (.str "a") x12) fun b17 => if b17 = true then bo (D.le x12 (.str "z")) fun b18 => kk14 (.bl b18) else kk14 (.bl false))) xs11) fun ys13 => bo (D.all (.lst ys13)) fun d19 => .ok d19) fun kk1 => bo (D.isi value_ "str") fun b4 => if (!b4) = true then kk1 true else jn (fun (s7 : Bool) => kk1 (!s7)) fun kk5 => bo (D.len value_) fun d8 => bo (D.le (.int 1) d8) fun b9 => if b9 = true then bo (D.le d8 (.int 8)) fun b10 => kk5 b10 else kk5 false)
def T_is_cell : TSpec := fun xs m post xp => ∃ (tvalue_ : TV) (value_ : D), xs = [tvalue_] ∧ Vw m tvalue_ value_ ∧ Sm (F_is_cell value_) (fun d => post (td d) m)
def F_is_text (value_ : D) : Option (D) := Res.opt (bo (F_is_signs value_ (.int 40)) fun d1 => .ok d1)
def T_is_text : TSpec := fun xs m post xp => ∃ (tvalue_ : TV) (value_ : D), xs = [tvalue_] ∧ Vw m tvalue_ value_ ∧ Sm (F_is_text value_) (fun d => post (td d) m)
def F_is_line (value_ : D) : Option (D) := Res.opt (jn (fun (s3 : Bool) => if s3 = true then .ok (.bl false) else bo (D.un4 value_) fun d7 => jn (fun (s10 : D) => .ok s10) fun kk8 => bo (F_is_house d7.1) fun d11 => bo (D.bool d11) fun b12 => if b12 = true then bo (F_is_count d7.2.1) fun d13 => bo (D.bool d13) fun b14 => if b14 = true then bo (F_is_cell d7.2.2.1) fun d15 => bo (D.bool d15) fun b16 => if b16 = true then bo (F_is_text d7.2.2.2) fun d17 => kk8 (d17) else kk8 (.bl false) else kk8 (.bl false) else kk8 (.bl false)) fun kk1 => bo (D.isi value_ "tuple") fun b4 => if (!b4) = true then kk1 true else bo (D.len value_) fun d5 => bo (D.ne d5 (.int 4)) fun b6 => kk1 b6)
def T_is_line : TSpec := fun xs m post xp => ∃ (tvalue_ : TV) (value_ : D), xs = [tvalue_] ∧ Vw m tvalue_ value_ ∧ Sm (F_is_line value_) (fun d => post (td d) m)
def F_check_line (line_ : D) : Res (D) := bo (F_is_line line_) fun d1 => bo (D.bool d1) fun b2 => if (!b2) = true then .ex ⟨30, [(30, .arg 0)]⟩ else .ok .non
def T_check_line : TSpec := fun xs m post xp => ∃ (tline_ : TV) (line_ : D), xs = [tline_] ∧ Vw m tline_ line_ ∧ Ok (F_check_line line_) (fun d => post (td d) m) (fun y => xp (y.xv [tline_]) m)
def F_key (line_ : D) : Res (D) := bx (F_check_line line_) [.arg 0] fun d1 => bo (D.toInt (.int 2)) fun i2 => bo (D.slice line_ none (some i2)) fun d3 => .ok d3
def T_key : TSpec := fun xs m post xp => ∃ (tline_ : TV) (line_ : D), xs = [tline_] ∧ Vw m tline_ line_ ∧ Ok (F_key line_) (fun d => post (td d) m) (fun y => xp (y.xv [tline_]) m)
def F_line_text (line_ : D) : Res (D) := bx (F_check_line line_) [.arg 0] fun d1 => bo (D.un4 line_) fun d2 => bo (D.fmt d2.1) fun s4 => bo (D.cat Str.empty s4) fun s3 => bo (D.cat s3 " ") fun s5 => bo (D.fmt d2.2.1) fun s7 => bo (D.cat s5 s7) fun s6 => bo (D.cat s6 " ") fun s8 => bo (D.fmt d2.2.2.1) fun s10 => bo (D.cat s8 s10) fun s9 => bo (D.cat s9 " ") fun s11 => bo (D.fmt d2.2.2.2) fun s13 => bo (D.cat s11 s13) fun s12 => .ok (.str s12)
def T_line_text : TSpec := fun xs m post xp => ∃ (tline_ : TV) (line_ : D), xs = [tline_] ∧ Vw m tline_ line_ ∧ Ok (F_line_text line_) (fun d => post (td d) m) (fun y => xp (y.xv [tline_]) m)
def F_line_in (text_ : D) : Option (D) := Res.opt (bo (D.asS text_) fun _ => bo (D.split3 text_ (.str " ") (.int 3)) fun d1 => bo (D.len d1) fun d2 => bo (D.lt d2 (.int 4)) fun b3 => if b3 = true then .ok .non else bo (D.ix d1 (.int 0)) fun d4 => bo (F_count_in d4) fun d5 => bo (D.ix d1 (.int 1)) fun d6 => bo (F_count_in d6) fun d7 => bo (D.ix d1 (.int 2)) fun d8 => bo (D.ix d1 (.int 3)) fun d9 => jn (fun (s12 : D) => .ok s12) fun kk10 => bo (F_is_line (.tup [d5, d7, d8, d9])) fun d13 => bo (D.bool d13) fun b14 => if b14 = true then kk10 (.tup [d5, d7, d8, d9]) else kk10 (.non))
def T_line_in : TSpec := fun xs m post xp => ∃ (ttext_ : TV) (text_ : D), xs = [ttext_] ∧ Vw m ttext_ text_ ∧ Sm (F_line_in text_) (fun d => post (td d) m)
def F_read_line (text_ : D) : Res (D) := jn (fun (s3 : D) => if (D.isNone s3) = true then .ex ⟨41, [(30, .arg 0)]⟩ else .ok s3) fun kk1 => bo (D.isi text_ "str") fun b4 => if b4 = true then bo (F_line_in text_) fun d5 => kk1 (d5) else kk1 (.non)
def T_read_line : TSpec := fun xs m post xp => ∃ (ttext_ : TV) (text_ : D), xs = [ttext_] ∧ Vw m ttext_ text_ ∧ Ok (F_read_line text_) (fun d => post (td d) m) (fun y => xp (y.xv [ttext_]) m)
def F_l_box (great_ : D) : Option (D) := Res.opt (bo (D.abs great_) fun d1 => bo (D.abs great_) fun d2 => bo (D.pow (.int 10) (.int 18)) fun d3 => bo (D.ge d2 d3) fun b4 => bo (D.abs great_) fun d5 => bo (D.int1 d5) fun d6 => bo (D.mod d6 (.int 2147483629)) fun d7 => .ok (.lst [d1, .bl b4, d7, .int 0]))
def T_l_box : TSpec := fun xs m post xp => ∃ (tgreat_ : TV) (great_ : D), xs = [tgreat_] ∧ Vw m tgreat_ great_ ∧ Sm (F_l_box great_) (fun d => ∀ p xs, d = .lst xs → post (tv (Ref.mk p)) ((p, mC (.lst xs)) :: m))
def F_l_take (box_ : List D) (many_ : D) : Option (D × List D) := Res.opt (jn (fun (s3 : Bool) => if s3 = true then bo (D.ix (.lst box_) (.int 0)) fun d8 => bo (D.int1 d8) fun d9 => bo (D.mod d9 many_) fun d10 => bo (D.ix (.lst box_) (.int 0)) fun d11 => bo (D.int1 d11) fun d12 => bo (D.fdiv d12 many_) fun d13 => bo (D.putL box_ (.int 0) d13) fun x14 => .ok (d10, x14) else bo (D.ix (.lst box_) (.int 3)) fun d15 => bo (D.add d15 (.int 1)) fun d16 => bo (D.putL box_ (.int 3) d16) fun x17 => bo (D.ix (.lst x17) (.int 2)) fun d18 => bo (D.ix (.lst x17) (.int 3)) fun d19 => bo (D.mul (.int 15485863) d19) fun d20 => bo (D.add d18 d20) fun d21 => bo (D.add d21 (.int 179424673)) fun d22 => bo (D.pow d22 (.int 5)) fun d23 => bo (D.int1 d23) fun d24 => bo (D.mod d24 (.int 2147483647)) fun d25 => bo (D.mul d25 (.int 48271)) fun d26 => bo (D.ix (.lst x17) (.int 3)) fun d27 => bo (D.mul (.int 104729) d27) fun d28 => bo (D.add d26 d28) fun d29 => bo (D.pow d29 (.int 3)) fun d30 => bo (D.int1 d30) fun d31 => bo (D.mod d31 (.int 2147483587)) fun d32 => bo (D.fdiv d32 (.int 64)) fun d33 => bo (D.mod d33 many_) fun d34 => .ok (d34, x17)) fun kk1 => bo (D.ix (.lst box_) (.int 1)) fun d4 => bo (D.bool d4) fun b5 => if b5 = true then bo (D.ix (.lst box_) (.int 0)) fun d6 => bo (D.gt d6 (.int 0)) fun b7 => kk1 b7 else kk1 false)
def T_l_take : TSpec := fun xs m post xp => ∃ (pbox_ : Addr) (box_ : List D) (tmany_ : TV) (many_ : D) (m1 : Mu), xs = [tv (Ref.mk pbox_), tmany_] ∧ m = (pbox_, mC (.lst box_)) :: m1 ∧ Vw m1 tmany_ many_ ∧ Sm (F_l_take box_ many_) (fun r => post (td r.1) ((pbox_, mC (.lst r.2)) :: m1))
def F_l_any (box_ : List D) (many_ : D) : Option (D × List D) := Res.opt (bo (D.asS (.str "")) fun _ => bo (D.rng1 many_) fun xs1 => mapC (S := List D) (fun x2 s3 kk4 => bo (D.len (.str " !\"#$&'()*+,-./0123456789:;<=>?@ABCDEFGHIJKLMNOPQRSTUVWXYZ[\\]^_`abcdefghijklmnopqrstuvwxyz{|}~")) fun d5 => bo (F_l_take s3 d5) fun d6 => bo (D.ix (.str " !\"#$&'()*+,-./0123456789:;<=>?@ABCDEFGHIJKLMNOPQRSTUVWXYZ[\\]^_`abcdefghijklmnopqrstuvwxyz{|}~") d6.1) fun d7 => kk4 d7 d6.2) xs1 [] box_ fun ys s3 => bo (D.join (.str "") (.lst ys)) fun d8 => .ok (d8, s3))
def T_l_any : TSpec := fun xs m post xp => ∃ (pbox_ : Addr) (box_ : List D) (tmany_ : TV) (many_ : D) (m1 : Mu), xs = [tv (Ref.mk pbox_), tmany_] ∧ m = (pbox_, mC (.lst box_)) :: m1 ∧ Vw m1 tmany_ many_ ∧ Sm (F_l_any box_ many_) (fun r => post (td r.1) ((pbox_, mC (.lst r.2)) :: m1))
def F_l_letters (box_ : List D) (many_ : D) : Option (D × List D) := Res.opt (bo (D.asS (.str "")) fun _ => bo (D.rng1 many_) fun xs1 => mapC (S := List D) (fun x2 s3 kk4 => bo (F_l_take s3 (.int 26)) fun d5 => bo (D.ix (.str "abcdefghijklmnopqrstuvwxyz") d5.1) fun d6 => kk4 d6 d5.2) xs1 [] box_ fun ys s3 => bo (D.join (.str "") (.lst ys)) fun d7 => .ok (d7, s3))
def T_l_letters : TSpec := fun xs m post xp => ∃ (pbox_ : Addr) (box_ : List D) (tmany_ : TV) (many_ : D) (m1 : Mu), xs = [tv (Ref.mk pbox_), tmany_] ∧ m = (pbox_, mC (.lst box_)) :: m1 ∧ Vw m1 tmany_ many_ ∧ Sm (F_l_letters box_ many_) (fun r => post (td r.1) ((pbox_, mC (.lst r.2)) :: m1))
def F_l_number (box_ : List D) : Option (D × List D) := Res.opt (bo (F_l_take box_ (.int 6)) fun d1 => bo (D.eq d1.1 (.int 4)) fun b2 => if b2 = true then bo (F_l_take d1.2 (.int 190)) fun d3 => bo (D.add (.int 10) d3.1) fun d4 => .ok (d4, d3.2) else bo (D.eq d1.1 (.int 5)) fun b5 => if b5 = true then bo (D.pow (.int 10) (.int 19)) fun d6 => bo (D.sub d6 (.int 1)) fun d7 => bo (F_l_take d1.2 (.int 100)) fun d8 => bo (D.add d7 d8.1) fun d9 => .ok (d9, d8.2) else bo (F_l_take d1.2 (.int 10)) fun d10 => .ok (d10.1, d10.2))
def T_l_number : TSpec := fun xs m post xp => ∃ (pbox_ : Addr) (box_ : List D) (m1 : Mu), xs = [tv (Ref.mk pbox_)] ∧ m = (pbox_, mC (.lst box_)) :: m1 ∧ Sm (F_l_number box_) (fun r => post (td r.1) ((pbox_, mC (.lst r.2)) :: m1))
def F_l_maker (box_ : List D) : Option (D × List D) := Res.opt (bo (F_l_take box_ (.int 5)) fun d1 => bo (F_l_take d1.2 (.int 100)) fun d2 => bo (D.int1 d2.1) fun d3 => bo (D.mod d3 (.int 10)) fun d4 => bo (D.ix (.lst [d2.1, d4, .int 99, .int 10, d2.1]) d1.1) fun d5 => .ok (d5, d2.2))
def T_l_maker : TSpec := fun xs m post xp => ∃ (pbox_ : Addr) (box_ : List D) (m1 : Mu), xs = [tv (Ref.mk pbox_)] ∧ m = (pbox_, mC (.lst box_)) :: m1 ∧ Sm (F_l_maker box_) (fun r => post (td r.1) ((pbox_, mC (.lst r.2)) :: m1))
def F_l_line (box_ : List D) : Option (D × List D) := Res.opt (bo (F_l_take box_ (.int 6)) fun d1 => bo (F_l_take d1.2 (.int 5)) fun d2 => bo (D.ix (.lst [.int 1, .int 8, .int 4, .int 7, .int 2]) d2.1) fun d3 => bo (F_l_letters d2.2 d3) fun d4 => bo (D.ix (.lst [.int 0, .int 40, .int 1, .int 39, .int 6, .int 0]) d1.1) fun d5 => bo (F_l_any d4.2 d5) fun d6 => jn (fun (s9 : D × List D) => bo (F_l_maker s9.2) fun d13 => bo (F_l_number d13.2) fun d14 => .ok (.tup [d13.1, d14.1, d4.1, s9.1], d14.2)) fun kk7 => bo (D.eq d1.1 (.int 5)) fun b10 => if b10 = true then bo (F_l_take d6.2 (.int 6)) fun d11 => bo (D.ix (.lst [.str "rings at five", .str " a", .str "a ", .str "0 1 a b", .str "  ", .str "2 0 bell "]) d11.1) fun d12 => kk7 (d12, d11.2) else kk7 (d6.1, d6.2))
def T_l_line : TSpec := fun xs m post xp => ∃ (pbox_ : Addr) (box_ : List D) (m1 : Mu), xs = [tv (Ref.mk pbox_)] ∧ m = (pbox_, mC (.lst box_)) :: m1 ∧ Sm (F_l_line box_) (fun r => post (td r.1) ((pbox_, mC (.lst r.2)) :: m1))
def F_l_count (value_ : D) : Option (D) := Res.opt (jn (fun (s3 : D) => .ok s3) fun kk1 => bo (D.isi value_ "int") fun b4 => if b4 = true then bo (D.isi value_ "bool") fun b5 => if (!b5) = true then bo (D.ge value_ (.int 0)) fun b6 => kk1 (.bl b6) else kk1 (.bl false) else kk1 (.bl false))
def T_l_count : TSpec := fun xs m post xp => ∃ (tvalue_ : TV) (value_ : D), xs = [tvalue_] ∧ Vw m tvalue_ value_ ∧ Sm (F_l_count value_) (fun d => post (td d) m)
def F_l_is_cell (value_ : D) : Option (D) := Res.opt (jn (fun (s3 : Bool) => if s3 = true then .ok (.bl false) else bo (D.items value_) fun xs11 => bo (filO (fun x12 => Res.opt (bo (D.mem x12 (.str "abcdefghijklmnopqrstuvwxyz")) fun b14 => .ok ((!b14)))) (fun x12 => Res.opt (.ok x12)) xs11) fun ys13 => bo (D.eq (.lst ys13) (.lst [])) fun b15 => .ok (.bl b15)) fun kk1 => bo (D.isi value_ "str") fun b4 => if (!b4) = true then kk1 true else jn (fun (s7 : Bool) => kk1 (!s7)) fun kk5 => bo (D.len value_) fun d8 => bo (D.le (.int 1) d8) fun b9 => if b9 = true then bo (D.le d8 (.int 8)) fun b10 => kk5 b10 else kk5 false)
def T_l_is_cell : TSpec := fun xs m post xp => ∃ (tvalue_ : TV) (value_ : D), xs = [tvalue_] ∧ Vw m tvalue_ value_ ∧ Sm (F_l_is_cell value_) (fun d => post (td d) m)
def F_l_is_text (value_ : D) : Option (D) := Res.opt (jn (fun (s3 : Bool) => if s3 = true then .ok (.bl false) else bo (D.items value_) fun xs7 => bo (filO (fun x8 => Res.opt (jn (fun (s12 : Bool) => .ok ((!s12))) fun kk10 => bo (D.le (.str " ") x8) fun b13 => if b13 = true then bo (D.le x8 (.str "~")) fun b14 => kk10 b14 else kk10 false)) (fun x8 => Res.opt (.ok x8)) xs7) fun ys9 => bo (D.eq (.lst ys9) (.lst [])) fun b15 => .ok (.bl b15)) fun kk1 => bo (D.isi value_ "str") fun b4 => if (!b4) = true then kk1 true else bo (D.len value_) fun d5 => bo (D.gt d5 (.int 40)) fun b6 => kk1 b6)
def T_l_is_text : TSpec := fun xs m post xp => ∃ (tvalue_ : TV) (value_ : D), xs = [tvalue_] ∧ Vw m tvalue_ value_ ∧ Sm (F_l_is_text value_) (fun d => post (td d) m)
def F_l_is_line (value_ : D) : Option (D) := Res.opt (jn (fun (s3 : Bool) => if s3 = true then .ok (.bl false) else jn (fun (s9 : Bool) => if s9 = true then .ok (.bl false) else jn (fun (s20 : D) => .ok s20) fun kk18 => bo (D.ix value_ (.int 2)) fun d21 => bo (F_l_is_cell d21) fun d22 => bo (D.bool d22) fun b23 => if b23 = true then bo (D.ix value_ (.int 3)) fun d24 => bo (F_l_is_text d24) fun d25 => kk18 (d25) else kk18 (.bl false)) fun kk7 => bo (D.ix value_ (.int 0)) fun d10 => bo (F_l_count d10) fun d11 => bo (D.bool d11) fun b12 => if (!b12) = true then kk7 true else bo (D.ix value_ (.int 0)) fun d13 => bo (D.gt d13 (.int 99)) fun b14 => if b14 = true then kk7 true else bo (D.ix value_ (.int 1)) fun d15 => bo (F_l_count d15) fun d16 => bo (D.bool d16) fun b17 => kk7 (!b17)) fun kk1 => bo (D.isi value_ "tuple") fun b4 => if (!b4) = true then kk1 true else bo (D.len value_) fun d5 => bo (D.ne d5 (.int 4)) fun b6 => kk1 b6)
def T_l_is_line : TSpec := fun xs m post xp => ∃ (tvalue_ : TV) (value_ : D), xs = [tvalue_] ∧ Vw m tvalue_ value_ ∧ Sm (F_l_is_line value_) (fun d => post (td d) m)
def F_l_written (line_ : D) : Option (D) := Res.opt (bo (D.ix line_ (.int 0)) fun d1 => bo (D.str1 d1) fun d2 => bo (D.add d2 (.str " ")) fun d3 => bo (D.ix line_ (.int 1)) fun d4 => bo (D.str1 d4) fun d5 => bo (D.add d3 d5) fun d6 => bo (D.add d6 (.str " ")) fun d7 => bo (D.ix line_ (.int 2)) fun d8 => bo (D.add d7 d8) fun d9 => bo (D.add d9 (.str " ")) fun d10 => bo (D.ix line_ (.int 3)) fun d11 => bo (D.add d10 d11) fun d12 => .ok d12)
def T_l_written : TSpec := fun xs m post xp => ∃ (tline_ : TV) (line_ : D), xs = [tline_] ∧ Vw m tline_ line_ ∧ Sm (F_l_written line_) (fun d => post (td d) m)
def F_l_digits (word_ : D) : Option (D) := Res.opt (jn (fun (s3 : Bool) => if s3 = true then bo (D.neg (.int 1)) fun d10 => .ok d10 else jn (fun (s13 : D) => .ok s13) fun kk11 => jn (fun (s16 : Bool) => if s16 = true then bo (D.neg (.int 1)) fun d21 => kk11 (d21) else bo (D.int1 word_) fun d22 => kk11 (d22)) fun kk14 => bo (D.len word_) fun d17 => bo (D.gt d17 (.int 1)) fun b18 => if b18 = true then bo (D.ix word_ (.int 0)) fun d19 => bo (D.eq d19 (.str "0")) fun b20 => kk14 b20 else kk14 false) fun kk1 => bo (D.eq word_ (.str "")) fun b4 => if b4 = true then kk1 true else bo (D.items word_) fun xs5 => bo (filO (fun x6 => Res.opt (bo (D.mem x6 (.str "0123456789")) fun b8 => .ok ((!b8)))) (fun x6 => Res.opt (.ok x6)) xs5) fun ys7 => bo (D.ne (.lst ys7) (.lst [])) fun b9 => kk1 b9)
def T_l_digits : TSpec := fun xs m post xp => ∃ (tword_ : TV) (word_ : D), xs = [tword_] ∧ Vw m tword_ word_ ∧ Sm (F_l_digits word_) (fun d => post (td d) m)
def F_l_read (text_ : D) : Option (D) := Res.opt (bo (D.asS text_) fun _ => bo (D.split3 text_ (.str " ") (.int 3)) fun d1 => bo (D.len d1) fun d2 => bo (D.ne d2 (.int 4)) fun b3 => if b3 = true then .ok .non else bo (D.ix d1 (.int 0)) fun d4 => bo (F_l_digits d4) fun d5 => bo (D.ix d1 (.int 1)) fun d6 => bo (F_l_digits d6) fun d7 => bo (D.ix d1 (.int 2)) fun d8 => bo (D.ix d1 (.int 3)) fun d9 => jn (fun (s12 : D) => .ok s12) fun kk10 => bo (F_l_is_line (.tup [d5, d7, d8, d9])) fun d13 => bo (D.bool d13) fun b14 => if b14 = true then kk10 (.tup [d5, d7, d8, d9]) else kk10 (.non))
def T_l_read : TSpec := fun xs m post xp => ∃ (ttext_ : TV) (text_ : D), xs = [ttext_] ∧ Vw m ttext_ text_ ∧ Sm (F_l_read text_) (fun d => post (td d) m)
def F_l_equal (told_ : D) (due_ : D) : Option (D) := Res.opt (jn (fun (s3 : D) => .ok s3) fun kk1 => bo (D.eq told_ due_) fun b4 => if b4 = true then bo (D.repr told_) fun d5 => bo (D.repr due_) fun d6 => bo (D.eq d5 d6) fun b7 => kk1 (.bl b7) else kk1 (.bl false))
def T_l_equal : TSpec := fun xs m post xp => ∃ (ttold_ : TV) (told_ : D) (tdue_ : TV) (due_ : D), xs = [ttold_, tdue_] ∧ Vw m ttold_ told_ ∧ Vw m tdue_ due_ ∧ Sm (F_l_equal told_ due_) (fun d => post (td d) m)
def F_l_odd_cell (box_ : List D) (cell_ : D) : Option (D × List D) := Res.opt (bo (F_l_take box_ (.int 10)) fun d1 => bo (D.len cell_) fun d2 => bo (F_l_take d1.2 d2) fun d3 => bo (D.lt d1.1 (.int 4)) fun b4 => if b4 = true then bo (F_l_take d3.2 (.int 10)) fun d5 => bo (D.ix (.str " 0A_`{z-~\n") d5.1) fun d6 => bo (D.toInt d3.1) fun i7 => bo (D.slice cell_ none (some i7)) fun d8 => bo (D.add d8 d6) fun d9 => bo (D.add d3.1 (.int 1)) fun d10 => bo (D.toInt d10) fun i11 => bo (D.slice cell_ (some i11) none) fun d12 => bo (D.add d9 d12) fun d13 => bo (D.toInt d3.1) fun i14 => bo (D.slice cell_ none (some i14)) fun d15 => bo (D.add d15 d6) fun d16 => bo (D.toInt d3.1) fun i17 => bo (D.slice cell_ (some i17) none) fun d18 => bo (D.add d16 d18) fun d19 => bo (D.add cell_ d6) fun d20 => bo (D.add d6 cell_) fun d21 => bo (D.ix (.lst [d13, d19, d20, d21]) d1.1) fun d22 => .ok (d22, d5.2) else bo (D.len cell_) fun d23 => bo (D.sub (.int 9) d23) fun d24 => bo (D.mul (.str "a") d24) fun d25 => bo (D.add cell_ d25) fun d26 => bo (D.toInt (.int 1)) fun i27 => bo (D.slice cell_ (some i27) none) fun d28 => bo (D.add cell_ (.str "z")) fun d29 => bo (D.sub d1.1 (.int 4)) fun d30 => bo (D.ix (.lst [d26, d28, .str "", .non, .lst [cell_], d29]) d30) fun d31 => .ok (d31, d3.2))
def T_l_odd_cell : TSpec := fun xs m post xp => ∃ (pbox_ : Addr) (box_ : List D) (cell_ : D) (m1 : Mu), xs = [tv (Ref.mk pbox_), td cell_] ∧ m = (pbox_, mC (.lst box_)) :: m1 ∧ Sm (F_l_odd_cell box_ cell_) (fun r => post (td r.1) ((pbox_, mC (.lst r.2)) :: m1))
def F_l_odd_text (box_ : List D) (text_ : D) : Option (D × List D) := Res.opt (bo (F_l_take box_ (.int 9)) fun d1 => bo (D.len text_) fun d2 => bo (D.add d2 (.int 1)) fun d3 => bo (F_l_take d1.2 d3) fun d4 => bo (D.eq d1.1 (.int 8)) fun b5 => if b5 = true then bo (D.toInt d4.1) fun i6 => bo (D.slice text_ none (some i6)) fun d7 => bo (F_l_take d4.2 (.int 2)) fun d8 => bo (D.ix (.str "\n\t") d8.1) fun d9 => bo (D.add d7 d9) fun d10 => bo (D.toInt d4.1) fun i11 => bo (D.slice text_ (some i11) none) fun d12 => bo (D.add d10 d12) fun d13 => .ok (d13, d8.2) else bo (D.len text_) fun d14 => bo (D.sub (.int 41) d14) fun d15 => bo (D.mul (.str "~") d15) fun d16 => bo (D.add text_ d16) fun d17 => bo (D.toInt (.int 1)) fun i18 => bo (D.slice text_ (some i18) none) fun d19 => bo (D.add text_ (.str " ")) fun d20 => bo (D.ix (.lst [d17, d19, .non, .int 5, .lst [text_], .tup [text_], .bl true, d20]) d1.1) fun d21 => .ok (d21, d4.2))
def T_l_odd_text : TSpec := fun xs m post xp => ∃ (pbox_ : Addr) (box_ : List D) (text_ : D) (m1 : Mu), xs = [tv (Ref.mk pbox_), td text_] ∧ m = (pbox_, mC (.lst box_)) :: m1 ∧ Sm (F_l_odd_text box_ text_) (fun r => post (td r.1) ((pbox_, mC (.lst r.2)) :: m1))
def F_l_odd (box_ : List D) (line_ : D) : Option (D × List D) := Res.opt (bo (F_l_take box_ (.int 6)) fun d1 => bo (F_l_take d1.2 (.int 12)) fun d2 => bo (D.list1L line_) fun x3 => jn (fun (s8 : List D × List D) => jn (fun (s33 : List D × List D) => jn (fun (s40 : List D × List D) => bo (D.eq d1.1 (.int 4)) fun b45 => if b45 = true then bo (D.toInt (.int 3)) fun i46 => bo (D.slice (.lst s40.2) none (some i46)) fun d47 => bo (D.tuple1 d47) fun d48 => bo (D.add (.lst s40.2) (.lst [.str ""])) fun d49 => bo (D.tuple1 d49) fun d50 => bo (D.toInt (.int 1)) fun i51 => bo (D.slice (.lst s40.2) (some i51) none) fun d52 => bo (D.tuple1 d52) fun d53 => bo (D.dict1 (.lst [.tup [.str "line", line_]])) fun d54 => bo (D.toInt (.int 1)) fun i55 => bo (D.slice (.lst s40.2) none (some i55)) fun d56 => bo (D.add d56 (.lst s40.2)) fun d57 => bo (D.tuple1 d57) fun d58 => bo (D.add (.lst [d48, d50, .lst s40.2, .tup [], .non, .str "a b", d53, .int 5]) (.lst [d54, .tup [line_], .lst [line_], d58])) fun d59 => bo (D.ix d59 d2.1) fun d60 => .ok (d60, s40.1) else bo (D.eq d1.1 (.int 5)) fun b61 => if b61 = true then bo (D.ix (.lst s40.2) (.int 1)) fun d62 => bo (D.ix (.lst s40.2) (.int 0)) fun d63 => bo (D.ix (.lst s40.2) (.int 2)) fun d64 => bo (D.ix (.lst s40.2) (.int 3)) fun d65 => .ok (.tup [d62, d63, d64, d65], s40.1) else bo (D.tuple1 (.lst s40.2)) fun d66 => .ok (d66, s40.1)) fun kk38 => bo (D.eq d1.1 (.int 3)) fun b41 => if b41 = true then bo (D.ix line_ (.int 3)) fun d42 => bo (F_l_odd_text s33.1 d42) fun d43 => bo (D.putL s33.2 (.int 3) d43.1) fun x44 => kk38 (d43.2, x44) else kk38 (s33.1, s33.2)) fun kk31 => bo (D.eq d1.1 (.int 2)) fun b34 => if b34 = true then bo (D.ix line_ (.int 2)) fun d35 => bo (F_l_odd_cell s8.1 d35) fun d36 => bo (D.putL s8.2 (.int 2) d36.1) fun x37 => kk31 (d36.2, x37) else kk31 (s8.1, s8.2)) fun kk6 => bo (D.lt d1.1 (.int 2)) fun b11 => if b11 = true then bo (D.neg (.int 1)) fun d12 => bo (D.pow (.int 10) (.int 19)) fun d13 => bo (D.pow (.int 10) (.int 19)) fun d14 => bo (D.neg d14) fun d15 => bo (F_l_take d2.2 (.int 36)) fun d16 => bo (D.ix (.lst [d12, .bl true, .bl false, .non, .str "0", .str "", .tup [.int 0], .lst [.int 0], d13, d15, .int 100, .int 99]) d2.1) fun d17 => bo (D.putL x3 d1.1 d17) fun x18 => jn (fun (s21 : D) => bo (D.sub (.int 1) d1.1) fun d29 => bo (D.putL x18 d29 s21) fun x30 => kk6 (d16.2, x30)) fun kk19 => bo (D.mod d16.1 (.int 3)) fun d22 => bo (D.eq d22 (.int 0)) fun b23 => if b23 = true then bo (D.fdiv d16.1 (.int 3)) fun d24 => bo (D.int1 d24) fun d25 => bo (D.ix (.lst [d12, .bl true, .bl false, .non, .str "0", .str "", .tup [.int 0], .lst [.int 0], d13, d15, .int 100, .int 99]) d25) fun d26 => kk19 (d26) else bo (D.sub (.int 1) d1.1) fun d27 => bo (D.ix (.lst x18) d27) fun d28 => kk19 (d28) else kk6 (d2.2, x3))
def T_l_odd : TSpec := fun xs m post xp => ∃ (pbox_ : Addr) (box_ : List D) (line_ : D) (m1 : Mu), xs = [tv (Ref.mk pbox_), td line_] ∧ m = (pbox_, mC (.lst box_)) :: m1 ∧ Sm (F_l_odd box_ line_) (fun r => post (td r.1) ((pbox_, mC (.lst r.2)) :: m1))
def F_l_spoilt (box_ : List D) (text_ : D) : Option (D × List D) := Res.opt (bo (F_l_take box_ (.int 11)) fun d1 => bo (F_l_take d1.2 (.int 3)) fun d2 => jn (fun (s5 : D) => bo (F_l_take d2.2 s5) fun d10 => jn (fun (s13 : D × List D) => bo (D.lt d1.1 (.int 3)) fun b18 => if b18 = true then bo (D.toInt d10.1) fun i19 => bo (D.slice text_ none (some i19)) fun d20 => bo (D.add d20 s13.1) fun d21 => bo (D.toInt d10.1) fun i22 => bo (D.slice text_ (some i22) none) fun d23 => bo (D.add d21 d23) fun d24 => bo (D.toInt d10.1) fun i25 => bo (D.slice text_ none (some i25)) fun d26 => bo (D.add d10.1 (.int 1)) fun d27 => bo (D.toInt d27) fun i28 => bo (D.slice text_ (some i28) none) fun d29 => bo (D.add d26 d29) fun d30 => bo (D.toInt d10.1) fun i31 => bo (D.slice text_ none (some i31)) fun d32 => bo (D.add d32 s13.1) fun d33 => bo (D.add d10.1 (.int 1)) fun d34 => bo (D.toInt d34) fun i35 => bo (D.slice text_ (some i35) none) fun d36 => bo (D.add d33 d36) fun d37 => bo (D.ix (.lst [d24, d30, d37]) d1.1) fun d38 => .ok (d38, s13.2) else bo (D.eq d1.1 (.int 3)) fun b39 => if b39 = true then bo (D.toInt d10.1) fun i40 => bo (D.slice text_ none (some i40)) fun d41 => bo (D.add d10.1 (.int 1)) fun d42 => bo (D.toInt d42) fun i43 => bo (D.add d10.1 (.int 2)) fun d44 => bo (D.toInt d44) fun i45 => bo (D.slice text_ (some i43) (some i45)) fun d46 => bo (D.add d41 d46) fun d47 => bo (D.toInt d10.1) fun i48 => bo (D.add d10.1 (.int 1)) fun d49 => bo (D.toInt d49) fun i50 => bo (D.slice text_ (some i48) (some i50)) fun d51 => bo (D.add d47 d51) fun d52 => bo (D.add d10.1 (.int 2)) fun d53 => bo (D.toInt d53) fun i54 => bo (D.slice text_ (some i54) none) fun d55 => bo (D.add d52 d55) fun d56 => .ok (d56, s13.2) else bo (D.eq d1.1 (.int 9)) fun b57 => if b57 = true then bo (D.add text_ (.str "\n")) fun d58 => .ok (d58, s13.2) else bo (D.eq d1.1 (.int 10)) fun b59 => if b59 = true then bo (F_l_take s13.2 (.int 20)) fun d60 => bo (D.add (.int 90) d60.1) fun d61 => bo (D.str1 d61) fun d62 => bo (D.asS text_) fun _ => bo (D.index2 text_ (.str " ")) fun d63 => bo (D.toInt d63) fun i64 => bo (D.slice text_ (some i64) none) fun d65 => bo (D.add d62 d65) fun d66 => .ok (d66, d60.2) else bo (D.asS text_) fun _ => bo (D.split2L text_ (.str " ")) fun x67 => bo (D.len (.lst x67)) fun d70 => bo (D.min2 (.int 4) d70) fun d71 => bo (F_l_take s13.2 d71) fun d72 => bo (D.len (.lst x67)) fun d73 => bo (F_l_take d72.2 d73) fun d74 => jn (fun (s77 : List D) => jn (fun (s86 : List D × List D) => jn (fun (s95 : List D) => jn (fun (s109 : List D) => jn (fun (s124 : List D × List D) => bo (D.asS (.str " ")) fun _ => bo (D.join (.str " ") (.lst s124.2)) fun d132 => .ok (d132, s124.1)) fun kk122 => bo (D.eq d1.1 (.int 8)) fun b125 => if b125 = true then bo (D.ix (.lst s109) d72.1) fun d126 => bo (D.mul (.str "~") (.int 41)) fun d127 => bo (F_l_take s86.1 (.int 5)) fun d128 => bo (D.ix (.lst [.str "0", .str " ", .str "_", .str "x", d127]) d128.1) fun d129 => bo (D.add d126 d129) fun d130 => bo (D.putL s109 d72.1 d130) fun x131 => kk122 (d128.2, x131) else kk122 (s86.1, s109)) fun kk107 => bo (D.eq d1.1 (.int 7)) fun b112 => if b112 = true then bo (D.toInt d72.1) fun i113 => bo (D.slice (.lst s95) none (some i113)) fun d114 => bo (D.ix (.lst s95) d72.1) fun d115 => bo (D.add d114 (.lst [d115])) fun d116 => bo (D.toInt d72.1) fun i117 => bo (D.slice (.lst s95) (some i117) none) fun d118 => bo (D.addL d116 d118) fun x119 => kk107 (x119) else kk107 (s95)) fun kk93 => bo (D.eq d1.1 (.int 6)) fun b98 => if b98 = true then bo (D.toInt d72.1) fun i99 => bo (D.slice (.lst s86.2) none (some i99)) fun d100 => bo (D.add d72.1 (.int 1)) fun d101 => bo (D.toInt d101) fun i102 => bo (D.slice (.lst s86.2) (some i102) none) fun d103 => bo (D.addL d100 d103) fun x104 => kk93 (x104) else kk93 (s86.2)) fun kk84 => bo (D.eq d1.1 (.int 5)) fun b87 => if b87 = true then bo (F_l_take d74.2 (.int 5)) fun d88 => bo (D.ix (.lst [.str "0", .str "+", .str "-", .str " ", .str "_"]) d88.1) fun d89 => bo (D.ix (.lst s77) d72.1) fun d90 => bo (D.add d89 d90) fun d91 => bo (D.putL s77 d72.1 d91) fun x92 => kk84 (d88.2, x92) else kk84 (d74.2, s77)) fun kk75 => bo (D.eq d1.1 (.int 4)) fun b79 => if b79 = true then bo (D.ix (.lst x67) d72.1) fun d80 => bo (D.ix (.lst x67) d74.1) fun d81 => bo (D.putL x67 d72.1 d81) fun x82 => bo (D.putL x82 d74.1 d80) fun x83 => kk75 (x83) else kk75 (x67)) fun kk11 => bo (D.eq d2.1 (.int 2)) fun b14 => if b14 = true then bo (F_l_any d10.2 (.int 1)) fun d15 => kk11 (d15.1, d15.2) else bo (F_l_take d10.2 (.int 9)) fun d16 => bo (D.ix (.str " 0190a z\n") d16.1) fun d17 => kk11 (d17, d16.2)) fun kk3 => bo (D.eq d2.1 (.int 0)) fun b6 => if b6 = true then bo (D.len text_) fun d7 => kk3 (d7) else bo (D.len text_) fun d8 => bo (D.min2 d8 (.int 14)) fun d9 => kk3 (d9))
def T_l_spoilt : TSpec := fun xs m post xp => ∃ (pbox_ : Addr) (box_ : List D) (ttext_ : TV) (text_ : D) (m1 : Mu), xs = [tv (Ref.mk pbox_), ttext_] ∧ m = (pbox_, mC (.lst box_)) :: m1 ∧ Vw m1 ttext_ text_ ∧ Sm (F_l_spoilt box_ text_) (fun r => post (td r.1) ((pbox_, mC (.lst r.2)) :: m1))
def F_l_short (text_ : D) : Option (D) := Res.opt (bo (D.asS text_) fun _ => bo (D.split2 text_ (.str " ")) fun d2 => bo (D.toInt (.int 3)) fun i3 => bo (D.slice d2 none (some i3)) fun d4 => bo (D.items d4) fun xs1 => bo (mapO (fun x5 => Res.opt (bo (D.asS (.str "")) fun _ => bo (D.items x5) fun xs7 => bo (filO (fun x8 => Res.opt (bo (D.mem x8 (.str "0123456789")) fun b10 => .ok b10)) (fun x8 => Res.opt (.ok x8)) xs7) fun ys9 => bo (D.join (.str "") (.lst ys9)) fun d11 => .ok d11)) xs1) fun ys6 => bo (D.items (.lst ys6)) fun xs12 => bo (filO (fun x13 => Res.opt (bo (D.len x13) fun d15 => bo (D.gt d15 (.int 20)) fun b16 => .ok b16)) (fun x13 => Res.opt (.ok x13)) xs12) fun ys14 => bo (D.eq (.lst ys14) (.lst [])) fun b17 => .ok (.bl b17))
def T_l_short : TSpec := fun xs m post xp => ∃ (ttext_ : TV) (text_ : D), xs = [ttext_] ∧ Vw m ttext_ text_ ∧ Sm (F_l_short text_) (fun d => post (td d) m)
def F_l_judged (value_ : D) (turn_ : D) : Option (D) := Res.opt (bo (D.rng1 (.int 3)) fun xs1 => bo (mapO (fun x2 => Res.opt (bo (F_l_copy value_) fun d4 => .ok d4)) xs1) fun ys3 => jn (fun (s7 : D) => bo (D.repr (.lst ys3)) fun d21 => bo (D.repr (.lst [value_, value_, value_])) fun d22 => bo (D.ne d21 d22) fun b23 => if b23 = true then .ok (.bl false) else bo (F_l_is_cell value_) fun d24 => bo (F_l_is_text value_) fun d25 => bo (F_l_is_line value_) fun d26 => bo (F_l_equal s7 (.lst [d24, d25, d26])) fun d27 => .ok d27) fun kk5 => bo (D.eq turn_ (.int 0)) fun b8 => if b8 = true then bo (D.ix (.lst ys3) (.int 0)) fun d9 => bo (F_is_cell d9) fun d10 => bo (D.ix (.lst ys3) (.int 1)) fun d11 => bo (F_is_text d11) fun d12 => bo (D.ix (.lst ys3) (.int 2)) fun d13 => bo (F_is_line d13) fun d14 => kk5 (.lst [d10, d12, d14]) else bo (D.ix (.lst ys3) (.int 0)) fun d15 => bo (F_is_cell d15) fun d16 => bo (D.ix (.lst ys3) (.int 1)) fun d17 => bo (F_is_text d17) fun d18 => bo (D.ix (.lst ys3) (.int 2)) fun d19 => bo (F_is_line d19) fun d20 => kk5 (.lst [d16, d18, d20]))
def T_l_judged : TSpec := fun xs m post xp => ∃ (value_ : D) (tturn_ : TV) (turn_ : D), xs = [td value_, tturn_] ∧ Vw m tturn_ turn_ ∧ Sm (F_l_judged value_ turn_) (fun d => post (td d) m)
def F_l_told (value_ : D) (door_ : D) (turn_ : D) : Option (D) := Res.opt (jn (fun (s3 : Unit) => .ok .non) fun kk1 => tryR (bo (D.eq door_ (.int 0)) fun b11 => if b11 = true then jn (fun (s14 : D) => .ok (.inr (.lst [.str "told", s14]))) fun kk12 => bo (D.eq turn_ (.int 0)) fun b15 => if b15 = true then bx (F_key value_) [.arg 0] fun d16 => kk12 (d16) else bx (F_key value_) [.arg 0] fun d17 => kk12 (d17) else jn (fun (s20 : D) => .ok (.inr (.lst [.str "told", s20]))) fun kk18 => bo (D.eq turn_ (.int 0)) fun b21 => if b21 = true then bx (F_line_text value_) [.arg 0] fun d22 => kk18 (d22) else bx (F_line_text value_) [.arg 0] fun d23 => kk18 (d23)) (fun y6 => bo (exq y6.cls 30) fun b7 => if b7 = true then bo (XE.at y6 xtab 30) fun v8 => bo (asArg 0 v8) fun _ => bo (F_l_very value_ value_) fun d10 => .ok (.lst [.str "refused", d10]) else .bad) kk1)
def T_l_told : TSpec := fun xs m post xp => ∃ (tvalue_ : TV) (value_ : D) (tdoor_ : TV) (door_ : D) (tturn_ : TV) (turn_ : D) (m1 : Mu), xs = [tvalue_, tdoor_, tturn_] ∧ Own m tvalue_ value_ m1 ∧ Vw m1 tdoor_ door_ ∧ Vw m1 tturn_ turn_ ∧ Sm (F_l_told value_ door_ turn_) (fun d => post (td d) m1)
def F_l_line_right (value_ : D) (turn_ : D) : Option (D) := Res.opt (bo (F_l_judged value_ turn_) fun d1 => bo (D.bool d1) fun b2 => if (!b2) = true then .ok (.bl false) else jn (fun (s5 : D) => bo (D.rng1 (.int 2)) fun xs11 => forC (S := Unit) xs11 () (fun x15 s12 nx16 br17 => bo (F_l_copy value_) fun d19 => bo (F_l_told d19 (.int 0) turn_) fun d23 => bo (F_l_copy value_) fun d24 => bo (D.sub (.int 1) turn_) fun d28 => bo (F_l_told d24 (.int 1) d28) fun d29 => bo (F_l_equal (.lst [d23, d29]) s5) fun d30 => bo (D.bool d30) fun b31 => if (!b31) = true then .ok (.bl false) else nx16 ()) fun s12 => .ok (.bl true)) fun kk3 => bo (F_l_is_line value_) fun d6 => bo (D.bool d6) fun b7 => if b7 = true then bo (D.toInt (.int 2)) fun i8 => bo (D.slice value_ none (some i8)) fun d9 => bo (F_l_written value_) fun d10 => kk3 (.lst [.lst [.str "told", d9], .lst [.str "told", d10]]) else kk3 (.lst [.lst [.str "refused", .bl true], .lst [.str "refused", .bl true]]))
def T_l_line_right : TSpec := fun xs m post xp => ∃ (value_ : D) (tturn_ : TV) (turn_ : D), xs = [td value_, tturn_] ∧ Vw m tturn_ turn_ ∧ Sm (F_l_line_right value_ turn_) (fun d => post (td d) m)
def F_l_text_right (value_ : D) (due_ : D) (turn_ : D) : Option (D) := Res.opt (bo (F_l_copy value_) fun d1 => jn (fun (s7 : D) => jn (fun (s27 : D) => .ok s27) fun kk25 => if (!(D.isNone due_)) = true then bo (F_l_equal s7 due_) fun d28 => kk25 (d28) else kk25 (.bl false)) fun kk5 => tryR (jn (fun (s21 : D) => .ok (.inl (s21))) fun kk19 => bo (D.eq turn_ (.int 0)) fun b22 => if b22 = true then bx (F_read_line d1) [.arg 3] fun d23 => kk19 (d23) else bx (F_read_line d1) [.arg 3] fun d24 => kk19 (d24)) (fun y10 => bo (exq y10.cls 41) fun b11 => if b11 = true then jn (fun (s14 : D) => .ok s14) fun kk12 => if (D.isNone due_) = true then bo (XE.at y10 xtab 30) fun v15 => bo (asArg 3 v15) fun _ => bo (F_l_very d1 d1) fun d17 => kk12 (d17) else kk12 (.bl false) else .bad) kk5)
def T_l_text_right : TSpec := fun xs m post xp => ∃ (tvalue_ : TV) (value_ : D) (tdue_ : TV) (due_ : D) (tturn_ : TV) (turn_ : D), xs = [tvalue_, tdue_, tturn_] ∧ Vw m tvalue_ value_ ∧ Vw m tdue_ due_ ∧ Vw m tturn_ turn_ ∧ Sm (F_l_text_right value_ due_ turn_) (fun d => post (td d) m)
def F_l_object_right (thing_ : D) : Option (D) := Res.opt (bo (F_is_cell thing_) fun d1 => bo (F_is_text thing_) fun d2 => bo (F_is_line thing_) fun d3 => bo (D.ne (.lst [d1, d2, d3]) (.lst [.bl false, .bl false, .bl false])) fun b4 => if b4 = true then .ok (.bl false) else bo (D.rng1 (.int 3)) fun xs7 => forC (S := List D) xs7 ([]) (fun x10 s8 nx11 br12 => jn (fun (s16 : List D) => nx11 (s16)) fun kk14 => tryR (bo (D.eq x10 (.int 0)) fun b36 => if b36 = true then bx (F_key thing_) [.arg 0] fun d37 => bo (D.appL s8 (.lst [d37])) fun x38 => .ok (.inl (x38)) else bo (D.eq x10 (.int 1)) fun b39 => if b39 = true then bx (F_line_text thing_) [.arg 0] fun d40 => bo (D.appL s8 (.lst [d40])) fun x41 => .ok (.inl (x41)) else bx (F_read_line thing_) [.arg 0] fun d42 => bo (D.appL s8 (.lst [d42])) fun x43 => .ok (.inl (x43))) (fun y19 => bo (exq y19.cls 30) fun b20 => if b20 = true then jn (fun (s23 : D) => bo (D.appL s8 s23) fun x27 => kk14 (x27)) fun kk21 => bo (XE.at y19 xtab 30) fun v24 => bo (asArg 0 v24) fun _ => bo (D.eqSelf thing_) fun b25 => if b25 = true then kk21 (.str "line") else kk21 (.str "other") else bo (exq y19.cls 41) fun b28 => if b28 = true then jn (fun (s31 : D) => bo (D.appL s8 s31) fun x35 => kk14 (x35)) fun kk29 => bo (XE.at y19 xtab 30) fun v32 => bo (asArg 0 v32) fun _ => bo (D.eqSelf thing_) fun b33 => if b33 = true then kk29 (.str "text") else kk29 (.str "other") else .bad) kk14) fun s8 => bo (D.eq (.lst s8) (.lst [.str "line", .str "line", .str "text"])) fun b44 => .ok (.bl b44))
def T_l_object_right : TSpec := fun xs m post xp => ∃ (athing_ : Addr) (thing_ : D), xs = [tv (Pin.mk athing_ thing_)] ∧ Sm (F_l_object_right thing_) (fun d => post (td d) m)
def F_l_others_right (line_ : D) : Option (D) := Res.opt (bo (F_l_written line_) fun d1 => bo (D.neg (.int 1)) fun d2 => bo (D.dict1 (.lst [.tup [.str "a", d1]])) fun d3 => bo (D.pow (.int 10) (.int 19)) fun d4 => bo (D.keep (.lst [.non, .int 0, .bl true, .bl false, d2, .str "", .str " ", .lst [], .tup [], .dct [], .lst [d1], .tup [d1], d3, d4])) fun d5 => bo (D.len d5) fun d8 => bo (D.rng1 d8) fun xs7 => forC (S := Unit) xs7 () (fun x11 s9 nx12 br13 => jn (fun (s17 : Bool) => if s17 = true then .ok (.bl false) else nx12 ()) fun kk15 => bo (D.ix d5 x11) fun d18 => bo (D.int1 x11) fun d19 => bo (D.mod d19 (.int 2)) fun d20 => bo (F_l_text_right d18 .non d20) fun d21 => bo (D.bool d21) fun b22 => if (!b22) = true then kk15 true else bo (D.ix d5 x11) fun d23 => bo (D.int1 x11) fun d24 => bo (D.mod d24 (.int 2)) fun d25 => bo (F_l_line_right d23 d25) fun d26 => bo (D.bool d26) fun b27 => kk15 (!b27)) fun s9 => jn (fun (s30 : D) => .ok s30) fun kk28 => bo (F_l_text_right line_ .non (.int 0)) fun d31 => bo (D.bool d31) fun b32 => if b32 = true then bo (D.list1 line_) fun d33 => bo (F_l_text_right d33 .non (.int 1)) fun d34 => bo (D.bool d34) fun b35 => if b35 = true then bo (F_l_object_right ((.exc 41 [(30, d1)]))) fun d37 => kk28 (d37) else kk28 (.bl false) else kk28 (.bl false))
def T_l_others_right : TSpec := fun xs m post xp => ∃ (tline_ : TV) (line_ : D), xs = [tline_] ∧ Vw m tline_ line_ ∧ Sm (F_l_others_right line_) (fun d => post (td d) m)
def F_l_right (box_ : List D) : Option (D × List D) := Res.opt (bo (F_l_line box_) fun d1 => bo (F_l_line d1.2) fun d2 => bo (D.toInt (.int 1)) fun i4 => bo (D.slice (.lst [d1.1, d2.1]) none (some i4)) fun d5 => bo (D.add (.lst [d1.1, d2.1]) d5) fun d6 => bo (D.items d6) fun xs3 => forC (S := List D) xs3 (d2.2) (fun x13 s7 nx14 br15 => bo (F_l_written x13) fun d17 => jn (fun (s20 : Bool) => if s20 = true then .ok (.bl false, s7) else bo (D.rng1 (.int 6)) fun xs27 => forC (S := List D) xs27 (s7) (fun x32 s28 nx33 br34 => bo (F_l_odd s28 x13) fun d36 => bo (F_l_spoilt d36.2 d17) fun d37 => bo (D.int1 x32) fun d38 => bo (D.mod d38 (.int 2)) fun d39 => bo (F_l_line_right d36.1 d39) fun d40 => bo (D.bool d40) fun b41 => if (!b41) = true then .ok (.bl false, d37.2) else jn (fun (s44 : Bool) => if s44 = true then .ok (.bl false, d37.2) else jn (fun (s54 : Bool × List D) => if s54.1 = true then .ok (.bl false, s54.2) else nx33 (s54.2)) fun kk52 => bo (D.ix x13 (.int 2)) fun d55 => bo (F_l_odd_cell d37.2 d55) fun d56 => bo (F_l_judged d56.1 (.int 0)) fun d57 => bo (D.bool d57) fun b58 => if (!b58) = true then kk52 (true, d56.2) else bo (D.ix x13 (.int 3)) fun d59 => bo (F_l_odd_text d56.2 d59) fun d60 => bo (F_l_judged d60.1 (.int 1)) fun d61 => bo (D.bool d61) fun b62 => kk52 ((!b62), d60.2)) fun kk42 => bo (F_l_short d37.1) fun d45 => bo (D.bool d45) fun b46 => if b46 = true then bo (F_l_read d37.1) fun d47 => bo (D.int1 x32) fun d48 => bo (D.mod d48 (.int 2)) fun d49 => bo (F_l_text_right d37.1 d47 d49) fun d50 => bo (D.bool d50) fun b51 => kk42 (!b51) else kk42 false) fun s28 => jn (fun (s65 : Bool) => if s65 = true then .ok (.bl false, s28) else nx14 (s28)) fun kk63 => bo (D.ix x13 (.int 2)) fun d66 => bo (F_l_judged d66 (.int 1)) fun d67 => bo (D.bool d67) fun b68 => if (!b68) = true then kk63 true else bo (D.ix x13 (.int 3)) fun d69 => bo (F_l_judged d69 (.int 0)) fun d70 => bo (D.bool d70) fun b71 => kk63 (!b71)) fun kk18 => bo (F_l_line_right x13 (.int 0)) fun d21 => bo (D.bool d21) fun b22 => if (!b22) = true then kk18 true else bo (F_l_text_right d17 x13 (.int 1)) fun d23 => bo (D.bool d23) fun b24 => if (!b24) = true then kk18 true else bo (F_l_text_right d17 x13 (.int 0)) fun d25 => bo (D.bool d25) fun b26 => kk18 (!b26)) fun s7 => bo (D.ix (.lst [d1.1, d2.1]) (.int 0)) fun d72 => bo (F_l_others_right d72) fun d73 => .ok (d73, s7))
def T_l_right : TSpec := fun xs m post xp => ∃ (pbox_ : Addr) (box_ : List D) (m1 : Mu), xs = [tv (Ref.mk pbox_)] ∧ m = (pbox_, mC (.lst box_)) :: m1 ∧ Sm (F_l_right box_) (fun r => post (td r.1) ((pbox_, mC (.lst r.2)) :: m1))
end K01

set_option Elab.async false
set_option linter.all false
set_option maxRecDepth 100000
set_option maxHeartbeats 4000000

namespace K01
open PySem PySem.Spec PyProof.Rows L2 Ty Dy
variable [CE]

section
variable {P : Program} {w : World} {K : PySem.W.Frag} {mg : Str → Option Value} {base : Heap}

theorem Tx.ex_q (T : Tx K mg base) {c d : Nat} {b : Bool} (h : exq c d = some b) : PySem.W.exmOne K (.ref (CE.a c)) (.ref (CE.a d)) = some b := by
  unfold exq at h
  split at h
  · cases h; exact T.m_InvalidLine_InvalidLine
  · cases h; exact T.m_InvalidLine_InvalidText
  · cases h; exact T.m_InvalidText_InvalidLine
  · cases h; exact T.m_InvalidText_InvalidText
  · cases h
theorem Tx.at_q (T : Tx K mg base) {c n : Nat} (h : (c, n) ∈ xtab) : XfC K (CE.a c) ∧ PySem.W.findIn K (.ref (CE.a c)) (anm n) = some none := by
  simp only [xtab, List.mem_cons, List.not_mem_nil, or_false, Prod.mk.injEq] at h
  rcases h with ⟨rfl, rfl⟩ | ⟨rfl, rfl⟩
  · exact ⟨T.xe_InvalidLine, T.n_InvalidLine_given⟩
  · exact ⟨T.xe_InvalidText, T.n_InvalidText_given⟩

theorem g_InvalidLine_init (T : Tx K mg base) {f : Addr} {fd : FuncData} (F : FunD K "__init__" "InvalidLine.__init__" (defArgs s_InvalidLine_init) (defBody s_InvalidLine_init) (defScope s_InvalidLine_init) [] [] f fd) : FnG P w K mg base 1 f fd ["self", "given"] (T_xi 30 [30]) := by
  have sc := sc_InvalidLine_init
  refine fn_ok F sc_InvalidLine_init (fun xs m post xp h => ?_) fun cdv A outer s H E B0 H0 xs m post xp hgd hr hT hx => ?_
  · obtain ⟨_, ts, h, hl, _⟩ := h; subst h; rw [List.length_cons, hl]; rfl
  obtain ⟨a, ts, rfl, hl, rfl, hpost⟩ := hT
  obtain ⟨t0, rfl⟩ : ∃ t0, ts = [t0] := by
    match ts, hl with
    | [t0], _ => exact ⟨_, rfl⟩
  refine wss_cons ?_
  refine ws_expr ?_
  refine we_xinit T.g_AlongError T.sup_AlongError ?_
  refine wa_cons ?_
  refine we_name 0 ?_
  refine wa_cons ?_
  refine we_str ?_
  refine wa_nil ?_
  refine ⟨_, _, _, 0, rfl, by simp, T.oe_InvalidLine, rfl, ?_⟩
  refine wss_one ?_
  refine ws_ost ?_
  refine we_name 1 ?_
  refine we_name 0 ?_
  refine ⟨_, _, 0, rfl, T.oe_InvalidLine, T.n_InvalidLine_given, rfl, fun dx => ?_⟩
  exact hpost dx
theorem ok_InvalidLine (T : Tx K mg base) : OexK P w K mg base "InvalidLine" (CE.a 30) 1 (T_xi 30 [30]) [] := by
  obtain ⟨f, fd, F, h1, h2⟩ := T.ie_InvalidLine
  exact ⟨T.g_InvalidLine, T.oe_InvalidLine, f, fd, _, [], [], h1, h2, g_InvalidLine_init T F, F.bindsN fun kV doc pm an cdv ct us hl => match us, hl with | [a0, a1], _ => rfl, .nil, flat0⟩
theorem g_InvalidText_init (T : Tx K mg base) {f : Addr} {fd : FuncData} (F : FunD K "__init__" "InvalidText.__init__" (defArgs s_InvalidText_init) (defBody s_InvalidText_init) (defScope s_InvalidText_init) [] [] f fd) : FnG P w K mg base 1 f fd ["self", "given"] (T_xi 41 [30]) := by
  have sc := sc_InvalidText_init
  refine fn_ok F sc_InvalidText_init (fun xs m post xp h => ?_) fun cdv A outer s H E B0 H0 xs m post xp hgd hr hT hx => ?_
  · obtain ⟨_, ts, h, hl, _⟩ := h; subst h; rw [List.length_cons, hl]; rfl
  obtain ⟨a, ts, rfl, hl, rfl, hpost⟩ := hT
  obtain ⟨t0, rfl⟩ : ∃ t0, ts = [t0] := by
    match ts, hl with
    | [t0], _ => exact ⟨_, rfl⟩
  refine wss_cons ?_
  refine ws_expr ?_
  refine we_xinit T.g_AlongError T.sup_AlongError ?_
  refine wa_cons ?_
  refine we_name 0 ?_
  refine wa_cons ?_
  refine we_str ?_
  refine wa_nil ?_
  refine ⟨_, _, _, 0, rfl, by simp, T.oe_InvalidText, rfl, ?_⟩
  refine wss_one ?_
  refine ws_ost ?_
  refine we_name 1 ?_
  refine we_name 0 ?_
  refine ⟨_, _, 0, rfl, T.oe_InvalidText, T.n_InvalidText_given, rfl, fun dx => ?_⟩
  exact hpost dx
theorem ok_InvalidText (T : Tx K mg base) : OexK P w K mg base "InvalidText" (CE.a 41) 1 (T_xi 41 [30]) [] := by
  obtain ⟨f, fd, F, h1, h2⟩ := T.ie_InvalidText
  exact ⟨T.g_InvalidText, T.oe_InvalidText, f, fd, _, [], [], h1, h2, g_InvalidText_init T F, F.bindsN fun kV doc pm an cdv ct us hl => match us, hl with | [a0, a1], _ => rfl, .nil, flat0⟩
end
end K01

set_option Elab.async false
set_option linter.all false
set_option maxRecDepth 100000
set_option maxHeartbeats 4000000
namespace K01
open PySem PySem.Spec PyProof.Rows L2 Ty Dy
variable [CE]
section
variable {P : Program} {w : World} {K : PySem.W.Frag} {mg : Str → Option Value} {base : Heap}
theorem repr_is {d s : D} (h : D.repr d = some s) : ∃ x, d.py = some x ∧ x.showable = true ∧ x.depth ≤ 60 ∧ x.shown.length ≤ 16000000 ∧ s = .str x.shown := by
  unfold D.repr at h
  split at h
  · rename_i x hx
    split at h
    · rename_i hz
      cases h
      exact ⟨x, hx, hz.1, hz.2.1, hz.2.2, rfl⟩
    · cases h
  · cases h
theorem okH_l_very (T : Tx K mg base) : DefH P w K mg base "_law_very" 1 T_l_very := by
  obtain ⟨f, fd, F, hm⟩ := T.f_l_very
  have sc := sc_l_very
  refine defH_mk F (fn_okH F sc_l_very (fun xs m post xp h => ?_) fun cdv A outer s H E B0 H0 xs m post xp hgd hr hT => ?_) hm (fun kV doc pm an cdv ct us hl => match us, hl with | [a0, a1], _ => rfl)
  · obtain ⟨_, _, _, h, _⟩ := h; subst h; rfl
  obtain ⟨t, d, m1, rfl, hown, hT⟩ := hT
  obtain ⟨r, er, hpost⟩ := hT.get
  unfold F_l_very at er
  split at er
  case isFalse => cases er
  rename_i hg
  obtain ⟨sr, hsr, rfl⟩ := Option.map_eq_some_iff.mp er
  obtain ⟨x, hx, q1, q2, q3, rfl⟩ := repr_is hsr
  refine wss_leE ?_
  rcases hown with ⟨hmu, cv, rfl⟩ | ⟨p, rfl, rfl, hc⟩
  · have hgr : grown d = d := by cases d <;> first | rfl | cases hmu
    rw [hgr] at hx
    have hv : Vw m1 t d := .inl cv
    have ht : d.tyn ≠ "" := by cases d <;> first | exact absurd hg Bool.false_ne_true | (simp [D.tyn]; done)
    have hk1 : kitB d.tyn "list" = some false := by cases d <;> first | exact absurd hg Bool.false_ne_true | (cases hmu; done) | (dsimp only [D.tyn]; decide +kernel)
    have hk2 : kitB d.tyn "dict" = some false := by cases d <;> first | exact absurd hg Bool.false_ne_true | (cases hmu; done) | (dsimp only [D.tyn]; decide +kernel)
    refine wss_cons ?_
    refine ws_ifP (B := false) ?hc (fun h => nomatch h) (fun h => ?hf)
    case hc =>
      refine wt_val ?_
      refine we_callB (id := "isinstance") T.isinstance ?_ bt_isinstance
      refine wa_cons ?_
      refine we_name 1 ?_
      refine wa_cons ?_
      refine we_type (T := "list") T.list ?_ bt_list
      refine wa_nil ?_
      exact isiM (hv.ty ht) (BoolP.of eqb_rfl) hk1
    case hf =>
      refine wss_nil ?_
      refine wss_cons ?_
      refine ws_ifP (B := false) ?hc (fun h => nomatch h) (fun h => ?hf)
      case hc =>
        refine wt_val ?_
        refine we_callB (id := "isinstance") T.isinstance ?_ bt_isinstance
        refine wa_cons ?_
        refine we_name 1 ?_
        refine wa_cons ?_
        refine we_type (T := "dict") T.dict ?_ bt_dict
        refine wa_nil ?_
        exact isiM (hv.ty ht) (BoolP.of eqb_rfl) hk2
      case hf =>
        refine wss_nil ?_
        refine wss_one ?_
        refine ws_ret ?_
        refine we_cv ?_
        refine we_cmp ?_
        refine we_callB (id := "repr") T.repr ?_ bt_repr
        refine wa_cons ?_
        refine we_name 0 ?_
        refine wa_nil ?_
        refine repr_a (hv.asd hx) hgd (show RmH 0 _ from ⟨hr.dp, hr.un⟩) T.sys q1 q2 q3 ?_
        refine we_callB (id := "repr") T.repr ?_ bt_repr
        refine wa_cons ?_
        refine we_name 1 ?_
        refine wa_nil ?_
        refine repr_a (hv.asd hx) hgd (show RmH 0 _ from ⟨hr.dp, hr.un⟩) T.sys q1 q2 q3 ?_
        refine eq_ss ⟨_, cv_bl, ?_⟩
        rw [decide_eq_true rfl]
        exact ⟨_, Le.rfl, hpost⟩
  · cases d with
    | lst xs =>
      have hz : xs.length ≤ 1000000 := of_decide_eq_true hg
      refine wss_cons ?_
      refine ws_ifP (B := true) ?hc (fun h => ?ht) (fun h => nomatch h)
      case hc =>
        refine wt_val ?_
        refine we_callB (id := "isinstance") T.isinstance ?_ bt_isinstance
        refine wa_cons ?_
        refine we_name 1 ?_
        refine wa_cons ?_
        refine we_type (T := "list") T.list ?_ bt_list
        refine wa_nil ?_
        exact isiM (tym_lU (Vw.lu (.inr ⟨p, 0, rfl, rfl, rfl⟩))) (BoolP.of eqb_rfl)
      case ht =>
        refine wss_one ?_
        refine ws_expr ?_
        refine we_bm PySem.F.plainAttrs_list PySem.F.slot_list_append ?_
        refine we_name 1 ?_
        refine ⟨ty_list (Vw.cell (d := .lst xs) 0 rfl rfl), ?_⟩
        refine wa_cons ?_
        refine e_str ?_
        refine wa_nil ?_
        have e : mL (xs.map td ++ [td (.str "more")]) = mC (.lst (xs ++ [D.str "more"])) := by
          show _ = mL ((xs ++ [D.str "more"]).map td)
          rw [List.map_append]; rfl
        refine append_o (n := 0) rfl (by simpa using hz) ?_
        show Wss _ _ _ _ ((p, mL (xs.map td ++ [td (.str "more")])) :: m1) _
        rw [e]
        have hv : Vw ((p, mC (.lst (xs ++ [D.str "more"]))) :: m1) (tv (Ref.mk p)) (.lst (xs ++ [D.str "more"])) := Vw.cell 0 rfl rfl
        refine wss_cons ?_
        refine ws_ifP (B := false) ?hc2 (fun h => nomatch h) (fun h => ?hf2)
        case hc2 =>
          refine wt_val ?_
          refine we_callB (id := "isinstance") T.isinstance ?_ bt_isinstance
          refine wa_cons ?_
          refine we_name 1 ?_
          refine wa_cons ?_
          refine we_type (T := "dict") T.dict ?_ bt_dict
          refine wa_nil ?_
          exact isiM (tym_lU hv.lu) (BoolP.of eqb_rfl)
        case hf2 =>
          refine wss_nil ?_
          refine wss_one ?_
          refine ws_ret ?_
          refine we_cv ?_
          refine we_cmp ?_
          refine we_callB (id := "repr") T.repr ?_ bt_repr
          refine wa_cons ?_
          refine we_name 0 ?_
          refine wa_nil ?_
          refine repr_a (hv.asd hx) hgd (show RmH 0 _ from ⟨hr.dp, hr.un⟩) T.sys q1 q2 q3 ?_
          refine we_callB (id := "repr") T.repr ?_ bt_repr
          refine wa_cons ?_
          refine we_name 1 ?_
          refine wa_nil ?_
          refine repr_a (hv.asd hx) hgd (show RmH 0 _ from ⟨hr.dp, hr.un⟩) T.sys q1 q2 q3 ?_
          refine eq_ss ⟨_, cv_bl, ?_⟩
          rw [decide_eq_true rfl]
          exact ⟨_, ⟨_, .refl _, .cons _ (.refl _)⟩, hpost⟩
    | dct kvs =>
      have hz : kvs.length < 1000 := of_decide_eq_true hg
      have hv0 : Vw ((p, mC (.dct kvs)) :: m1) (tv (Ref.mk p)) (.dct kvs) := Vw.cell 0 rfl rfl
      refine wss_cons ?_
      refine ws_ifP (B := false) ?hc (fun h => nomatch h) (fun h => ?hf)
      case hc =>
        refine wt_val ?_
        refine we_callB (id := "isinstance") T.isinstance ?_ bt_isinstance
        refine wa_cons ?_
        refine we_name 1 ?_
        refine wa_cons ?_
        refine we_type (T := "list") T.list ?_ bt_list
        refine wa_nil ?_
        exact isiM (show IsTyM _ _ "dict" from hv0.ty (by simp [D.tyn])) (BoolP.of eqb_rfl)
      case hf =>
        refine wss_nil ?_
        refine wss_cons ?_
        refine ws_ifP (B := true) ?hc2 (fun h => ?ht2) (fun h => nomatch h)
        case hc2 =>
          refine wt_val ?_
          refine we_callB (id := "isinstance") T.isinstance ?_ bt_isinstance
          refine wa_cons ?_
          refine we_name 1 ?_
          refine wa_cons ?_
          refine we_type (T := "dict") T.dict ?_ bt_dict
          refine wa_nil ?_
          exact isiM (show IsTyM _ _ "dict" from hv0.ty (by simp [D.tyn])) (BoolP.of eqb_rfl)
        case ht2 =>
          refine wss_one ?_
          refine s_dput (by have := hr.un; omega) ?_
          refine e_int ?_
          refine we_name 1 ?_
          refine we_str ?_
          refine ⟨_, _, 0, _, _, Cv.rfl, rfl, Cv.rfl, rfl, hz, ?_⟩
          have hv : Vw ((p, mC (.dct (kput kvs (.str "more") (.int 1)))) :: m1) (tv (Ref.mk p)) (.dct (kput kvs (.str "more") (.int 1))) := Vw.cell 0 rfl rfl
          show Wss _ _ _ _ ((p, mC (.dct (kput kvs (.str "more") (.int 1)))) :: m1) _
          refine wss_one ?_
          refine ws_ret ?_
          refine we_cv ?_
          refine we_cmp ?_
          refine we_callB (id := "repr") T.repr ?_ bt_repr
          refine wa_cons ?_
          refine we_name 0 ?_
          refine wa_nil ?_
          refine repr_a (hv.asd hx) hgd (show RmH 0 _ from ⟨hr.dp, hr.un⟩) T.sys q1 q2 q3 ?_
          refine we_callB (id := "repr") T.repr ?_ bt_repr
          refine wa_cons ?_
          refine we_name 1 ?_
          refine wa_nil ?_
          refine repr_a (hv.asd hx) hgd (show RmH 0 _ from ⟨hr.dp, hr.un⟩) T.sys q1 q2 q3 ?_
          refine eq_ss ⟨_, cv_bl, ?_⟩
          rw [decide_eq_true rfl]
          exact ⟨_, ⟨_, .refl _, .cons _ (.refl _)⟩, hpost⟩
    | ins C fs => exact absurd hg Bool.false_ne_true
    | _ => cases hc
theorem o_dictC {X : Cx} {Z : Zs} {t : TV} {m : Mu} {P : TV → Mu → Prop} {kvs : List (D × D)} (va : Vw m t (.dct kvs)) (h : P (td (.dct kvs)) m ∨ ∀ p, P (tv (Ref.mk p)) (m ++ [(p, mC (.dct kvs))])) : CallP X Z (.type "dict") [t] m P := by
  refine CallP.of call_dictD fun B H Q vs hS hv k => ?_
  obtain ⟨w, rfl, r⟩ := reps1 hv
  have q : ∃ a vs, w = .ref a ∧ H a = some (.dK vs) ∧ RpK Z.K B vs kvs := by
    rcases va with va | ⟨p, n, rfl, hm, _⟩
    · cases (show Rp Z.K B w (.dct kvs) from va _ _ _ r) with
      | dct h1 h2 => exact ⟨_, _, rfl, hS.ex _ _ h1, h2⟩
    · obtain ⟨vs, h1, h2⟩ := dK_at hS.hp hm
      exact ⟨p, vs, r, h1, h2⟩
  obtain ⟨a, vs, ew, ha, rr⟩ := q
  subst ew
  refine ⟨a, vs, rfl, .inl ha, fun p hp => ?_⟩
  have hb := hS.noneB hp
  rcases h with h | h
  · exact k (.ref p) _ _ m (td (.dct kvs)) (Ex.new hb) (hS.newB hp) (rpt (Rp.dct upd_same (Rp.monoK (Ex.new hb) _ _ rr))) h
  · exact k (.ref p) B _ _ (tv (Ref.mk p)) (Ex.refl _) (hS.newM hp (c := mC (.dct kvs)) ⟨_, rfl, rr⟩) (show V.ref p = .ref p from rfl) (h p)
theorem ok_l_copy (T : Tx K mg base) : DefK P w K mg base "_law_copy" 1 T_l_copy [] := by
  obtain ⟨f, fd, F, hm⟩ := T.f_l_copy
  have sc := sc_l_copy
  refine defK_mk F (fn_okD F sc_l_copy (fun xs m post xp h => ?_) fun cdv A outer s H E B0 H0 xs m post xp hgd hr hT hx => ?_) hm (fun kV doc pm an cdv ct us hl => match us, hl with | [a0], _ => rfl)
  · obtain ⟨_, _, h, _⟩ := h; subst h; rfl
  obtain ⟨t, d, rfl, hv, hT⟩ := hT
  obtain ⟨r, er, hpost⟩ := hT.get
  refine wss_leE ?_
  have perm : ∀ (p : Addr) (c : MV), Le ((p, c) :: m) (m ++ [(p, c)]) := fun p c => ⟨_, List.perm_append_comm (l₁ := [(p, c)]) (l₂ := m), .refl _⟩
  by_cases hl : ∃ xs, d = .lst xs
  · obtain ⟨xs, rfl⟩ := hl
    cases er
    refine wss_cons ?_
    refine ws_ifP (B := true) ?hc (fun h => ?ht) (fun h => nomatch h)
    case hc =>
      refine wt_val ?_
      refine we_callB (id := "isinstance") T.isinstance ?_ bt_isinstance
      refine wa_cons ?_
      refine we_name 0 ?_
      refine wa_cons ?_
      refine we_type (T := "list") T.list ?_ bt_list
      refine wa_nil ?_
      exact isiM (show IsTyM _ _ "list" from hv.ty (by simp [D.tyn])) (BoolP.of eqb_rfl)
    case ht =>
      refine wss_one ?_
      refine ws_ret ?_
      refine we_callT (x := "list") T.list ?_ bt_list
      refine wa_cons ?_
      refine we_name 0 ?_
      refine wa_nil ?_
      rcases hpost with hp | hp
      · exact o_list1 (β := D) (Q := fun r => r = .lst xs) (E := fun _ => False) (k := fun d => .ok d) hv (show Ok (Res.ok (D.lst xs)) (fun r => r = .lst xs) _ from rfl) fun d e => by
          cases (show d = .lst xs from e)
          exact ⟨_, Le.rfl, hp⟩
      · exact o_list1O (β := List D) (Q := fun r => r = xs) (E := fun _ => False) (k := fun d => .ok d) hv (show Ok (Res.ok xs) (fun r => r = xs) _ from rfl) fun d p e => by
          cases (show d = xs from e)
          exact ⟨_, perm _ _, hp _ _ (.inr ⟨p, rfl, rfl, rfl⟩)⟩
  by_cases hd : ∃ kvs, d = .dct kvs
  · obtain ⟨kvs, rfl⟩ := hd
    cases er
    have ht : IsTyM m t "dict" := hv.ty (by simp [D.tyn])
    refine wss_cons ?_
    refine ws_ifP (B := false) ?hc (fun h => nomatch h) (fun h => ?hf)
    case hc =>
      refine wt_val ?_
      refine we_callB (id := "isinstance") T.isinstance ?_ bt_isinstance
      refine wa_cons ?_
      refine we_name 0 ?_
      refine wa_cons ?_
      refine we_type (T := "list") T.list ?_ bt_list
      refine wa_nil ?_
      exact isiM ht (BoolP.of eqb_rfl)
    case hf =>
      refine wss_nil ?_
      refine wss_one ?_
      refine ws_ret ?_
      refine we_ifP (B := true) ?hc (fun h => ?ht) (fun h => nomatch h)
      case hc =>
        refine wt_val ?_
        refine we_callB (id := "isinstance") T.isinstance ?_ bt_isinstance
        refine wa_cons ?_
        refine we_name 0 ?_
        refine wa_cons ?_
        refine we_type (T := "dict") T.dict ?_ bt_dict
        refine wa_nil ?_
        exact isiM ht (BoolP.of eqb_rfl)
      case ht =>
        refine we_callT (x := "dict") T.dict ?_ bt_dict
        refine wa_cons ?_
        refine we_name 0 ?_
        refine wa_nil ?_
        refine o_dictC hv ?_
        rcases hpost with hp | hp
        · exact .inl ⟨_, Le.rfl, hp⟩
        · exact .inr fun p => ⟨_, perm _ _, hp _ _ (.inr ⟨p, rfl, rfl, rfl⟩)⟩
  have hz : d.tyn ≠ "" ∧ r = d := by
    cases d <;> first | exact absurd ⟨_, rfl⟩ hl | exact absurd ⟨_, rfl⟩ hd | (cases er; done) | (cases er; exact ⟨by simp [D.tyn], rfl⟩)
  obtain ⟨ht, rfl⟩ := hz
  have hmu : isMut r = false := by cases r <;> first | exact absurd ⟨_, rfl⟩ hl | exact absurd ⟨_, rfl⟩ hd | rfl
  have hk1 : kitB r.tyn "list" = some false := by cases r <;> first | exact absurd rfl ht | exact absurd ⟨_, rfl⟩ hl | (dsimp only [D.tyn]; decide +kernel)
  have hk2 : kitB r.tyn "dict" = some false := by cases r <;> first | exact absurd rfl ht | exact absurd ⟨_, rfl⟩ hd | (dsimp only [D.tyn]; decide +kernel)
  have hc : Cv t (td r) := by
    rcases hv with hv | ⟨p, n, e, hm, c⟩
    · exact hv
    · exfalso
      cases r <;> first | exact absurd rfl ht | exact absurd ⟨_, rfl⟩ hl | exact absurd ⟨_, rfl⟩ hd | exact absurd c Bool.false_ne_true
  refine wss_cons ?_
  refine ws_ifP (B := false) ?hc (fun h => nomatch h) (fun h => ?hf)
  case hc =>
    refine wt_val ?_
    refine we_callB (id := "isinstance") T.isinstance ?_ bt_isinstance
    refine wa_cons ?_
    refine we_name 0 ?_
    refine wa_cons ?_
    refine we_type (T := "list") T.list ?_ bt_list
    refine wa_nil ?_
    exact isiM (hv.ty ht) (BoolP.of eqb_rfl) hk1
  case hf =>
    refine wss_nil ?_
    refine wss_one ?_
    refine ws_ret ?_
    refine we_ifP (B := false) ?hc (fun h => nomatch h) (fun h => ?hf)
    case hc =>
      refine wt_val ?_
      refine we_callB (id := "isinstance") T.isinstance ?_ bt_isinstance
      refine wa_cons ?_
      refine we_name 0 ?_
      refine wa_cons ?_
      refine we_type (T := "dict") T.dict ?_ bt_dict
      refine wa_nil ?_
      exact isiM (hv.ty ht) (BoolP.of eqb_rfl) hk2
    case hf =>
      refine we_cv ?_
      refine we_name 0 ?_
      refine ⟨_, hc, ?_⟩
      rcases hpost with hp | hp
      · exact ⟨_, Le.rfl, hp⟩
      · exact ⟨_, Le.rfl, hp _ _ (.inl ⟨hmu, Cv.rfl, rfl⟩)⟩
end
end K01

set_option Elab.async false
set_option linter.all false
set_option maxRecDepth 100000
set_option maxHeartbeats 4000000

namespace K01
open PySem PySem.Spec PyProof.Rows L2 Ty Dy
variable [CE]

section
variable {P : Program} {w : World} {K : PySem.W.Frag} {mg : Str → Option Value} {base : Heap}

theorem g_is_integer (T : Tx K mg base) {f : Addr} {fd : FuncData} (F : FunD K "is_integer" "is_integer" (defArgs s_is_integer) (defBody s_is_integer) (defScope s_is_integer) [] [] f fd) : FnG P w K mg base 1 f fd ["value"] T_is_integer := by
  have sc := sc_is_integer
  refine fn_okD F sc_is_integer (fun xs m post xp h => ?_) fun cdv A outer s H E B0 H0 xs m post xp hgd hr hT hx => ?_
  · obtain ⟨_, _, h, _⟩ := h; subst h; rfl
  obtain ⟨tvalue_, value_, rfl, hvalue_, hT⟩ := hT
  have hT := Sm.opt hT
  refine wss_one ?_
  refine ws_ret ?_
  obtain ⟨kk1, hk2, hT⟩ := jn_s hT
  refine we_cv (Wp.imp (P := fun z m' => ∃ s3 : D, Ok (kk1 s3) (fun d => post (td d) m) (fun _ => False) ∧ Cv z (td s3) ∧ m = m') ?_ ?_)
  · skip
    refine we_and ?_
    refine we_callB (id := "isinstance") T.isinstance ?_ bt_isinstance
    refine wa_cons ?_
    refine we_name 0 ?_
    refine wa_cons ?_
    refine we_type (T := "int") T.int ?_ bt_int
    refine wa_nil ?_
    refine o_isi hvalue_ hT fun b4 hT => (BoolP.of ?_)
    refine ⟨fun hb => ?_, fun hb => ?_⟩
    · skip
      have hT := brT hT hb
      refine we_one ?_
      refine we_not ?_
      refine we_callB (id := "isinstance") T.isinstance ?_ bt_isinstance
      refine wa_cons ?_
      refine we_name 0 ?_
      refine wa_cons ?_
      refine we_type (T := "bool") T.bool ?_ bt_bool
      refine wa_nil ?_
      refine o_isi hvalue_ hT fun b5 hT => (BoolP.of ?_)
      exact ⟨_, hT, cv_bl, rfl⟩
    · skip
      have hT := brF hT hb
      exact ⟨_, hT, cv_bl, rfl⟩
  · rintro z m' ⟨s3, hT, hcv, rfl⟩
    subst hk2
    refine ⟨_, hcv, ?_⟩
    exact hT
theorem ok_is_integer (T : Tx K mg base) : DefK P w K mg base "is_integer" 1 T_is_integer [] := by
  obtain ⟨f, fd, F, hm⟩ := T.f_is_integer
  exact defK_mk F (g_is_integer T F) hm (fun kV doc pm an cdv ct us hl => match us, hl with | [a0], _ => rfl)
theorem g_is_count (T : Tx K mg base) {f : Addr} {fd : FuncData} (F : FunD K "is_count" "is_count" (defArgs s_is_count) (defBody s_is_count) (defScope s_is_count) [] [] f fd) : FnG P w K mg base 2 f fd ["value"] T_is_count := by
  have sc := sc_is_count
  refine fn_okD F sc_is_count (fun xs m post xp h => ?_) fun cdv A outer s H E B0 H0 xs m post xp hgd hr hT hx => ?_
  · obtain ⟨_, _, h, _⟩ := h; subst h; rfl
  obtain ⟨tvalue_, value_, rfl, hvalue_, hT⟩ := hT
  have hT := Sm.opt hT
  refine wss_one ?_
  refine ws_ret ?_
  obtain ⟨kk1, hk2, hT⟩ := jn_s hT
  refine we_cv (Wp.imp (P := fun z m' => ∃ s3 : D, Ok (kk1 s3) (fun d => post (td d) m) (fun _ => False) ∧ Cv z (td s3) ∧ m = m') ?_ ?_)
  · skip
    refine we_and ?_
    refine we_cv ?_
    refine e_call (ok_is_integer T) hgd hr xt0 ?_
    refine wa_cons ?_
    refine we_name 0 ?_
    refine wa_nil ?_
    refine ⟨_, _, rfl, hvalue_, sm_s hT fun d4 hT => ?_⟩
    refine b_val (PA := fun _ _ => True) Vw.p hT fun b5 hT => ?_
    refine ⟨fun hb => ?_, fun hb => ?_⟩
    · skip
      have hT := brT hT hb
      refine we_one ?_
      refine we_cmp ?_
      refine we_name 0 ?_
      refine e_int ?_
      refine o_ge hvalue_ Vw.p hT fun b6 hT => ?_
      exact ⟨_, hT, cv_bl, rfl⟩
    · skip
      have hT := brF hT hb
      exact ⟨_, hT, cv_bl, rfl⟩
  · rintro z m' ⟨s3, hT, hcv, rfl⟩
    subst hk2
    refine ⟨_, hcv, ?_⟩
    exact hT
theorem ok_is_count (T : Tx K mg base) : DefK P w K mg base "is_count" 2 T_is_count [] := by
  obtain ⟨f, fd, F, hm⟩ := T.f_is_count
  exact defK_mk F (g_is_count T F) hm (fun kV doc pm an cdv ct us hl => match us, hl with | [a0], _ => rfl)
theorem g_is_index (T : Tx K mg base) {f : Addr} {fd : FuncData} (F : FunD K "is_index" "is_index" (defArgs s_is_index) (defBody s_is_index) (defScope s_is_index) [] [] f fd) : FnG P w K mg base 2 f fd ["value", "many"] T_is_index := by
  have sc := sc_is_index
  refine fn_okD F sc_is_index (fun xs m post xp h => ?_) fun cdv A outer s H E B0 H0 xs m post xp hgd hr hT hx => ?_
  · obtain ⟨_, _, _, _, h, _⟩ := h; subst h; rfl
  obtain ⟨tvalue_, value_, tmany_, many_, rfl, hvalue_, hmany_, hT⟩ := hT
  have hT := Sm.opt hT
  refine wss_one ?_
  refine ws_ret ?_
  obtain ⟨kk1, hk2, hT⟩ := jn_s hT
  refine we_cv (Wp.imp (P := fun z m' => ∃ s3 : D, Ok (kk1 s3) (fun d => post (td d) m) (fun _ => False) ∧ Cv z (td s3) ∧ m = m') ?_ ?_)
  · skip
    refine we_and ?_
    refine we_cv ?_
    refine e_call (ok_is_integer T) hgd hr xt0 ?_
    refine wa_cons ?_
    refine we_name 0 ?_
    refine wa_nil ?_
    refine ⟨_, _, rfl, hvalue_, sm_s hT fun d4 hT => ?_⟩
    refine b_val (PA := fun _ _ => True) Vw.p hT fun b5 hT => ?_
    refine ⟨fun hb => ?_, fun hb => ?_⟩
    · skip
      have hT := brT hT hb
      refine we_one ?_
      refine we_chain ?_
      refine e_int ?_
      refine we_name 0 ?_
      refine o_le Vw.p hvalue_ hT fun b6 hT => (BoolP.of ?_)
      refine ⟨fun hb => ?_, fun hb => ?_⟩
      · skip
        have hT := brT hT hb
        refine we_name 1 ?_
        refine o_lt hvalue_ hmany_ hT fun b7 hT => ?_
        exact ⟨_, hT, cv_bl, rfl⟩
      · skip
        have hT := brF hT hb
        exact ⟨_, hT, cv_bl, rfl⟩
    · skip
      have hT := brF hT hb
      exact ⟨_, hT, cv_bl, rfl⟩
  · rintro z m' ⟨s3, hT, hcv, rfl⟩
    subst hk2
    refine ⟨_, hcv, ?_⟩
    exact hT
theorem ok_is_index (T : Tx K mg base) : DefK P w K mg base "is_index" 2 T_is_index [] := by
  obtain ⟨f, fd, F, hm⟩ := T.f_is_index
  exact defK_mk F (g_is_index T F) hm (fun kV doc pm an cdv ct us hl => match us, hl with | [a0, a1], _ => rfl)
theorem g_is_house (T : Tx K mg base) {f : Addr} {fd : FuncData} (F : FunD K "is_house" "is_house" (defArgs s_is_house) (defBody s_is_house) (defScope s_is_house) [] [] f fd) : FnG P w K mg base 3 f fd ["value"] T_is_house := by
  have sc := sc_is_house
  refine fn_okD F sc_is_house (fun xs m post xp h => ?_) fun cdv A outer s H E B0 H0 xs m post xp hgd hr hT hx => ?_
  · obtain ⟨_, _, h, _⟩ := h; subst h; rfl
  obtain ⟨tvalue_, value_, rfl, hvalue_, hT⟩ := hT
  have hT := Sm.opt hT
  refine wss_one ?_
  refine ws_ret ?_
  refine e_call (ok_is_index T) hgd hr xt0 ?_
  refine wa_cons ?_
  refine we_name 0 ?_
  refine wa_cons ?_
  refine e_globI T.MANY_HOUSES ?_
  refine wa_nil ?_
  refine ⟨_, _, _, _, rfl, hvalue_, Vw.p, sm_s hT fun d1 hT => ?_⟩
  exact hT
theorem ok_is_house (T : Tx K mg base) : DefK P w K mg base "is_house" 3 T_is_house [] := by
  obtain ⟨f, fd, F, hm⟩ := T.f_is_house
  exact defK_mk F (g_is_house T F) hm (fun kV doc pm an cdv ct us hl => match us, hl with | [a0], _ => rfl)
theorem g_is_signs (T : Tx K mg base) {f : Addr} {fd : FuncData} (F : FunD K "is_signs" "is_signs" (defArgs s_is_signs) (defBody s_is_signs) (defScope s_is_signs) [.non] [] f fd) : FnG P w K mg base 1 f fd ["value", "most"] T_is_signs := by
  have sc := sc_is_signs
  refine fn_okD F sc_is_signs (fun xs m post xp h => ?_) fun cdv A outer s H E B0 H0 xs m post xp hgd hr hT hx => ?_
  · obtain ⟨_, _, _, _, h, _⟩ := h; subst h; rfl
  obtain ⟨tvalue_, value_, tmost_, most_, rfl, hvalue_, hmost_, hT⟩ := hT
  have hT := Sm.opt hT
  refine wss_cons ?_
  refine ws_if ?_
  obtain ⟨kk1, hk2, hT⟩ := jn_s hT
  refine WpT.imp (P := fun z m' => ∃ s3 : Bool, Ok (kk1 s3) (fun d => post (td d) m) (fun _ => False) ∧ s3 = z ∧ m = m') ?_ ?_
  · skip
    refine wt_bool ?_
    refine ww_or ?_
    refine wt_not ?_
    refine wt_val ?_
    refine we_callB (id := "isinstance") T.isinstance ?_ bt_isinstance
    refine wa_cons ?_
    refine we_name 0 ?_
    refine wa_cons ?_
    refine we_type (T := "str") T.str ?_ bt_str
    refine wa_nil ?_
    refine o_isi hvalue_ hT fun b4 hT => (BoolP.of ?_)
    refine ⟨fun hb => ?_, fun hb => ?_⟩
    · skip
      have hT := brT hT hb
      exact ⟨_, hT, rfl, rfl⟩
    · skip
      have hT := brF hT hb
      refine ww_or1 ?_
      obtain ⟨kk5, hk6, hT⟩ := jn_s hT
      refine WpT.imp (P := fun z m' => ∃ s7 : Bool, Ok (kk5 s7) (fun d => post (td d) m) (fun _ => False) ∧ s7 = z ∧ m = m') ?_ ?_
      · skip
        refine wt_bool ?_
        refine ww_and ?_
        refine wt_cmp ?_
        refine we_name 1 ?_
        refine e_none ?_
        refine o_isnot hmost_ (BoolP.of ?_)
        refine ⟨fun hb => ?_, fun hb => ?_⟩
        · skip
          have hT := brT hT hb
          refine ww_and1 ?_
          refine wt_cmp ?_
          refine we_callB (id := "len") T.len ?_ bt_len
          refine wa_cons ?_
          refine we_name 0 ?_
          refine wa_nil ?_
          refine o_len hvalue_ hT fun d8 hT => ?_
          refine we_name 1 ?_
          refine o_gt Vw.p hmost_ hT fun b9 hT => (BoolP.of ?_)
          exact ⟨_, hT, rfl, rfl⟩
        · skip
          have hT := brF hT hb
          exact ⟨_, hT, rfl, rfl⟩
      · rintro z m' ⟨s7, hT, rfl, rfl⟩
        subst hk6
        exact ⟨_, hT, rfl, rfl⟩
  · rintro z m' ⟨s3, hT, rfl, rfl⟩
    subst hk2
    refine ⟨fun hb => ?_, fun hb => ?_⟩
    · skip
      have hT := brT hT hb
      refine wss_one ?_
      refine ws_ret ?_
      refine e_bool ?_
      exact hT
    · skip
      have hT := brF hT hb
      refine wss_nil ?_
      refine wss_one ?_
      refine ws_ret ?_
      refine we_callB (id := "all") T.all ?_ bt_all
      refine wa_cons ?_
      refine we_cv ?_
      refine we_lc1 2 (own := [("sign", 2)]) ?_ rfl sc.nd (show BlkOk ["value", "most", "sign"] (defScope s_is_signs) _ [("sign", 2)] from ⟨rfl, by decide +kernel, by decide +kernel, by decide +kernel, by decide +kernel⟩)
      refine wi_D ?_
      refine we_name 0 ?_
      refine ⟨_, hvalue_, sm_s hT fun xs10 hT hl => ?_⟩
      refine lcp_mapO hT hl (fun L => hvalue_.l) (fun s0 H0 C cl fp L0 x11 y hxy => ?_) (fun ys12 hT => ?_)
      · skip
        have hT := Sm.opt (Sm.of (Q := fun z => z = y) hxy rfl)
        obtain ⟨kk13, hk14, hT⟩ := jn_s hT
        refine we_cv (Wp.imp (P := fun z m' => ∃ s15 : D, Ok (kk13 s15) (fun z => z = y) (fun _ => False) ∧ Cv z (td s15) ∧ (m ++ L0) = m') ?_ ?_)
        · skip
          refine we_chain ?_
          refine e_str ?_
          refine we_name 2 ?_
          refine o_le Vw.p Vw.p hT fun b16 hT => (BoolP.of ?_)
          refine ⟨fun hb => ?_, fun hb => ?_⟩
          · skip
            have hT := brT hT hb
            refine e_str ?_
            refine o_le Vw.p Vw.p hT fun b17 hT => ?_
            exact ⟨_, hT, cv_bl, rfl⟩
          · skip
            have hT := brF hT hb
            exact ⟨_, hT, cv_bl, rfl⟩
        · rintro z m' ⟨s15, hT, hcv, rfl⟩
          subst hk14
          refine ⟨_, hcv, ?_⟩
          exact ⟨congrArg td hT, rfl⟩
      · skip
        refine wa_nil ?_
        refine o_all rfl Vw.p hT fun d18 hT => ?_
        exact hT
theorem ok_is_signs_d1 (T : Tx K mg base) : DefK P w K mg base "is_signs" 1 T_is_signs [td .non] := by
  obtain ⟨f, fd, F, hm⟩ := T.f_is_signs
  exact defK_mkD F (g_is_signs T F) hm 1 0 _ (fun B => .cons (rpt .non) (.nil)) (by simp) rfl (fun T kV doc pm an cdv ct us its l1 l2 => match us, its, l1, l2 with | [a0], [b0], _, _ => ⟨_, rfl, rfl⟩)
theorem ok_is_signs (T : Tx K mg base) : DefK P w K mg base "is_signs" 1 T_is_signs [] := by
  obtain ⟨f, fd, F, hm⟩ := T.f_is_signs
  exact defK_mkD F (g_is_signs T F) hm 2 1 _ (fun B => .nil) (by simp) rfl (fun T kV doc pm an cdv ct us its l1 l2 => match us, its, l1, l2 with | [a0, a1], [b0], _, _ => ⟨_, rfl, rfl⟩)
theorem g_count_in (T : Tx K mg base) {f : Addr} {fd : FuncData} (F : FunD K "count_in" "count_in" (defArgs s_count_in) (defBody s_count_in) (defScope s_count_in) [] [] f fd) : FnG P w K mg base 1 f fd ["word"] T_count_in := by
  have sc := sc_count_in
  refine fn_okD F sc_count_in (fun xs m post xp h => ?_) fun cdv A outer s H E B0 H0 xs m post xp hgd hr hT hx => ?_
  · obtain ⟨_, _, h, _⟩ := h; subst h; rfl
  obtain ⟨tword_, word_, rfl, hword_, hT⟩ := hT
  have hT := Sm.opt hT
  refine wss_cons ?_
  refine ws_if ?_
  obtain ⟨kk1, hk2, hT⟩ := jn_s hT
  refine WpT.imp (P := fun z m' => ∃ s3 : Bool, Ok (kk1 s3) (fun d => post (td d) m) (fun _ => False) ∧ s3 = z ∧ m = m') ?_ ?_
  · skip
    refine wt_bool ?_
    refine ww_or ?_
    refine wt_not ?_
    obtain ⟨kk4, hk5, hT⟩ := jn_s hT
    refine WpT.imp (P := fun z m' => ∃ s6 : Bool, Ok (kk4 s6) (fun d => post (td d) m) (fun _ => False) ∧ s6 = z ∧ m = m') ?_ ?_
    · skip
      refine wt_chain ?_
      refine e_int ?_
      refine we_callB (id := "len") T.len ?_ bt_len
      refine wa_cons ?_
      refine we_name 0 ?_
      refine wa_nil ?_
      refine o_len hword_ hT fun d7 hT => ?_
      refine o_le Vw.p Vw.p hT fun b8 hT => (BoolP.of ?_)
      refine ⟨fun hb => ?_, fun hb => ?_⟩
      · skip
        have hT := brT hT hb
        refine e_globI T.MOST_DIGITS ?_
        refine o_le Vw.p Vw.p hT fun b9 hT => (BoolP.of ?_)
        exact ⟨_, hT, rfl, rfl⟩
      · skip
        have hT := brF hT hb
        exact ⟨_, hT, rfl, rfl⟩
    · rintro z m' ⟨s6, hT, rfl, rfl⟩
      subst hk5
      refine ⟨fun hb => ?_, fun hb => ?_⟩
      · skip
        have hT := brT hT hb
        exact ⟨_, hT, rfl, rfl⟩
      · skip
        have hT := brF hT hb
        refine ww_or1 ?_
        refine wt_not ?_
        refine t_val ?_
        refine we_callB (id := "all") T.all ?_ bt_all
        refine wa_cons ?_
        refine we_cv ?_
        refine we_lc1 1 (own := [("sign", 1)]) ?_ rfl sc.nd (show BlkOk ["word", "sign"] (defScope s_count_in) _ [("sign", 1)] from ⟨rfl, by decide +kernel, by decide +kernel, by decide +kernel, by decide +kernel⟩)
        refine wi_D ?_
        refine we_name 0 ?_
        refine ⟨_, hword_, sm_s hT fun xs10 hT hl => ?_⟩
        refine lcp_mapO hT hl (fun L => hword_.l) (fun s0 H0 C cl fp L0 x11 y hxy => ?_) (fun ys12 hT => ?_)
        · skip
          have hT := Sm.opt (Sm.of (Q := fun z => z = y) hxy rfl)
          refine we_cv ?_
          refine we_cmp ?_
          refine we_name 1 ?_
          refine e_globS T.DIGITS ?_
          refine o_in Vw.p Vw.p hT fun b13 hT => ⟨_, cv_bl, ?_⟩
          exact ⟨congrArg td hT, rfl⟩
        · skip
          refine wa_nil ?_
          refine o_all rfl Vw.p hT fun d14 hT => ?_
          refine ⟨_, Vw.p, sm_s hT fun b15 hT => ?_⟩
          exact ⟨_, hT, rfl, rfl⟩
  · rintro z m' ⟨s3, hT, rfl, rfl⟩
    subst hk2
    refine ⟨fun hb => ?_, fun hb => ?_⟩
    · skip
      have hT := brT hT hb
      refine wss_one ?_
      refine ws_ret ?_
      refine e_none ?_
      exact hT
    · skip
      have hT := brF hT hb
      refine wss_nil ?_
      refine wss_one ?_
      refine ws_ret ?_
      obtain ⟨kk16, hk17, hT⟩ := jn_s hT
      refine we_cv (Wp.imp (P := fun z m' => ∃ s18 : D, Ok (kk16 s18) (fun d => post (td d) m) (fun _ => False) ∧ Cv z (td s18) ∧ m = m') ?_ ?_)
      · skip
        refine we_if ?_
        obtain ⟨kk19, hk20, hT⟩ := jn_s hT
        refine WpT.imp (P := fun z m' => ∃ s21 : Bool, Ok (kk19 s21) (fun d => post (td d) m) (fun _ => False) ∧ s21 = z ∧ m = m') ?_ ?_
        · skip
          refine wt_bool ?_
          refine ww_or ?_
          refine wt_cmp ?_
          refine we_name 0 ?_
          refine e_str ?_
          refine o_eq (RmH.mk (k := 0) hr.dp hr.un) T.sys hword_ Vw.p hT fun b22 hT => (BoolP.of ?_)
          refine ⟨fun hb => ?_, fun hb => ?_⟩
          · skip
            have hT := brT hT hb
            exact ⟨_, hT, rfl, rfl⟩
          · skip
            have hT := brF hT hb
            refine ww_or1 ?_
            refine wt_cmp ?_
            refine we_ix ?_
            refine we_name 0 ?_
            refine e_int ?_
            refine o_ix hword_ Vw.p hT fun d23 hT => ?_
            refine e_str ?_
            refine o_ne (RmH.mk (k := 0) hr.dp hr.un) T.sys Vw.p Vw.p hT fun b24 hT => (BoolP.of ?_)
            exact ⟨_, hT, rfl, rfl⟩
        · rintro z m' ⟨s21, hT, rfl, rfl⟩
          subst hk20
          refine ⟨fun hb => ?_, fun hb => ?_⟩
          · skip
            have hT := brT hT hb
            refine we_callT (T := "int") T.int ?_ bt_int
            refine wa_cons ?_
            refine we_name 0 ?_
            refine wa_nil ?_
            refine o_int1 hword_ hT fun d25 hT => ?_
            exact ⟨_, hT, Cv.rfl, rfl⟩
          · skip
            have hT := brF hT hb
            refine e_none ?_
            exact ⟨_, hT, Cv.rfl, rfl⟩
      · rintro z m' ⟨s18, hT, hcv, rfl⟩
        subst hk17
        refine ⟨_, hcv, ?_⟩
        exact hT
theorem ok_count_in (T : Tx K mg base) : DefK P w K mg base "count_in" 1 T_count_in [] := by
  obtain ⟨f, fd, F, hm⟩ := T.f_count_in
  exact defK_mk F (g_count_in T F) hm (fun kV doc pm an cdv ct us hl => match us, hl with | [a0], _ => rfl)
end
end K01

set_option Elab.async false
set_option linter.all false
set_option maxRecDepth 100000
set_option maxHeartbeats 4000000

namespace K01
open PySem PySem.Spec PyProof.Rows L2 Ty Dy
variable [CE]

section
variable {P : Program} {w : World} {K : PySem.W.Frag} {mg : Str → Option Value} {base : Heap}

theorem g_is_cell (T : Tx K mg base) {f : Addr} {fd : FuncData} (F : FunD K "is_cell" "is_cell" (defArgs s_is_cell) (defBody s_is_cell) (defScope s_is_cell) [] [] f fd) : FnG P w K mg base 1 f fd ["value"] T_is_cell := by
  have sc := sc_is_cell
  refine fn_okD F sc_is_cell (fun xs m post xp h => ?_) fun cdv A outer s H E B0 H0 xs m post xp hgd hr hT hx => ?_
  · obtain ⟨_, _, h, _⟩ := h; subst h; rfl
  obtain ⟨tvalue_, value_, rfl, hvalue_, hT⟩ := hT
  have hT := Sm.opt hT
  refine wss_cons ?_
  refine ws_if ?_
  obtain ⟨kk1, hk2, hT⟩ := jn_s hT
  refine WpT.imp (P := fun z m' => ∃ s3 : Bool, Ok (kk1 s3) (fun d => post (td d) m) (fun _ => False) ∧ s3 = z ∧ m = m') ?_ ?_
  · skip
    refine wt_bool ?_
    refine ww_or ?_
    refine wt_not ?_
    refine wt_val ?_
    refine we_callB (id := "isinstance") T.isinstance ?_ bt_isinstance
    refine wa_cons ?_
    refine we_name 0 ?_
    refine wa_cons ?_
    refine we_type (T := "str") T.str ?_ bt_str
    refine wa_nil ?_
    refine o_isi hvalue_ hT fun b4 hT => (BoolP.of ?_)
    refine ⟨fun hb => ?_, fun hb => ?_⟩
    · skip
      have hT := brT hT hb
      exact ⟨_, hT, rfl, rfl⟩
    · skip
      have hT := brF hT hb
      refine ww_or1 ?_
      refine wt_not ?_
      obtain ⟨kk5, hk6, hT⟩ := jn_s hT
      refine WpT.imp (P := fun z m' => ∃ s7 : Bool, Ok (kk5 s7) (fun d => post (td d) m) (fun _ => False) ∧ s7 = z ∧ m = m') ?_ ?_
      · skip
        refine wt_chain ?_
        refine e_int ?_
        refine we_callB (id := "len") T.len ?_ bt_len
        refine wa_cons ?_
        refine we_name 0 ?_
        refine wa_nil ?_
        refine o_len hvalue_ hT fun d8 hT => ?_
        refine o_le Vw.p Vw.p hT fun b9 hT => (BoolP.of ?_)
        refine ⟨fun hb => ?_, fun hb => ?_⟩
        · skip
          have hT := brT hT hb
          refine e_globI T.MOST_LETTERS ?_
          refine o_le Vw.p Vw.p hT fun b10 hT => (BoolP.of ?_)
          exact ⟨_, hT, rfl, rfl⟩
        · skip
          have hT := brF hT hb
          exact ⟨_, hT, rfl, rfl⟩
      · rintro z m' ⟨s7, hT, rfl, rfl⟩
        subst hk6
        exact ⟨_, hT, rfl, rfl⟩
  · rintro z m' ⟨s3, hT, rfl, rfl⟩
    subst hk2
    refine ⟨fun hb => ?_, fun hb => ?_⟩
    · skip
      have hT := brT hT hb
      refine wss_one ?_
      refine ws_ret ?_
      refine e_bool ?_
      exact hT
    · skip
      have hT := brF hT hb
      refine wss_nil ?_
      refine wss_one ?_
      refine ws_ret ?_
      refine we_callB (id := "all") T.all ?_ bt_all
      refine wa_cons ?_
      refine we_cv ?_
      refine we_lc1 1 (own := [("letter", 1)]) ?_ rfl sc.nd (show BlkOk ["value", "letter"] (defScope s_is_cell) _ [("letter", 1)] from ⟨rfl, by decide +kernel, by decide +kernel, by decide +kernel, by decide +kernel⟩)
      refine wi_D ?_
      refine we_name 0 ?_
      refine ⟨_, hvalue_, sm_s hT fun xs11 hT hl => ?_⟩
      refine lcp_mapO hT hl (fun L => hvalue_.l) (fun s0 H0 C cl fp L0 x12 y hxy => ?_) (fun ys13 hT => ?_)
      · skip
        have hT := Sm.opt (Sm.of (Q := fun z => z = y) hxy rfl)
        obtain ⟨kk14, hk15, hT⟩ := jn_s hT
        refine we_cv (Wp.imp (P := fun z m' => ∃ s16 : D, Ok (kk14 s16) (fun z => z = y) (fun _ => False) ∧ Cv z (td s16) ∧ (m ++ L0) = m') ?_ ?_)
        · skip
          refine we_chain ?_
          refine e_str ?_
          refine we_name 1 ?_
          refine o_le Vw.p Vw.p hT fun b17 hT => (BoolP.of ?_)
          refine ⟨fun hb => ?_, fun hb => ?_⟩
          · skip
            have hT := brT hT hb
            refine e_str ?_
            refine o_le Vw.p Vw.p hT fun b18 hT => ?_
            exact ⟨_, hT, cv_bl, rfl⟩
          · skip
            have hT := brF hT hb
            exact ⟨_, hT, cv_bl, rfl⟩
        · rintro z m' ⟨s16, hT, hcv, rfl⟩
          subst hk15
          refine ⟨_, hcv, ?_⟩
          exact ⟨congrArg td hT, rfl⟩
      · skip
        refine wa_nil ?_
        refine o_all rfl Vw.p hT fun d19 hT => ?_
        exact hT
theorem ok_is_cell (T : Tx K mg base) : DefK P w K mg base "is_cell" 1 T_is_cell [] := by
  obtain ⟨f, fd, F, hm⟩ := T.f_is_cell
  exact defK_mk F (g_is_cell T F) hm (fun kV doc pm an cdv ct us hl => match us, hl with | [a0], _ => rfl)
theorem ok_is_cell_k0 (T : Tx K mg base) : DefN P w K mg base "is_cell" 1 T_is_cell 0 ["value"] (fun us ws => us ++ ws) := by
  obtain ⟨f, fd, F, hm⟩ := T.f_is_cell
  exact ⟨f, fd, _, _, _, g_is_cell T F, hm, F.kp, bindsK_in F 0 fun kV doc pm an cdv ct us ws l1 l2 => match us, ws, l1, l2 with | [], [b0], _, _ => rfl⟩
theorem g_is_text (T : Tx K mg base) {f : Addr} {fd : FuncData} (F : FunD K "is_text" "is_text" (defArgs s_is_text) (defBody s_is_text) (defScope s_is_text) [] [] f fd) : FnG P w K mg base 2 f fd ["value"] T_is_text := by
  have sc := sc_is_text
  refine fn_okD F sc_is_text (fun xs m post xp h => ?_) fun cdv A outer s H E B0 H0 xs m post xp hgd hr hT hx => ?_
  · obtain ⟨_, _, h, _⟩ := h; subst h; rfl
  obtain ⟨tvalue_, value_, rfl, hvalue_, hT⟩ := hT
  have hT := Sm.opt hT
  refine wss_one ?_
  refine ws_ret ?_
  refine e_call (ok_is_signs T) hgd hr xt0 ?_
  refine wa_cons ?_
  refine we_name 0 ?_
  refine wa_cons ?_
  refine e_globI T.MOST_SIGNS ?_
  refine wa_nil ?_
  refine ⟨_, _, _, _, rfl, hvalue_, Vw.p, sm_s hT fun d1 hT => ?_⟩
  exact hT
theorem ok_is_text (T : Tx K mg base) : DefK P w K mg base "is_text" 2 T_is_text [] := by
  obtain ⟨f, fd, F, hm⟩ := T.f_is_text
  exact defK_mk F (g_is_text T F) hm (fun kV doc pm an cdv ct us hl => match us, hl with | [a0], _ => rfl)
theorem ok_is_text_k0 (T : Tx K mg base) : DefN P w K mg base "is_text" 2 T_is_text 0 ["value"] (fun us ws => us ++ ws) := by
  obtain ⟨f, fd, F, hm⟩ := T.f_is_text
  exact ⟨f, fd, _, _, _, g_is_text T F, hm, F.kp, bindsK_in F 0 fun kV doc pm an cdv ct us ws l1 l2 => match us, ws, l1, l2 with | [], [b0], _, _ => rfl⟩
theorem g_is_line (T : Tx K mg base) {f : Addr} {fd : FuncData} (F : FunD K "is_line" "is_line" (defArgs s_is_line) (defBody s_is_line) (defScope s_is_line) [] [] f fd) : FnG P w K mg base 4 f fd ["value"] T_is_line := by
  have sc := sc_is_line
  refine fn_okD F sc_is_line (fun xs m post xp h => ?_) fun cdv A outer s H E B0 H0 xs m post xp hgd hr hT hx => ?_
  · obtain ⟨_, _, h, _⟩ := h; subst h; rfl
  obtain ⟨tvalue_, value_, rfl, hvalue_, hT⟩ := hT
  have hT := Sm.opt hT
  refine wss_cons ?_
  refine ws_if ?_
  obtain ⟨kk1, hk2, hT⟩ := jn_s hT
  refine WpT.imp (P := fun z m' => ∃ s3 : Bool, Ok (kk1 s3) (fun d => post (td d) m) (fun _ => False) ∧ s3 = z ∧ m = m') ?_ ?_
  · skip
    refine wt_bool ?_
    refine ww_or ?_
    refine wt_not ?_
    refine wt_val ?_
    refine we_callB (id := "isinstance") T.isinstance ?_ bt_isinstance
    refine wa_cons ?_
    refine we_name 0 ?_
    refine wa_cons ?_
    refine we_type (T := "tuple") T.tuple ?_ bt_tuple
    refine wa_nil ?_
    refine o_isi hvalue_ hT fun b4 hT => (BoolP.of ?_)
    refine ⟨fun hb => ?_, fun hb => ?_⟩
    · skip
      have hT := brT hT hb
      exact ⟨_, hT, rfl, rfl⟩
    · skip
      have hT := brF hT hb
      refine ww_or1 ?_
      refine wt_cmp ?_
      refine we_callB (id := "len") T.len ?_ bt_len
      refine wa_cons ?_
      refine we_name 0 ?_
      refine wa_nil ?_
      refine o_len hvalue_ hT fun d5 hT => ?_
      refine e_int ?_
      refine o_ne (RmH.mk (k := 3) hr.dp hr.un) T.sys Vw.p Vw.p hT fun b6 hT => (BoolP.of ?_)
      exact ⟨_, hT, rfl, rfl⟩
  · rintro z m' ⟨s3, hT, rfl, rfl⟩
    subst hk2
    refine ⟨fun hb => ?_, fun hb => ?_⟩
    · skip
      have hT := brT hT hb
      refine wss_one ?_
      refine ws_ret ?_
      refine e_bool ?_
      exact hT
    · skip
      have hT := brF hT hb
      refine wss_nil ?_
      refine wss_cons ?_
      refine ws_asg ?_
      refine we_name 0 ?_
      refine un_cv hvalue_ hT D.un4_flat fun hcv => g_cv hcv ?_
      refine g_un4 hT (fun d7 hT => ?_) rfl
      refine wgs_cons ?_
      refine wg_name 1 ?_ sc.nd
      refine wgs_cons ?_
      refine wg_name 2 ?_ sc.nd
      refine wgs_cons ?_
      refine wg_name 3 ?_ sc.nd
      refine wgs_cons ?_
      refine wg_name 4 ?_ sc.nd
      refine wgs_nil ?_
      refine wss_one ?_
      refine ws_ret ?_
      obtain ⟨kk8, hk9, hT⟩ := jn_s hT
      refine we_cv (Wp.imp (P := fun z m' => ∃ s10 : D, Ok (kk8 s10) (fun d => post (td d) m) (fun _ => False) ∧ Cv z (td s10) ∧ m = m') ?_ ?_)
      · skip
        refine we_and ?_
        refine we_cv ?_
        refine e_call (ok_is_house T) hgd hr xt0 ?_
        refine wa_cons ?_
        refine we_name 1 ?_
        refine wa_nil ?_
        refine ⟨_, _, rfl, Vw.p, sm_s hT fun d11 hT => ?_⟩
        refine b_val (PA := fun _ _ => True) Vw.p hT fun b12 hT => ?_
        refine ⟨fun hb => ?_, fun hb => ?_⟩
        · skip
          have hT := brT hT hb
          refine we_and ?_
          refine we_cv ?_
          refine e_call (ok_is_count T) hgd hr xt0 ?_
          refine wa_cons ?_
          refine we_name 2 ?_
          refine wa_nil ?_
          refine ⟨_, _, rfl, Vw.p, sm_s hT fun d13 hT => ?_⟩
          refine b_val (PA := fun _ _ => True) Vw.p hT fun b14 hT => ?_
          refine ⟨fun hb => ?_, fun hb => ?_⟩
          · skip
            have hT := brT hT hb
            refine we_and ?_
            refine we_cv ?_
            refine e_call (ok_is_cell T) hgd hr xt0 ?_
            refine wa_cons ?_
            refine we_name 3 ?_
            refine wa_nil ?_
            refine ⟨_, _, rfl, Vw.p, sm_s hT fun d15 hT => ?_⟩
            refine b_val (PA := fun _ _ => True) Vw.p hT fun b16 hT => ?_
            refine ⟨fun hb => ?_, fun hb => ?_⟩
            · skip
              have hT := brT hT hb
              refine we_one ?_
              refine e_call (ok_is_text T) hgd hr xt0 ?_
              refine wa_cons ?_
              refine we_name 4 ?_
              refine wa_nil ?_
              refine ⟨_, _, rfl, Vw.p, sm_s hT fun d17 hT => ?_⟩
              exact ⟨_, hT, Cv.rfl, rfl⟩
            · skip
              have hT := brF hT hb
              exact ⟨_, hT, cv_bl, rfl⟩
          · skip
            have hT := brF hT hb
            exact ⟨_, hT, cv_bl, rfl⟩
        · skip
          have hT := brF hT hb
          exact ⟨_, hT, cv_bl, rfl⟩
      · rintro z m' ⟨s10, hT, hcv, rfl⟩
        subst hk9
        refine ⟨_, hcv, ?_⟩
        exact hT
theorem ok_is_line (T : Tx K mg base) : DefK P w K mg base "is_line" 4 T_is_line [] := by
  obtain ⟨f, fd, F, hm⟩ := T.f_is_line
  exact defK_mk F (g_is_line T F) hm (fun kV doc pm an cdv ct us hl => match us, hl with | [a0], _ => rfl)
theorem ok_is_line_k0 (T : Tx K mg base) : DefN P w K mg base "is_line" 4 T_is_line 0 ["value"] (fun us ws => us ++ ws) := by
  obtain ⟨f, fd, F, hm⟩ := T.f_is_line
  exact ⟨f, fd, _, _, _, g_is_line T F, hm, F.kp, bindsK_in F 0 fun kV doc pm an cdv ct us ws l1 l2 => match us, ws, l1, l2 with | [], [b0], _, _ => rfl⟩
theorem g_check_line (T : Tx K mg base) {f : Addr} {fd : FuncData} (F : FunD K "check_line" "check_line" (defArgs s_check_line) (defBody s_check_line) (defScope s_check_line) [] [] f fd) : FnG P w K mg base 5 f fd ["line"] T_check_line := by
  have sc := sc_check_line
  refine fn_okD F sc_check_line (fun xs m post xp h => ?_) fun cdv A outer s H E B0 H0 xs m post xp hgd hr hT hx => ?_
  · obtain ⟨_, _, h, _⟩ := h; subst h; rfl
  obtain ⟨tline_, line_, rfl, hline_, hT⟩ := hT
  unfold F_check_line at hT
  refine wss_one ?_
  refine ws_if ?_
  refine wt_not ?_
  refine t_val ?_
  refine e_call (ok_is_line T) hgd hr xt0 ?_
  refine wa_cons ?_
  refine we_name 0 ?_
  refine wa_nil ?_
  refine ⟨_, _, rfl, hline_, sm_s hT fun d1 hT => ?_⟩
  refine ⟨_, Vw.p, sm_s hT fun b2 hT => ?_⟩
  refine ⟨fun hb => ?_, fun hb => ?_⟩
  · skip
    have hT := brT hT hb
    refine wss_one ?_
    refine ws_raise (ok_InvalidLine T) hgd hr hx rfl ?_
    refine wa_cons ?_
    refine we_name 0 ?_
    refine wa_nil ?_
    refine ⟨by simp, fun ax => FrP.last ⟨ax, _, rfl, rfl, rfl, fun dx => ⟨rfl, dx, _, rfl, ?_⟩⟩⟩
    exact hT
  · skip
    have hT := brF hT hb
    refine wss_nil ?_
    exact hT
theorem ok_check_line (T : Tx K mg base) : DefK P w K mg base "check_line" 5 T_check_line [] := by
  obtain ⟨f, fd, F, hm⟩ := T.f_check_line
  exact defK_mk F (g_check_line T F) hm (fun kV doc pm an cdv ct us hl => match us, hl with | [a0], _ => rfl)
theorem g_key (T : Tx K mg base) {f : Addr} {fd : FuncData} (F : FunD K "key" "key" (defArgs s_key) (defBody s_key) (defScope s_key) [] [] f fd) : FnG P w K mg base 6 f fd ["line"] T_key := by
  have sc := sc_key
  refine fn_okD F sc_key (fun xs m post xp h => ?_) fun cdv A outer s H E B0 H0 xs m post xp hgd hr hT hx => ?_
  · obtain ⟨_, _, h, _⟩ := h; subst h; rfl
  obtain ⟨tline_, line_, rfl, hline_, hT⟩ := hT
  unfold F_key at hT
  refine wss_cons ?_
  refine ws_expr ?_
  refine e_call (ok_check_line T) hgd hr hx ?_
  refine wa_cons ?_
  refine we_name 0 ?_
  refine wa_nil ?_
  refine ⟨_, _, rfl, hline_, ok_s hT rfl (fun d1 hT => ?_) fun y hy => hy⟩
  refine wss_one ?_
  refine ws_ret ?_
  refine we_slice ?_
  refine we_name 0 ?_
  refine wo_none ?_
  refine e_part ?_
  refine e_int ?_
  refine ⟨_, Vw.p, sm_s hT fun i2 hT => ?_⟩
  refine o_sl hline_ hT fun d3 hT => ?_
  exact hT
theorem ok_key (T : Tx K mg base) : DefK P w K mg base "key" 6 T_key [] := by
  obtain ⟨f, fd, F, hm⟩ := T.f_key
  exact defK_mk F (g_key T F) hm (fun kV doc pm an cdv ct us hl => match us, hl with | [a0], _ => rfl)
theorem ok_key_k0 (T : Tx K mg base) : DefN P w K mg base "key" 6 T_key 0 ["line"] (fun us ws => us ++ ws) := by
  obtain ⟨f, fd, F, hm⟩ := T.f_key
  exact ⟨f, fd, _, _, _, g_key T F, hm, F.kp, bindsK_in F 0 fun kV doc pm an cdv ct us ws l1 l2 => match us, ws, l1, l2 with | [], [b0], _, _ => rfl⟩
theorem g_line_text (T : Tx K mg base) {f : Addr} {fd : FuncData} (F : FunD K "line_text" "line_text" (defArgs s_line_text) (defBody s_line_text) (defScope s_line_text) [] [] f fd) : FnG P w K mg base 6 f fd ["line"] T_line_text := by
  have sc := sc_line_text
  refine fn_okD F sc_line_text (fun xs m post xp h => ?_) fun cdv A outer s H E B0 H0 xs m post xp hgd hr hT hx => ?_
  · obtain ⟨_, _, h, _⟩ := h; subst h; rfl
  obtain ⟨tline_, line_, rfl, hline_, hT⟩ := hT
  unfold F_line_text at hT
  refine wss_cons ?_
  refine ws_expr ?_
  refine e_call (ok_check_line T) hgd hr hx ?_
  refine wa_cons ?_
  refine we_name 0 ?_
  refine wa_nil ?_
  refine ⟨_, _, rfl, hline_, ok_s hT rfl (fun d1 hT => ?_) fun y hy => hy⟩
  refine wss_cons ?_
  refine ws_asg ?_
  refine we_name 0 ?_
  refine un_cv hline_ hT D.un4_flat fun hcv => g_cv hcv ?_
  refine g_un4 hT (fun d2 hT => ?_) rfl
  refine wgs_cons ?_
  refine wg_name 1 ?_ sc.nd
  refine wgs_cons ?_
  refine wg_name 2 ?_ sc.nd
  refine wgs_cons ?_
  refine wg_name 3 ?_ sc.nd
  refine wgs_cons ?_
  refine wg_name 4 ?_ sc.nd
  refine wgs_nil ?_
  refine wss_one ?_
  refine ws_ret ?_
  refine e_fstr ?_
  refine j_cons ?_
  refine e_fmt ?_
  refine we_name 1 ?_
  refine ⟨_, Vw.p, sm_s hT fun s4 hT => ?_⟩
  refine ⟨_, rfl, sm_s hT fun s3 hT => ?_⟩
  refine j_cons ?_
  refine we_str ?_
  refine ⟨_, rfl, sm_s hT fun s5 hT => ?_⟩
  refine j_cons ?_
  refine e_fmt ?_
  refine we_name 2 ?_
  refine ⟨_, Vw.p, sm_s hT fun s7 hT => ?_⟩
  refine ⟨_, rfl, sm_s hT fun s6 hT => ?_⟩
  refine j_cons ?_
  refine we_str ?_
  refine ⟨_, rfl, sm_s hT fun s8 hT => ?_⟩
  refine j_cons ?_
  refine e_fmt ?_
  refine we_name 3 ?_
  refine ⟨_, Vw.p, sm_s hT fun s10 hT => ?_⟩
  refine ⟨_, rfl, sm_s hT fun s9 hT => ?_⟩
  refine j_cons ?_
  refine we_str ?_
  refine ⟨_, rfl, sm_s hT fun s11 hT => ?_⟩
  refine j_cons ?_
  refine e_fmt ?_
  refine we_name 4 ?_
  refine ⟨_, Vw.p, sm_s hT fun s13 hT => ?_⟩
  refine ⟨_, rfl, sm_s hT fun s12 hT => ?_⟩
  refine wj_nil ?_
  exact hT
theorem ok_line_text (T : Tx K mg base) : DefK P w K mg base "line_text" 6 T_line_text [] := by
  obtain ⟨f, fd, F, hm⟩ := T.f_line_text
  exact defK_mk F (g_line_text T F) hm (fun kV doc pm an cdv ct us hl => match us, hl with | [a0], _ => rfl)
theorem ok_line_text_k0 (T : Tx K mg base) : DefN P w K mg base "line_text" 6 T_line_text 0 ["line"] (fun us ws => us ++ ws) := by
  obtain ⟨f, fd, F, hm⟩ := T.f_line_text
  exact ⟨f, fd, _, _, _, g_line_text T F, hm, F.kp, bindsK_in F 0 fun kV doc pm an cdv ct us ws l1 l2 => match us, ws, l1, l2 with | [], [b0], _, _ => rfl⟩
end
end K01

set_option Elab.async false
set_option linter.all false
set_option maxRecDepth 100000
set_option maxHeartbeats 4000000

namespace K01
open PySem PySem.Spec PyProof.Rows L2 Ty Dy
variable [CE]

section
variable {P : Program} {w : World} {K : PySem.W.Frag} {mg : Str → Option Value} {base : Heap}

theorem g_line_in (T : Tx K mg base) {f : Addr} {fd : FuncData} (F : FunD K "line_in" "line_in" (defArgs s_line_in) (defBody s_line_in) (defScope s_line_in) [] [] f fd) : FnG P w K mg base 5 f fd ["text"] T_line_in := by
  have sc := sc_line_in
  refine fn_okD F sc_line_in (fun xs m post xp h => ?_) fun cdv A outer s H E B0 H0 xs m post xp hgd hr hT hx => ?_
  · obtain ⟨_, _, h, _⟩ := h; subst h; rfl
  obtain ⟨ttext_, text_, rfl, htext_, hT⟩ := hT
  have hT := Sm.opt hT
  refine wss_cons ?_
  refine ws_set 1 ?_ sc.nd
  refine we_bm PySem.F.plainAttrs_str PySem.F.slot_str_split ?_
  refine we_name 0 ?_
  refine recv_s htext_ hT fun hT => ?_
  refine wa_cons ?_
  refine e_str ?_
  refine wa_cons ?_
  refine e_int ?_
  refine wa_nil ?_
  refine o_split3 htext_ Vw.p Vw.p hT fun d1 hT => ?_
  refine wss_cons ?_
  refine ws_if ?_
  refine wt_cmp ?_
  refine we_callB (id := "len") T.len ?_ bt_len
  refine wa_cons ?_
  refine we_name 1 ?_
  refine wa_nil ?_
  refine o_len Vw.p hT fun d2 hT => ?_
  refine e_int ?_
  refine o_lt Vw.p Vw.p hT fun b3 hT => (BoolP.of ?_)
  refine ⟨fun hb => ?_, fun hb => ?_⟩
  · skip
    have hT := brT hT hb
    refine wss_one ?_
    refine ws_ret ?_
    refine e_none ?_
    exact hT
  · skip
    have hT := brF hT hb
    refine wss_nil ?_
    refine wss_cons ?_
    refine ws_set 2 ?_ sc.nd
    refine e_tup ?_
    refine wa_cons ?_
    refine e_call (ok_count_in T) hgd hr xt0 ?_
    refine wa_cons ?_
    refine we_ix ?_
    refine we_name 1 ?_
    refine e_int ?_
    refine o_ix Vw.p Vw.p hT fun d4 hT => ?_
    refine wa_nil ?_
    refine ⟨_, _, rfl, Vw.p, sm_s hT fun d5 hT => ?_⟩
    refine wa_cons ?_
    refine e_call (ok_count_in T) hgd hr xt0 ?_
    refine wa_cons ?_
    refine we_ix ?_
    refine we_name 1 ?_
    refine e_int ?_
    refine o_ix Vw.p Vw.p hT fun d6 hT => ?_
    refine wa_nil ?_
    refine ⟨_, _, rfl, Vw.p, sm_s hT fun d7 hT => ?_⟩
    refine wa_cons ?_
    refine we_ix ?_
    refine we_name 1 ?_
    refine e_int ?_
    refine o_ix Vw.p Vw.p hT fun d8 hT => ?_
    refine wa_cons ?_
    refine we_ix ?_
    refine we_name 1 ?_
    refine e_int ?_
    refine o_ix Vw.p Vw.p hT fun d9 hT => ?_
    refine wa_nil ?_
    refine ⟨[_, _, _, _], rfl, by simp, ?_⟩
    refine wss_one ?_
    refine ws_ret ?_
    obtain ⟨kk10, hk11, hT⟩ := jn_s hT
    refine we_cv (Wp.imp (P := fun z m' => ∃ s12 : D, Ok (kk10 s12) (fun d => post (td d) m) (fun _ => False) ∧ Cv z (td s12) ∧ m = m') ?_ ?_)
    · skip
      refine we_if ?_
      refine t_val ?_
      refine e_call (ok_is_line T) hgd hr xt0 ?_
      refine wa_cons ?_
      refine we_name 2 ?_
      refine wa_nil ?_
      refine ⟨_, _, rfl, Vw.p, sm_s hT fun d13 hT => ?_⟩
      refine ⟨_, Vw.p, sm_s hT fun b14 hT => ?_⟩
      refine ⟨fun hb => ?_, fun hb => ?_⟩
      · skip
        have hT := brT hT hb
        refine we_name 2 ?_
        exact ⟨_, hT, Cv.rfl, rfl⟩
      · skip
        have hT := brF hT hb
        refine e_none ?_
        exact ⟨_, hT, Cv.rfl, rfl⟩
    · rintro z m' ⟨s12, hT, hcv, rfl⟩
      subst hk11
      refine ⟨_, hcv, ?_⟩
      exact hT
theorem ok_line_in (T : Tx K mg base) : DefK P w K mg base "line_in" 5 T_line_in [] := by
  obtain ⟨f, fd, F, hm⟩ := T.f_line_in
  exact defK_mk F (g_line_in T F) hm (fun kV doc pm an cdv ct us hl => match us, hl with | [a0], _ => rfl)
theorem g_read_line (T : Tx K mg base) {f : Addr} {fd : FuncData} (F : FunD K "read_line" "read_line" (defArgs s_read_line) (defBody s_read_line) (defScope s_read_line) [] [] f fd) : FnG P w K mg base 6 f fd ["text"] T_read_line := by
  have sc := sc_read_line
  refine fn_okD F sc_read_line (fun xs m post xp h => ?_) fun cdv A outer s H E B0 H0 xs m post xp hgd hr hT hx => ?_
  · obtain ⟨_, _, h, _⟩ := h; subst h; rfl
  obtain ⟨ttext_, text_, rfl, htext_, hT⟩ := hT
  unfold F_read_line at hT
  refine wss_cons ?_
  refine ws_set 1 ?_ sc.nd
  obtain ⟨kk1, hk2, hT⟩ := jn_s hT
  refine we_cv (Wp.imp (P := fun z m' => ∃ s3 : D, Ok (kk1 s3) (fun d => post (td d) m) (fun y => xp (y.xv [ttext_]) m) ∧ Cv z (td s3) ∧ m = m') ?_ ?_)
  · skip
    refine we_if ?_
    refine wt_val ?_
    refine we_callB (id := "isinstance") T.isinstance ?_ bt_isinstance
    refine wa_cons ?_
    refine we_name 0 ?_
    refine wa_cons ?_
    refine we_type (T := "str") T.str ?_ bt_str
    refine wa_nil ?_
    refine o_isi htext_ hT fun b4 hT => (BoolP.of ?_)
    refine ⟨fun hb => ?_, fun hb => ?_⟩
    · skip
      have hT := brT hT hb
      refine e_call (ok_line_in T) hgd hr xt0 ?_
      refine wa_cons ?_
      refine we_name 0 ?_
      refine wa_nil ?_
      refine ⟨_, _, rfl, htext_, sm_s hT fun d5 hT => ?_⟩
      exact ⟨_, hT, Cv.rfl, rfl⟩
    · skip
      have hT := brF hT hb
      refine e_none ?_
      exact ⟨_, hT, Cv.rfl, rfl⟩
  · rintro z m' ⟨s3, hT, hcv, rfl⟩
    subst hk2
    refine ⟨_, hcv, ?_⟩
    refine wss_cons ?_
    refine ws_if ?_
    refine wt_cmp ?_
    refine we_name 1 ?_
    refine e_none ?_
    refine o_is Vw.p (BoolP.of ?_)
    refine ⟨fun hb => ?_, fun hb => ?_⟩
    · skip
      have hT := brT hT hb
      refine wss_one ?_
      refine ws_raise (ok_InvalidText T) hgd hr hx rfl ?_
      refine wa_cons ?_
      refine we_name 0 ?_
      refine wa_nil ?_
      refine ⟨by simp, fun ax => FrP.last ⟨ax, _, rfl, rfl, rfl, fun dx => ⟨rfl, dx, _, rfl, ?_⟩⟩⟩
      exact hT
    · skip
      have hT := brF hT hb
      refine wss_nil ?_
      refine wss_one ?_
      refine ws_ret ?_
      refine we_name 1 ?_
      exact hT
theorem ok_read_line (T : Tx K mg base) : DefK P w K mg base "read_line" 6 T_read_line [] := by
  obtain ⟨f, fd, F, hm⟩ := T.f_read_line
  exact defK_mk F (g_read_line T F) hm (fun kV doc pm an cdv ct us hl => match us, hl with | [a0], _ => rfl)
theorem ok_read_line_k0 (T : Tx K mg base) : DefN P w K mg base "read_line" 6 T_read_line 0 ["text"] (fun us ws => us ++ ws) := by
  obtain ⟨f, fd, F, hm⟩ := T.f_read_line
  exact ⟨f, fd, _, _, _, g_read_line T F, hm, F.kp, bindsK_in F 0 fun kV doc pm an cdv ct us ws l1 l2 => match us, ws, l1, l2 with | [], [b0], _, _ => rfl⟩
theorem g_l_box (T : Tx K mg base) {f : Addr} {fd : FuncData} (F : FunD K "_law_box" "_law_box" (defArgs s_l_box) (defBody s_l_box) (defScope s_l_box) [] [] f fd) : FnG P w K mg base 1 f fd ["great"] T_l_box := by
  have sc := sc_l_box
  refine fn_okD F sc_l_box (fun xs m post xp h => ?_) fun cdv A outer s H E B0 H0 xs m post xp hgd hr hT hx => ?_
  · obtain ⟨_, _, h, _⟩ := h; subst h; rfl
  obtain ⟨tgreat_, great_, rfl, hgreat_, hT⟩ := hT
  have hT := Sm.opt hT
  refine wss_leE ?_
  refine wss_one ?_
  refine ws_ret ?_
  refine e_listO ?_
  refine wa_cons ?_
  refine we_callB (id := "abs") T.abs ?_ bt_abs
  refine wa_cons ?_
  refine we_name 0 ?_
  refine wa_nil ?_
  refine o_abs hgreat_ hT fun d1 hT => ?_
  refine wa_cons ?_
  refine we_cv ?_
  refine we_cmp ?_
  refine we_callB (id := "abs") T.abs ?_ bt_abs
  refine wa_cons ?_
  refine we_name 0 ?_
  refine wa_nil ?_
  refine o_abs hgreat_ hT fun d2 hT => ?_
  refine we_bin ?_
  refine e_int ?_
  refine e_int ?_
  refine o_pow Vw.p Vw.p hT fun d3 hT => ?_
  refine o_ge Vw.p Vw.p hT fun b4 hT => ⟨_, cv_bl, ?_⟩
  refine wa_cons ?_
  refine we_bin ?_
  refine we_callT (T := "int") T.int ?_ bt_int
  refine wa_cons ?_
  refine we_callB (id := "abs") T.abs ?_ bt_abs
  refine wa_cons ?_
  refine we_name 0 ?_
  refine wa_nil ?_
  refine o_abs hgreat_ hT fun d5 hT => ?_
  refine wa_nil ?_
  refine o_int1 Vw.p hT fun d6 hT => ?_
  refine e_int ?_
  refine o_mod Vw.p Vw.p hT fun d7 hT => ?_
  refine wa_cons ?_
  refine e_int ?_
  refine wa_nil ?_
  refine ⟨[_, _, _, _], rfl, by simp, fun p8 => ?_⟩
  exact ⟨_, Le.rfl, hT _ _ rfl⟩
theorem ok_l_box (T : Tx K mg base) : DefK P w K mg base "_law_box" 1 T_l_box [] := by
  obtain ⟨f, fd, F, hm⟩ := T.f_l_box
  exact defK_mk F (g_l_box T F) hm (fun kV doc pm an cdv ct us hl => match us, hl with | [a0], _ => rfl)
theorem g_l_take (T : Tx K mg base) {f : Addr} {fd : FuncData} (F : FunD K "_law_take" "_law_take" (defArgs s_l_take) (defBody s_l_take) (defScope s_l_take) [] [] f fd) : FnG P w K mg base 1 f fd ["box", "many"] T_l_take := by
  have sc := sc_l_take
  refine fn_okD F sc_l_take (fun xs m post xp h => ?_) fun cdv A outer s H E B0 H0 xs m post xp hgd hr hT hx => ?_
  · obtain ⟨_, _, _, _, _, h, _⟩ := h; subst h; rfl
  obtain ⟨pbox_, box_, tmany_, many_, m1, rfl, rfl, hmany_, hT⟩ := hT
  have hT := Sm.opt hT
  refine wss_cons ?_
  refine ws_if ?_
  obtain ⟨kk1, hk2, hT⟩ := jn_s hT
  refine WpT.imp (P := fun z m' => ∃ s3 : Bool, Ok (kk1 s3) (fun r => post (td r.1) ((pbox_, mC (.lst r.2)) :: m1)) (fun _ => False) ∧ s3 = z ∧ ((pbox_, mC (.lst box_)) :: m1) = m') ?_ ?_
  · skip
    refine wt_bool ?_
    refine ww_and ?_
    refine t_val ?_
    refine we_ix ?_
    refine we_name 0 ?_
    refine e_int ?_
    refine o_ix (Vw.cell 0 rfl rfl) Vw.p hT fun d4 hT => ?_
    refine ⟨_, Vw.p, sm_s hT fun b5 hT => ?_⟩
    refine ⟨fun hb => ?_, fun hb => ?_⟩
    · skip
      have hT := brT hT hb
      refine ww_and1 ?_
      refine wt_cmp ?_
      refine we_ix ?_
      refine we_name 0 ?_
      refine e_int ?_
      refine o_ix (Vw.cell 0 rfl rfl) Vw.p hT fun d6 hT => ?_
      refine e_int ?_
      refine o_gt Vw.p Vw.p hT fun b7 hT => (BoolP.of ?_)
      exact ⟨_, hT, rfl, rfl⟩
    · skip
      have hT := brF hT hb
      exact ⟨_, hT, rfl, rfl⟩
  · rintro z m' ⟨s3, hT, rfl, rfl⟩
    subst hk2
    refine ⟨fun hb => ?_, fun hb => ?_⟩
    · skip
      have hT := brT hT hb
      refine wss_cons ?_
      refine ws_set 2 ?_ sc.nd
      refine we_bin ?_
      refine we_callT (T := "int") T.int ?_ bt_int
      refine wa_cons ?_
      refine we_ix ?_
      refine we_name 0 ?_
      refine e_int ?_
      refine o_ix (Vw.cell 0 rfl rfl) Vw.p hT fun d8 hT => ?_
      refine wa_nil ?_
      refine o_int1 Vw.p hT fun d9 hT => ?_
      refine we_name 1 ?_
      refine o_mod Vw.p hmany_.c hT fun d10 hT => ?_
      refine wss_cons ?_
      refine ws_asg ?_
      refine we_bin ?_
      refine we_callT (T := "int") T.int ?_ bt_int
      refine wa_cons ?_
      refine we_ix ?_
      refine we_name 0 ?_
      refine e_int ?_
      refine o_ix (Vw.cell 0 rfl rfl) Vw.p hT fun d11 hT => ?_
      refine wa_nil ?_
      refine o_int1 Vw.p hT fun d12 hT => ?_
      refine we_name 1 ?_
      refine o_fdiv Vw.p hmany_.c hT fun d13 hT => ?_
      refine g_put ?_
      refine we_name 0 ?_
      refine e_int ?_
      refine ⟨_, 0, _, _, rfl, Vw.p, rfl, sm_s hT fun x14 hT => ?_⟩
      refine wss_one ?_
      refine ws_ret ?_
      refine we_name 2 ?_
      exact hT
    · skip
      have hT := brF hT hb
      refine wss_nil ?_
      refine wss_cons ?_
      refine ws_asg ?_
      refine we_bin ?_
      refine we_ix ?_
      refine we_name 0 ?_
      refine e_int ?_
      refine o_ix (Vw.cell 0 rfl rfl) Vw.p hT fun d15 hT => ?_
      refine e_int ?_
      refine o_add Vw.p Vw.p hT fun d16 hT => ?_
      refine g_put ?_
      refine we_name 0 ?_
      refine e_int ?_
      refine ⟨_, 0, _, _, rfl, Vw.p, rfl, sm_s hT fun x17 hT => ?_⟩
      refine wss_cons ?_
      refine ws_set 3 ?_ sc.nd
      refine we_bin ?_
      refine we_callT (T := "int") T.int ?_ bt_int
      refine wa_cons ?_
      refine we_bin ?_
      refine we_bin ?_
      refine we_bin ?_
      refine we_ix ?_
      refine we_name 0 ?_
      refine e_int ?_
      refine o_ix (Vw.cell 0 rfl rfl) Vw.p hT fun d18 hT => ?_
      refine we_bin ?_
      refine e_int ?_
      refine we_ix ?_
      refine we_name 0 ?_
      refine e_int ?_
      refine o_ix (Vw.cell 0 rfl rfl) Vw.p hT fun d19 hT => ?_
      refine o_mul Vw.p Vw.p hT fun d20 hT => ?_
      refine o_add Vw.p Vw.p hT fun d21 hT => ?_
      refine e_int ?_
      refine o_add Vw.p Vw.p hT fun d22 hT => ?_
      refine e_int ?_
      refine o_pow Vw.p Vw.p hT fun d23 hT => ?_
      refine wa_nil ?_
      refine o_int1 Vw.p hT fun d24 hT => ?_
      refine e_int ?_
      refine o_mod Vw.p Vw.p hT fun d25 hT => ?_
      refine wss_one ?_
      refine ws_ret ?_
      refine we_bin ?_
      refine we_bin ?_
      refine we_bin ?_
      refine we_callT (T := "int") T.int ?_ bt_int
      refine wa_cons ?_
      refine we_bin ?_
      refine we_bin ?_
      refine we_bin ?_
      refine we_name 3 ?_
      refine e_int ?_
      refine o_mul Vw.p Vw.p hT fun d26 hT => ?_
      refine we_bin ?_
      refine e_int ?_
      refine we_ix ?_
      refine we_name 0 ?_
      refine e_int ?_
      refine o_ix (Vw.cell 0 rfl rfl) Vw.p hT fun d27 hT => ?_
      refine o_mul Vw.p Vw.p hT fun d28 hT => ?_
      refine o_add Vw.p Vw.p hT fun d29 hT => ?_
      refine e_int ?_
      refine o_pow Vw.p Vw.p hT fun d30 hT => ?_
      refine wa_nil ?_
      refine o_int1 Vw.p hT fun d31 hT => ?_
      refine e_int ?_
      refine o_mod Vw.p Vw.p hT fun d32 hT => ?_
      refine e_int ?_
      refine o_fdiv Vw.p Vw.p hT fun d33 hT => ?_
      refine we_name 1 ?_
      refine o_mod Vw.p hmany_.c hT fun d34 hT => ?_
      exact hT
theorem ok_l_take (T : Tx K mg base) : DefK P w K mg base "_law_take" 1 T_l_take [] := by
  obtain ⟨f, fd, F, hm⟩ := T.f_l_take
  exact defK_mk F (g_l_take T F) hm (fun kV doc pm an cdv ct us hl => match us, hl with | [a0, a1], _ => rfl)
theorem g_l_any (T : Tx K mg base) {f : Addr} {fd : FuncData} (F : FunD K "_law_any" "_law_any" (defArgs s_l_any) (defBody s_l_any) (defScope s_l_any) [] [] f fd) : FnG P w K mg base 2 f fd ["box", "many"] T_l_any := by
  have sc := sc_l_any
  refine fn_okD F sc_l_any (fun xs m post xp h => ?_) fun cdv A outer s H E B0 H0 xs m post xp hgd hr hT hx => ?_
  · obtain ⟨_, _, _, _, _, h, _⟩ := h; subst h; rfl
  obtain ⟨pbox_, box_, tmany_, many_, m1, rfl, rfl, hmany_, hT⟩ := hT
  have hT := Sm.opt hT
  refine wss_cons ?_
  refine ws_set 2 ?_ sc.nd
  refine e_str ?_
  refine wss_one ?_
  refine ws_ret ?_
  refine we_bm PySem.F.plainAttrs_str PySem.F.slot_str_join ?_
  refine e_str ?_
  refine recv_s Vw.p hT fun hT => ?_
  refine wa_cons ?_
  refine we_cv ?_
  refine we_lc1 3 (own := [("turn", 3)]) ?_ rfl sc.nd (show BlkOk ["box", "many", "signs", "turn"] (defScope s_l_any) _ [("turn", 3)] from ⟨rfl, by decide +kernel, by decide +kernel, by decide +kernel, by decide +kernel⟩)
  refine wi_rng1 T.range ?_
  refine we_name 1 ?_
  refine ⟨_, hmany_.c, sm_s hT fun xs1 hT hl => ?_⟩
  refine lcp_mapC (S := List D) (fun s3 => ((pbox_, mC (.lst s3)) :: m1)) hT rfl hl (fun s3 L => trivial) (fun s0 H0 C cl fp L0 x2 s3 kk4 hT => ?_) (fun ys s3 hT => ?_)
  · skip
    refine we_ix ?_
    refine we_name 2 ?_
    refine e_callP (ok_l_take T) hgd hr xt0 ?_
    refine wa_cons ?_
    refine we_name 0 ?_
    refine wa_cons ?_
    refine we_callB (id := "len") T.len ?_ bt_len
    refine wa_cons ?_
    refine we_name 2 ?_
    refine wa_nil ?_
    refine o_len Vw.p hT fun d5 hT => ?_
    refine wa_nil ?_
    refine ⟨_, .refl _, ?_⟩
    refine ⟨_, _, _, _, _, rfl, rfl, Vw.p, sm_s hT fun d6 hT => ?_⟩
    refine ⟨_, .refl _, ?_⟩
    refine o_ix Vw.p Vw.p hT fun d7 hT => ?_
    exact ⟨_, _, hT, rfl, rfl⟩
  · skip
    refine wa_nil ?_
    refine o_join Vw.p Vw.p hT fun d8 hT => ?_
    exact hT
theorem ok_l_any (T : Tx K mg base) : DefK P w K mg base "_law_any" 2 T_l_any [] := by
  obtain ⟨f, fd, F, hm⟩ := T.f_l_any
  exact defK_mk F (g_l_any T F) hm (fun kV doc pm an cdv ct us hl => match us, hl with | [a0, a1], _ => rfl)
theorem g_l_letters (T : Tx K mg base) {f : Addr} {fd : FuncData} (F : FunD K "_law_letters" "_law_letters" (defArgs s_l_letters) (defBody s_l_letters) (defScope s_l_letters) [] [] f fd) : FnG P w K mg base 2 f fd ["box", "many"] T_l_letters := by
  have sc := sc_l_letters
  refine fn_okD F sc_l_letters (fun xs m post xp h => ?_) fun cdv A outer s H E B0 H0 xs m post xp hgd hr hT hx => ?_
  · obtain ⟨_, _, _, _, _, h, _⟩ := h; subst h; rfl
  obtain ⟨pbox_, box_, tmany_, many_, m1, rfl, rfl, hmany_, hT⟩ := hT
  have hT := Sm.opt hT
  refine wss_cons ?_
  refine ws_set 2 ?_ sc.nd
  refine e_str ?_
  refine wss_one ?_
  refine ws_ret ?_
  refine we_bm PySem.F.plainAttrs_str PySem.F.slot_str_join ?_
  refine e_str ?_
  refine recv_s Vw.p hT fun hT => ?_
  refine wa_cons ?_
  refine we_cv ?_
  refine we_lc1 3 (own := [("turn", 3)]) ?_ rfl sc.nd (show BlkOk ["box", "many", "letters", "turn"] (defScope s_l_letters) _ [("turn", 3)] from ⟨rfl, by decide +kernel, by decide +kernel, by decide +kernel, by decide +kernel⟩)
  refine wi_rng1 T.range ?_
  refine we_name 1 ?_
  refine ⟨_, hmany_.c, sm_s hT fun xs1 hT hl => ?_⟩
  refine lcp_mapC (S := List D) (fun s3 => ((pbox_, mC (.lst s3)) :: m1)) hT rfl hl (fun s3 L => trivial) (fun s0 H0 C cl fp L0 x2 s3 kk4 hT => ?_) (fun ys s3 hT => ?_)
  · skip
    refine we_ix ?_
    refine we_name 2 ?_
    refine e_callP (ok_l_take T) hgd hr xt0 ?_
    refine wa_cons ?_
    refine we_name 0 ?_
    refine wa_cons ?_
    refine e_int ?_
    refine wa_nil ?_
    refine ⟨_, .refl _, ?_⟩
    refine ⟨_, _, _, _, _, rfl, rfl, Vw.p, sm_s hT fun d5 hT => ?_⟩
    refine ⟨_, .refl _, ?_⟩
    refine o_ix Vw.p Vw.p hT fun d6 hT => ?_
    exact ⟨_, _, hT, rfl, rfl⟩
  · skip
    refine wa_nil ?_
    refine o_join Vw.p Vw.p hT fun d7 hT => ?_
    exact hT
theorem ok_l_letters (T : Tx K mg base) : DefK P w K mg base "_law_letters" 2 T_l_letters [] := by
  obtain ⟨f, fd, F, hm⟩ := T.f_l_letters
  exact defK_mk F (g_l_letters T F) hm (fun kV doc pm an cdv ct us hl => match us, hl with | [a0, a1], _ => rfl)
end
end K01

set_option Elab.async false
set_option linter.all false
set_option maxRecDepth 100000
set_option maxHeartbeats 4000000

namespace K01
open PySem PySem.Spec PyProof.Rows L2 Ty Dy
variable [CE]

section
variable {P : Program} {w : World} {K : PySem.W.Frag} {mg : Str → Option Value} {base : Heap}

theorem g_l_number (T : Tx K mg base) {f : Addr} {fd : FuncData} (F : FunD K "_law_number" "_law_number" (defArgs s_l_number) (defBody s_l_number) (defScope s_l_number) [] [] f fd) : FnG P w K mg base 2 f fd ["box"] T_l_number := by
  have sc := sc_l_number
  refine fn_okD F sc_l_number (fun xs m post xp h => ?_) fun cdv A outer s H E B0 H0 xs m post xp hgd hr hT hx => ?_
  · obtain ⟨_, _, _, h, _⟩ := h; subst h; rfl
  obtain ⟨pbox_, box_, m1, rfl, rfl, hT⟩ := hT
  have hT := Sm.opt hT
  refine wss_cons ?_
  refine ws_set 1 ?_ sc.nd
  refine e_callP (ok_l_take T) hgd hr xt0 ?_
  refine wa_cons ?_
  refine we_name 0 ?_
  refine wa_cons ?_
  refine e_int ?_
  refine wa_nil ?_
  refine ⟨_, .refl _, ?_⟩
  refine ⟨_, _, _, _, _, rfl, rfl, Vw.p, sm_s hT fun d1 hT => ?_⟩
  refine ⟨_, .refl _, ?_⟩
  refine wss_cons ?_
  refine ws_if ?_
  refine wt_cmp ?_
  refine we_name 1 ?_
  refine e_int ?_
  refine o_eq (RmH.mk (k := 1) hr.dp hr.un) T.sys Vw.p Vw.p hT fun b2 hT => (BoolP.of ?_)
  refine ⟨fun hb => ?_, fun hb => ?_⟩
  · skip
    have hT := brT hT hb
    refine wss_one ?_
    refine ws_ret ?_
    refine we_bin ?_
    refine e_int ?_
    refine e_callP (ok_l_take T) hgd hr xt0 ?_
    refine wa_cons ?_
    refine we_name 0 ?_
    refine wa_cons ?_
    refine e_int ?_
    refine wa_nil ?_
    refine ⟨_, .refl _, ?_⟩
    refine ⟨_, _, _, _, _, rfl, rfl, Vw.p, sm_s hT fun d3 hT => ?_⟩
    refine ⟨_, .refl _, ?_⟩
    refine o_add Vw.p Vw.p hT fun d4 hT => ?_
    exact hT
  · skip
    have hT := brF hT hb
    refine wss_nil ?_
    refine wss_cons ?_
    refine ws_if ?_
    refine wt_cmp ?_
    refine we_name 1 ?_
    refine e_int ?_
    refine o_eq (RmH.mk (k := 1) hr.dp hr.un) T.sys Vw.p Vw.p hT fun b5 hT => (BoolP.of ?_)
    refine ⟨fun hb => ?_, fun hb => ?_⟩
    · skip
      have hT := brT hT hb
      refine wss_one ?_
      refine ws_ret ?_
      refine we_bin ?_
      refine we_bin ?_
      refine we_bin ?_
      refine e_int ?_
      refine e_int ?_
      refine o_pow Vw.p Vw.p hT fun d6 hT => ?_
      refine e_int ?_
      refine o_sub Vw.p Vw.p hT fun d7 hT => ?_
      refine e_callP (ok_l_take T) hgd hr xt0 ?_
      refine wa_cons ?_
      refine we_name 0 ?_
      refine wa_cons ?_
      refine e_int ?_
      refine wa_nil ?_
      refine ⟨_, .refl _, ?_⟩
      refine ⟨_, _, _, _, _, rfl, rfl, Vw.p, sm_s hT fun d8 hT => ?_⟩
      refine ⟨_, .refl _, ?_⟩
      refine o_add Vw.p Vw.p hT fun d9 hT => ?_
      exact hT
    · skip
      have hT := brF hT hb
      refine wss_nil ?_
      refine wss_one ?_
      refine ws_ret ?_
      refine e_callP (ok_l_take T) hgd hr xt0 ?_
      refine wa_cons ?_
      refine we_name 0 ?_
      refine wa_cons ?_
      refine e_int ?_
      refine wa_nil ?_
      refine ⟨_, .refl _, ?_⟩
      refine ⟨_, _, _, _, _, rfl, rfl, Vw.p, sm_s hT fun d10 hT => ?_⟩
      refine ⟨_, .refl _, ?_⟩
      exact hT
theorem ok_l_number (T : Tx K mg base) : DefK P w K mg base "_law_number" 2 T_l_number [] := by
  obtain ⟨f, fd, F, hm⟩ := T.f_l_number
  exact defK_mk F (g_l_number T F) hm (fun kV doc pm an cdv ct us hl => match us, hl with | [a0], _ => rfl)
theorem g_l_maker (T : Tx K mg base) {f : Addr} {fd : FuncData} (F : FunD K "_law_maker" "_law_maker" (defArgs s_l_maker) (defBody s_l_maker) (defScope s_l_maker) [] [] f fd) : FnG P w K mg base 2 f fd ["box"] T_l_maker := by
  have sc := sc_l_maker
  refine fn_okD F sc_l_maker (fun xs m post xp h => ?_) fun cdv A outer s H E B0 H0 xs m post xp hgd hr hT hx => ?_
  · obtain ⟨_, _, _, h, _⟩ := h; subst h; rfl
  obtain ⟨pbox_, box_, m1, rfl, rfl, hT⟩ := hT
  have hT := Sm.opt hT
  refine wss_cons ?_
  refine ws_par 1 2 ?_ rfl sc.nd
  refine wa_cons ?_
  refine e_callP (ok_l_take T) hgd hr xt0 ?_
  refine wa_cons ?_
  refine we_name 0 ?_
  refine wa_cons ?_
  refine e_int ?_
  refine wa_nil ?_
  refine ⟨_, .refl _, ?_⟩
  refine ⟨_, _, _, _, _, rfl, rfl, Vw.p, sm_s hT fun d1 hT => ?_⟩
  refine ⟨_, .refl _, ?_⟩
  refine wa_cons ?_
  refine e_callP (ok_l_take T) hgd hr xt0 ?_
  refine wa_cons ?_
  refine we_name 0 ?_
  refine wa_cons ?_
  refine e_int ?_
  refine wa_nil ?_
  refine ⟨_, .refl _, ?_⟩
  refine ⟨_, _, _, _, _, rfl, rfl, Vw.p, sm_s hT fun d2 hT => ?_⟩
  refine ⟨_, .refl _, ?_⟩
  refine wa_nil ?_
  refine ⟨_, _, rfl, ?_⟩
  refine wss_one ?_
  refine ws_ret ?_
  refine we_ix ?_
  refine e_list ?_
  refine wa_cons ?_
  refine we_name 2 ?_
  refine wa_cons ?_
  refine we_bin ?_
  refine we_callT (T := "int") T.int ?_ bt_int
  refine wa_cons ?_
  refine we_name 2 ?_
  refine wa_nil ?_
  refine o_int1 Vw.p hT fun d3 hT => ?_
  refine e_int ?_
  refine o_mod Vw.p Vw.p hT fun d4 hT => ?_
  refine wa_cons ?_
  refine e_int ?_
  refine wa_cons ?_
  refine e_int ?_
  refine wa_cons ?_
  refine we_name 2 ?_
  refine wa_nil ?_
  refine ⟨[_, _, _, _, _], rfl, by simp, ?_⟩
  refine we_name 1 ?_
  refine o_ix Vw.p Vw.p hT fun d5 hT => ?_
  exact hT
theorem ok_l_maker (T : Tx K mg base) : DefK P w K mg base "_law_maker" 2 T_l_maker [] := by
  obtain ⟨f, fd, F, hm⟩ := T.f_l_maker
  exact defK_mk F (g_l_maker T F) hm (fun kV doc pm an cdv ct us hl => match us, hl with | [a0], _ => rfl)
theorem g_l_line (T : Tx K mg base) {f : Addr} {fd : FuncData} (F : FunD K "_law_line" "_law_line" (defArgs s_l_line) (defBody s_l_line) (defScope s_l_line) [] [] f fd) : FnG P w K mg base 3 f fd ["box"] T_l_line := by
  have sc := sc_l_line
  refine fn_okD F sc_l_line (fun xs m post xp h => ?_) fun cdv A outer s H E B0 H0 xs m post xp hgd hr hT hx => ?_
  · obtain ⟨_, _, _, h, _⟩ := h; subst h; rfl
  obtain ⟨pbox_, box_, m1, rfl, rfl, hT⟩ := hT
  have hT := Sm.opt hT
  refine wss_cons ?_
  refine ws_par 1 2 ?_ rfl sc.nd
  refine wa_cons ?_
  refine e_callP (ok_l_take T) hgd hr xt0 ?_
  refine wa_cons ?_
  refine we_name 0 ?_
  refine wa_cons ?_
  refine e_int ?_
  refine wa_nil ?_
  refine ⟨_, .refl _, ?_⟩
  refine ⟨_, _, _, _, _, rfl, rfl, Vw.p, sm_s hT fun d1 hT => ?_⟩
  refine ⟨_, .refl _, ?_⟩
  refine wa_cons ?_
  refine e_callP (ok_l_take T) hgd hr xt0 ?_
  refine wa_cons ?_
  refine we_name 0 ?_
  refine wa_cons ?_
  refine e_int ?_
  refine wa_nil ?_
  refine ⟨_, .refl _, ?_⟩
  refine ⟨_, _, _, _, _, rfl, rfl, Vw.p, sm_s hT fun d2 hT => ?_⟩
  refine ⟨_, .refl _, ?_⟩
  refine wa_nil ?_
  refine ⟨_, _, rfl, ?_⟩
  refine wss_cons ?_
  refine ws_set 3 ?_ sc.nd
  refine e_callP (ok_l_letters T) hgd hr xt0 ?_
  refine wa_cons ?_
  refine we_name 0 ?_
  refine wa_cons ?_
  refine we_ix ?_
  refine e_list ?_
  refine wa_cons ?_
  refine e_int ?_
  refine wa_cons ?_
  refine e_int ?_
  refine wa_cons ?_
  refine e_int ?_
  refine wa_cons ?_
  refine e_int ?_
  refine wa_cons ?_
  refine e_int ?_
  refine wa_nil ?_
  refine ⟨[_, _, _, _, _], rfl, by simp, ?_⟩
  refine we_name 2 ?_
  refine o_ix Vw.p Vw.p hT fun d3 hT => ?_
  refine wa_nil ?_
  refine ⟨_, .refl _, ?_⟩
  refine ⟨_, _, _, _, _, rfl, rfl, Vw.p, sm_s hT fun d4 hT => ?_⟩
  refine ⟨_, .refl _, ?_⟩
  refine wss_cons ?_
  refine ws_set 4 ?_ sc.nd
  refine e_callP (ok_l_any T) hgd hr xt0 ?_
  refine wa_cons ?_
  refine we_name 0 ?_
  refine wa_cons ?_
  refine we_ix ?_
  refine e_list ?_
  refine wa_cons ?_
  refine e_int ?_
  refine wa_cons ?_
  refine e_int ?_
  refine wa_cons ?_
  refine e_int ?_
  refine wa_cons ?_
  refine e_int ?_
  refine wa_cons ?_
  refine e_int ?_
  refine wa_cons ?_
  refine e_int ?_
  refine wa_nil ?_
  refine ⟨[_, _, _, _, _, _], rfl, by simp, ?_⟩
  refine we_name 1 ?_
  refine o_ix Vw.p Vw.p hT fun d5 hT => ?_
  refine wa_nil ?_
  refine ⟨_, .refl _, ?_⟩
  refine ⟨_, _, _, _, _, rfl, rfl, Vw.p, sm_s hT fun d6 hT => ?_⟩
  refine ⟨_, .refl _, ?_⟩
  refine wss_cons ?_
  obtain ⟨kk7, hk8, hT⟩ := jn_s hT
  refine ws_cut (fun ρ' m' => ∃ (s9 : D × List D), Ok (kk7 s9) (fun r => post (td r.1) ((pbox_, mC (.lst r.2)) :: m1)) (fun _ => False) ∧ [some (tv (Ref.mk pbox_)), some (td (d1.1)), some (td (d2.1)), some (td (d4.1)), some (td (s9.1))] = ρ' ∧ Le ((pbox_, mC (.lst s9.2)) :: m1) m') ?_ ?_
  · skip
    refine ws_if ?_
    refine wt_cmp ?_
    refine we_name 1 ?_
    refine e_int ?_
    refine o_eq (RmH.mk (k := 2) hr.dp hr.un) T.sys Vw.p Vw.p hT fun b10 hT => (BoolP.of ?_)
    refine ⟨fun hb => ?_, fun hb => ?_⟩
    · skip
      have hT := brT hT hb
      refine wss_one ?_
      refine ws_set 4 ?_ sc.nd
      refine we_ix ?_
      refine e_list ?_
      refine wa_cons ?_
      refine e_str ?_
      refine wa_cons ?_
      refine e_str ?_
      refine wa_cons ?_
      refine e_str ?_
      refine wa_cons ?_
      refine e_str ?_
      refine wa_cons ?_
      refine e_str ?_
      refine wa_cons ?_
      refine e_str ?_
      refine wa_nil ?_
      refine ⟨[_, _, _, _, _, _], rfl, by simp, ?_⟩
      refine e_callP (ok_l_take T) hgd hr xt0 ?_
      refine wa_cons ?_
      refine we_name 0 ?_
      refine wa_cons ?_
      refine e_int ?_
      refine wa_nil ?_
      refine ⟨_, .refl _, ?_⟩
      refine ⟨_, _, _, _, _, rfl, rfl, Vw.p, sm_s hT fun d11 hT => ?_⟩
      refine ⟨_, .refl _, ?_⟩
      refine o_ix Vw.p Vw.p hT fun d12 hT => ?_
      exact ⟨_, hT, rfl, Le.rfl⟩
    · skip
      have hT := brF hT hb
      refine wss_nil ?_
      exact ⟨_, hT, rfl, Le.rfl⟩
  · rintro ρ' m' ⟨s9, hT, rfl, hle⟩
    subst hk8
    refine wss_le hle ?_
    refine wss_one ?_
    refine ws_ret ?_
    refine e_tup ?_
    refine wa_cons ?_
    refine e_callP (ok_l_maker T) hgd hr xt0 ?_
    refine wa_cons ?_
    refine we_name 0 ?_
    refine wa_nil ?_
    refine ⟨_, .refl _, ?_⟩
    refine ⟨_, _, _, rfl, rfl, sm_s hT fun d13 hT => ?_⟩
    refine ⟨_, .refl _, ?_⟩
    refine wa_cons ?_
    refine e_callP (ok_l_number T) hgd hr xt0 ?_
    refine wa_cons ?_
    refine we_name 0 ?_
    refine wa_nil ?_
    refine ⟨_, .refl _, ?_⟩
    refine ⟨_, _, _, rfl, rfl, sm_s hT fun d14 hT => ?_⟩
    refine ⟨_, .refl _, ?_⟩
    refine wa_cons ?_
    refine we_name 3 ?_
    refine wa_cons ?_
    refine we_name 4 ?_
    refine wa_nil ?_
    refine ⟨[_, _, _, _], rfl, by simp, ?_⟩
    exact hT
theorem ok_l_line (T : Tx K mg base) : DefK P w K mg base "_law_line" 3 T_l_line [] := by
  obtain ⟨f, fd, F, hm⟩ := T.f_l_line
  exact defK_mk F (g_l_line T F) hm (fun kV doc pm an cdv ct us hl => match us, hl with | [a0], _ => rfl)
theorem g_l_count (T : Tx K mg base) {f : Addr} {fd : FuncData} (F : FunD K "_law_count" "_law_count" (defArgs s_l_count) (defBody s_l_count) (defScope s_l_count) [] [] f fd) : FnG P w K mg base 1 f fd ["value"] T_l_count := by
  have sc := sc_l_count
  refine fn_okD F sc_l_count (fun xs m post xp h => ?_) fun cdv A outer s H E B0 H0 xs m post xp hgd hr hT hx => ?_
  · obtain ⟨_, _, h, _⟩ := h; subst h; rfl
  obtain ⟨tvalue_, value_, rfl, hvalue_, hT⟩ := hT
  have hT := Sm.opt hT
  refine wss_one ?_
  refine ws_ret ?_
  obtain ⟨kk1, hk2, hT⟩ := jn_s hT
  refine we_cv (Wp.imp (P := fun z m' => ∃ s3 : D, Ok (kk1 s3) (fun d => post (td d) m) (fun _ => False) ∧ Cv z (td s3) ∧ m = m') ?_ ?_)
  · skip
    refine we_and ?_
    refine we_callB (id := "isinstance") T.isinstance ?_ bt_isinstance
    refine wa_cons ?_
    refine we_name 0 ?_
    refine wa_cons ?_
    refine we_type (T := "int") T.int ?_ bt_int
    refine wa_nil ?_
    refine o_isi hvalue_ hT fun b4 hT => (BoolP.of ?_)
    refine ⟨fun hb => ?_, fun hb => ?_⟩
    · skip
      have hT := brT hT hb
      refine we_and ?_
      refine we_not ?_
      refine we_callB (id := "isinstance") T.isinstance ?_ bt_isinstance
      refine wa_cons ?_
      refine we_name 0 ?_
      refine wa_cons ?_
      refine we_type (T := "bool") T.bool ?_ bt_bool
      refine wa_nil ?_
      refine o_isi hvalue_ hT fun b5 hT => (BoolP.of ?_)
      refine BoolP.of ?_
      refine ⟨fun hb => ?_, fun hb => ?_⟩
      · skip
        have hT := brT hT hb
        refine we_one ?_
        refine we_cmp ?_
        refine we_name 0 ?_
        refine e_int ?_
        refine o_ge hvalue_ Vw.p hT fun b6 hT => ?_
        exact ⟨_, hT, cv_bl, rfl⟩
      · skip
        have hT := brF hT hb
        exact ⟨_, hT, cv_bl, rfl⟩
    · skip
      have hT := brF hT hb
      exact ⟨_, hT, cv_bl, rfl⟩
  · rintro z m' ⟨s3, hT, hcv, rfl⟩
    subst hk2
    refine ⟨_, hcv, ?_⟩
    exact hT
theorem ok_l_count (T : Tx K mg base) : DefK P w K mg base "_law_count" 1 T_l_count [] := by
  obtain ⟨f, fd, F, hm⟩ := T.f_l_count
  exact defK_mk F (g_l_count T F) hm (fun kV doc pm an cdv ct us hl => match us, hl with | [a0], _ => rfl)
theorem g_l_is_cell (T : Tx K mg base) {f : Addr} {fd : FuncData} (F : FunD K "_law_is_cell" "_law_is_cell" (defArgs s_l_is_cell) (defBody s_l_is_cell) (defScope s_l_is_cell) [] [] f fd) : FnG P w K mg base 1 f fd ["value"] T_l_is_cell := by
  have sc := sc_l_is_cell
  refine fn_okD F sc_l_is_cell (fun xs m post xp h => ?_) fun cdv A outer s H E B0 H0 xs m post xp hgd hr hT hx => ?_
  · obtain ⟨_, _, h, _⟩ := h; subst h; rfl
  obtain ⟨tvalue_, value_, rfl, hvalue_, hT⟩ := hT
  have hT := Sm.opt hT
  refine wss_cons ?_
  refine ws_if ?_
  obtain ⟨kk1, hk2, hT⟩ := jn_s hT
  refine WpT.imp (P := fun z m' => ∃ s3 : Bool, Ok (kk1 s3) (fun d => post (td d) m) (fun _ => False) ∧ s3 = z ∧ m = m') ?_ ?_
  · skip
    refine wt_bool ?_
    refine ww_or ?_
    refine wt_not ?_
    refine wt_val ?_
    refine we_callB (id := "isinstance") T.isinstance ?_ bt_isinstance
    refine wa_cons ?_
    refine we_name 0 ?_
    refine wa_cons ?_
    refine we_type (T := "str") T.str ?_ bt_str
    refine wa_nil ?_
    refine o_isi hvalue_ hT fun b4 hT => (BoolP.of ?_)
    refine ⟨fun hb => ?_, fun hb => ?_⟩
    · skip
      have hT := brT hT hb
      exact ⟨_, hT, rfl, rfl⟩
    · skip
      have hT := brF hT hb
      refine ww_or1 ?_
      refine wt_not ?_
      obtain ⟨kk5, hk6, hT⟩ := jn_s hT
      refine WpT.imp (P := fun z m' => ∃ s7 : Bool, Ok (kk5 s7) (fun d => post (td d) m) (fun _ => False) ∧ s7 = z ∧ m = m') ?_ ?_
      · skip
        refine wt_chain ?_
        refine e_int ?_
        refine we_callB (id := "len") T.len ?_ bt_len
        refine wa_cons ?_
        refine we_name 0 ?_
        refine wa_nil ?_
        refine o_len hvalue_ hT fun d8 hT => ?_
        refine o_le Vw.p Vw.p hT fun b9 hT => (BoolP.of ?_)
        refine ⟨fun hb => ?_, fun hb => ?_⟩
        · skip
          have hT := brT hT hb
          refine e_int ?_
          refine o_le Vw.p Vw.p hT fun b10 hT => (BoolP.of ?_)
          exact ⟨_, hT, rfl, rfl⟩
        · skip
          have hT := brF hT hb
          exact ⟨_, hT, rfl, rfl⟩
      · rintro z m' ⟨s7, hT, rfl, rfl⟩
        subst hk6
        exact ⟨_, hT, rfl, rfl⟩
  · rintro z m' ⟨s3, hT, rfl, rfl⟩
    subst hk2
    refine ⟨fun hb => ?_, fun hb => ?_⟩
    · skip
      have hT := brT hT hb
      refine wss_one ?_
      refine ws_ret ?_
      refine e_bool ?_
      exact hT
    · skip
      have hT := brF hT hb
      refine wss_nil ?_
      refine wss_one ?_
      refine ws_ret ?_
      refine we_cv ?_
      refine we_cmp ?_
      refine we_cv ?_
      refine we_lc1 1 (own := [("sign", 1)]) ?_ rfl sc.nd (show BlkOk ["value", "sign"] (defScope s_l_is_cell) _ [("sign", 1)] from ⟨rfl, by decide +kernel, by decide +kernel, by decide +kernel, by decide +kernel⟩)
      refine wi_D ?_
      refine we_name 0 ?_
      refine ⟨_, hvalue_, sm_s hT fun xs11 hT hl => ?_⟩
      refine lcp_filO hT hl (fun L => hvalue_.l) (fun s0 H0 C cl fp L0 x12 y hxy => ?_) (fun s0 H0 C cl fp L0 x12 y hxy => ?_) (fun ys13 hT => ?_)
      · skip
        have hT := Sm.opt (Sm.of (Q := fun z => z = y) hxy rfl)
        refine wt_cmp ?_
        refine we_name 1 ?_
        refine e_str ?_
        refine o_notin Vw.p Vw.p hT fun b14 hT => (BoolP.of ?_)
        exact ⟨hT, rfl⟩
      · skip
        have hT := Sm.opt (Sm.of (Q := fun z => z = y) hxy rfl)
        refine we_name 1 ?_
        exact ⟨congrArg td hT, rfl⟩
      · skip
        refine e_list ?_
        refine wa_nil ?_
        refine ⟨[], rfl, by simp, ?_⟩
        refine o_eq (RmH.mk (k := 0) hr.dp hr.un) T.sys Vw.p Vw.p hT fun b15 hT => ⟨_, cv_bl, ?_⟩
        exact hT
theorem ok_l_is_cell (T : Tx K mg base) : DefK P w K mg base "_law_is_cell" 1 T_l_is_cell [] := by
  obtain ⟨f, fd, F, hm⟩ := T.f_l_is_cell
  exact defK_mk F (g_l_is_cell T F) hm (fun kV doc pm an cdv ct us hl => match us, hl with | [a0], _ => rfl)
theorem g_l_is_text (T : Tx K mg base) {f : Addr} {fd : FuncData} (F : FunD K "_law_is_text" "_law_is_text" (defArgs s_l_is_text) (defBody s_l_is_text) (defScope s_l_is_text) [] [] f fd) : FnG P w K mg base 1 f fd ["value"] T_l_is_text := by
  have sc := sc_l_is_text
  refine fn_okD F sc_l_is_text (fun xs m post xp h => ?_) fun cdv A outer s H E B0 H0 xs m post xp hgd hr hT hx => ?_
  · obtain ⟨_, _, h, _⟩ := h; subst h; rfl
  obtain ⟨tvalue_, value_, rfl, hvalue_, hT⟩ := hT
  have hT := Sm.opt hT
  refine wss_cons ?_
  refine ws_if ?_
  obtain ⟨kk1, hk2, hT⟩ := jn_s hT
  refine WpT.imp (P := fun z m' => ∃ s3 : Bool, Ok (kk1 s3) (fun d => post (td d) m) (fun _ => False) ∧ s3 = z ∧ m = m') ?_ ?_
  · skip
    refine wt_bool ?_
    refine ww_or ?_
    refine wt_not ?_
    refine wt_val ?_
    refine we_callB (id := "isinstance") T.isinstance ?_ bt_isinstance
    refine wa_cons ?_
    refine we_name 0 ?_
    refine wa_cons ?_
    refine we_type (T := "str") T.str ?_ bt_str
    refine wa_nil ?_
    refine o_isi hvalue_ hT fun b4 hT => (BoolP.of ?_)
    refine ⟨fun hb => ?_, fun hb => ?_⟩
    · skip
      have hT := brT hT hb
      exact ⟨_, hT, rfl, rfl⟩
    · skip
      have hT := brF hT hb
      refine ww_or1 ?_
      refine wt_cmp ?_
      refine we_callB (id := "len") T.len ?_ bt_len
      refine wa_cons ?_
      refine we_name 0 ?_
      refine wa_nil ?_
      refine o_len hvalue_ hT fun d5 hT => ?_
      refine e_int ?_
      refine o_gt Vw.p Vw.p hT fun b6 hT => (BoolP.of ?_)
      exact ⟨_, hT, rfl, rfl⟩
  · rintro z m' ⟨s3, hT, rfl, rfl⟩
    subst hk2
    refine ⟨fun hb => ?_, fun hb => ?_⟩
    · skip
      have hT := brT hT hb
      refine wss_one ?_
      refine ws_ret ?_
      refine e_bool ?_
      exact hT
    · skip
      have hT := brF hT hb
      refine wss_nil ?_
      refine wss_one ?_
      refine ws_ret ?_
      refine we_cv ?_
      refine we_cmp ?_
      refine we_cv ?_
      refine we_lc1 1 (own := [("sign", 1)]) ?_ rfl sc.nd (show BlkOk ["value", "sign"] (defScope s_l_is_text) _ [("sign", 1)] from ⟨rfl, by decide +kernel, by decide +kernel, by decide +kernel, by decide +kernel⟩)
      refine wi_D ?_
      refine we_name 0 ?_
      refine ⟨_, hvalue_, sm_s hT fun xs7 hT hl => ?_⟩
      refine lcp_filO hT hl (fun L => hvalue_.l) (fun s0 H0 C cl fp L0 x8 y hxy => ?_) (fun s0 H0 C cl fp L0 x8 y hxy => ?_) (fun ys9 hT => ?_)
      · skip
        have hT := Sm.opt (Sm.of (Q := fun z => z = y) hxy rfl)
        refine wt_not ?_
        obtain ⟨kk10, hk11, hT⟩ := jn_s hT
        refine WpT.imp (P := fun z m' => ∃ s12 : Bool, Ok (kk10 s12) (fun z => z = y) (fun _ => False) ∧ s12 = z ∧ (m ++ L0) = m') ?_ ?_
        · skip
          refine wt_chain ?_
          refine e_str ?_
          refine we_name 1 ?_
          refine o_le Vw.p Vw.p hT fun b13 hT => (BoolP.of ?_)
          refine ⟨fun hb => ?_, fun hb => ?_⟩
          · skip
            have hT := brT hT hb
            refine e_str ?_
            refine o_le Vw.p Vw.p hT fun b14 hT => (BoolP.of ?_)
            exact ⟨_, hT, rfl, rfl⟩
          · skip
            have hT := brF hT hb
            exact ⟨_, hT, rfl, rfl⟩
        · rintro z m' ⟨s12, hT, rfl, rfl⟩
          subst hk11
          exact ⟨hT, rfl⟩
      · skip
        have hT := Sm.opt (Sm.of (Q := fun z => z = y) hxy rfl)
        refine we_name 1 ?_
        exact ⟨congrArg td hT, rfl⟩
      · skip
        refine e_list ?_
        refine wa_nil ?_
        refine ⟨[], rfl, by simp, ?_⟩
        refine o_eq (RmH.mk (k := 0) hr.dp hr.un) T.sys Vw.p Vw.p hT fun b15 hT => ⟨_, cv_bl, ?_⟩
        exact hT
theorem ok_l_is_text (T : Tx K mg base) : DefK P w K mg base "_law_is_text" 1 T_l_is_text [] := by
  obtain ⟨f, fd, F, hm⟩ := T.f_l_is_text
  exact defK_mk F (g_l_is_text T F) hm (fun kV doc pm an cdv ct us hl => match us, hl with | [a0], _ => rfl)
end
end K01

set_option Elab.async false
set_option linter.all false
set_option maxRecDepth 100000
set_option maxHeartbeats 4000000

namespace K01
open PySem PySem.Spec PyProof.Rows L2 Ty Dy
variable [CE]

section
variable {P : Program} {w : World} {K : PySem.W.Frag} {mg : Str → Option Value} {base : Heap}

theorem g_l_is_line (T : Tx K mg base) {f : Addr} {fd : FuncData} (F : FunD K "_law_is_line" "_law_is_line" (defArgs s_l_is_line) (defBody s_l_is_line) (defScope s_l_is_line) [] [] f fd) : FnG P w K mg base 2 f fd ["value"] T_l_is_line := by
  have sc := sc_l_is_line
  refine fn_okD F sc_l_is_line (fun xs m post xp h => ?_) fun cdv A outer s H E B0 H0 xs m post xp hgd hr hT hx => ?_
  · obtain ⟨_, _, h, _⟩ := h; subst h; rfl
  obtain ⟨tvalue_, value_, rfl, hvalue_, hT⟩ := hT
  have hT := Sm.opt hT
  refine wss_cons ?_
  refine ws_if ?_
  obtain ⟨kk1, hk2, hT⟩ := jn_s hT
  refine WpT.imp (P := fun z m' => ∃ s3 : Bool, Ok (kk1 s3) (fun d => post (td d) m) (fun _ => False) ∧ s3 = z ∧ m = m') ?_ ?_
  · skip
    refine wt_bool ?_
    refine ww_or ?_
    refine wt_not ?_
    refine wt_val ?_
    refine we_callB (id := "isinstance") T.isinstance ?_ bt_isinstance
    refine wa_cons ?_
    refine we_name 0 ?_
    refine wa_cons ?_
    refine we_type (T := "tuple") T.tuple ?_ bt_tuple
    refine wa_nil ?_
    refine o_isi hvalue_ hT fun b4 hT => (BoolP.of ?_)
    refine ⟨fun hb => ?_, fun hb => ?_⟩
    · skip
      have hT := brT hT hb
      exact ⟨_, hT, rfl, rfl⟩
    · skip
      have hT := brF hT hb
      refine ww_or1 ?_
      refine wt_cmp ?_
      refine we_callB (id := "len") T.len ?_ bt_len
      refine wa_cons ?_
      refine we_name 0 ?_
      refine wa_nil ?_
      refine o_len hvalue_ hT fun d5 hT => ?_
      refine e_int ?_
      refine o_ne (RmH.mk (k := 1) hr.dp hr.un) T.sys Vw.p Vw.p hT fun b6 hT => (BoolP.of ?_)
      exact ⟨_, hT, rfl, rfl⟩
  · rintro z m' ⟨s3, hT, rfl, rfl⟩
    subst hk2
    refine ⟨fun hb => ?_, fun hb => ?_⟩
    · skip
      have hT := brT hT hb
      refine wss_one ?_
      refine ws_ret ?_
      refine e_bool ?_
      exact hT
    · skip
      have hT := brF hT hb
      refine wss_nil ?_
      refine wss_cons ?_
      refine ws_if ?_
      obtain ⟨kk7, hk8, hT⟩ := jn_s hT
      refine WpT.imp (P := fun z m' => ∃ s9 : Bool, Ok (kk7 s9) (fun d => post (td d) m) (fun _ => False) ∧ s9 = z ∧ m = m') ?_ ?_
      · skip
        refine wt_bool ?_
        refine ww_or ?_
        refine wt_not ?_
        refine t_val ?_
        refine e_call (ok_l_count T) hgd hr xt0 ?_
        refine wa_cons ?_
        refine we_ix ?_
        refine we_name 0 ?_
        refine e_int ?_
        refine o_ix hvalue_ Vw.p hT fun d10 hT => ?_
        refine wa_nil ?_
        refine ⟨_, _, rfl, Vw.p, sm_s hT fun d11 hT => ?_⟩
        refine ⟨_, Vw.p, sm_s hT fun b12 hT => ?_⟩
        refine ⟨fun hb => ?_, fun hb => ?_⟩
        · skip
          have hT := brT hT hb
          exact ⟨_, hT, rfl, rfl⟩
        · skip
          have hT := brF hT hb
          refine ww_or ?_
          refine wt_cmp ?_
          refine we_ix ?_
          refine we_name 0 ?_
          refine e_int ?_
          refine o_ix hvalue_ Vw.p hT fun d13 hT => ?_
          refine e_int ?_
          refine o_gt Vw.p Vw.p hT fun b14 hT => (BoolP.of ?_)
          refine ⟨fun hb => ?_, fun hb => ?_⟩
          · skip
            have hT := brT hT hb
            exact ⟨_, hT, rfl, rfl⟩
          · skip
            have hT := brF hT hb
            refine ww_or1 ?_
            refine wt_not ?_
            refine t_val ?_
            refine e_call (ok_l_count T) hgd hr xt0 ?_
            refine wa_cons ?_
            refine we_ix ?_
            refine we_name 0 ?_
            refine e_int ?_
            refine o_ix hvalue_ Vw.p hT fun d15 hT => ?_
            refine wa_nil ?_
            refine ⟨_, _, rfl, Vw.p, sm_s hT fun d16 hT => ?_⟩
            refine ⟨_, Vw.p, sm_s hT fun b17 hT => ?_⟩
            exact ⟨_, hT, rfl, rfl⟩
      · rintro z m' ⟨s9, hT, rfl, rfl⟩
        subst hk8
        refine ⟨fun hb => ?_, fun hb => ?_⟩
        · skip
          have hT := brT hT hb
          refine wss_one ?_
          refine ws_ret ?_
          refine e_bool ?_
          exact hT
        · skip
          have hT := brF hT hb
          refine wss_nil ?_
          refine wss_one ?_
          refine ws_ret ?_
          obtain ⟨kk18, hk19, hT⟩ := jn_s hT
          refine we_cv (Wp.imp (P := fun z m' => ∃ s20 : D, Ok (kk18 s20) (fun d => post (td d) m) (fun _ => False) ∧ Cv z (td s20) ∧ m = m') ?_ ?_)
          · skip
            refine we_and ?_
            refine we_cv ?_
            refine e_call (ok_l_is_cell T) hgd hr xt0 ?_
            refine wa_cons ?_
            refine we_ix ?_
            refine we_name 0 ?_
            refine e_int ?_
            refine o_ix hvalue_ Vw.p hT fun d21 hT => ?_
            refine wa_nil ?_
            refine ⟨_, _, rfl, Vw.p, sm_s hT fun d22 hT => ?_⟩
            refine b_val (PA := fun _ _ => True) Vw.p hT fun b23 hT => ?_
            refine ⟨fun hb => ?_, fun hb => ?_⟩
            · skip
              have hT := brT hT hb
              refine we_one ?_
              refine e_call (ok_l_is_text T) hgd hr xt0 ?_
              refine wa_cons ?_
              refine we_ix ?_
              refine we_name 0 ?_
              refine e_int ?_
              refine o_ix hvalue_ Vw.p hT fun d24 hT => ?_
              refine wa_nil ?_
              refine ⟨_, _, rfl, Vw.p, sm_s hT fun d25 hT => ?_⟩
              exact ⟨_, hT, Cv.rfl, rfl⟩
            · skip
              have hT := brF hT hb
              exact ⟨_, hT, cv_bl, rfl⟩
          · rintro z m' ⟨s20, hT, hcv, rfl⟩
            subst hk19
            refine ⟨_, hcv, ?_⟩
            exact hT
theorem ok_l_is_line (T : Tx K mg base) : DefK P w K mg base "_law_is_line" 2 T_l_is_line [] := by
  obtain ⟨f, fd, F, hm⟩ := T.f_l_is_line
  exact defK_mk F (g_l_is_line T F) hm (fun kV doc pm an cdv ct us hl => match us, hl with | [a0], _ => rfl)
theorem g_l_written (T : Tx K mg base) {f : Addr} {fd : FuncData} (F : FunD K "_law_written" "_law_written" (defArgs s_l_written) (defBody s_l_written) (defScope s_l_written) [] [] f fd) : FnG P w K mg base 1 f fd ["line"] T_l_written := by
  have sc := sc_l_written
  refine fn_okD F sc_l_written (fun xs m post xp h => ?_) fun cdv A outer s H E B0 H0 xs m post xp hgd hr hT hx => ?_
  · obtain ⟨_, _, h, _⟩ := h; subst h; rfl
  obtain ⟨tline_, line_, rfl, hline_, hT⟩ := hT
  have hT := Sm.opt hT
  refine wss_one ?_
  refine ws_ret ?_
  refine we_bin ?_
  refine we_bin ?_
  refine we_bin ?_
  refine we_bin ?_
  refine we_bin ?_
  refine we_bin ?_
  refine we_callT (T := "str") T.str ?_ bt_str
  refine wa_cons ?_
  refine we_ix ?_
  refine we_name 0 ?_
  refine e_int ?_
  refine o_ix hline_ Vw.p hT fun d1 hT => ?_
  refine wa_nil ?_
  refine o_str1 Vw.p hT fun d2 hT => ?_
  refine e_str ?_
  refine o_add Vw.p Vw.p hT fun d3 hT => ?_
  refine we_callT (T := "str") T.str ?_ bt_str
  refine wa_cons ?_
  refine we_ix ?_
  refine we_name 0 ?_
  refine e_int ?_
  refine o_ix hline_ Vw.p hT fun d4 hT => ?_
  refine wa_nil ?_
  refine o_str1 Vw.p hT fun d5 hT => ?_
  refine o_add Vw.p Vw.p hT fun d6 hT => ?_
  refine e_str ?_
  refine o_add Vw.p Vw.p hT fun d7 hT => ?_
  refine we_ix ?_
  refine we_name 0 ?_
  refine e_int ?_
  refine o_ix hline_ Vw.p hT fun d8 hT => ?_
  refine o_add Vw.p Vw.p hT fun d9 hT => ?_
  refine e_str ?_
  refine o_add Vw.p Vw.p hT fun d10 hT => ?_
  refine we_ix ?_
  refine we_name 0 ?_
  refine e_int ?_
  refine o_ix hline_ Vw.p hT fun d11 hT => ?_
  refine o_add Vw.p Vw.p hT fun d12 hT => ?_
  exact hT
theorem ok_l_written (T : Tx K mg base) : DefK P w K mg base "_law_written" 1 T_l_written [] := by
  obtain ⟨f, fd, F, hm⟩ := T.f_l_written
  exact defK_mk F (g_l_written T F) hm (fun kV doc pm an cdv ct us hl => match us, hl with | [a0], _ => rfl)
theorem g_l_digits (T : Tx K mg base) {f : Addr} {fd : FuncData} (F : FunD K "_law_digits" "_law_digits" (defArgs s_l_digits) (defBody s_l_digits) (defScope s_l_digits) [] [] f fd) : FnG P w K mg base 1 f fd ["word"] T_l_digits := by
  have sc := sc_l_digits
  refine fn_okD F sc_l_digits (fun xs m post xp h => ?_) fun cdv A outer s H E B0 H0 xs m post xp hgd hr hT hx => ?_
  · obtain ⟨_, _, h, _⟩ := h; subst h; rfl
  obtain ⟨tword_, word_, rfl, hword_, hT⟩ := hT
  have hT := Sm.opt hT
  refine wss_cons ?_
  refine ws_if ?_
  obtain ⟨kk1, hk2, hT⟩ := jn_s hT
  refine WpT.imp (P := fun z m' => ∃ s3 : Bool, Ok (kk1 s3) (fun d => post (td d) m) (fun _ => False) ∧ s3 = z ∧ m = m') ?_ ?_
  · skip
    refine wt_bool ?_
    refine ww_or ?_
    refine wt_cmp ?_
    refine we_name 0 ?_
    refine e_str ?_
    refine o_eq (RmH.mk (k := 0) hr.dp hr.un) T.sys hword_ Vw.p hT fun b4 hT => (BoolP.of ?_)
    refine ⟨fun hb => ?_, fun hb => ?_⟩
    · skip
      have hT := brT hT hb
      exact ⟨_, hT, rfl, rfl⟩
    · skip
      have hT := brF hT hb
      refine ww_or1 ?_
      refine wt_cmp ?_
      refine we_cv ?_
      refine we_lc1 1 (own := [("sign", 1)]) ?_ rfl sc.nd (show BlkOk ["word", "sign"] (defScope s_l_digits) _ [("sign", 1)] from ⟨rfl, by decide +kernel, by decide +kernel, by decide +kernel, by decide +kernel⟩)
      refine wi_D ?_
      refine we_name 0 ?_
      refine ⟨_, hword_, sm_s hT fun xs5 hT hl => ?_⟩
      refine lcp_filO hT hl (fun L => hword_.l) (fun s0 H0 C cl fp L0 x6 y hxy => ?_) (fun s0 H0 C cl fp L0 x6 y hxy => ?_) (fun ys7 hT => ?_)
      · skip
        have hT := Sm.opt (Sm.of (Q := fun z => z = y) hxy rfl)
        refine wt_cmp ?_
        refine we_name 1 ?_
        refine e_str ?_
        refine o_notin Vw.p Vw.p hT fun b8 hT => (BoolP.of ?_)
        exact ⟨hT, rfl⟩
      · skip
        have hT := Sm.opt (Sm.of (Q := fun z => z = y) hxy rfl)
        refine we_name 1 ?_
        exact ⟨congrArg td hT, rfl⟩
      · skip
        refine e_list ?_
        refine wa_nil ?_
        refine ⟨[], rfl, by simp, ?_⟩
        refine o_ne (RmH.mk (k := 0) hr.dp hr.un) T.sys Vw.p Vw.p hT fun b9 hT => (BoolP.of ?_)
        exact ⟨_, hT, rfl, rfl⟩
  · rintro z m' ⟨s3, hT, rfl, rfl⟩
    subst hk2
    refine ⟨fun hb => ?_, fun hb => ?_⟩
    · skip
      have hT := brT hT hb
      refine wss_one ?_
      refine ws_ret ?_
      refine e_neg ?_
      refine e_int ?_
      refine ⟨_, Vw.p, sm_s hT fun d10 hT => ?_⟩
      exact hT
    · skip
      have hT := brF hT hb
      refine wss_nil ?_
      refine wss_one ?_
      refine ws_ret ?_
      obtain ⟨kk11, hk12, hT⟩ := jn_s hT
      refine we_cv (Wp.imp (P := fun z m' => ∃ s13 : D, Ok (kk11 s13) (fun d => post (td d) m) (fun _ => False) ∧ Cv z (td s13) ∧ m = m') ?_ ?_)
      · skip
        refine we_if ?_
        obtain ⟨kk14, hk15, hT⟩ := jn_s hT
        refine WpT.imp (P := fun z m' => ∃ s16 : Bool, Ok (kk14 s16) (fun d => post (td d) m) (fun _ => False) ∧ s16 = z ∧ m = m') ?_ ?_
        · skip
          refine wt_bool ?_
          refine ww_and ?_
          refine wt_cmp ?_
          refine we_callB (id := "len") T.len ?_ bt_len
          refine wa_cons ?_
          refine we_name 0 ?_
          refine wa_nil ?_
          refine o_len hword_ hT fun d17 hT => ?_
          refine e_int ?_
          refine o_gt Vw.p Vw.p hT fun b18 hT => (BoolP.of ?_)
          refine ⟨fun hb => ?_, fun hb => ?_⟩
          · skip
            have hT := brT hT hb
            refine ww_and1 ?_
            refine wt_cmp ?_
            refine we_ix ?_
            refine we_name 0 ?_
            refine e_int ?_
            refine o_ix hword_ Vw.p hT fun d19 hT => ?_
            refine e_str ?_
            refine o_eq (RmH.mk (k := 0) hr.dp hr.un) T.sys Vw.p Vw.p hT fun b20 hT => (BoolP.of ?_)
            exact ⟨_, hT, rfl, rfl⟩
          · skip
            have hT := brF hT hb
            exact ⟨_, hT, rfl, rfl⟩
        · rintro z m' ⟨s16, hT, rfl, rfl⟩
          subst hk15
          refine ⟨fun hb => ?_, fun hb => ?_⟩
          · skip
            have hT := brT hT hb
            refine e_neg ?_
            refine e_int ?_
            refine ⟨_, Vw.p, sm_s hT fun d21 hT => ?_⟩
            exact ⟨_, hT, Cv.rfl, rfl⟩
          · skip
            have hT := brF hT hb
            refine we_callT (T := "int") T.int ?_ bt_int
            refine wa_cons ?_
            refine we_name 0 ?_
            refine wa_nil ?_
            refine o_int1 hword_ hT fun d22 hT => ?_
            exact ⟨_, hT, Cv.rfl, rfl⟩
      · rintro z m' ⟨s13, hT, hcv, rfl⟩
        subst hk12
        refine ⟨_, hcv, ?_⟩
        exact hT
theorem ok_l_digits (T : Tx K mg base) : DefK P w K mg base "_law_digits" 1 T_l_digits [] := by
  obtain ⟨f, fd, F, hm⟩ := T.f_l_digits
  exact defK_mk F (g_l_digits T F) hm (fun kV doc pm an cdv ct us hl => match us, hl with | [a0], _ => rfl)
theorem g_l_read (T : Tx K mg base) {f : Addr} {fd : FuncData} (F : FunD K "_law_read" "_law_read" (defArgs s_l_read) (defBody s_l_read) (defScope s_l_read) [] [] f fd) : FnG P w K mg base 3 f fd ["text"] T_l_read := by
  have sc := sc_l_read
  refine fn_okD F sc_l_read (fun xs m post xp h => ?_) fun cdv A outer s H E B0 H0 xs m post xp hgd hr hT hx => ?_
  · obtain ⟨_, _, h, _⟩ := h; subst h; rfl
  obtain ⟨ttext_, text_, rfl, htext_, hT⟩ := hT
  have hT := Sm.opt hT
  refine wss_cons ?_
  refine ws_set 1 ?_ sc.nd
  refine we_bm PySem.F.plainAttrs_str PySem.F.slot_str_split ?_
  refine we_name 0 ?_
  refine recv_s htext_ hT fun hT => ?_
  refine wa_cons ?_
  refine e_str ?_
  refine wa_cons ?_
  refine e_int ?_
  refine wa_nil ?_
  refine o_split3 htext_ Vw.p Vw.p hT fun d1 hT => ?_
  refine wss_cons ?_
  refine ws_if ?_
  refine wt_cmp ?_
  refine we_callB (id := "len") T.len ?_ bt_len
  refine wa_cons ?_
  refine we_name 1 ?_
  refine wa_nil ?_
  refine o_len Vw.p hT fun d2 hT => ?_
  refine e_int ?_
  refine o_ne (RmH.mk (k := 2) hr.dp hr.un) T.sys Vw.p Vw.p hT fun b3 hT => (BoolP.of ?_)
  refine ⟨fun hb => ?_, fun hb => ?_⟩
  · skip
    have hT := brT hT hb
    refine wss_one ?_
    refine ws_ret ?_
    refine e_none ?_
    exact hT
  · skip
    have hT := brF hT hb
    refine wss_nil ?_
    refine wss_cons ?_
    refine ws_set 2 ?_ sc.nd
    refine e_tup ?_
    refine wa_cons ?_
    refine e_call (ok_l_digits T) hgd hr xt0 ?_
    refine wa_cons ?_
    refine we_ix ?_
    refine we_name 1 ?_
    refine e_int ?_
    refine o_ix Vw.p Vw.p hT fun d4 hT => ?_
    refine wa_nil ?_
    refine ⟨_, _, rfl, Vw.p, sm_s hT fun d5 hT => ?_⟩
    refine wa_cons ?_
    refine e_call (ok_l_digits T) hgd hr xt0 ?_
    refine wa_cons ?_
    refine we_ix ?_
    refine we_name 1 ?_
    refine e_int ?_
    refine o_ix Vw.p Vw.p hT fun d6 hT => ?_
    refine wa_nil ?_
    refine ⟨_, _, rfl, Vw.p, sm_s hT fun d7 hT => ?_⟩
    refine wa_cons ?_
    refine we_ix ?_
    refine we_name 1 ?_
    refine e_int ?_
    refine o_ix Vw.p Vw.p hT fun d8 hT => ?_
    refine wa_cons ?_
    refine we_ix ?_
    refine we_name 1 ?_
    refine e_int ?_
    refine o_ix Vw.p Vw.p hT fun d9 hT => ?_
    refine wa_nil ?_
    refine ⟨[_, _, _, _], rfl, by simp, ?_⟩
    refine wss_one ?_
    refine ws_ret ?_
    obtain ⟨kk10, hk11, hT⟩ := jn_s hT
    refine we_cv (Wp.imp (P := fun z m' => ∃ s12 : D, Ok (kk10 s12) (fun d => post (td d) m) (fun _ => False) ∧ Cv z (td s12) ∧ m = m') ?_ ?_)
    · skip
      refine we_if ?_
      refine t_val ?_
      refine e_call (ok_l_is_line T) hgd hr xt0 ?_
      refine wa_cons ?_
      refine we_name 2 ?_
      refine wa_nil ?_
      refine ⟨_, _, rfl, Vw.p, sm_s hT fun d13 hT => ?_⟩
      refine ⟨_, Vw.p, sm_s hT fun b14 hT => ?_⟩
      refine ⟨fun hb => ?_, fun hb => ?_⟩
      · skip
        have hT := brT hT hb
        refine we_name 2 ?_
        exact ⟨_, hT, Cv.rfl, rfl⟩
      · skip
        have hT := brF hT hb
        refine e_none ?_
        exact ⟨_, hT, Cv.rfl, rfl⟩
    · rintro z m' ⟨s12, hT, hcv, rfl⟩
      subst hk11
      refine ⟨_, hcv, ?_⟩
      exact hT
theorem ok_l_read (T : Tx K mg base) : DefK P w K mg base "_law_read" 3 T_l_read [] := by
  obtain ⟨f, fd, F, hm⟩ := T.f_l_read
  exact defK_mk F (g_l_read T F) hm (fun kV doc pm an cdv ct us hl => match us, hl with | [a0], _ => rfl)
theorem g_l_equal (T : Tx K mg base) {f : Addr} {fd : FuncData} (F : FunD K "_law_equal" "_law_equal" (defArgs s_l_equal) (defBody s_l_equal) (defScope s_l_equal) [] [] f fd) : FnG P w K mg base 1 f fd ["told", "due"] T_l_equal := by
  have sc := sc_l_equal
  refine fn_okD F sc_l_equal (fun xs m post xp h => ?_) fun cdv A outer s H E B0 H0 xs m post xp hgd hr hT hx => ?_
  · obtain ⟨_, _, _, _, h, _⟩ := h; subst h; rfl
  obtain ⟨ttold_, told_, tdue_, due_, rfl, htold_, hdue_, hT⟩ := hT
  have hT := Sm.opt hT
  refine wss_one ?_
  refine ws_ret ?_
  obtain ⟨kk1, hk2, hT⟩ := jn_s hT
  refine we_cv (Wp.imp (P := fun z m' => ∃ s3 : D, Ok (kk1 s3) (fun d => post (td d) m) (fun _ => False) ∧ Cv z (td s3) ∧ m = m') ?_ ?_)
  · skip
    refine we_and ?_
    refine we_cmp ?_
    refine we_name 0 ?_
    refine we_name 1 ?_
    refine o_eq (RmH.mk (k := 0) hr.dp hr.un) T.sys htold_ hdue_ hT fun b4 hT => (BoolP.of ?_)
    refine ⟨fun hb => ?_, fun hb => ?_⟩
    · skip
      have hT := brT hT hb
      refine we_one ?_
      refine we_cmp ?_
      refine we_callB (id := "repr") T.repr ?_ bt_repr
      refine wa_cons ?_
      refine we_name 0 ?_
      refine wa_nil ?_
      refine o_repr hgd (RmH.mk (k := 0) hr.dp hr.un) T.sys htold_ hT fun d5 hT => ?_
      refine we_callB (id := "repr") T.repr ?_ bt_repr
      refine wa_cons ?_
      refine we_name 1 ?_
      refine wa_nil ?_
      refine o_repr hgd (RmH.mk (k := 0) hr.dp hr.un) T.sys hdue_ hT fun d6 hT => ?_
      refine o_eq (RmH.mk (k := 0) hr.dp hr.un) T.sys Vw.p Vw.p hT fun b7 hT => ?_
      exact ⟨_, hT, cv_bl, rfl⟩
    · skip
      have hT := brF hT hb
      exact ⟨_, hT, cv_bl, rfl⟩
  · rintro z m' ⟨s3, hT, hcv, rfl⟩
    subst hk2
    refine ⟨_, hcv, ?_⟩
    exact hT
theorem ok_l_equal (T : Tx K mg base) : DefK P w K mg base "_law_equal" 1 T_l_equal [] := by
  obtain ⟨f, fd, F, hm⟩ := T.f_l_equal
  exact defK_mk F (g_l_equal T F) hm (fun kV doc pm an cdv ct us hl => match us, hl with | [a0, a1], _ => rfl)
theorem g_l_odd_cell (T : Tx K mg base) {f : Addr} {fd : FuncData} (F : FunD K "_law_odd_cell" "_law_odd_cell" (defArgs s_l_odd_cell) (defBody s_l_odd_cell) (defScope s_l_odd_cell) [] [] f fd) : FnG P w K mg base 2 f fd ["box", "cell"] T_l_odd_cell := by
  have sc := sc_l_odd_cell
  refine fn_okD F sc_l_odd_cell (fun xs m post xp h => ?_) fun cdv A outer s H E B0 H0 xs m post xp hgd hr hT hx => ?_
  · obtain ⟨_, _, _, _, h, _⟩ := h; subst h; rfl
  obtain ⟨pbox_, box_, cell_, m1, rfl, rfl, hT⟩ := hT
  have hT := Sm.opt hT
  refine wss_cons ?_
  refine ws_par 2 3 ?_ rfl sc.nd
  refine wa_cons ?_
  refine e_callP (ok_l_take T) hgd hr xt0 ?_
  refine wa_cons ?_
  refine we_name 0 ?_
  refine wa_cons ?_
  refine e_int ?_
  refine wa_nil ?_
  refine ⟨_, .refl _, ?_⟩
  refine ⟨_, _, _, _, _, rfl, rfl, Vw.p, sm_s hT fun d1 hT => ?_⟩
  refine ⟨_, .refl _, ?_⟩
  refine wa_cons ?_
  refine e_callP (ok_l_take T) hgd hr xt0 ?_
  refine wa_cons ?_
  refine we_name 0 ?_
  refine wa_cons ?_
  refine we_callB (id := "len") T.len ?_ bt_len
  refine wa_cons ?_
  refine we_name 1 ?_
  refine wa_nil ?_
  refine o_len Vw.p hT fun d2 hT => ?_
  refine wa_nil ?_
  refine ⟨_, .refl _, ?_⟩
  refine ⟨_, _, _, _, _, rfl, rfl, Vw.p, sm_s hT fun d3 hT => ?_⟩
  refine ⟨_, .refl _, ?_⟩
  refine wa_nil ?_
  refine ⟨_, _, rfl, ?_⟩
  refine wss_cons ?_
  refine ws_if ?_
  refine wt_cmp ?_
  refine we_name 2 ?_
  refine e_int ?_
  refine o_lt Vw.p Vw.p hT fun b4 hT => (BoolP.of ?_)
  refine ⟨fun hb => ?_, fun hb => ?_⟩
  · skip
    have hT := brT hT hb
    refine wss_cons ?_
    refine ws_set 4 ?_ sc.nd
    refine we_ix ?_
    refine e_str ?_
    refine e_callP (ok_l_take T) hgd hr xt0 ?_
    refine wa_cons ?_
    refine we_name 0 ?_
    refine wa_cons ?_
    refine e_int ?_
    refine wa_nil ?_
    refine ⟨_, .refl _, ?_⟩
    refine ⟨_, _, _, _, _, rfl, rfl, Vw.p, sm_s hT fun d5 hT => ?_⟩
    refine ⟨_, .refl _, ?_⟩
    refine o_ix Vw.p Vw.p hT fun d6 hT => ?_
    refine wss_one ?_
    refine ws_ret ?_
    refine we_ix ?_
    refine e_list ?_
    refine wa_cons ?_
    refine we_bin ?_
    refine we_bin ?_
    refine we_slice ?_
    refine we_name 1 ?_
    refine wo_none ?_
    refine e_part ?_
    refine we_name 3 ?_
    refine ⟨_, Vw.p, sm_s hT fun i7 hT => ?_⟩
    refine o_sl Vw.p hT fun d8 hT => ?_
    refine we_name 4 ?_
    refine o_add Vw.p Vw.p hT fun d9 hT => ?_
    refine we_slice ?_
    refine we_name 1 ?_
    refine e_part ?_
    refine we_bin ?_
    refine we_name 3 ?_
    refine e_int ?_
    refine o_add Vw.p Vw.p hT fun d10 hT => ?_
    refine ⟨_, Vw.p, sm_s hT fun i11 hT => ?_⟩
    refine wo_none ?_
    refine o_sl Vw.p hT fun d12 hT => ?_
    refine o_add Vw.p Vw.p hT fun d13 hT => ?_
    refine wa_cons ?_
    refine we_bin ?_
    refine we_bin ?_
    refine we_slice ?_
    refine we_name 1 ?_
    refine wo_none ?_
    refine e_part ?_
    refine we_name 3 ?_
    refine ⟨_, Vw.p, sm_s hT fun i14 hT => ?_⟩
    refine o_sl Vw.p hT fun d15 hT => ?_
    refine we_name 4 ?_
    refine o_add Vw.p Vw.p hT fun d16 hT => ?_
    refine we_slice ?_
    refine we_name 1 ?_
    refine e_part ?_
    refine we_name 3 ?_
    refine ⟨_, Vw.p, sm_s hT fun i17 hT => ?_⟩
    refine wo_none ?_
    refine o_sl Vw.p hT fun d18 hT => ?_
    refine o_add Vw.p Vw.p hT fun d19 hT => ?_
    refine wa_cons ?_
    refine we_bin ?_
    refine we_name 1 ?_
    refine we_name 4 ?_
    refine o_add Vw.p Vw.p hT fun d20 hT => ?_
    refine wa_cons ?_
    refine we_bin ?_
    refine we_name 4 ?_
    refine we_name 1 ?_
    refine o_add Vw.p Vw.p hT fun d21 hT => ?_
    refine wa_nil ?_
    refine ⟨[_, _, _, _], rfl, by simp, ?_⟩
    refine we_name 2 ?_
    refine o_ix Vw.p Vw.p hT fun d22 hT => ?_
    exact hT
  · skip
    have hT := brF hT hb
    refine wss_nil ?_
    refine wss_one ?_
    refine ws_ret ?_
    refine we_ix ?_
    refine e_list ?_
    refine wa_cons ?_
    refine we_bin ?_
    refine we_name 1 ?_
    refine we_bin ?_
    refine e_str ?_
    refine we_bin ?_
    refine e_int ?_
    refine we_callB (id := "len") T.len ?_ bt_len
    refine wa_cons ?_
    refine we_name 1 ?_
    refine wa_nil ?_
    refine o_len Vw.p hT fun d23 hT => ?_
    refine o_sub Vw.p Vw.p hT fun d24 hT => ?_
    refine o_mul Vw.p Vw.p hT fun d25 hT => ?_
    refine o_add Vw.p Vw.p hT fun d26 hT => ?_
    refine wa_cons ?_
    refine we_slice ?_
    refine we_name 1 ?_
    refine e_part ?_
    refine e_int ?_
    refine ⟨_, Vw.p, sm_s hT fun i27 hT => ?_⟩
    refine wo_none ?_
    refine o_sl Vw.p hT fun d28 hT => ?_
    refine wa_cons ?_
    refine e_str ?_
    refine wa_cons ?_
    refine e_none ?_
    refine wa_cons ?_
    refine e_list ?_
    refine wa_cons ?_
    refine we_name 1 ?_
    refine wa_nil ?_
    refine ⟨[_], rfl, by simp, ?_⟩
    refine wa_cons ?_
    refine we_bin ?_
    refine we_name 1 ?_
    refine e_str ?_
    refine o_add Vw.p Vw.p hT fun d29 hT => ?_
    refine wa_nil ?_
    refine ⟨[_, _, _, _, _, _], rfl, by simp, ?_⟩
    refine we_bin ?_
    refine we_name 2 ?_
    refine e_int ?_
    refine o_sub Vw.p Vw.p hT fun d30 hT => ?_
    refine o_ix Vw.p Vw.p hT fun d31 hT => ?_
    exact hT
theorem ok_l_odd_cell (T : Tx K mg base) : DefK P w K mg base "_law_odd_cell" 2 T_l_odd_cell [] := by
  obtain ⟨f, fd, F, hm⟩ := T.f_l_odd_cell
  exact defK_mk F (g_l_odd_cell T F) hm (fun kV doc pm an cdv ct us hl => match us, hl with | [a0, a1], _ => rfl)
end
end K01

set_option Elab.async false
set_option linter.all false
set_option maxRecDepth 100000
set_option maxHeartbeats 4000000

namespace K01
open PySem PySem.Spec PyProof.Rows L2 Ty Dy
variable [CE]

section
variable {P : Program} {w : World} {K : PySem.W.Frag} {mg : Str → Option Value} {base : Heap}

theorem g_l_odd_text (T : Tx K mg base) {f : Addr} {fd : FuncData} (F : FunD K "_law_odd_text" "_law_odd_text" (defArgs s_l_odd_text) (defBody s_l_odd_text) (defScope s_l_odd_text) [] [] f fd) : FnG P w K mg base 2 f fd ["box", "text"] T_l_odd_text := by
  have sc := sc_l_odd_text
  refine fn_okD F sc_l_odd_text (fun xs m post xp h => ?_) fun cdv A outer s H E B0 H0 xs m post xp hgd hr hT hx => ?_
  · obtain ⟨_, _, _, _, h, _⟩ := h; subst h; rfl
  obtain ⟨pbox_, box_, text_, m1, rfl, rfl, hT⟩ := hT
  have hT := Sm.opt hT
  refine wss_cons ?_
  refine ws_par 2 3 ?_ rfl sc.nd
  refine wa_cons ?_
  refine e_callP (ok_l_take T) hgd hr xt0 ?_
  refine wa_cons ?_
  refine we_name 0 ?_
  refine wa_cons ?_
  refine e_int ?_
  refine wa_nil ?_
  refine ⟨_, .refl _, ?_⟩
  refine ⟨_, _, _, _, _, rfl, rfl, Vw.p, sm_s hT fun d1 hT => ?_⟩
  refine ⟨_, .refl _, ?_⟩
  refine wa_cons ?_
  refine e_callP (ok_l_take T) hgd hr xt0 ?_
  refine wa_cons ?_
  refine we_name 0 ?_
  refine wa_cons ?_
  refine we_bin ?_
  refine we_callB (id := "len") T.len ?_ bt_len
  refine wa_cons ?_
  refine we_name 1 ?_
  refine wa_nil ?_
  refine o_len Vw.p hT fun d2 hT => ?_
  refine e_int ?_
  refine o_add Vw.p Vw.p hT fun d3 hT => ?_
  refine wa_nil ?_
  refine ⟨_, .refl _, ?_⟩
  refine ⟨_, _, _, _, _, rfl, rfl, Vw.p, sm_s hT fun d4 hT => ?_⟩
  refine ⟨_, .refl _, ?_⟩
  refine wa_nil ?_
  refine ⟨_, _, rfl, ?_⟩
  refine wss_cons ?_
  refine ws_if ?_
  refine wt_cmp ?_
  refine we_name 2 ?_
  refine e_int ?_
  refine o_eq (RmH.mk (k := 1) hr.dp hr.un) T.sys Vw.p Vw.p hT fun b5 hT => (BoolP.of ?_)
  refine ⟨fun hb => ?_, fun hb => ?_⟩
  · skip
    have hT := brT hT hb
    refine wss_one ?_
    refine ws_ret ?_
    refine we_bin ?_
    refine we_bin ?_
    refine we_slice ?_
    refine we_name 1 ?_
    refine wo_none ?_
    refine e_part ?_
    refine we_name 3 ?_
    refine ⟨_, Vw.p, sm_s hT fun i6 hT => ?_⟩
    refine o_sl Vw.p hT fun d7 hT => ?_
    refine we_ix ?_
    refine e_str ?_
    refine e_callP (ok_l_take T) hgd hr xt0 ?_
    refine wa_cons ?_
    refine we_name 0 ?_
    refine wa_cons ?_
    refine e_int ?_
    refine wa_nil ?_
    refine ⟨_, .refl _, ?_⟩
    refine ⟨_, _, _, _, _, rfl, rfl, Vw.p, sm_s hT fun d8 hT => ?_⟩
    refine ⟨_, .refl _, ?_⟩
    refine o_ix Vw.p Vw.p hT fun d9 hT => ?_
    refine o_add Vw.p Vw.p hT fun d10 hT => ?_
    refine we_slice ?_
    refine we_name 1 ?_
    refine e_part ?_
    refine we_name 3 ?_
    refine ⟨_, Vw.p, sm_s hT fun i11 hT => ?_⟩
    refine wo_none ?_
    refine o_sl Vw.p hT fun d12 hT => ?_
    refine o_add Vw.p Vw.p hT fun d13 hT => ?_
    exact hT
  · skip
    have hT := brF hT hb
    refine wss_nil ?_
    refine wss_one ?_
    refine ws_ret ?_
    refine we_ix ?_
    refine e_list ?_
    refine wa_cons ?_
    refine we_bin ?_
    refine we_name 1 ?_
    refine we_bin ?_
    refine e_str ?_
    refine we_bin ?_
    refine e_int ?_
    refine we_callB (id := "len") T.len ?_ bt_len
    refine wa_cons ?_
    refine we_name 1 ?_
    refine wa_nil ?_
    refine o_len Vw.p hT fun d14 hT => ?_
    refine o_sub Vw.p Vw.p hT fun d15 hT => ?_
    refine o_mul Vw.p Vw.p hT fun d16 hT => ?_
    refine o_add Vw.p Vw.p hT fun d17 hT => ?_
    refine wa_cons ?_
    refine we_slice ?_
    refine we_name 1 ?_
    refine e_part ?_
    refine e_int ?_
    refine ⟨_, Vw.p, sm_s hT fun i18 hT => ?_⟩
    refine wo_none ?_
    refine o_sl Vw.p hT fun d19 hT => ?_
    refine wa_cons ?_
    refine e_none ?_
    refine wa_cons ?_
    refine e_int ?_
    refine wa_cons ?_
    refine e_list ?_
    refine wa_cons ?_
    refine we_name 1 ?_
    refine wa_nil ?_
    refine ⟨[_], rfl, by simp, ?_⟩
    refine wa_cons ?_
    refine e_tup ?_
    refine wa_cons ?_
    refine we_name 1 ?_
    refine wa_nil ?_
    refine ⟨[_], rfl, by simp, ?_⟩
    refine wa_cons ?_
    refine e_bool ?_
    refine wa_cons ?_
    refine we_bin ?_
    refine we_name 1 ?_
    refine e_str ?_
    refine o_add Vw.p Vw.p hT fun d20 hT => ?_
    refine wa_nil ?_
    refine ⟨[_, _, _, _, _, _, _, _], rfl, by simp, ?_⟩
    refine we_name 2 ?_
    refine o_ix Vw.p Vw.p hT fun d21 hT => ?_
    exact hT
theorem ok_l_odd_text (T : Tx K mg base) : DefK P w K mg base "_law_odd_text" 2 T_l_odd_text [] := by
  obtain ⟨f, fd, F, hm⟩ := T.f_l_odd_text
  exact defK_mk F (g_l_odd_text T F) hm (fun kV doc pm an cdv ct us hl => match us, hl with | [a0, a1], _ => rfl)
theorem g_l_odd (T : Tx K mg base) {f : Addr} {fd : FuncData} (F : FunD K "_law_odd" "_law_odd" (defArgs s_l_odd) (defBody s_l_odd) (defScope s_l_odd) [] [] f fd) : FnG P w K mg base 3 f fd ["box", "line"] T_l_odd := by
  have sc := sc_l_odd
  refine fn_okD F sc_l_odd (fun xs m post xp h => ?_) fun cdv A outer s H E B0 H0 xs m post xp hgd hr hT hx => ?_
  · obtain ⟨_, _, _, _, h, _⟩ := h; subst h; rfl
  obtain ⟨pbox_, box_, line_, m1, rfl, rfl, hT⟩ := hT
  have hT := Sm.opt hT
  refine wss_leE ?_
  refine wss_cons ?_
  refine ws_par 2 3 ?_ rfl sc.nd
  refine wa_cons ?_
  refine e_callP (ok_l_take T) hgd hr xt0 ?_
  refine wa_cons ?_
  refine we_name 0 ?_
  refine wa_cons ?_
  refine e_int ?_
  refine wa_nil ?_
  refine ⟨_, .refl _, ?_⟩
  refine ⟨_, _, _, _, _, rfl, rfl, Vw.p, sm_s hT fun d1 hT => ?_⟩
  refine ⟨_, .refl _, ?_⟩
  refine wa_cons ?_
  refine e_callP (ok_l_take T) hgd hr xt0 ?_
  refine wa_cons ?_
  refine we_name 0 ?_
  refine wa_cons ?_
  refine e_int ?_
  refine wa_nil ?_
  refine ⟨_, .refl _, ?_⟩
  refine ⟨_, _, _, _, _, rfl, rfl, Vw.p, sm_s hT fun d2 hT => ?_⟩
  refine ⟨_, .refl _, ?_⟩
  refine wa_nil ?_
  refine ⟨_, _, rfl, ?_⟩
  refine wss_cons ?_
  refine ws_set 4 ?_ sc.nd
  refine we_perm ?_
  refine we_callT (T := "list") T.list ?_ bt_list
  refine wa_cons ?_
  refine we_name 1 ?_
  refine wa_nil ?_
  refine o_list1O Vw.p hT fun x3 p4 hT => ?_
  refine ⟨_, ahead, ?_⟩
  refine wss_cons ?_
  obtain ⟨kk6, hk7, hT⟩ := jn_s hT
  refine ws_cut (fun ρ' m' => ∃ (s8 : List D × List D) (x9 : Option TV) (x10 : Option TV), Ok (kk6 s8) (fun r => post (td r.1) ((pbox_, mC (.lst r.2)) :: m1)) (fun _ => False) ∧ [some (tv (Ref.mk pbox_)), some (td (line_)), some (td (d1.1)), some (td (d2.1)), some (tv (Ref.mk p4)), x9, x10] = ρ' ∧ Le ((p4, mC (.lst s8.2)) :: (pbox_, mC (.lst s8.1)) :: m1) m') ?_ ?_
  · skip
    refine ws_if ?_
    refine wt_cmp ?_
    refine we_name 2 ?_
    refine e_int ?_
    refine o_lt Vw.p Vw.p hT fun b11 hT => (BoolP.of ?_)
    refine ⟨fun hb => ?_, fun hb => ?_⟩
    · skip
      have hT := brT hT hb
      refine wss_cons ?_
      refine ws_par 5 6 ?_ rfl sc.nd
      refine wa_cons ?_
      refine e_list ?_
      refine wa_cons ?_
      refine e_neg ?_
      refine e_int ?_
      refine ⟨_, Vw.p, sm_s hT fun d12 hT => ?_⟩
      refine wa_cons ?_
      refine e_bool ?_
      refine wa_cons ?_
      refine e_bool ?_
      refine wa_cons ?_
      refine e_none ?_
      refine wa_cons ?_
      refine e_str ?_
      refine wa_cons ?_
      refine e_str ?_
      refine wa_cons ?_
      refine e_tup ?_
      refine wa_cons ?_
      refine e_int ?_
      refine wa_nil ?_
      refine ⟨[_], rfl, by simp, ?_⟩
      refine wa_cons ?_
      refine e_list ?_
      refine wa_cons ?_
      refine e_int ?_
      refine wa_nil ?_
      refine ⟨[_], rfl, by simp, ?_⟩
      refine wa_cons ?_
      refine we_bin ?_
      refine e_int ?_
      refine e_int ?_
      refine o_pow Vw.p Vw.p hT fun d13 hT => ?_
      refine wa_cons ?_
      refine e_neg ?_
      refine we_bin ?_
      refine e_int ?_
      refine e_int ?_
      refine o_pow Vw.p Vw.p hT fun d14 hT => ?_
      refine ⟨_, Vw.p, sm_s hT fun d15 hT => ?_⟩
      refine wa_cons ?_
      refine e_int ?_
      refine wa_cons ?_
      refine e_int ?_
      refine wa_nil ?_
      refine ⟨[_, _, _, _, _, _, _, _, _, _, _, _], rfl, by simp, ?_⟩
      refine wa_cons ?_
      refine e_callP (ok_l_take T) hgd hr xt0 ?_
      refine wa_cons ?_
      refine we_name 0 ?_
      refine wa_cons ?_
      refine e_int ?_
      refine wa_nil ?_
      refine ⟨_, .swap _ _ _, ?_⟩
      refine ⟨_, _, _, _, _, rfl, rfl, Vw.p, sm_s hT fun d16 hT => ?_⟩
      refine ⟨_, .swap _ _ _, ?_⟩
      refine wa_nil ?_
      refine ⟨_, _, rfl, ?_⟩
      refine wss_cons ?_
      refine ws_asg ?_
      refine we_ix ?_
      refine we_name 5 ?_
      refine we_name 3 ?_
      refine o_ix Vw.p Vw.p hT fun d17 hT => ?_
      refine g_put ?_
      refine we_name 4 ?_
      refine we_name 2 ?_
      refine ⟨_, 0, _, _, rfl, Vw.p, rfl, sm_s hT fun x18 hT => ?_⟩
      refine wss_one ?_
      refine ws_asg ?_
      obtain ⟨kk19, hk20, hT⟩ := jn_s hT
      refine we_cv (Wp.imp (P := fun z m' => ∃ s21 : D, Ok (kk19 s21) (fun r => post (td r.1) ((pbox_, mC (.lst r.2)) :: m1)) (fun _ => False) ∧ Cv z (td s21) ∧ ((p4, mC (.lst x18)) :: (pbox_, mC (.lst d16.2)) :: m1) = m') ?_ ?_)
      · skip
        refine we_if ?_
        refine wt_cmp ?_
        refine we_bin ?_
        refine we_name 6 ?_
        refine e_int ?_
        refine o_mod Vw.p Vw.p hT fun d22 hT => ?_
        refine e_int ?_
        refine o_eq (RmH.mk (k := 2) hr.dp hr.un) T.sys Vw.p Vw.p hT fun b23 hT => (BoolP.of ?_)
        refine ⟨fun hb => ?_, fun hb => ?_⟩
        · skip
          have hT := brT hT hb
          refine we_ix ?_
          refine we_name 5 ?_
          refine we_callT (T := "int") T.int ?_ bt_int
          refine wa_cons ?_
          refine we_bin ?_
          refine we_name 6 ?_
          refine e_int ?_
          refine o_fdiv Vw.p Vw.p hT fun d24 hT => ?_
          refine wa_nil ?_
          refine o_int1 Vw.p hT fun d25 hT => ?_
          refine o_ix Vw.p Vw.p hT fun d26 hT => ?_
          exact ⟨_, hT, Cv.rfl, rfl⟩
        · skip
          have hT := brF hT hb
          refine we_ix ?_
          refine we_name 4 ?_
          refine we_bin ?_
          refine e_int ?_
          refine we_name 2 ?_
          refine o_sub Vw.p Vw.p hT fun d27 hT => ?_
          refine o_ix (Vw.cell 0 rfl rfl) Vw.p hT fun d28 hT => ?_
          exact ⟨_, hT, Cv.rfl, rfl⟩
      · rintro z m' ⟨s21, hT, hcv, rfl⟩
        subst hk20
        refine ⟨_, hcv, ?_⟩
        refine g_put ?_
        refine we_name 4 ?_
        refine we_bin ?_
        refine e_int ?_
        refine we_name 2 ?_
        refine o_sub Vw.p Vw.p hT fun d29 hT => ?_
        refine ⟨_, 0, _, _, rfl, Vw.p, rfl, sm_s hT fun x30 hT => ?_⟩
        exact ⟨_, _, _, hT, rfl, Le.rfl⟩
    · skip
      have hT := brF hT hb
      refine wss_nil ?_
      exact ⟨_, _, _, hT, rfl, Le.rfl⟩
  · rintro ρ' m' ⟨s8, x9, x10, hT, rfl, hle⟩
    subst hk7
    refine wss_le hle ?_
    refine wss_cons ?_
    obtain ⟨kk31, hk32, hT⟩ := jn_s hT
    refine ws_cut (fun ρ' m' => ∃ (s33 : List D × List D), Ok (kk31 s33) (fun r => post (td r.1) ((pbox_, mC (.lst r.2)) :: m1)) (fun _ => False) ∧ [some (tv (Ref.mk pbox_)), some (td (line_)), some (td (d1.1)), some (td (d2.1)), some (tv (Ref.mk p4)), x9, x10] = ρ' ∧ Le ((p4, mC (.lst s33.2)) :: (pbox_, mC (.lst s33.1)) :: m1) m') ?_ ?_
    · skip
      refine ws_if ?_
      refine wt_cmp ?_
      refine we_name 2 ?_
      refine e_int ?_
      refine o_eq (RmH.mk (k := 2) hr.dp hr.un) T.sys Vw.p Vw.p hT fun b34 hT => (BoolP.of ?_)
      refine ⟨fun hb => ?_, fun hb => ?_⟩
      · skip
        have hT := brT hT hb
        refine wss_one ?_
        refine ws_asg ?_
        refine e_callP (ok_l_odd_cell T) hgd hr xt0 ?_
        refine wa_cons ?_
        refine we_name 0 ?_
        refine wa_cons ?_
        refine we_ix ?_
        refine we_name 1 ?_
        refine e_int ?_
        refine o_ix Vw.p Vw.p hT fun d35 hT => ?_
        refine wa_nil ?_
        refine ⟨_, .swap _ _ _, ?_⟩
        refine ⟨_, _, _, _, rfl, rfl, sm_s hT fun d36 hT => ?_⟩
        refine ⟨_, .swap _ _ _, ?_⟩
        refine g_put ?_
        refine we_name 4 ?_
        refine e_int ?_
        refine ⟨_, 0, _, _, rfl, Vw.p, rfl, sm_s hT fun x37 hT => ?_⟩
        exact ⟨_, hT, rfl, Le.rfl⟩
      · skip
        have hT := brF hT hb
        refine wss_nil ?_
        exact ⟨_, hT, rfl, Le.rfl⟩
    · rintro ρ' m' ⟨s33, hT, rfl, hle⟩
      subst hk32
      refine wss_le hle ?_
      refine wss_cons ?_
      obtain ⟨kk38, hk39, hT⟩ := jn_s hT
      refine ws_cut (fun ρ' m' => ∃ (s40 : List D × List D), Ok (kk38 s40) (fun r => post (td r.1) ((pbox_, mC (.lst r.2)) :: m1)) (fun _ => False) ∧ [some (tv (Ref.mk pbox_)), some (td (line_)), some (td (d1.1)), some (td (d2.1)), some (tv (Ref.mk p4)), x9, x10] = ρ' ∧ Le ((p4, mC (.lst s40.2)) :: (pbox_, mC (.lst s40.1)) :: m1) m') ?_ ?_
      · skip
        refine ws_if ?_
        refine wt_cmp ?_
        refine we_name 2 ?_
        refine e_int ?_
        refine o_eq (RmH.mk (k := 2) hr.dp hr.un) T.sys Vw.p Vw.p hT fun b41 hT => (BoolP.of ?_)
        refine ⟨fun hb => ?_, fun hb => ?_⟩
        · skip
          have hT := brT hT hb
          refine wss_one ?_
          refine ws_asg ?_
          refine e_callP (ok_l_odd_text T) hgd hr xt0 ?_
          refine wa_cons ?_
          refine we_name 0 ?_
          refine wa_cons ?_
          refine we_ix ?_
          refine we_name 1 ?_
          refine e_int ?_
          refine o_ix Vw.p Vw.p hT fun d42 hT => ?_
          refine wa_nil ?_
          refine ⟨_, .swap _ _ _, ?_⟩
          refine ⟨_, _, _, _, rfl, rfl, sm_s hT fun d43 hT => ?_⟩
          refine ⟨_, .swap _ _ _, ?_⟩
          refine g_put ?_
          refine we_name 4 ?_
          refine e_int ?_
          refine ⟨_, 0, _, _, rfl, Vw.p, rfl, sm_s hT fun x44 hT => ?_⟩
          exact ⟨_, hT, rfl, Le.rfl⟩
        · skip
          have hT := brF hT hb
          refine wss_nil ?_
          exact ⟨_, hT, rfl, Le.rfl⟩
      · rintro ρ' m' ⟨s40, hT, rfl, hle⟩
        subst hk39
        refine wss_le hle ?_
        refine wss_cons ?_
        refine ws_if ?_
        refine wt_cmp ?_
        refine we_name 2 ?_
        refine e_int ?_
        refine o_eq (RmH.mk (k := 2) hr.dp hr.un) T.sys Vw.p Vw.p hT fun b45 hT => (BoolP.of ?_)
        refine ⟨fun hb => ?_, fun hb => ?_⟩
        · skip
          have hT := brT hT hb
          refine wss_frz 4 0 rfl rfl ?_
          refine wss_cons ?_
          refine ws_set 5 ?_ sc.nd
          refine e_list ?_
          refine wa_cons ?_
          refine we_callT (T := "tuple") T.tuple ?_ bt_tuple
          refine wa_cons ?_
          refine we_slice ?_
          refine we_name 4 ?_
          refine wo_none ?_
          refine e_part ?_
          refine e_int ?_
          refine ⟨_, Vw.p, sm_s hT fun i46 hT => ?_⟩
          refine o_sl Vw.p hT fun d47 hT => ?_
          refine wa_nil ?_
          refine o_tuple1 Vw.p hT fun d48 hT => ?_
          refine wa_cons ?_
          refine we_callT (T := "tuple") T.tuple ?_ bt_tuple
          refine wa_cons ?_
          refine we_bin ?_
          refine we_name 4 ?_
          refine e_list ?_
          refine wa_cons ?_
          refine e_str ?_
          refine wa_nil ?_
          refine ⟨[_], rfl, by simp, ?_⟩
          refine o_add Vw.p Vw.p hT fun d49 hT => ?_
          refine wa_nil ?_
          refine o_tuple1 Vw.p hT fun d50 hT => ?_
          refine wa_cons ?_
          refine we_name 4 ?_
          refine wa_cons ?_
          refine e_tup ?_
          refine wa_nil ?_
          refine ⟨[], rfl, by simp, ?_⟩
          refine wa_cons ?_
          refine e_none ?_
          refine wa_cons ?_
          refine e_str ?_
          refine wa_cons ?_
          refine we_callT (T := "tuple") T.tuple ?_ bt_tuple
          refine wa_cons ?_
          refine we_slice ?_
          refine we_name 4 ?_
          refine e_part ?_
          refine e_int ?_
          refine ⟨_, Vw.p, sm_s hT fun i51 hT => ?_⟩
          refine wo_none ?_
          refine o_sl Vw.p hT fun d52 hT => ?_
          refine wa_nil ?_
          refine o_tuple1 Vw.p hT fun d53 hT => ?_
          refine wa_cons ?_
          refine e_int ?_
          refine wa_nil ?_
          refine ⟨[_, _, _, _, _, _, _, _], rfl, by simp, ?_⟩
          refine wss_one ?_
          refine ws_ret ?_
          refine we_ix ?_
          refine we_bin ?_
          refine we_name 5 ?_
          refine e_list ?_
          refine wa_cons ?_
          refine we_callT (T := "dict") T.dict ?_ bt_dict
          refine wa_cons ?_
          refine e_list ?_
          refine wa_cons ?_
          refine e_tup ?_
          refine wa_cons ?_
          refine e_str ?_
          refine wa_cons ?_
          refine we_name 1 ?_
          refine wa_nil ?_
          refine ⟨[_, _], rfl, by simp, ?_⟩
          refine wa_nil ?_
          refine ⟨[_], rfl, by simp, ?_⟩
          refine wa_nil ?_
          refine o_dict1 rfl Vw.p hT fun d54 hT => ?_
          refine wa_cons ?_
          refine e_tup ?_
          refine wa_cons ?_
          refine we_name 1 ?_
          refine wa_nil ?_
          refine ⟨[_], rfl, by simp, ?_⟩
          refine wa_cons ?_
          refine e_list ?_
          refine wa_cons ?_
          refine we_name 1 ?_
          refine wa_nil ?_
          refine ⟨[_], rfl, by simp, ?_⟩
          refine wa_cons ?_
          refine we_callT (T := "tuple") T.tuple ?_ bt_tuple
          refine wa_cons ?_
          refine we_bin ?_
          refine we_slice ?_
          refine we_name 4 ?_
          refine wo_none ?_
          refine e_part ?_
          refine e_int ?_
          refine ⟨_, Vw.p, sm_s hT fun i55 hT => ?_⟩
          refine o_sl Vw.p hT fun d56 hT => ?_
          refine we_name 4 ?_
          refine o_add Vw.p Vw.p hT fun d57 hT => ?_
          refine wa_nil ?_
          refine o_tuple1 Vw.p hT fun d58 hT => ?_
          refine wa_nil ?_
          refine ⟨[_, _, _, _], rfl, by simp, ?_⟩
          refine o_add Vw.p Vw.p hT fun d59 hT => ?_
          refine we_name 3 ?_
          refine o_ix Vw.p Vw.p hT fun d60 hT => ?_
          exact ⟨_, Le.rfl, hT⟩
        · skip
          have hT := brF hT hb
          refine wss_nil ?_
          refine wss_cons ?_
          refine ws_if ?_
          refine wt_cmp ?_
          refine we_name 2 ?_
          refine e_int ?_
          refine o_eq (RmH.mk (k := 2) hr.dp hr.un) T.sys Vw.p Vw.p hT fun b61 hT => (BoolP.of ?_)
          refine ⟨fun hb => ?_, fun hb => ?_⟩
          · skip
            have hT := brT hT hb
            refine wss_one ?_
            refine ws_ret ?_
            refine e_tup ?_
            refine wa_cons ?_
            refine we_ix ?_
            refine we_name 4 ?_
            refine e_int ?_
            refine o_ix (Vw.cell 0 rfl rfl) Vw.p hT fun d62 hT => ?_
            refine wa_cons ?_
            refine we_ix ?_
            refine we_name 4 ?_
            refine e_int ?_
            refine o_ix (Vw.cell 0 rfl rfl) Vw.p hT fun d63 hT => ?_
            refine wa_cons ?_
            refine we_ix ?_
            refine we_name 4 ?_
            refine e_int ?_
            refine o_ix (Vw.cell 0 rfl rfl) Vw.p hT fun d64 hT => ?_
            refine wa_cons ?_
            refine we_ix ?_
            refine we_name 4 ?_
            refine e_int ?_
            refine o_ix (Vw.cell 0 rfl rfl) Vw.p hT fun d65 hT => ?_
            refine wa_nil ?_
            refine ⟨[_, _, _, _], rfl, by simp, ?_⟩
            exact ⟨_, ⟨_, .refl _, (.cons _ (.cons_cons _ (.refl _)))⟩, hT⟩
          · skip
            have hT := brF hT hb
            refine wss_nil ?_
            refine wss_one ?_
            refine ws_ret ?_
            refine we_callT (T := "tuple") T.tuple ?_ bt_tuple
            refine wa_cons ?_
            refine we_name 4 ?_
            refine wa_nil ?_
            refine o_tuple1 (Vw.cell 0 rfl rfl) hT fun d66 hT => ?_
            exact ⟨_, ⟨_, .refl _, (.cons _ (.cons_cons _ (.refl _)))⟩, hT⟩
theorem ok_l_odd (T : Tx K mg base) : DefK P w K mg base "_law_odd" 3 T_l_odd [] := by
  obtain ⟨f, fd, F, hm⟩ := T.f_l_odd
  exact defK_mk F (g_l_odd T F) hm (fun kV doc pm an cdv ct us hl => match us, hl with | [a0, a1], _ => rfl)
theorem g_l_spoilt (T : Tx K mg base) {f : Addr} {fd : FuncData} (F : FunD K "_law_spoilt" "_law_spoilt" (defArgs s_l_spoilt) (defBody s_l_spoilt) (defScope s_l_spoilt) [] [] f fd) : FnG P w K mg base 3 f fd ["box", "text"] T_l_spoilt := by
  have sc := sc_l_spoilt
  refine fn_okD F sc_l_spoilt (fun xs m post xp h => ?_) fun cdv A outer s H E B0 H0 xs m post xp hgd hr hT hx => ?_
  · obtain ⟨_, _, _, _, _, h, _⟩ := h; subst h; rfl
  obtain ⟨pbox_, box_, ttext_, text_, m1, rfl, rfl, htext_, hT⟩ := hT
  have hT := Sm.opt hT
  refine wss_leE ?_
  refine wss_cons ?_
  refine ws_par 2 3 ?_ rfl sc.nd
  refine wa_cons ?_
  refine e_callP (ok_l_take T) hgd hr xt0 ?_
  refine wa_cons ?_
  refine we_name 0 ?_
  refine wa_cons ?_
  refine e_int ?_
  refine wa_nil ?_
  refine ⟨_, .refl _, ?_⟩
  refine ⟨_, _, _, _, _, rfl, rfl, Vw.p, sm_s hT fun d1 hT => ?_⟩
  refine ⟨_, .refl _, ?_⟩
  refine wa_cons ?_
  refine e_callP (ok_l_take T) hgd hr xt0 ?_
  refine wa_cons ?_
  refine we_name 0 ?_
  refine wa_cons ?_
  refine e_int ?_
  refine wa_nil ?_
  refine ⟨_, .refl _, ?_⟩
  refine ⟨_, _, _, _, _, rfl, rfl, Vw.p, sm_s hT fun d2 hT => ?_⟩
  refine ⟨_, .refl _, ?_⟩
  refine wa_nil ?_
  refine ⟨_, _, rfl, ?_⟩
  refine wss_cons ?_
  refine ws_set 4 ?_ sc.nd
  refine e_callP (ok_l_take T) hgd hr xt0 ?_
  refine wa_cons ?_
  refine we_name 0 ?_
  refine wa_cons ?_
  obtain ⟨kk3, hk4, hT⟩ := jn_s hT
  refine we_cv (Wp.imp (P := fun z m' => ∃ s5 : D, Ok (kk3 s5) (fun r => post (td r.1) ((pbox_, mC (.lst r.2)) :: m1)) (fun _ => False) ∧ Cv z (td s5) ∧ ((pbox_, mC (.lst d2.2)) :: m1) = m') ?_ ?_)
  · skip
    refine we_if ?_
    refine wt_cmp ?_
    refine we_name 3 ?_
    refine e_int ?_
    refine o_eq (RmH.mk (k := 2) hr.dp hr.un) T.sys Vw.p Vw.p hT fun b6 hT => (BoolP.of ?_)
    refine ⟨fun hb => ?_, fun hb => ?_⟩
    · skip
      have hT := brT hT hb
      refine we_callB (id := "len") T.len ?_ bt_len
      refine wa_cons ?_
      refine we_name 1 ?_
      refine wa_nil ?_
      refine o_len htext_.c hT fun d7 hT => ?_
      exact ⟨_, hT, Cv.rfl, rfl⟩
    · skip
      have hT := brF hT hb
      refine we_callB (id := "min") T.min ?_ bt_min
      refine wa_cons ?_
      refine we_callB (id := "len") T.len ?_ bt_len
      refine wa_cons ?_
      refine we_name 1 ?_
      refine wa_nil ?_
      refine o_len htext_.c hT fun d8 hT => ?_
      refine wa_cons ?_
      refine e_int ?_
      refine wa_nil ?_
      refine o_min2 rfl Vw.p Vw.p hT fun d9 hT => ?_
      exact ⟨_, hT, Cv.rfl, rfl⟩
  · rintro z m' ⟨s5, hT, hcv, rfl⟩
    subst hk4
    refine ⟨_, hcv, ?_⟩
    refine wa_nil ?_
    refine ⟨_, .refl _, ?_⟩
    refine ⟨_, _, _, _, _, rfl, rfl, Vw.p, sm_s hT fun d10 hT => ?_⟩
    refine ⟨_, .refl _, ?_⟩
    refine wss_cons ?_
    refine ws_set 5 ?_ sc.nd
    obtain ⟨kk11, hk12, hT⟩ := jn_s hT
    refine we_cv (Wp.imp (P := fun z m' => ∃ s13 : D × List D, Ok (kk11 s13) (fun r => post (td r.1) ((pbox_, mC (.lst r.2)) :: m1)) (fun _ => False) ∧ Cv z (td s13.1) ∧ ((pbox_, mC (.lst s13.2)) :: m1) = m') ?_ ?_)
    · skip
      refine we_if ?_
      refine wt_cmp ?_
      refine we_name 3 ?_
      refine e_int ?_
      refine o_eq (RmH.mk (k := 2) hr.dp hr.un) T.sys Vw.p Vw.p hT fun b14 hT => (BoolP.of ?_)
      refine ⟨fun hb => ?_, fun hb => ?_⟩
      · skip
        have hT := brT hT hb
        refine e_callP (ok_l_any T) hgd hr xt0 ?_
        refine wa_cons ?_
        refine we_name 0 ?_
        refine wa_cons ?_
        refine e_int ?_
        refine wa_nil ?_
        refine ⟨_, .refl _, ?_⟩
        refine ⟨_, _, _, _, _, rfl, rfl, Vw.p, sm_s hT fun d15 hT => ?_⟩
        refine ⟨_, .refl _, ?_⟩
        exact ⟨_, hT, Cv.rfl, rfl⟩
      · skip
        have hT := brF hT hb
        refine we_ix ?_
        refine e_str ?_
        refine e_callP (ok_l_take T) hgd hr xt0 ?_
        refine wa_cons ?_
        refine we_name 0 ?_
        refine wa_cons ?_
        refine e_int ?_
        refine wa_nil ?_
        refine ⟨_, .refl _, ?_⟩
        refine ⟨_, _, _, _, _, rfl, rfl, Vw.p, sm_s hT fun d16 hT => ?_⟩
        refine ⟨_, .refl _, ?_⟩
        refine o_ix Vw.p Vw.p hT fun d17 hT => ?_
        exact ⟨_, hT, Cv.rfl, rfl⟩
    · rintro z m' ⟨s13, hT, hcv, rfl⟩
      subst hk12
      refine ⟨_, hcv, ?_⟩
      refine wss_cons ?_
      refine ws_if ?_
      refine wt_cmp ?_
      refine we_name 2 ?_
      refine e_int ?_
      refine o_lt Vw.p Vw.p hT fun b18 hT => (BoolP.of ?_)
      refine ⟨fun hb => ?_, fun hb => ?_⟩
      · skip
        have hT := brT hT hb
        refine wss_one ?_
        refine ws_ret ?_
        refine we_ix ?_
        refine e_list ?_
        refine wa_cons ?_
        refine we_bin ?_
        refine we_bin ?_
        refine we_slice ?_
        refine we_name 1 ?_
        refine wo_none ?_
        refine e_part ?_
        refine we_name 4 ?_
        refine ⟨_, Vw.p, sm_s hT fun i19 hT => ?_⟩
        refine o_sl htext_.c hT fun d20 hT => ?_
        refine we_name 5 ?_
        refine o_add Vw.p Vw.p hT fun d21 hT => ?_
        refine we_slice ?_
        refine we_name 1 ?_
        refine e_part ?_
        refine we_name 4 ?_
        refine ⟨_, Vw.p, sm_s hT fun i22 hT => ?_⟩
        refine wo_none ?_
        refine o_sl htext_.c hT fun d23 hT => ?_
        refine o_add Vw.p Vw.p hT fun d24 hT => ?_
        refine wa_cons ?_
        refine we_bin ?_
        refine we_slice ?_
        refine we_name 1 ?_
        refine wo_none ?_
        refine e_part ?_
        refine we_name 4 ?_
        refine ⟨_, Vw.p, sm_s hT fun i25 hT => ?_⟩
        refine o_sl htext_.c hT fun d26 hT => ?_
        refine we_slice ?_
        refine we_name 1 ?_
        refine e_part ?_
        refine we_bin ?_
        refine we_name 4 ?_
        refine e_int ?_
        refine o_add Vw.p Vw.p hT fun d27 hT => ?_
        refine ⟨_, Vw.p, sm_s hT fun i28 hT => ?_⟩
        refine wo_none ?_
        refine o_sl htext_.c hT fun d29 hT => ?_
        refine o_add Vw.p Vw.p hT fun d30 hT => ?_
        refine wa_cons ?_
        refine we_bin ?_
        refine we_bin ?_
        refine we_slice ?_
        refine we_name 1 ?_
        refine wo_none ?_
        refine e_part ?_
        refine we_name 4 ?_
        refine ⟨_, Vw.p, sm_s hT fun i31 hT => ?_⟩
        refine o_sl htext_.c hT fun d32 hT => ?_
        refine we_name 5 ?_
        refine o_add Vw.p Vw.p hT fun d33 hT => ?_
        refine we_slice ?_
        refine we_name 1 ?_
        refine e_part ?_
        refine we_bin ?_
        refine we_name 4 ?_
        refine e_int ?_
        refine o_add Vw.p Vw.p hT fun d34 hT => ?_
        refine ⟨_, Vw.p, sm_s hT fun i35 hT => ?_⟩
        refine wo_none ?_
        refine o_sl htext_.c hT fun d36 hT => ?_
        refine o_add Vw.p Vw.p hT fun d37 hT => ?_
        refine wa_nil ?_
        refine ⟨[_, _, _], rfl, by simp, ?_⟩
        refine we_name 2 ?_
        refine o_ix Vw.p Vw.p hT fun d38 hT => ?_
        exact ⟨_, Le.rfl, hT⟩
      · skip
        have hT := brF hT hb
        refine wss_nil ?_
        refine wss_cons ?_
        refine ws_if ?_
        refine wt_cmp ?_
        refine we_name 2 ?_
        refine e_int ?_
        refine o_eq (RmH.mk (k := 2) hr.dp hr.un) T.sys Vw.p Vw.p hT fun b39 hT => (BoolP.of ?_)
        refine ⟨fun hb => ?_, fun hb => ?_⟩
        · skip
          have hT := brT hT hb
          refine wss_one ?_
          refine ws_ret ?_
          refine we_bin ?_
          refine we_bin ?_
          refine we_bin ?_
          refine we_slice ?_
          refine we_name 1 ?_
          refine wo_none ?_
          refine e_part ?_
          refine we_name 4 ?_
          refine ⟨_, Vw.p, sm_s hT fun i40 hT => ?_⟩
          refine o_sl htext_.c hT fun d41 hT => ?_
          refine we_slice ?_
          refine we_name 1 ?_
          refine e_part ?_
          refine we_bin ?_
          refine we_name 4 ?_
          refine e_int ?_
          refine o_add Vw.p Vw.p hT fun d42 hT => ?_
          refine ⟨_, Vw.p, sm_s hT fun i43 hT => ?_⟩
          refine e_part ?_
          refine we_bin ?_
          refine we_name 4 ?_
          refine e_int ?_
          refine o_add Vw.p Vw.p hT fun d44 hT => ?_
          refine ⟨_, Vw.p, sm_s hT fun i45 hT => ?_⟩
          refine o_sl htext_.c hT fun d46 hT => ?_
          refine o_add Vw.p Vw.p hT fun d47 hT => ?_
          refine we_slice ?_
          refine we_name 1 ?_
          refine e_part ?_
          refine we_name 4 ?_
          refine ⟨_, Vw.p, sm_s hT fun i48 hT => ?_⟩
          refine e_part ?_
          refine we_bin ?_
          refine we_name 4 ?_
          refine e_int ?_
          refine o_add Vw.p Vw.p hT fun d49 hT => ?_
          refine ⟨_, Vw.p, sm_s hT fun i50 hT => ?_⟩
          refine o_sl htext_.c hT fun d51 hT => ?_
          refine o_add Vw.p Vw.p hT fun d52 hT => ?_
          refine we_slice ?_
          refine we_name 1 ?_
          refine e_part ?_
          refine we_bin ?_
          refine we_name 4 ?_
          refine e_int ?_
          refine o_add Vw.p Vw.p hT fun d53 hT => ?_
          refine ⟨_, Vw.p, sm_s hT fun i54 hT => ?_⟩
          refine wo_none ?_
          refine o_sl htext_.c hT fun d55 hT => ?_
          refine o_add Vw.p Vw.p hT fun d56 hT => ?_
          exact ⟨_, Le.rfl, hT⟩
        · skip
          have hT := brF hT hb
          refine wss_nil ?_
          refine wss_cons ?_
          refine ws_if ?_
          refine wt_cmp ?_
          refine we_name 2 ?_
          refine e_int ?_
          refine o_eq (RmH.mk (k := 2) hr.dp hr.un) T.sys Vw.p Vw.p hT fun b57 hT => (BoolP.of ?_)
          refine ⟨fun hb => ?_, fun hb => ?_⟩
          · skip
            have hT := brT hT hb
            refine wss_one ?_
            refine ws_ret ?_
            refine we_bin ?_
            refine we_name 1 ?_
            refine e_str ?_
            refine o_add htext_.c Vw.p hT fun d58 hT => ?_
            exact ⟨_, Le.rfl, hT⟩
          · skip
            have hT := brF hT hb
            refine wss_nil ?_
            refine wss_cons ?_
            refine ws_if ?_
            refine wt_cmp ?_
            refine we_name 2 ?_
            refine e_int ?_
            refine o_eq (RmH.mk (k := 2) hr.dp hr.un) T.sys Vw.p Vw.p hT fun b59 hT => (BoolP.of ?_)
            refine ⟨fun hb => ?_, fun hb => ?_⟩
            · skip
              have hT := brT hT hb
              refine wss_one ?_
              refine ws_ret ?_
              refine we_bin ?_
              refine we_callT (T := "str") T.str ?_ bt_str
              refine wa_cons ?_
              refine we_bin ?_
              refine e_int ?_
              refine e_callP (ok_l_take T) hgd hr xt0 ?_
              refine wa_cons ?_
              refine we_name 0 ?_
              refine wa_cons ?_
              refine e_int ?_
              refine wa_nil ?_
              refine ⟨_, .refl _, ?_⟩
              refine ⟨_, _, _, _, _, rfl, rfl, Vw.p, sm_s hT fun d60 hT => ?_⟩
              refine ⟨_, .refl _, ?_⟩
              refine o_add Vw.p Vw.p hT fun d61 hT => ?_
              refine wa_nil ?_
              refine o_str1 Vw.p hT fun d62 hT => ?_
              refine we_slice ?_
              refine we_name 1 ?_
              refine e_part ?_
              refine we_bm PySem.F.plainAttrs_str PySem.F.slot_str_index ?_
              refine we_name 1 ?_
              refine recv_s htext_.c hT fun hT => ?_
              refine wa_cons ?_
              refine e_str ?_
              refine wa_nil ?_
              refine o_index2 htext_.c Vw.p hT fun d63 hT => ?_
              refine ⟨_, Vw.p, sm_s hT fun i64 hT => ?_⟩
              refine wo_none ?_
              refine o_sl htext_.c hT fun d65 hT => ?_
              refine o_add Vw.p Vw.p hT fun d66 hT => ?_
              exact ⟨_, Le.rfl, hT⟩
            · skip
              have hT := brF hT hb
              refine wss_nil ?_
              refine wss_cons ?_
              refine ws_set 6 ?_ sc.nd
              refine we_perm ?_
              refine we_bm PySem.F.plainAttrs_str PySem.F.slot_str_split ?_
              refine we_name 1 ?_
              refine recv_s htext_.c hT fun hT => ?_
              refine wa_cons ?_
              refine e_str ?_
              refine wa_nil ?_
              refine o_split2O htext_.c Vw.p hT fun x67 p68 hT => ?_
              refine ⟨_, ahead, ?_⟩
              refine wss_cons ?_
              refine ws_par 7 8 ?_ rfl sc.nd
              refine wa_cons ?_
              refine e_callP (ok_l_take T) hgd hr xt0 ?_
              refine wa_cons ?_
              refine we_name 0 ?_
              refine wa_cons ?_
              refine we_callB (id := "min") T.min ?_ bt_min
              refine wa_cons ?_
              refine e_int ?_
              refine wa_cons ?_
              refine we_callB (id := "len") T.len ?_ bt_len
              refine wa_cons ?_
              refine we_name 6 ?_
              refine wa_nil ?_
              refine o_len (Vw.cell 0 rfl rfl) hT fun d70 hT => ?_
              refine wa_nil ?_
              refine o_min2 rfl Vw.p Vw.p hT fun d71 hT => ?_
              refine wa_nil ?_
              refine ⟨_, .swap _ _ _, ?_⟩
              refine ⟨_, _, _, _, _, rfl, rfl, Vw.p, sm_s hT fun d72 hT => ?_⟩
              refine ⟨_, .swap _ _ _, ?_⟩
              refine wa_cons ?_
              refine e_callP (ok_l_take T) hgd hr xt0 ?_
              refine wa_cons ?_
              refine we_name 0 ?_
              refine wa_cons ?_
              refine we_callB (id := "len") T.len ?_ bt_len
              refine wa_cons ?_
              refine we_name 6 ?_
              refine wa_nil ?_
              refine o_len (Vw.cell 0 rfl rfl) hT fun d73 hT => ?_
              refine wa_nil ?_
              refine ⟨_, .swap _ _ _, ?_⟩
              refine ⟨_, _, _, _, _, rfl, rfl, Vw.p, sm_s hT fun d74 hT => ?_⟩
              refine ⟨_, .swap _ _ _, ?_⟩
              refine wa_nil ?_
              refine ⟨_, _, rfl, ?_⟩
              refine wss_cons ?_
              obtain ⟨kk75, hk76, hT⟩ := jn_s hT
              refine ws_cut (fun ρ' m' => ∃ (s77 : List D) (x78 : Option TV), Ok (kk75 s77) (fun r => post (td r.1) ((pbox_, mC (.lst r.2)) :: m1)) (fun _ => False) ∧ [some (tv (Ref.mk pbox_)), some (ttext_), some (td (d1.1)), some (td (d2.1)), some (td (d10.1)), some (td (s13.1)), some (tv (Ref.mk p68)), some (td (d72.1)), some (td (d74.1)), x78] = ρ' ∧ Le ((p68, mC (.lst s77)) :: (pbox_, mC (.lst d74.2)) :: m1) m') ?_ ?_
              · skip
                refine ws_if ?_
                refine wt_cmp ?_
                refine we_name 2 ?_
                refine e_int ?_
                refine o_eq (RmH.mk (k := 2) hr.dp hr.un) T.sys Vw.p Vw.p hT fun b79 hT => (BoolP.of ?_)
                refine ⟨fun hb => ?_, fun hb => ?_⟩
                · skip
                  have hT := brT hT hb
                  refine wss_cons ?_
                  refine ws_set 9 ?_ sc.nd
                  refine we_ix ?_
                  refine we_name 6 ?_
                  refine we_name 7 ?_
                  refine o_ix (Vw.cell 0 rfl rfl) Vw.p hT fun d80 hT => ?_
                  refine wss_cons ?_
                  refine ws_asg ?_
                  refine we_ix ?_
                  refine we_name 6 ?_
                  refine we_name 8 ?_
                  refine o_ix (Vw.cell 0 rfl rfl) Vw.p hT fun d81 hT => ?_
                  refine g_put ?_
                  refine we_name 6 ?_
                  refine we_name 7 ?_
                  refine ⟨_, 0, _, _, rfl, Vw.p, rfl, sm_s hT fun x82 hT => ?_⟩
                  refine wss_one ?_
                  refine ws_asg ?_
                  refine we_name 9 ?_
                  refine g_put ?_
                  refine we_name 6 ?_
                  refine we_name 8 ?_
                  refine ⟨_, 0, _, _, rfl, Vw.p, rfl, sm_s hT fun x83 hT => ?_⟩
                  exact ⟨_, _, hT, rfl, Le.rfl⟩
                · skip
                  have hT := brF hT hb
                  refine wss_nil ?_
                  exact ⟨_, _, hT, rfl, Le.rfl⟩
              · rintro ρ' m' ⟨s77, x78, hT, rfl, hle⟩
                subst hk76
                refine wss_le hle ?_
                refine wss_cons ?_
                obtain ⟨kk84, hk85, hT⟩ := jn_s hT
                refine ws_cut (fun ρ' m' => ∃ (s86 : List D × List D), Ok (kk84 s86) (fun r => post (td r.1) ((pbox_, mC (.lst r.2)) :: m1)) (fun _ => False) ∧ [some (tv (Ref.mk pbox_)), some (ttext_), some (td (d1.1)), some (td (d2.1)), some (td (d10.1)), some (td (s13.1)), some (tv (Ref.mk p68)), some (td (d72.1)), some (td (d74.1)), x78] = ρ' ∧ Le ((p68, mC (.lst s86.2)) :: (pbox_, mC (.lst s86.1)) :: m1) m') ?_ ?_
                · skip
                  refine ws_if ?_
                  refine wt_cmp ?_
                  refine we_name 2 ?_
                  refine e_int ?_
                  refine o_eq (RmH.mk (k := 2) hr.dp hr.un) T.sys Vw.p Vw.p hT fun b87 hT => (BoolP.of ?_)
                  refine ⟨fun hb => ?_, fun hb => ?_⟩
                  · skip
                    have hT := brT hT hb
                    refine wss_one ?_
                    refine ws_asg ?_
                    refine we_bin ?_
                    refine we_ix ?_
                    refine e_list ?_
                    refine wa_cons ?_
                    refine e_str ?_
                    refine wa_cons ?_
                    refine e_str ?_
                    refine wa_cons ?_
                    refine e_str ?_
                    refine wa_cons ?_
                    refine e_str ?_
                    refine wa_cons ?_
                    refine e_str ?_
                    refine wa_nil ?_
                    refine ⟨[_, _, _, _, _], rfl, by simp, ?_⟩
                    refine e_callP (ok_l_take T) hgd hr xt0 ?_
                    refine wa_cons ?_
                    refine we_name 0 ?_
                    refine wa_cons ?_
                    refine e_int ?_
                    refine wa_nil ?_
                    refine ⟨_, .swap _ _ _, ?_⟩
                    refine ⟨_, _, _, _, _, rfl, rfl, Vw.p, sm_s hT fun d88 hT => ?_⟩
                    refine ⟨_, .swap _ _ _, ?_⟩
                    refine o_ix Vw.p Vw.p hT fun d89 hT => ?_
                    refine we_ix ?_
                    refine we_name 6 ?_
                    refine we_name 7 ?_
                    refine o_ix (Vw.cell 0 rfl rfl) Vw.p hT fun d90 hT => ?_
                    refine o_add Vw.p Vw.p hT fun d91 hT => ?_
                    refine g_put ?_
                    refine we_name 6 ?_
                    refine we_name 7 ?_
                    refine ⟨_, 0, _, _, rfl, Vw.p, rfl, sm_s hT fun x92 hT => ?_⟩
                    exact ⟨_, hT, rfl, Le.rfl⟩
                  · skip
                    have hT := brF hT hb
                    refine wss_nil ?_
                    exact ⟨_, hT, rfl, Le.rfl⟩
                · rintro ρ' m' ⟨s86, hT, rfl, hle⟩
                  subst hk85
                  refine wss_le hle ?_
                  refine wss_cons ?_
                  obtain ⟨kk93, hk94, hT⟩ := jn_s hT
                  refine ws_cut (fun ρ' m' => ∃ (s95 : List D) (p96 : Addr), Ok (kk93 s95) (fun r => post (td r.1) ((pbox_, mC (.lst r.2)) :: m1)) (fun _ => False) ∧ [some (tv (Ref.mk pbox_)), some (ttext_), some (td (d1.1)), some (td (d2.1)), some (td (d10.1)), some (td (s13.1)), some (tv (Ref.mk p96)), some (td (d72.1)), some (td (d74.1)), x78] = ρ' ∧ Le ((p96, mC (.lst s95)) :: (pbox_, mC (.lst s86.1)) :: m1) m') ?_ ?_
                  · skip
                    refine ws_if ?_
                    refine wt_cmp ?_
                    refine we_name 2 ?_
                    refine e_int ?_
                    refine o_eq (RmH.mk (k := 2) hr.dp hr.un) T.sys Vw.p Vw.p hT fun b98 hT => (BoolP.of ?_)
                    refine ⟨fun hb => ?_, fun hb => ?_⟩
                    · skip
                      have hT := brT hT hb
                      refine wss_one ?_
                      refine ws_set 6 ?_ sc.nd
                      refine we_perm ?_
                      refine we_bin ?_
                      refine we_slice ?_
                      refine we_name 6 ?_
                      refine wo_none ?_
                      refine e_part ?_
                      refine we_name 7 ?_
                      refine ⟨_, Vw.p, sm_s hT fun i99 hT => ?_⟩
                      refine o_sl (Vw.cell 0 rfl rfl) hT fun d100 hT => ?_
                      refine we_slice ?_
                      refine we_name 6 ?_
                      refine e_part ?_
                      refine we_bin ?_
                      refine we_name 7 ?_
                      refine e_int ?_
                      refine o_add Vw.p Vw.p hT fun d101 hT => ?_
                      refine ⟨_, Vw.p, sm_s hT fun i102 hT => ?_⟩
                      refine wo_none ?_
                      refine o_sl (Vw.cell 0 rfl rfl) hT fun d103 hT => ?_
                      refine o_addO Vw.p Vw.p hT fun x104 p105 hT => ?_
                      refine ⟨_, ahead, ?_⟩
                      exact ⟨_, _, hT, rfl, ⟨_, .refl _, (.cons_cons _ (.cons _ (.cons_cons _ (.refl _))))⟩⟩
                    · skip
                      have hT := brF hT hb
                      refine wss_nil ?_
                      exact ⟨_, _, hT, rfl, Le.rfl⟩
                  · rintro ρ' m' ⟨s95, p96, hT, rfl, hle⟩
                    subst hk94
                    refine wss_le hle ?_
                    refine wss_cons ?_
                    obtain ⟨kk107, hk108, hT⟩ := jn_s hT
                    refine ws_cut (fun ρ' m' => ∃ (s109 : List D) (p110 : Addr), Ok (kk107 s109) (fun r => post (td r.1) ((pbox_, mC (.lst r.2)) :: m1)) (fun _ => False) ∧ [some (tv (Ref.mk pbox_)), some (ttext_), some (td (d1.1)), some (td (d2.1)), some (td (d10.1)), some (td (s13.1)), some (tv (Ref.mk p110)), some (td (d72.1)), some (td (d74.1)), x78] = ρ' ∧ Le ((p110, mC (.lst s109)) :: (pbox_, mC (.lst s86.1)) :: m1) m') ?_ ?_
                    · skip
                      refine ws_if ?_
                      refine wt_cmp ?_
                      refine we_name 2 ?_
                      refine e_int ?_
                      refine o_eq (RmH.mk (k := 2) hr.dp hr.un) T.sys Vw.p Vw.p hT fun b112 hT => (BoolP.of ?_)
                      refine ⟨fun hb => ?_, fun hb => ?_⟩
                      · skip
                        have hT := brT hT hb
                        refine wss_one ?_
                        refine ws_set 6 ?_ sc.nd
                        refine we_perm ?_
                        refine we_bin ?_
                        refine we_bin ?_
                        refine we_slice ?_
                        refine we_name 6 ?_
                        refine wo_none ?_
                        refine e_part ?_
                        refine we_name 7 ?_
                        refine ⟨_, Vw.p, sm_s hT fun i113 hT => ?_⟩
                        refine o_sl (Vw.cell 0 rfl rfl) hT fun d114 hT => ?_
                        refine e_list ?_
                        refine wa_cons ?_
                        refine we_ix ?_
                        refine we_name 6 ?_
                        refine we_name 7 ?_
                        refine o_ix (Vw.cell 0 rfl rfl) Vw.p hT fun d115 hT => ?_
                        refine wa_nil ?_
                        refine ⟨[_], rfl, by simp, ?_⟩
                        refine o_add Vw.p Vw.p hT fun d116 hT => ?_
                        refine we_slice ?_
                        refine we_name 6 ?_
                        refine e_part ?_
                        refine we_name 7 ?_
                        refine ⟨_, Vw.p, sm_s hT fun i117 hT => ?_⟩
                        refine wo_none ?_
                        refine o_sl (Vw.cell 0 rfl rfl) hT fun d118 hT => ?_
                        refine o_addO Vw.p Vw.p hT fun x119 p120 hT => ?_
                        refine ⟨_, ahead, ?_⟩
                        exact ⟨_, _, hT, rfl, ⟨_, .refl _, (.cons_cons _ (.cons _ (.cons_cons _ (.refl _))))⟩⟩
                      · skip
                        have hT := brF hT hb
                        refine wss_nil ?_
                        exact ⟨_, _, hT, rfl, Le.rfl⟩
                    · rintro ρ' m' ⟨s109, p110, hT, rfl, hle⟩
                      subst hk108
                      refine wss_le hle ?_
                      refine wss_cons ?_
                      obtain ⟨kk122, hk123, hT⟩ := jn_s hT
                      refine ws_cut (fun ρ' m' => ∃ (s124 : List D × List D), Ok (kk122 s124) (fun r => post (td r.1) ((pbox_, mC (.lst r.2)) :: m1)) (fun _ => False) ∧ [some (tv (Ref.mk pbox_)), some (ttext_), some (td (d1.1)), some (td (d2.1)), some (td (d10.1)), some (td (s13.1)), some (tv (Ref.mk p110)), some (td (d72.1)), some (td (d74.1)), x78] = ρ' ∧ Le ((p110, mC (.lst s124.2)) :: (pbox_, mC (.lst s124.1)) :: m1) m') ?_ ?_
                      · skip
                        refine ws_if ?_
                        refine wt_cmp ?_
                        refine we_name 2 ?_
                        refine e_int ?_
                        refine o_eq (RmH.mk (k := 2) hr.dp hr.un) T.sys Vw.p Vw.p hT fun b125 hT => (BoolP.of ?_)
                        refine ⟨fun hb => ?_, fun hb => ?_⟩
                        · skip
                          have hT := brT hT hb
                          refine wss_one ?_
                          refine ws_asg ?_
                          refine we_bin ?_
                          refine we_ix ?_
                          refine we_name 6 ?_
                          refine we_name 7 ?_
                          refine o_ix (Vw.cell 0 rfl rfl) Vw.p hT fun d126 hT => ?_
                          refine we_ix ?_
                          refine e_list ?_
                          refine wa_cons ?_
                          refine e_str ?_
                          refine wa_cons ?_
                          refine e_str ?_
                          refine wa_cons ?_
                          refine e_str ?_
                          refine wa_cons ?_
                          refine e_str ?_
                          refine wa_cons ?_
                          refine we_bin ?_
                          refine e_str ?_
                          refine e_int ?_
                          refine o_mul Vw.p Vw.p hT fun d127 hT => ?_
                          refine wa_nil ?_
                          refine ⟨[_, _, _, _, _], rfl, by simp, ?_⟩
                          refine e_callP (ok_l_take T) hgd hr xt0 ?_
                          refine wa_cons ?_
                          refine we_name 0 ?_
                          refine wa_cons ?_
                          refine e_int ?_
                          refine wa_nil ?_
                          refine ⟨_, .swap _ _ _, ?_⟩
                          refine ⟨_, _, _, _, _, rfl, rfl, Vw.p, sm_s hT fun d128 hT => ?_⟩
                          refine ⟨_, .swap _ _ _, ?_⟩
                          refine o_ix Vw.p Vw.p hT fun d129 hT => ?_
                          refine o_add Vw.p Vw.p hT fun d130 hT => ?_
                          refine g_put ?_
                          refine we_name 6 ?_
                          refine we_name 7 ?_
                          refine ⟨_, 0, _, _, rfl, Vw.p, rfl, sm_s hT fun x131 hT => ?_⟩
                          exact ⟨_, hT, rfl, Le.rfl⟩
                        · skip
                          have hT := brF hT hb
                          refine wss_nil ?_
                          exact ⟨_, hT, rfl, Le.rfl⟩
                      · rintro ρ' m' ⟨s124, hT, rfl, hle⟩
                        subst hk123
                        refine wss_le hle ?_
                        refine wss_one ?_
                        refine ws_ret ?_
                        refine we_bm PySem.F.plainAttrs_str PySem.F.slot_str_join ?_
                        refine e_str ?_
                        refine recv_s Vw.p hT fun hT => ?_
                        refine wa_cons ?_
                        refine we_name 6 ?_
                        refine wa_nil ?_
                        refine o_join Vw.p (Vw.cell 0 rfl rfl) hT fun d132 hT => ?_
                        exact ⟨_, ⟨_, .refl _, (.cons _ (.cons_cons _ (.refl _)))⟩, hT⟩
theorem ok_l_spoilt (T : Tx K mg base) : DefK P w K mg base "_law_spoilt" 3 T_l_spoilt [] := by
  obtain ⟨f, fd, F, hm⟩ := T.f_l_spoilt
  exact defK_mk F (g_l_spoilt T F) hm (fun kV doc pm an cdv ct us hl => match us, hl with | [a0, a1], _ => rfl)
theorem g_l_short (T : Tx K mg base) {f : Addr} {fd : FuncData} (F : FunD K "_law_short" "_law_short" (defArgs s_l_short) (defBody s_l_short) (defScope s_l_short) [] [] f fd) : FnG P w K mg base 1 f fd ["text"] T_l_short := by
  have sc := sc_l_short
  refine fn_okD F sc_l_short (fun xs m post xp h => ?_) fun cdv A outer s H E B0 H0 xs m post xp hgd hr hT hx => ?_
  · obtain ⟨_, _, h, _⟩ := h; subst h; rfl
  obtain ⟨ttext_, text_, rfl, htext_, hT⟩ := hT
  have hT := Sm.opt hT
  refine wss_cons ?_
  refine s_lc1 1 2 (own := [("word", 2)]) ?_ rfl sc.nd (show BlkOk ["text", "words", "word", "sign"] (defScope s_l_short) _ [("word", 2)] from ⟨rfl, by decide +kernel, by decide +kernel, by decide +kernel, by decide +kernel⟩)
  refine wi_D ?_
  refine we_slice ?_
  refine we_bm PySem.F.plainAttrs_str PySem.F.slot_str_split ?_
  refine we_name 0 ?_
  refine recv_s htext_ hT fun hT => ?_
  refine wa_cons ?_
  refine e_str ?_
  refine wa_nil ?_
  refine o_split2 htext_ Vw.p hT fun d2 hT => ?_
  refine wo_none ?_
  refine e_part ?_
  refine e_int ?_
  refine ⟨_, Vw.p, sm_s hT fun i3 hT => ?_⟩
  refine o_sl Vw.p hT fun d4 hT => ?_
  refine ⟨_, Vw.p, sm_s hT fun xs1 hT hl => ?_⟩
  refine lcp_mapO hT hl (fun L => Vw.p) (fun s0 H0 C cl fp L0 x5 y hxy => ?_) (fun ys6 hT => ?_)
  · skip
    have hT := Sm.opt (Sm.of (Q := fun z => z = y) hxy rfl)
    refine we_bm PySem.F.plainAttrs_str PySem.F.slot_str_join ?_
    refine e_str ?_
    refine recv_s Vw.p hT fun hT => ?_
    refine wa_cons ?_
    refine we_cv ?_
    refine we_lc1 3 (own := [("sign", 3)]) ?_ rfl sc.nd (show BlkOk ["text", "words", "word", "sign"] { kind := .function, names := [(PySem.Str.ofString ".0", PySem.NameKind.local), (PySem.Str.ofString "word", PySem.NameKind.local)], isGenerator := false, isCoroutine := false } _ [("sign", 3)] from ⟨rfl, by decide +kernel, by decide +kernel, by decide +kernel, by decide +kernel⟩)
    refine wi_D ?_
    refine we_name 2 ?_
    refine ⟨_, Vw.p, sm_s hT fun xs7 hT hl => ?_⟩
    refine lcp_filO hT hl (fun L => Vw.p) (fun s0 H0 C cl fp L1 x8 y hxy => ?_) (fun s0 H0 C cl fp L1 x8 y hxy => ?_) (fun ys9 hT => ?_)
    · skip
      have hT := Sm.opt (Sm.of (Q := fun z => z = y) hxy rfl)
      refine wt_cmp ?_
      refine we_name 3 ?_
      refine e_str ?_
      refine o_in Vw.p Vw.p hT fun b10 hT => (BoolP.of ?_)
      exact ⟨hT, rfl⟩
    · skip
      have hT := Sm.opt (Sm.of (Q := fun z => z = y) hxy rfl)
      refine we_name 3 ?_
      exact ⟨congrArg td hT, rfl⟩
    · skip
      refine wa_nil ?_
      refine o_join Vw.p Vw.p hT fun d11 hT => ?_
      exact ⟨congrArg td hT, rfl⟩
  · skip
    refine wss_one ?_
    refine ws_ret ?_
    refine we_cv ?_
    refine we_cmp ?_
    refine we_cv ?_
    refine we_lc1 2 (own := [("word", 2)]) ?_ rfl sc.nd (show BlkOk ["text", "words", "word", "sign"] (defScope s_l_short) _ [("word", 2)] from ⟨rfl, by decide +kernel, by decide +kernel, by decide +kernel, by decide +kernel⟩)
    refine wi_D ?_
    refine we_name 1 ?_
    refine ⟨_, Vw.p, sm_s hT fun xs12 hT hl => ?_⟩
    refine lcp_filO hT hl (fun L => Vw.p) (fun s0 H0 C cl fp L0 x13 y hxy => ?_) (fun s0 H0 C cl fp L0 x13 y hxy => ?_) (fun ys14 hT => ?_)
    · skip
      have hT := Sm.opt (Sm.of (Q := fun z => z = y) hxy rfl)
      refine wt_cmp ?_
      refine we_callB (id := "len") T.len ?_ bt_len
      refine wa_cons ?_
      refine we_name 2 ?_
      refine wa_nil ?_
      refine o_len Vw.p hT fun d15 hT => ?_
      refine e_int ?_
      refine o_gt Vw.p Vw.p hT fun b16 hT => (BoolP.of ?_)
      exact ⟨hT, rfl⟩
    · skip
      have hT := Sm.opt (Sm.of (Q := fun z => z = y) hxy rfl)
      refine we_name 2 ?_
      exact ⟨congrArg td hT, rfl⟩
    · skip
      refine e_list ?_
      refine wa_nil ?_
      refine ⟨[], rfl, by simp, ?_⟩
      refine o_eq (RmH.mk (k := 0) hr.dp hr.un) T.sys Vw.p Vw.p hT fun b17 hT => ⟨_, cv_bl, ?_⟩
      exact hT
theorem ok_l_short (T : Tx K mg base) : DefK P w K mg base "_law_short" 1 T_l_short [] := by
  obtain ⟨f, fd, F, hm⟩ := T.f_l_short
  exact defK_mk F (g_l_short T F) hm (fun kV doc pm an cdv ct us hl => match us, hl with | [a0], _ => rfl)
theorem g_l_judged (T : Tx K mg base) {f : Addr} {fd : FuncData} (F : FunD K "_law_judged" "_law_judged" (defArgs s_l_judged) (defBody s_l_judged) (defScope s_l_judged) [] [] f fd) : FnG P w K mg base 5 f fd ["value", "turn"] T_l_judged := by
  have sc := sc_l_judged
  refine fn_okD F sc_l_judged (fun xs m post xp h => ?_) fun cdv A outer s H E B0 H0 xs m post xp hgd hr hT hx => ?_
  · obtain ⟨_, _, _, h, _⟩ := h; subst h; rfl
  obtain ⟨value_, tturn_, turn_, rfl, hturn_, hT⟩ := hT
  have hT := Sm.opt hT
  refine wss_cons ?_
  refine s_lc1 2 4 (own := [("k", 4)]) ?_ rfl sc.nd (show BlkOk ["value", "turn", "handed", "told", "k"] (defScope s_l_judged) _ [("k", 4)] from ⟨rfl, by decide +kernel, by decide +kernel, by decide +kernel, by decide +kernel⟩)
  refine wi_rng1 T.range ?_
  refine e_int ?_
  refine ⟨_, Vw.p, sm_s hT fun xs1 hT hl => ?_⟩
  refine lcp_mapO hT hl (fun L => trivial) (fun s0 H0 C cl fp L0 x2 y hxy => ?_) (fun ys3 hT => ?_)
  · skip
    have hT := Sm.opt (Sm.of (Q := fun z => z = y) hxy rfl)
    refine e_call (ok_l_copy T) hgd hr xt0 ?_
    refine wa_cons ?_
    refine we_name 0 ?_
    refine wa_nil ?_
    refine ⟨_, _, rfl, Vw.p, sm_s hT fun d4 hT => .inl ?_⟩
    exact ⟨congrArg td hT, rfl⟩
  · skip
    refine wss_cons ?_
    obtain ⟨kk5, hk6, hT⟩ := jn_s hT
    refine ws_cut (fun ρ' m' => ∃ (s7 : D), Ok (kk5 s7) (fun d => post (td d) m) (fun _ => False) ∧ [some (td (value_)), some (tturn_), some (td (.lst ys3)), some (td (s7)), none] = ρ' ∧ Le m m') ?_ ?_
    · skip
      refine ws_if ?_
      refine wt_cmp ?_
      refine we_name 1 ?_
      refine e_int ?_
      refine o_eq (RmH.mk (k := 4) hr.dp hr.un) T.sys hturn_ Vw.p hT fun b8 hT => (BoolP.of ?_)
      refine ⟨fun hb => ?_, fun hb => ?_⟩
      · skip
        have hT := brT hT hb
        refine wss_one ?_
        refine ws_set 3 ?_ sc.nd
        refine e_list ?_
        refine wa_cons ?_
        refine e_call (ok_is_cell T) hgd hr xt0 ?_
        refine wa_cons ?_
        refine we_ix ?_
        refine we_name 2 ?_
        refine e_int ?_
        refine o_ix Vw.p Vw.p hT fun d9 hT => ?_
        refine wa_nil ?_
        refine ⟨_, _, rfl, Vw.p, sm_s hT fun d10 hT => ?_⟩
        refine wa_cons ?_
        refine e_call (ok_is_text T) hgd hr xt0 ?_
        refine wa_cons ?_
        refine we_ix ?_
        refine we_name 2 ?_
        refine e_int ?_
        refine o_ix Vw.p Vw.p hT fun d11 hT => ?_
        refine wa_nil ?_
        refine ⟨_, _, rfl, Vw.p, sm_s hT fun d12 hT => ?_⟩
        refine wa_cons ?_
        refine e_call (ok_is_line T) hgd hr xt0 ?_
        refine wa_cons ?_
        refine we_ix ?_
        refine we_name 2 ?_
        refine e_int ?_
        refine o_ix Vw.p Vw.p hT fun d13 hT => ?_
        refine wa_nil ?_
        refine ⟨_, _, rfl, Vw.p, sm_s hT fun d14 hT => ?_⟩
        refine wa_nil ?_
        refine ⟨[_, _, _], rfl, by simp, ?_⟩
        exact ⟨_, hT, rfl, Le.rfl⟩
      · skip
        have hT := brF hT hb
        refine wss_one ?_
        refine ws_set 3 ?_ sc.nd
        refine e_list ?_
        refine wa_cons ?_
        refine e_callK0 (ok_is_cell_k0 T) hgd hr xt0 ?_
        refine wk_cons ?_
        refine we_ix ?_
        refine we_name 2 ?_
        refine e_int ?_
        refine o_ix Vw.p Vw.p hT fun d15 hT => ?_
        refine wk_nil ?_
        refine ⟨rfl, ?_⟩
        refine ⟨_, _, rfl, Vw.p, sm_s hT fun d16 hT => ?_⟩
        refine wa_cons ?_
        refine e_callK0 (ok_is_text_k0 T) hgd hr xt0 ?_
        refine wk_cons ?_
        refine we_ix ?_
        refine we_name 2 ?_
        refine e_int ?_
        refine o_ix Vw.p Vw.p hT fun d17 hT => ?_
        refine wk_nil ?_
        refine ⟨rfl, ?_⟩
        refine ⟨_, _, rfl, Vw.p, sm_s hT fun d18 hT => ?_⟩
        refine wa_cons ?_
        refine e_callK0 (ok_is_line_k0 T) hgd hr xt0 ?_
        refine wk_cons ?_
        refine we_ix ?_
        refine we_name 2 ?_
        refine e_int ?_
        refine o_ix Vw.p Vw.p hT fun d19 hT => ?_
        refine wk_nil ?_
        refine ⟨rfl, ?_⟩
        refine ⟨_, _, rfl, Vw.p, sm_s hT fun d20 hT => ?_⟩
        refine wa_nil ?_
        refine ⟨[_, _, _], rfl, by simp, ?_⟩
        exact ⟨_, hT, rfl, Le.rfl⟩
    · rintro ρ' m' ⟨s7, hT, rfl, hle⟩
      subst hk6
      refine wss_le hle ?_
      refine wss_cons ?_
      refine ws_if ?_
      refine wt_cmp ?_
      refine we_callB (id := "repr") T.repr ?_ bt_repr
      refine wa_cons ?_
      refine we_name 2 ?_
      refine wa_nil ?_
      refine o_repr hgd (RmH.mk (k := 4) hr.dp hr.un) T.sys Vw.p hT fun d21 hT => ?_
      refine we_callB (id := "repr") T.repr ?_ bt_repr
      refine wa_cons ?_
      refine e_list ?_
      refine wa_cons ?_
      refine we_name 0 ?_
      refine wa_cons ?_
      refine we_name 0 ?_
      refine wa_cons ?_
      refine we_name 0 ?_
      refine wa_nil ?_
      refine ⟨[_, _, _], rfl, by simp, ?_⟩
      refine wa_nil ?_
      refine o_repr hgd (RmH.mk (k := 4) hr.dp hr.un) T.sys Vw.p hT fun d22 hT => ?_
      refine o_ne (RmH.mk (k := 4) hr.dp hr.un) T.sys Vw.p Vw.p hT fun b23 hT => (BoolP.of ?_)
      refine ⟨fun hb => ?_, fun hb => ?_⟩
      · skip
        have hT := brT hT hb
        refine wss_one ?_
        refine ws_ret ?_
        refine e_bool ?_
        exact hT
      · skip
        have hT := brF hT hb
        refine wss_nil ?_
        refine wss_one ?_
        refine ws_ret ?_
        refine e_call (ok_l_equal T) hgd hr xt0 ?_
        refine wa_cons ?_
        refine we_name 3 ?_
        refine wa_cons ?_
        refine e_list ?_
        refine wa_cons ?_
        refine e_call (ok_l_is_cell T) hgd hr xt0 ?_
        refine wa_cons ?_
        refine we_name 0 ?_
        refine wa_nil ?_
        refine ⟨_, _, rfl, Vw.p, sm_s hT fun d24 hT => ?_⟩
        refine wa_cons ?_
        refine e_call (ok_l_is_text T) hgd hr xt0 ?_
        refine wa_cons ?_
        refine we_name 0 ?_
        refine wa_nil ?_
        refine ⟨_, _, rfl, Vw.p, sm_s hT fun d25 hT => ?_⟩
        refine wa_cons ?_
        refine e_call (ok_l_is_line T) hgd hr xt0 ?_
        refine wa_cons ?_
        refine we_name 0 ?_
        refine wa_nil ?_
        refine ⟨_, _, rfl, Vw.p, sm_s hT fun d26 hT => ?_⟩
        refine wa_nil ?_
        refine ⟨[_, _, _], rfl, by simp, ?_⟩
        refine wa_nil ?_
        refine ⟨_, _, _, _, rfl, Vw.p, Vw.p, sm_s hT fun d27 hT => ?_⟩
        exact hT
theorem ok_l_judged (T : Tx K mg base) : DefK P w K mg base "_law_judged" 5 T_l_judged [] := by
  obtain ⟨f, fd, F, hm⟩ := T.f_l_judged
  exact defK_mk F (g_l_judged T F) hm (fun kV doc pm an cdv ct us hl => match us, hl with | [a0, a1], _ => rfl)
theorem g_l_told (T : Tx K mg base) {f : Addr} {fd : FuncData} (F : FunD K "_law_told" "_law_told" (defArgs s_l_told) (defBody s_l_told) (defScope s_l_told) [] [] f fd) : FnG P w K mg base 7 f fd ["value", "door", "turn"] T_l_told := by
  have sc := sc_l_told
  refine fn_okD F sc_l_told (fun xs m post xp h => ?_) fun cdv A outer s H E B0 H0 xs m post xp hgd hr hT hx => ?_
  · obtain ⟨_, _, _, _, _, _, _, h, _⟩ := h; subst h; rfl
  obtain ⟨tvalue_, value_, tdoor_, door_, tturn_, turn_, m1, rfl, ho_value_, hdoor_, hturn_, hT⟩ := hT
  have hT := Sm.opt hT
  refine wss_leE ?_
  refine wss_one ?_
  refine ws_leN ?_
  obtain ⟨kk1, hk2, hT⟩ := jn_s hT
  obtain ⟨H4, hH5, hT⟩ := try_h hT
  refine ws_cut (fun ρ' m' => ∃ (s3 : Unit), Ok (kk1 s3) (fun d => post (td d) m1) (fun _ => False) ∧ [some (tvalue_), some (tdoor_), some (tturn_), none] = ρ' ∧ Le m m') ?_ ?_
  · skip
    refine ws_tryD (E1 := fun y => Ok (H4 y) (fun d => post (td d) m1) (fun _ => False)) (ts := [tvalue_, tdoor_, tturn_]) (xp := noX) _ xt0 sc.nd (.cons ⟨rfl, by decide, .inl T.g_InvalidLine⟩ (.yes (i := 3) rfl rfl) .nil) (fun B1 H1 y6 hT => ?_) (fun B1 H1 pn xe hx po => ?_)
    · subst hH5
      obtain ⟨b7, eb, hT⟩ := hT.get
      refine ⟨b7, T.ex_q eb, fun hb ay6 ddy6 oey6 pny6 hzy6 hfy6 => ?_, fun hb => ?_⟩
      · have hT := brT hT hb
        refine wss_one ?_
        refine ws_ret ?_
        refine e_list ?_
        refine wa_cons ?_
        refine e_str ?_
        refine wa_cons ?_
        refine e_callH (okH_l_very T) hgd (RmH.mk (k := 6) hr.dp hr.un) ?_
        refine wa_cons ?_
        refine e_xf 3 hT (fun hin => T.at_q hin) hzy6 hfy6 (fun v8 hT => ?_)
        refine wa_cons ?_
        refine we_name 0 ?_
        refine wa_nil ?_
        obtain ⟨u9, ev, hTn⟩ := hT.get
        cases u9
        obtain rfl := asArg_is ev
        have hT := hTn
        refine ⟨_, _, _, rfl, ho_value_, sm_s hT fun d10 hT => ?_⟩
        refine wa_nil ?_
        refine ⟨[_, _], rfl, by simp, ?_⟩
        exact ⟨_, Le.rfl, hT⟩
      · have hT := brF hT hb
        exact hT.elim
    · skip
      refine wss_cons ?_
      refine ws_if ?_
      refine wt_cmp ?_
      refine we_name 1 ?_
      refine e_int ?_
      refine o_eq (RmH.mk (k := 6) hr.dp hr.un) T.sys (Vw.le (Own.le ho_value_) hdoor_) Vw.p hT fun b11 hT => (BoolP.of ?_)
      refine ⟨fun hb => ?_, fun hb => ?_⟩
      · skip
        have hT := brT hT hb
        refine wss_one ?_
        refine ws_ret ?_
        refine e_list ?_
        refine wa_cons ?_
        refine e_str ?_
        refine wa_cons ?_
        obtain ⟨kk12, hk13, hT⟩ := jn_s hT
        refine we_cv (Wp.imp (P := fun z m' => ∃ s14 : D, Ok (kk12 s14) (tQ kk1 (fun d => post (td d) m1) (fun _ => False)) (fun y => Ok (H4 y) (fun d => post (td d) m1) (fun _ => False)) ∧ Cv z (td s14) ∧ m = m') ?_ ?_)
        · skip
          refine we_if ?_
          refine wt_cmp ?_
          refine we_name 2 ?_
          refine e_int ?_
          refine o_eq (RmH.mk (k := 6) hr.dp hr.un) T.sys (Vw.le (Own.le ho_value_) hturn_) Vw.p hT fun b15 hT => (BoolP.of ?_)
          refine ⟨fun hb => ?_, fun hb => ?_⟩
          · skip
            have hT := brT hT hb
            refine e_call (ok_key T) hgd hr hx ?_
            refine wa_cons ?_
            refine we_name 0 ?_
            refine wa_nil ?_
            refine ⟨_, _, rfl, (Own.vw ho_value_), ok_t hT rfl Le.rfl (fun d16 hT => ?_)⟩
            exact ⟨_, hT, Cv.rfl, rfl⟩
          · skip
            have hT := brF hT hb
            refine e_callK0 (ok_key_k0 T) hgd hr hx ?_
            refine wk_cons ?_
            refine we_name 0 ?_
            refine wk_nil ?_
            refine ⟨rfl, ?_⟩
            refine ⟨_, _, rfl, (Own.vw ho_value_), ok_t hT rfl Le.rfl (fun d17 hT => ?_)⟩
            exact ⟨_, hT, Cv.rfl, rfl⟩
        · rintro z m' ⟨s14, hT, hcv, rfl⟩
          subst hk13
          refine ⟨_, hcv, ?_⟩
          refine wa_nil ?_
          refine ⟨[_, _], rfl, by simp, ?_⟩
          exact ⟨_, (Le.trans (Own.le ho_value_) Le.rfl), hT⟩
      · skip
        have hT := brF hT hb
        refine wss_nil ?_
        refine wss_one ?_
        refine ws_ret ?_
        refine e_list ?_
        refine wa_cons ?_
        refine e_str ?_
        refine wa_cons ?_
        obtain ⟨kk18, hk19, hT⟩ := jn_s hT
        refine we_cv (Wp.imp (P := fun z m' => ∃ s20 : D, Ok (kk18 s20) (tQ kk1 (fun d => post (td d) m1) (fun _ => False)) (fun y => Ok (H4 y) (fun d => post (td d) m1) (fun _ => False)) ∧ Cv z (td s20) ∧ m = m') ?_ ?_)
        · skip
          refine we_if ?_
          refine wt_cmp ?_
          refine we_name 2 ?_
          refine e_int ?_
          refine o_eq (RmH.mk (k := 6) hr.dp hr.un) T.sys (Vw.le (Own.le ho_value_) hturn_) Vw.p hT fun b21 hT => (BoolP.of ?_)
          refine ⟨fun hb => ?_, fun hb => ?_⟩
          · skip
            have hT := brT hT hb
            refine e_call (ok_line_text T) hgd hr hx ?_
            refine wa_cons ?_
            refine we_name 0 ?_
            refine wa_nil ?_
            refine ⟨_, _, rfl, (Own.vw ho_value_), ok_t hT rfl Le.rfl (fun d22 hT => ?_)⟩
            exact ⟨_, hT, Cv.rfl, rfl⟩
          · skip
            have hT := brF hT hb
            refine e_callK0 (ok_line_text_k0 T) hgd hr hx ?_
            refine wk_cons ?_
            refine we_name 0 ?_
            refine wk_nil ?_
            refine ⟨rfl, ?_⟩
            refine ⟨_, _, rfl, (Own.vw ho_value_), ok_t hT rfl Le.rfl (fun d23 hT => ?_)⟩
            exact ⟨_, hT, Cv.rfl, rfl⟩
        · rintro z m' ⟨s20, hT, hcv, rfl⟩
          subst hk19
          refine ⟨_, hcv, ?_⟩
          refine wa_nil ?_
          refine ⟨[_, _], rfl, by simp, ?_⟩
          exact ⟨_, (Le.trans (Own.le ho_value_) Le.rfl), hT⟩
  · rintro ρ' m' ⟨s3, hT, rfl, hle⟩
    subst hk2
    refine ⟨_, hle, ?_⟩
    exact ⟨_, (Le.trans (Own.le ho_value_) Le.rfl), hT⟩
theorem ok_l_told (T : Tx K mg base) : DefK P w K mg base "_law_told" 7 T_l_told [] := by
  obtain ⟨f, fd, F, hm⟩ := T.f_l_told
  exact defK_mk F (g_l_told T F) hm (fun kV doc pm an cdv ct us hl => match us, hl with | [a0, a1, a2], _ => rfl)
end
end K01

set_option Elab.async false
set_option linter.all false
set_option maxRecDepth 100000
set_option maxHeartbeats 4000000

namespace K01
open PySem PySem.Spec PyProof.Rows L2 Ty Dy
variable [CE]

section
variable {P : Program} {w : World} {K : PySem.W.Frag} {mg : Str → Option Value} {base : Heap}

theorem g_l_line_right (T : Tx K mg base) {f : Addr} {fd : FuncData} (F : FunD K "_law_line_right" "_law_line_right" (defArgs s_l_line_right) (defBody s_l_line_right) (defScope s_l_line_right) [] [] f fd) : FnG P w K mg base 8 f fd ["value", "turn"] T_l_line_right := by
  have sc := sc_l_line_right
  refine fn_okD F sc_l_line_right (fun xs m post xp h => ?_) fun cdv A outer s H E B0 H0 xs m post xp hgd hr hT hx => ?_
  · obtain ⟨_, _, _, h, _⟩ := h; subst h; rfl
  obtain ⟨value_, tturn_, turn_, rfl, hturn_, hT⟩ := hT
  have hT := Sm.opt hT
  refine wss_leE ?_
  refine wss_cons ?_
  refine ws_if ?_
  refine wt_not ?_
  refine t_val ?_
  refine e_call (ok_l_judged T) hgd hr xt0 ?_
  refine wa_cons ?_
  refine we_name 0 ?_
  refine wa_cons ?_
  refine we_name 1 ?_
  refine wa_nil ?_
  refine ⟨_, _, _, rfl, hturn_, sm_s hT fun d1 hT => ?_⟩
  refine ⟨_, Vw.p, sm_s hT fun b2 hT => ?_⟩
  refine ⟨fun hb => ?_, fun hb => ?_⟩
  · skip
    have hT := brT hT hb
    refine wss_one ?_
    refine ws_ret ?_
    refine e_bool ?_
    exact ⟨_, Le.rfl, hT⟩
  · skip
    have hT := brF hT hb
    refine wss_nil ?_
    refine wss_cons ?_
    refine ws_set 2 ?_ sc.nd
    refine e_list ?_
    refine wa_cons ?_
    refine e_list ?_
    refine wa_cons ?_
    refine e_str ?_
    refine wa_cons ?_
    refine e_bool ?_
    refine wa_nil ?_
    refine ⟨[_, _], rfl, by simp, ?_⟩
    refine wa_cons ?_
    refine e_list ?_
    refine wa_cons ?_
    refine e_str ?_
    refine wa_cons ?_
    refine e_bool ?_
    refine wa_nil ?_
    refine ⟨[_, _], rfl, by simp, ?_⟩
    refine wa_nil ?_
    refine ⟨[_, _], rfl, by simp, ?_⟩
    refine wss_cons ?_
    obtain ⟨kk3, hk4, hT⟩ := jn_s hT
    refine ws_cut (fun ρ' m' => ∃ (s5 : D), Ok (kk3 s5) (fun d => post (td d) m) (fun _ => False) ∧ [some (td (value_)), some (tturn_), some (td (s5)), none, none] = ρ' ∧ Le m m') ?_ ?_
    · skip
      refine ws_if ?_
      refine t_val ?_
      refine e_call (ok_l_is_line T) hgd hr xt0 ?_
      refine wa_cons ?_
      refine we_name 0 ?_
      refine wa_nil ?_
      refine ⟨_, _, rfl, Vw.p, sm_s hT fun d6 hT => ?_⟩
      refine ⟨_, Vw.p, sm_s hT fun b7 hT => ?_⟩
      refine ⟨fun hb => ?_, fun hb => ?_⟩
      · skip
        have hT := brT hT hb
        refine wss_one ?_
        refine ws_set 2 ?_ sc.nd
        refine e_list ?_
        refine wa_cons ?_
        refine e_list ?_
        refine wa_cons ?_
        refine e_str ?_
        refine wa_cons ?_
        refine we_slice ?_
        refine we_name 0 ?_
        refine wo_none ?_
        refine e_part ?_
        refine e_int ?_
        refine ⟨_, Vw.p, sm_s hT fun i8 hT => ?_⟩
        refine o_sl Vw.p hT fun d9 hT => ?_
        refine wa_nil ?_
        refine ⟨[_, _], rfl, by simp, ?_⟩
        refine wa_cons ?_
        refine e_list ?_
        refine wa_cons ?_
        refine e_str ?_
        refine wa_cons ?_
        refine e_call (ok_l_written T) hgd hr xt0 ?_
        refine wa_cons ?_
        refine we_name 0 ?_
        refine wa_nil ?_
        refine ⟨_, _, rfl, Vw.p, sm_s hT fun d10 hT => ?_⟩
        refine wa_nil ?_
        refine ⟨[_, _], rfl, by simp, ?_⟩
        refine wa_nil ?_
        refine ⟨[_, _], rfl, by simp, ?_⟩
        exact ⟨_, hT, rfl, Le.rfl⟩
      · skip
        have hT := brF hT hb
        refine wss_nil ?_
        exact ⟨_, hT, rfl, Le.rfl⟩
    · rintro ρ' m' ⟨s5, hT, rfl, hle⟩
      subst hk4
      refine wss_le hle ?_
      refine wss_cons ?_
      refine ws_for ?_ own_passes rfl
      refine wi_rng1 T.range ?_
      refine e_int ?_
      refine ⟨_, Vw.p, sm_s hT fun xs11 hT hl => ?_⟩
      refine forp_D (S := Unit) (s0 := ()) (fun s12 ρ' => ∃ x13 : Option TV, ∃ x14 : Option TV, ρ' = [some (td (value_)), some (tturn_), some (td (s5)), x13, x14]) (fun s12 => m) hT ⟨_, _, rfl⟩ Le.rfl (fun s12 m' hle => trivial) (fun x15 s12 ρ' nx16 br17 he hT => ?_) (fun s12 ρ' m' hle he hT => ?_)
      · obtain ⟨x13, x14, rfl⟩ := he
        refine wg_name 3 ?_ sc.nd
        refine wss_cons ?_
        refine ws_set 4 ?_ sc.nd
        refine e_list ?_
        refine wa_cons ?_
        refine e_call (ok_l_told T) hgd hr xt0 ?_
        refine wa_cons ?_
        refine e_call (ok_l_copy T) hgd hr xt0 ?_
        refine wa_cons ?_
        refine we_name 0 ?_
        refine wa_nil ?_
        refine ⟨_, _, rfl, Vw.p, sm_s hT fun d19 hT => .inr fun t20 m21 ho22 => ?_⟩
        refine wa_cons ?_
        refine e_int ?_
        refine wa_cons ?_
        refine we_name 1 ?_
        refine wa_nil ?_
        refine ⟨_, _, _, _, _, _, _, rfl, ho22, Vw.p, hturn_, sm_s hT fun d23 hT => ?_⟩
        refine wa_cons ?_
        refine e_call (ok_l_told T) hgd hr xt0 ?_
        refine wa_cons ?_
        refine e_call (ok_l_copy T) hgd hr xt0 ?_
        refine wa_cons ?_
        refine we_name 0 ?_
        refine wa_nil ?_
        refine ⟨_, _, rfl, Vw.p, sm_s hT fun d24 hT => .inr fun t25 m26 ho27 => ?_⟩
        refine wa_cons ?_
        refine e_int ?_
        refine wa_cons ?_
        refine we_bin ?_
        refine e_int ?_
        refine we_name 1 ?_
        refine o_sub Vw.p (Vw.le (Own.le ho27) hturn_) hT fun d28 hT => ?_
        refine wa_nil ?_
        refine ⟨_, _, _, _, _, _, _, rfl, ho27, Vw.p, Vw.p, sm_s hT fun d29 hT => ?_⟩
        refine wa_nil ?_
        refine ⟨[_, _], rfl, by simp, ?_⟩
        refine wss_one ?_
        refine ws_if ?_
        refine wt_not ?_
        refine t_val ?_
        refine e_call (ok_l_equal T) hgd hr xt0 ?_
        refine wa_cons ?_
        refine we_name 4 ?_
        refine wa_cons ?_
        refine we_name 2 ?_
        refine wa_nil ?_
        refine ⟨_, _, _, _, rfl, Vw.p, Vw.p, sm_s hT fun d30 hT => ?_⟩
        refine ⟨_, Vw.p, sm_s hT fun b31 hT => ?_⟩
        refine ⟨fun hb => ?_, fun hb => ?_⟩
        · skip
          have hT := brT hT hb
          refine wss_one ?_
          refine ws_ret ?_
          refine e_bool ?_
          exact ⟨_, Le.rfl, hT⟩
        · skip
          have hT := brF hT hb
          refine wss_nil ?_
          exact ⟨_, hT, ⟨_, _, rfl⟩, Le.rfl⟩
      · obtain ⟨x13, x14, rfl⟩ := he
        refine wss_le hle ?_
        refine wss_one ?_
        refine ws_ret ?_
        refine e_bool ?_
        exact ⟨_, Le.rfl, hT⟩
theorem ok_l_line_right (T : Tx K mg base) : DefK P w K mg base "_law_line_right" 8 T_l_line_right [] := by
  obtain ⟨f, fd, F, hm⟩ := T.f_l_line_right
  exact defK_mk F (g_l_line_right T F) hm (fun kV doc pm an cdv ct us hl => match us, hl with | [a0, a1], _ => rfl)
theorem g_l_text_right (T : Tx K mg base) {f : Addr} {fd : FuncData} (F : FunD K "_law_text_right" "_law_text_right" (defArgs s_l_text_right) (defBody s_l_text_right) (defScope s_l_text_right) [] [] f fd) : FnG P w K mg base 7 f fd ["value", "due", "turn"] T_l_text_right := by
  have sc := sc_l_text_right
  refine fn_okD F sc_l_text_right (fun xs m post xp h => ?_) fun cdv A outer s H E B0 H0 xs m post xp hgd hr hT hx => ?_
  · obtain ⟨_, _, _, _, _, _, h, _⟩ := h; subst h; rfl
  obtain ⟨tvalue_, value_, tdue_, due_, tturn_, turn_, rfl, hvalue_, hdue_, hturn_, hT⟩ := hT
  have hT := Sm.opt hT
  refine wss_leE ?_
  refine wss_cons ?_
  refine ws_set 3 ?_ sc.nd
  refine e_call (ok_l_copy T) hgd hr xt0 ?_
  refine wa_cons ?_
  refine we_name 0 ?_
  refine wa_nil ?_
  refine ⟨_, _, rfl, hvalue_, sm_s hT fun d1 hT => .inr fun t2 m3 ho4 => ?_⟩
  refine wss_cons ?_
  obtain ⟨kk5, hk6, hT⟩ := jn_s hT
  obtain ⟨H8, hH9, hT⟩ := try_h hT
  refine ws_cut (fun ρ' m' => ∃ (s7 : D), Ok (kk5 s7) (fun d => post (td d) m) (fun _ => False) ∧ [some (tvalue_), some (tdue_), some (tturn_), some (t2), some (td (s7)), none] = ρ' ∧ Le m3 m') ?_ ?_
  · skip
    refine ws_tryD (E1 := fun y => Ok (H8 y) (fun d => post (td d) m) (fun _ => False)) (ts := [tvalue_, tdue_, tturn_, t2]) (xp := noX) _ xt0 sc.nd (.cons ⟨rfl, by decide, .inl T.g_InvalidText⟩ (.yes (i := 5) rfl rfl) .nil) (fun B1 H1 y10 hT => ?_) (fun B1 H1 pn xe hx po => ?_)
    · subst hH9
      obtain ⟨b11, eb, hT⟩ := hT.get
      refine ⟨b11, T.ex_q eb, fun hb ay10 ddy10 oey10 pny10 hzy10 hfy10 => ?_, fun hb => ?_⟩
      · have hT := brT hT hb
        refine wss_one ?_
        refine ws_ret ?_
        obtain ⟨kk12, hk13, hT⟩ := jn_s hT
        refine we_cv (Wp.imp (P := fun z m' => ∃ s14 : D, Ok (kk12 s14) (fun d => post (td d) m) (fun _ => False) ∧ Cv z (td s14) ∧ Le m m') ?_ ?_)
        · skip
          refine we_and ?_
          refine we_cmp ?_
          refine we_name 1 ?_
          refine e_none ?_
          refine o_is (Vw.le (Own.le ho4) hdue_) (BoolP.of ?_)
          refine ⟨fun hb => ?_, fun hb => ?_⟩
          · skip
            have hT := brT hT hb
            refine we_one ?_
            refine e_callH (okH_l_very T) hgd (RmH.mk (k := 6) hr.dp hr.un) ?_
            refine wa_cons ?_
            refine e_xf 5 hT (fun hin => T.at_q hin) hzy10 hfy10 (fun v15 hT => ?_)
            refine wa_cons ?_
            refine we_name 3 ?_
            refine wa_nil ?_
            obtain ⟨u16, ev, hTn⟩ := hT.get
            cases u16
            obtain rfl := asArg_is ev
            have hT := hTn
            refine ⟨_, _, _, rfl, ho4, sm_s hT fun d17 hT => ?_⟩
            exact ⟨_, hT, Cv.rfl, Le.rfl⟩
          · skip
            have hT := brF hT hb
            exact ⟨_, hT, cv_bl, (Own.le ho4)⟩
        · rintro z m' ⟨s14, hT, hcv, hle18⟩
          subst hk13
          refine ⟨_, hcv, ?_⟩
          exact ⟨_, (Le.trans hle18 Le.rfl), hT⟩
      · have hT := brF hT hb
        exact hT.elim
    · skip
      refine wss_one ?_
      refine ws_set 4 ?_ sc.nd
      obtain ⟨kk19, hk20, hT⟩ := jn_s hT
      refine we_cv (Wp.imp (P := fun z m' => ∃ s21 : D, Ok (kk19 s21) (tQ kk5 (fun d => post (td d) m) (fun _ => False)) (fun y => Ok (H8 y) (fun d => post (td d) m) (fun _ => False)) ∧ Cv z (td s21) ∧ m3 = m') ?_ ?_)
      · skip
        refine we_if ?_
        refine wt_cmp ?_
        refine we_name 2 ?_
        refine e_int ?_
        refine o_eq (RmH.mk (k := 6) hr.dp hr.un) T.sys (Vw.le (Own.le ho4) hturn_) Vw.p hT fun b22 hT => (BoolP.of ?_)
        refine ⟨fun hb => ?_, fun hb => ?_⟩
        · skip
          have hT := brT hT hb
          refine e_call (ok_read_line T) hgd hr hx ?_
          refine wa_cons ?_
          refine we_name 3 ?_
          refine wa_nil ?_
          refine ⟨_, _, rfl, (Own.vw ho4), ok_t hT rfl Le.rfl (fun d23 hT => ?_)⟩
          exact ⟨_, hT, Cv.rfl, rfl⟩
        · skip
          have hT := brF hT hb
          refine e_callK0 (ok_read_line_k0 T) hgd hr hx ?_
          refine wk_cons ?_
          refine we_name 3 ?_
          refine wk_nil ?_
          refine ⟨rfl, ?_⟩
          refine ⟨_, _, rfl, (Own.vw ho4), ok_t hT rfl Le.rfl (fun d24 hT => ?_)⟩
          exact ⟨_, hT, Cv.rfl, rfl⟩
      · rintro z m' ⟨s21, hT, hcv, rfl⟩
        subst hk20
        refine ⟨_, hcv, ?_⟩
        exact ⟨_, hT, rfl, Le.rfl⟩
  · rintro ρ' m' ⟨s7, hT, rfl, hle⟩
    subst hk6
    refine wss_le hle ?_
    refine wss_one ?_
    refine ws_ret ?_
    obtain ⟨kk25, hk26, hT⟩ := jn_s hT
    refine we_cv (Wp.imp (P := fun z m' => ∃ s27 : D, Ok (kk25 s27) (fun d => post (td d) m) (fun _ => False) ∧ Cv z (td s27) ∧ m3 = m') ?_ ?_)
    · skip
      refine we_and ?_
      refine we_cmp ?_
      refine we_name 1 ?_
      refine e_none ?_
      refine o_isnot (Vw.le (Own.le ho4) hdue_) (BoolP.of ?_)
      refine ⟨fun hb => ?_, fun hb => ?_⟩
      · skip
        have hT := brT hT hb
        refine we_one ?_
        refine e_call (ok_l_equal T) hgd hr xt0 ?_
        refine wa_cons ?_
        refine we_name 4 ?_
        refine wa_cons ?_
        refine we_name 1 ?_
        refine wa_nil ?_
        refine ⟨_, _, _, _, rfl, Vw.p, (Vw.le (Own.le ho4) hdue_), sm_s hT fun d28 hT => ?_⟩
        exact ⟨_, hT, Cv.rfl, rfl⟩
      · skip
        have hT := brF hT hb
        exact ⟨_, hT, cv_bl, rfl⟩
    · rintro z m' ⟨s27, hT, hcv, rfl⟩
      subst hk26
      refine ⟨_, hcv, ?_⟩
      exact ⟨_, (Le.trans (Own.le ho4) Le.rfl), hT⟩
theorem ok_l_text_right (T : Tx K mg base) : DefK P w K mg base "_law_text_right" 7 T_l_text_right [] := by
  obtain ⟨f, fd, F, hm⟩ := T.f_l_text_right
  exact defK_mk F (g_l_text_right T F) hm (fun kV doc pm an cdv ct us hl => match us, hl with | [a0, a1, a2], _ => rfl)
theorem g_l_object_right (T : Tx K mg base) {f : Addr} {fd : FuncData} (F : FunD K "_law_object_right" "_law_object_right" (defArgs s_l_object_right) (defBody s_l_object_right) (defScope s_l_object_right) [] [] f fd) : FnG P w K mg base 7 f fd ["thing"] T_l_object_right := by
  have sc := sc_l_object_right
  refine fn_okD F sc_l_object_right (fun xs m post xp h => ?_) fun cdv A outer s H E B0 H0 xs m post xp hgd hr hT hx => ?_
  · obtain ⟨_, _, h, _⟩ := h; subst h; rfl
  obtain ⟨athing_, thing_, rfl, hT⟩ := hT
  have hT := Sm.opt hT
  refine wss_leE ?_
  refine wss_cons ?_
  refine ws_if ?_
  refine wt_cmp ?_
  refine e_list ?_
  refine wa_cons ?_
  refine e_call (ok_is_cell T) hgd hr xt0 ?_
  refine wa_cons ?_
  refine we_name 0 ?_
  refine wa_nil ?_
  refine ⟨_, _, rfl, Vw.pin, sm_s hT fun d1 hT => ?_⟩
  refine wa_cons ?_
  refine e_call (ok_is_text T) hgd hr xt0 ?_
  refine wa_cons ?_
  refine we_name 0 ?_
  refine wa_nil ?_
  refine ⟨_, _, rfl, Vw.pin, sm_s hT fun d2 hT => ?_⟩
  refine wa_cons ?_
  refine e_call (ok_is_line T) hgd hr xt0 ?_
  refine wa_cons ?_
  refine we_name 0 ?_
  refine wa_nil ?_
  refine ⟨_, _, rfl, Vw.pin, sm_s hT fun d3 hT => ?_⟩
  refine wa_nil ?_
  refine ⟨[_, _, _], rfl, by simp, ?_⟩
  refine e_list ?_
  refine wa_cons ?_
  refine e_bool ?_
  refine wa_cons ?_
  refine e_bool ?_
  refine wa_cons ?_
  refine e_bool ?_
  refine wa_nil ?_
  refine ⟨[_, _, _], rfl, by simp, ?_⟩
  refine o_ne (RmH.mk (k := 6) hr.dp hr.un) T.sys Vw.p Vw.p hT fun b4 hT => (BoolP.of ?_)
  refine ⟨fun hb => ?_, fun hb => ?_⟩
  · skip
    have hT := brT hT hb
    refine wss_one ?_
    refine ws_ret ?_
    refine e_bool ?_
    exact ⟨_, Le.rfl, hT⟩
  · skip
    have hT := brF hT hb
    refine wss_nil ?_
    refine wss_cons ?_
    refine ws_set 1 ?_ sc.nd
    refine e_listO ?_
    refine wa_nil ?_
    refine ⟨[], rfl, by simp, fun p5 => ?_⟩
    refine wss_cons ?_
    refine ws_for ?_ own_passes rfl
    refine wi_rng1 T.range ?_
    refine e_int ?_
    refine ⟨_, Vw.p, sm_s hT fun xs7 hT hl => ?_⟩
    refine forp_D (S := List D) (s0 := ([])) (fun s8 ρ' => ∃ x9 : Option TV, ρ' = [some (tv (Pin.mk athing_ thing_)), some (tv (Ref.mk p5)), x9, none]) (fun s8 => ((p5, mC (.lst s8)) :: m)) hT ⟨_, rfl⟩ Le.rfl (fun s8 m' hle => trivial) (fun x10 s8 ρ' nx11 br12 he hT => ?_) (fun s8 ρ' m' hle he hT => ?_)
    · obtain ⟨x9, rfl⟩ := he
      refine wg_name 2 ?_ sc.nd
      refine wss_one ?_
      refine ws_leN ?_
      obtain ⟨kk14, hk15, hT⟩ := jn_s hT
      obtain ⟨H17, hH18, hT⟩ := try_h hT
      refine ws_cut (fun ρ' m' => ∃ (s16 : List D), Ok (kk14 s16) (fun d => post (td d) m) (fun _ => False) ∧ [some (tv (Pin.mk athing_ thing_)), some (tv (Ref.mk p5)), some (td (x10)), none] = ρ' ∧ Le ((p5, mC (.lst s16)) :: m) m') ?_ ?_
      · skip
        refine ws_tryD (E1 := fun y => Ok (H17 y) (fun d => post (td d) m) (fun _ => False)) (ts := [tv (Pin.mk athing_ thing_)]) (xp := noX) _ xt0 sc.nd (.cons ⟨rfl, by decide, .inl T.g_InvalidLine⟩ (.yes (i := 3) rfl rfl) (.cons ⟨rfl, by decide, .inl T.g_InvalidText⟩ (.yes (i := 3) rfl rfl) .nil)) (fun B1 H1 y19 hT => ?_) (fun B1 H1 pn xe hx po => ?_)
        · subst hH18
          obtain ⟨b20, eb, hT⟩ := hT.get
          refine ⟨b20, T.ex_q eb, fun hb ay19 ddy19 oey19 pny19 hzy19 hfy19 => ?_, fun hb => ?_⟩
          · have hT := brT hT hb
            refine wss_one ?_
            refine ws_expr ?_
            refine we_bm PySem.F.plainAttrs_list PySem.F.slot_list_append ?_
            refine we_name 1 ?_
            refine ⟨ty_list (Vw.cell 0 rfl rfl), ?_⟩
            refine wa_cons ?_
            obtain ⟨kk21, hk22, hT⟩ := jn_s hT
            refine we_cv (Wp.imp (P := fun z m' => ∃ s23 : D, Ok (kk21 s23) (fun d => post (td d) m) (fun _ => False) ∧ Cv z (td s23) ∧ ((p5, mC (.lst s8)) :: m) = m') ?_ ?_)
            · skip
              refine we_if ?_
              refine wt_cmp ?_
              refine e_xf 3 hT (fun hin => T.at_q hin) hzy19 hfy19 (fun v24 hT => ?_)
              refine we_name 0 ?_
              obtain ⟨u26, ev, hTn⟩ := hT.get
              cases u26
              obtain rfl := asArg_is ev
              have hT := hTn
              refine o_eqself (RmH.mk (k := 6) hr.dp hr.un) T.sys hT fun b25 hT => (BoolP.of ?_)
              refine ⟨fun hb => ?_, fun hb => ?_⟩
              · skip
                have hT := brT hT hb
                refine e_str ?_
                exact ⟨_, hT, Cv.rfl, rfl⟩
              · skip
                have hT := brF hT hb
                refine e_str ?_
                exact ⟨_, hT, Cv.rfl, rfl⟩
            · rintro z m' ⟨s23, hT, hcv, rfl⟩
              subst hk22
              refine ⟨_, hcv, ?_⟩
              refine wa_nil ?_
              refine o_append 0 rfl hT fun x27 hT => ?_
              exact ⟨_, hT, rfl, Le.rfl⟩
          · have hT := brF hT hb
            obtain ⟨b28, eb, hT⟩ := hT.get
            refine ⟨b28, T.ex_q eb, fun hb ay19 ddy19 oey19 pny19 hzy19 hfy19 => ?_, fun hb => ?_⟩
            · have hT := brT hT hb
              refine wss_one ?_
              refine ws_expr ?_
              refine we_bm PySem.F.plainAttrs_list PySem.F.slot_list_append ?_
              refine we_name 1 ?_
              refine ⟨ty_list (Vw.cell 0 rfl rfl), ?_⟩
              refine wa_cons ?_
              obtain ⟨kk29, hk30, hT⟩ := jn_s hT
              refine we_cv (Wp.imp (P := fun z m' => ∃ s31 : D, Ok (kk29 s31) (fun d => post (td d) m) (fun _ => False) ∧ Cv z (td s31) ∧ ((p5, mC (.lst s8)) :: m) = m') ?_ ?_)
              · skip
                refine we_if ?_
                refine wt_cmp ?_
                refine e_xf 3 hT (fun hin => T.at_q hin) hzy19 hfy19 (fun v32 hT => ?_)
                refine we_name 0 ?_
                obtain ⟨u34, ev, hTn⟩ := hT.get
                cases u34
                obtain rfl := asArg_is ev
                have hT := hTn
                refine o_eqself (RmH.mk (k := 6) hr.dp hr.un) T.sys hT fun b33 hT => (BoolP.of ?_)
                refine ⟨fun hb => ?_, fun hb => ?_⟩
                · skip
                  have hT := brT hT hb
                  refine e_str ?_
                  exact ⟨_, hT, Cv.rfl, rfl⟩
                · skip
                  have hT := brF hT hb
                  refine e_str ?_
                  exact ⟨_, hT, Cv.rfl, rfl⟩
              · rintro z m' ⟨s31, hT, hcv, rfl⟩
                subst hk30
                refine ⟨_, hcv, ?_⟩
                refine wa_nil ?_
                refine o_append 0 rfl hT fun x35 hT => ?_
                exact ⟨_, hT, rfl, Le.rfl⟩
            · have hT := brF hT hb
              exact hT.elim
        · skip
          refine wss_one ?_
          refine ws_if ?_
          refine wt_cmp ?_
          refine we_name 2 ?_
          refine e_int ?_
          refine o_eq (RmH.mk (k := 6) hr.dp hr.un) T.sys Vw.p Vw.p hT fun b36 hT => (BoolP.of ?_)
          refine ⟨fun hb => ?_, fun hb => ?_⟩
          · skip
            have hT := brT hT hb
            refine wss_one ?_
            refine ws_expr ?_
            refine we_bm PySem.F.plainAttrs_list PySem.F.slot_list_append ?_
            refine we_name 1 ?_
            refine ⟨ty_list (Vw.cell 0 rfl rfl), ?_⟩
            refine wa_cons ?_
            refine e_list ?_
            refine wa_cons ?_
            refine e_call (ok_key T) hgd hr hx ?_
            refine wa_cons ?_
            refine we_name 0 ?_
            refine wa_nil ?_
            refine ⟨_, _, rfl, Vw.pin.c, ok_t hT rfl Le.rfl (fun d37 hT => ?_)⟩
            refine wa_nil ?_
            refine ⟨[_], rfl, by simp, ?_⟩
            refine wa_nil ?_
            refine o_append 0 rfl hT fun x38 hT => ?_
            exact ⟨_, hT, rfl, Le.rfl⟩
          · skip
            have hT := brF hT hb
            refine wss_one ?_
            refine ws_if ?_
            refine wt_cmp ?_
            refine we_name 2 ?_
            refine e_int ?_
            refine o_eq (RmH.mk (k := 6) hr.dp hr.un) T.sys Vw.p Vw.p hT fun b39 hT => (BoolP.of ?_)
            refine ⟨fun hb => ?_, fun hb => ?_⟩
            · skip
              have hT := brT hT hb
              refine wss_one ?_
              refine ws_expr ?_
              refine we_bm PySem.F.plainAttrs_list PySem.F.slot_list_append ?_
              refine we_name 1 ?_
              refine ⟨ty_list (Vw.cell 0 rfl rfl), ?_⟩
              refine wa_cons ?_
              refine e_list ?_
              refine wa_cons ?_
              refine e_call (ok_line_text T) hgd hr hx ?_
              refine wa_cons ?_
              refine we_name 0 ?_
              refine wa_nil ?_
              refine ⟨_, _, rfl, Vw.pin.c, ok_t hT rfl Le.rfl (fun d40 hT => ?_)⟩
              refine wa_nil ?_
              refine ⟨[_], rfl, by simp, ?_⟩
              refine wa_nil ?_
              refine o_append 0 rfl hT fun x41 hT => ?_
              exact ⟨_, hT, rfl, Le.rfl⟩
            · skip
              have hT := brF hT hb
              refine wss_one ?_
              refine ws_expr ?_
              refine we_bm PySem.F.plainAttrs_list PySem.F.slot_list_append ?_
              refine we_name 1 ?_
              refine ⟨ty_list (Vw.cell 0 rfl rfl), ?_⟩
              refine wa_cons ?_
              refine e_list ?_
              refine wa_cons ?_
              refine e_call (ok_read_line T) hgd hr hx ?_
              refine wa_cons ?_
              refine we_name 0 ?_
              refine wa_nil ?_
              refine ⟨_, _, rfl, Vw.pin.c, ok_t hT rfl Le.rfl (fun d42 hT => ?_)⟩
              refine wa_nil ?_
              refine ⟨[_], rfl, by simp, ?_⟩
              refine wa_nil ?_
              refine o_append 0 rfl hT fun x43 hT => ?_
              exact ⟨_, hT, rfl, Le.rfl⟩
      · rintro ρ' m' ⟨s16, hT, rfl, hle⟩
        subst hk15
        refine ⟨_, hle, ?_⟩
        exact ⟨_, hT, ⟨_, rfl⟩, Le.rfl⟩
    · obtain ⟨x9, rfl⟩ := he
      refine wss_le hle ?_
      refine wss_one ?_
      refine ws_ret ?_
      refine we_cv ?_
      refine we_cmp ?_
      refine we_name 1 ?_
      refine e_list ?_
      refine wa_cons ?_
      refine e_str ?_
      refine wa_cons ?_
      refine e_str ?_
      refine wa_cons ?_
      refine e_str ?_
      refine wa_nil ?_
      refine ⟨[_, _, _], rfl, by simp, ?_⟩
      refine o_eq (RmH.mk (k := 6) hr.dp hr.un) T.sys (Vw.cell 0 rfl rfl) Vw.p hT fun b44 hT => ⟨_, cv_bl, ?_⟩
      exact ⟨_, ⟨_, .refl _, (.cons _ (.refl _))⟩, hT⟩
theorem ok_l_object_right (T : Tx K mg base) : DefK P w K mg base "_law_object_right" 7 T_l_object_right [] := by
  obtain ⟨f, fd, F, hm⟩ := T.f_l_object_right
  exact defK_mk F (g_l_object_right T F) hm (fun kV doc pm an cdv ct us hl => match us, hl with | [a0], _ => rfl)
theorem g_l_others_right (T : Tx K mg base) {f : Addr} {fd : FuncData} (F : FunD K "_law_others_right" "_law_others_right" (defArgs s_l_others_right) (defBody s_l_others_right) (defScope s_l_others_right) [] [] f fd) : FnG P w K mg base 9 f fd ["line"] T_l_others_right := by
  have sc := sc_l_others_right
  refine fn_okD F sc_l_others_right (fun xs m post xp h => ?_) fun cdv A outer s H E B0 H0 xs m post xp hgd hr hT hx => ?_
  · obtain ⟨_, _, h, _⟩ := h; subst h; rfl
  obtain ⟨tline_, line_, rfl, hline_, hT⟩ := hT
  have hT := Sm.opt hT
  refine wss_cons ?_
  refine ws_set 1 ?_ sc.nd
  refine e_call (ok_l_written T) hgd hr xt0 ?_
  refine wa_cons ?_
  refine we_name 0 ?_
  refine wa_nil ?_
  refine ⟨_, _, rfl, hline_, sm_s hT fun d1 hT => ?_⟩
  refine wss_cons ?_
  refine ws_set 2 ?_ sc.nd
  refine e_list ?_
  refine wa_cons ?_
  refine e_none ?_
  refine wa_cons ?_
  refine e_int ?_
  refine wa_cons ?_
  refine e_bool ?_
  refine wa_cons ?_
  refine e_bool ?_
  refine wa_cons ?_
  refine e_neg ?_
  refine e_int ?_
  refine ⟨_, Vw.p, sm_s hT fun d2 hT => ?_⟩
  refine wa_cons ?_
  refine e_str ?_
  refine wa_cons ?_
  refine e_str ?_
  refine wa_cons ?_
  refine e_list ?_
  refine wa_nil ?_
  refine ⟨[], rfl, by simp, ?_⟩
  refine wa_cons ?_
  refine e_tup ?_
  refine wa_nil ?_
  refine ⟨[], rfl, by simp, ?_⟩
  refine wa_cons ?_
  refine e_dct0 ?_
  refine wa_cons ?_
  refine e_list ?_
  refine wa_cons ?_
  refine we_name 1 ?_
  refine wa_nil ?_
  refine ⟨[_], rfl, by simp, ?_⟩
  refine wa_cons ?_
  refine e_tup ?_
  refine wa_cons ?_
  refine we_name 1 ?_
  refine wa_nil ?_
  refine ⟨[_], rfl, by simp, ?_⟩
  refine wa_cons ?_
  refine we_callT (T := "dict") T.dict ?_ bt_dict
  refine wa_cons ?_
  refine e_list ?_
  refine wa_cons ?_
  refine e_tup ?_
  refine wa_cons ?_
  refine e_str ?_
  refine wa_cons ?_
  refine we_name 1 ?_
  refine wa_nil ?_
  refine ⟨[_, _], rfl, by simp, ?_⟩
  refine wa_nil ?_
  refine ⟨[_], rfl, by simp, ?_⟩
  refine wa_nil ?_
  refine o_dict1 rfl Vw.p hT fun d3 hT => ?_
  refine wa_cons ?_
  refine we_bin ?_
  refine e_int ?_
  refine e_int ?_
  refine o_pow Vw.p Vw.p hT fun d4 hT => ?_
  refine wa_nil ?_
  refine ⟨[_, _, _, _, _, _, _, _, _, _, _, _, _, _], rfl, by simp, ?_⟩
  obtain ⟨d5, e6, hT⟩ := keep_s hT
  rw [e6]
  refine wss_cons ?_
  refine ws_for ?_ own_passes rfl
  refine wi_rng1 T.range ?_
  refine we_callB (id := "len") T.len ?_ bt_len
  refine wa_cons ?_
  refine we_name 2 ?_
  refine wa_nil ?_
  refine o_len Vw.p hT fun d8 hT => ?_
  refine ⟨_, Vw.p, sm_s hT fun xs7 hT hl => ?_⟩
  refine forp_D (S := Unit) (s0 := ()) (fun s9 ρ' => ∃ x10 : Option TV, ρ' = [some (tline_), some (td (d1)), some (td (d5)), x10]) (fun s9 => m) hT ⟨_, rfl⟩ Le.rfl (fun s9 m' hle => trivial) (fun x11 s9 ρ' nx12 br13 he hT => ?_) (fun s9 ρ' m' hle he hT => ?_)
  · obtain ⟨x10, rfl⟩ := he
    refine wg_name 3 ?_ sc.nd
    refine wss_one ?_
    refine ws_if ?_
    obtain ⟨kk15, hk16, hT⟩ := jn_s hT
    refine WpT.imp (P := fun z m' => ∃ s17 : Bool, Ok (kk15 s17) (fun d => post (td d) m) (fun _ => False) ∧ s17 = z ∧ m = m') ?_ ?_
    · skip
      refine wt_bool ?_
      refine ww_or ?_
      refine wt_not ?_
      refine t_val ?_
      refine e_call (ok_l_text_right T) hgd hr xt0 ?_
      refine wa_cons ?_
      refine we_ix ?_
      refine we_name 2 ?_
      refine we_name 3 ?_
      refine o_ix Vw.p Vw.p hT fun d18 hT => ?_
      refine wa_cons ?_
      refine e_none ?_
      refine wa_cons ?_
      refine we_bin ?_
      refine we_callT (T := "int") T.int ?_ bt_int
      refine wa_cons ?_
      refine we_name 3 ?_
      refine wa_nil ?_
      refine o_int1 Vw.p hT fun d19 hT => ?_
      refine e_int ?_
      refine o_mod Vw.p Vw.p hT fun d20 hT => ?_
      refine wa_nil ?_
      refine ⟨_, _, _, _, _, _, rfl, Vw.p, Vw.p, Vw.p, sm_s hT fun d21 hT => ?_⟩
      refine ⟨_, Vw.p, sm_s hT fun b22 hT => ?_⟩
      refine ⟨fun hb => ?_, fun hb => ?_⟩
      · skip
        have hT := brT hT hb
        exact ⟨_, hT, rfl, rfl⟩
      · skip
        have hT := brF hT hb
        refine ww_or1 ?_
        refine wt_not ?_
        refine t_val ?_
        refine e_call (ok_l_line_right T) hgd hr xt0 ?_
        refine wa_cons ?_
        refine we_ix ?_
        refine we_name 2 ?_
        refine we_name 3 ?_
        refine o_ix Vw.p Vw.p hT fun d23 hT => ?_
        refine wa_cons ?_
        refine we_bin ?_
        refine we_callT (T := "int") T.int ?_ bt_int
        refine wa_cons ?_
        refine we_name 3 ?_
        refine wa_nil ?_
        refine o_int1 Vw.p hT fun d24 hT => ?_
        refine e_int ?_
        refine o_mod Vw.p Vw.p hT fun d25 hT => ?_
        refine wa_nil ?_
        refine ⟨_, _, _, rfl, Vw.p, sm_s hT fun d26 hT => ?_⟩
        refine ⟨_, Vw.p, sm_s hT fun b27 hT => ?_⟩
        exact ⟨_, hT, rfl, rfl⟩
    · rintro z m' ⟨s17, hT, rfl, rfl⟩
      subst hk16
      refine ⟨fun hb => ?_, fun hb => ?_⟩
      · skip
        have hT := brT hT hb
        refine wss_one ?_
        refine ws_ret ?_
        refine e_bool ?_
        exact hT
      · skip
        have hT := brF hT hb
        refine wss_nil ?_
        exact ⟨_, hT, ⟨_, rfl⟩, Le.rfl⟩
  · obtain ⟨x10, rfl⟩ := he
    refine wss_le hle ?_
    refine wss_one ?_
    refine ws_ret ?_
    obtain ⟨kk28, hk29, hT⟩ := jn_s hT
    refine we_cv (Wp.imp (P := fun z m' => ∃ s30 : D, Ok (kk28 s30) (fun d => post (td d) m) (fun _ => False) ∧ Cv z (td s30) ∧ m = m') ?_ ?_)
    · skip
      refine we_and ?_
      refine we_cv ?_
      refine e_call (ok_l_text_right T) hgd hr xt0 ?_
      refine wa_cons ?_
      refine we_name 0 ?_
      refine wa_cons ?_
      refine e_none ?_
      refine wa_cons ?_
      refine e_int ?_
      refine wa_nil ?_
      refine ⟨_, _, _, _, _, _, rfl, hline_, Vw.p, Vw.p, sm_s hT fun d31 hT => ?_⟩
      refine b_val (PA := fun _ _ => True) Vw.p hT fun b32 hT => ?_
      refine ⟨fun hb => ?_, fun hb => ?_⟩
      · skip
        have hT := brT hT hb
        refine we_and ?_
        refine we_cv ?_
        refine e_call (ok_l_text_right T) hgd hr xt0 ?_
        refine wa_cons ?_
        refine we_callT (T := "list") T.list ?_ bt_list
        refine wa_cons ?_
        refine we_name 0 ?_
        refine wa_nil ?_
        refine o_list1 hline_ hT fun d33 hT => ?_
        refine wa_cons ?_
        refine e_none ?_
        refine wa_cons ?_
        refine e_int ?_
        refine wa_nil ?_
        refine ⟨_, _, _, _, _, _, rfl, Vw.p, Vw.p, Vw.p, sm_s hT fun d34 hT => ?_⟩
        refine b_val (PA := fun _ _ => True) Vw.p hT fun b35 hT => ?_
        refine ⟨fun hb => ?_, fun hb => ?_⟩
        · skip
          have hT := brT hT hb
          refine we_one ?_
          refine e_call (ok_l_object_right T) hgd hr xt0 ?_
          refine wa_cons ?_
          refine e_xmk (ok_InvalidText T) T.xk_InvalidText hgd hr ?_
          refine wa_cons ?_
          refine we_name 1 ?_
          refine wa_nil ?_
          refine ⟨[_], rfl, rfl, by simp, by decide, fun a36 => ?_⟩
          refine wa_nil ?_
          refine ⟨_, _, rfl, sm_s hT fun d37 hT => ?_⟩
          exact ⟨_, hT, Cv.rfl, rfl⟩
        · skip
          have hT := brF hT hb
          exact ⟨_, hT, cv_bl, rfl⟩
      · skip
        have hT := brF hT hb
        exact ⟨_, hT, cv_bl, rfl⟩
    · rintro z m' ⟨s30, hT, hcv, rfl⟩
      subst hk29
      refine ⟨_, hcv, ?_⟩
      exact hT
theorem ok_l_others_right (T : Tx K mg base) : DefK P w K mg base "_law_others_right" 9 T_l_others_right [] := by
  obtain ⟨f, fd, F, hm⟩ := T.f_l_others_right
  exact defK_mk F (g_l_others_right T F) hm (fun kV doc pm an cdv ct us hl => match us, hl with | [a0], _ => rfl)
theorem g_l_right (T : Tx K mg base) {f : Addr} {fd : FuncData} (F : FunD K "_law_right" "_law_right" (defArgs s_l_right) (defBody s_l_right) (defScope s_l_right) [] [] f fd) : FnG P w K mg base 10 f fd ["box"] T_l_right := by
  have sc := sc_l_right
  refine fn_okD F sc_l_right (fun xs m post xp h => ?_) fun cdv A outer s H E B0 H0 xs m post xp hgd hr hT hx => ?_
  · obtain ⟨_, _, _, h, _⟩ := h; subst h; rfl
  obtain ⟨pbox_, box_, m1, rfl, rfl, hT⟩ := hT
  have hT := Sm.opt hT
  refine wss_cons ?_
  refine ws_set 1 ?_ sc.nd
  refine e_list ?_
  refine wa_cons ?_
  refine e_callP (ok_l_line T) hgd hr xt0 ?_
  refine wa_cons ?_
  refine we_name 0 ?_
  refine wa_nil ?_
  refine ⟨_, .refl _, ?_⟩
  refine ⟨_, _, _, rfl, rfl, sm_s hT fun d1 hT => ?_⟩
  refine ⟨_, .refl _, ?_⟩
  refine wa_cons ?_
  refine e_callP (ok_l_line T) hgd hr xt0 ?_
  refine wa_cons ?_
  refine we_name 0 ?_
  refine wa_nil ?_
  refine ⟨_, .refl _, ?_⟩
  refine ⟨_, _, _, rfl, rfl, sm_s hT fun d2 hT => ?_⟩
  refine ⟨_, .refl _, ?_⟩
  refine wa_nil ?_
  refine ⟨[_, _], rfl, by simp, ?_⟩
  refine wss_cons ?_
  refine ws_for ?_ own_passes rfl
  refine wi_D ?_
  refine we_bin ?_
  refine we_name 1 ?_
  refine we_slice ?_
  refine we_name 1 ?_
  refine wo_none ?_
  refine e_part ?_
  refine e_int ?_
  refine ⟨_, Vw.p, sm_s hT fun i4 hT => ?_⟩
  refine o_sl Vw.p hT fun d5 hT => ?_
  refine o_add Vw.p Vw.p hT fun d6 hT => ?_
  refine ⟨_, Vw.p, sm_s hT fun xs3 hT hl => ?_⟩
  refine forp_D (S := List D) (s0 := (d2.2)) (fun s7 ρ' => ∃ x8 : Option TV, ∃ x9 : Option TV, ∃ x10 : Option TV, ∃ x11 : Option TV, ∃ x12 : Option TV, ρ' = [some (tv (Ref.mk pbox_)), some (td (.lst [d1.1, d2.1])), x8, x9, x10, x11, x12]) (fun s7 => ((pbox_, mC (.lst s7)) :: m1)) hT ⟨_, _, _, _, _, rfl⟩ Le.rfl (fun s7 m' hle => Vw.p) (fun x13 s7 ρ' nx14 br15 he hT => ?_) (fun s7 ρ' m' hle he hT => ?_)
  · obtain ⟨x8, x9, x10, x11, x12, rfl⟩ := he
    refine wg_name 2 ?_ sc.nd
    refine wss_cons ?_
    refine ws_set 3 ?_ sc.nd
    refine e_call (ok_l_written T) hgd hr xt0 ?_
    refine wa_cons ?_
    refine we_name 2 ?_
    refine wa_nil ?_
    refine ⟨_, _, rfl, Vw.p, sm_s hT fun d17 hT => ?_⟩
    refine wss_cons ?_
    refine ws_if ?_
    obtain ⟨kk18, hk19, hT⟩ := jn_s hT
    refine WpT.imp (P := fun z m' => ∃ s20 : Bool, Ok (kk18 s20) (fun r => post (td r.1) ((pbox_, mC (.lst r.2)) :: m1)) (fun _ => False) ∧ s20 = z ∧ ((pbox_, mC (.lst s7)) :: m1) = m') ?_ ?_
    · skip
      refine wt_bool ?_
      refine ww_or ?_
      refine wt_not ?_
      refine t_val ?_
      refine e_call (ok_l_line_right T) hgd hr xt0 ?_
      refine wa_cons ?_
      refine we_name 2 ?_
      refine wa_cons ?_
      refine e_int ?_
      refine wa_nil ?_
      refine ⟨_, _, _, rfl, Vw.p, sm_s hT fun d21 hT => ?_⟩
      refine ⟨_, Vw.p, sm_s hT fun b22 hT => ?_⟩
      refine ⟨fun hb => ?_, fun hb => ?_⟩
      · skip
        have hT := brT hT hb
        exact ⟨_, hT, rfl, rfl⟩
      · skip
        have hT := brF hT hb
        refine ww_or ?_
        refine wt_not ?_
        refine t_val ?_
        refine e_call (ok_l_text_right T) hgd hr xt0 ?_
        refine wa_cons ?_
        refine we_name 3 ?_
        refine wa_cons ?_
        refine we_name 2 ?_
        refine wa_cons ?_
        refine e_int ?_
        refine wa_nil ?_
        refine ⟨_, _, _, _, _, _, rfl, Vw.p, Vw.p, Vw.p, sm_s hT fun d23 hT => ?_⟩
        refine ⟨_, Vw.p, sm_s hT fun b24 hT => ?_⟩
        refine ⟨fun hb => ?_, fun hb => ?_⟩
        · skip
          have hT := brT hT hb
          exact ⟨_, hT, rfl, rfl⟩
        · skip
          have hT := brF hT hb
          refine ww_or1 ?_
          refine wt_not ?_
          refine t_val ?_
          refine e_call (ok_l_text_right T) hgd hr xt0 ?_
          refine wa_cons ?_
          refine we_name 3 ?_
          refine wa_cons ?_
          refine we_name 2 ?_
          refine wa_cons ?_
          refine e_int ?_
          refine wa_nil ?_
          refine ⟨_, _, _, _, _, _, rfl, Vw.p, Vw.p, Vw.p, sm_s hT fun d25 hT => ?_⟩
          refine ⟨_, Vw.p, sm_s hT fun b26 hT => ?_⟩
          exact ⟨_, hT, rfl, rfl⟩
    · rintro z m' ⟨s20, hT, rfl, rfl⟩
      subst hk19
      refine ⟨fun hb => ?_, fun hb => ?_⟩
      · skip
        have hT := brT hT hb
        refine wss_one ?_
        refine ws_ret ?_
        refine e_bool ?_
        exact hT
      · skip
        have hT := brF hT hb
        refine wss_nil ?_
        refine wss_cons ?_
        refine ws_for ?_ own_passes rfl
        refine wi_rng1 T.range ?_
        refine e_int ?_
        refine ⟨_, Vw.p, sm_s hT fun xs27 hT hl => ?_⟩
        refine forp_D (S := List D) (s0 := (s7)) (fun s28 ρ' => ∃ x29 : Option TV, ∃ x30 : Option TV, ∃ x31 : Option TV, ρ' = [some (tv (Ref.mk pbox_)), some (td (.lst [d1.1, d2.1])), some (td (x13)), some (td (d17)), x29, x30, x31]) (fun s28 => ((pbox_, mC (.lst s28)) :: m1)) hT ⟨_, _, _, rfl⟩ Le.rfl (fun s28 m' hle => trivial) (fun x32 s28 ρ' nx33 br34 he hT => ?_) (fun s28 ρ' m' hle he hT => ?_)
        · obtain ⟨x29, x30, x31, rfl⟩ := he
          refine wg_name 4 ?_ sc.nd
          refine wss_cons ?_
          refine ws_par 5 6 ?_ rfl sc.nd
          refine wa_cons ?_
          refine e_callP (ok_l_odd T) hgd hr xt0 ?_
          refine wa_cons ?_
          refine we_name 0 ?_
          refine wa_cons ?_
          refine we_name 2 ?_
          refine wa_nil ?_
          refine ⟨_, .refl _, ?_⟩
          refine ⟨_, _, _, _, rfl, rfl, sm_s hT fun d36 hT => ?_⟩
          refine ⟨_, .refl _, ?_⟩
          refine wa_cons ?_
          refine e_callP (ok_l_spoilt T) hgd hr xt0 ?_
          refine wa_cons ?_
          refine we_name 0 ?_
          refine wa_cons ?_
          refine we_name 3 ?_
          refine wa_nil ?_
          refine ⟨_, .refl _, ?_⟩
          refine ⟨_, _, _, _, _, rfl, rfl, Vw.p, sm_s hT fun d37 hT => ?_⟩
          refine ⟨_, .refl _, ?_⟩
          refine wa_nil ?_
          refine ⟨_, _, rfl, ?_⟩
          refine wss_cons ?_
          refine ws_if ?_
          refine wt_not ?_
          refine t_val ?_
          refine e_call (ok_l_line_right T) hgd hr xt0 ?_
          refine wa_cons ?_
          refine we_name 5 ?_
          refine wa_cons ?_
          refine we_bin ?_
          refine we_callT (T := "int") T.int ?_ bt_int
          refine wa_cons ?_
          refine we_name 4 ?_
          refine wa_nil ?_
          refine o_int1 Vw.p hT fun d38 hT => ?_
          refine e_int ?_
          refine o_mod Vw.p Vw.p hT fun d39 hT => ?_
          refine wa_nil ?_
          refine ⟨_, _, _, rfl, Vw.p, sm_s hT fun d40 hT => ?_⟩
          refine ⟨_, Vw.p, sm_s hT fun b41 hT => ?_⟩
          refine ⟨fun hb => ?_, fun hb => ?_⟩
          · skip
            have hT := brT hT hb
            refine wss_one ?_
            refine ws_ret ?_
            refine e_bool ?_
            exact hT
          · skip
            have hT := brF hT hb
            refine wss_nil ?_
            refine wss_cons ?_
            refine ws_if ?_
            obtain ⟨kk42, hk43, hT⟩ := jn_s hT
            refine WpT.imp (P := fun z m' => ∃ s44 : Bool, Ok (kk42 s44) (fun r => post (td r.1) ((pbox_, mC (.lst r.2)) :: m1)) (fun _ => False) ∧ s44 = z ∧ ((pbox_, mC (.lst d37.2)) :: m1) = m') ?_ ?_
            · skip
              refine wt_bool ?_
              refine ww_and ?_
              refine t_val ?_
              refine e_call (ok_l_short T) hgd hr xt0 ?_
              refine wa_cons ?_
              refine we_name 6 ?_
              refine wa_nil ?_
              refine ⟨_, _, rfl, Vw.p, sm_s hT fun d45 hT => ?_⟩
              refine ⟨_, Vw.p, sm_s hT fun b46 hT => ?_⟩
              refine ⟨fun hb => ?_, fun hb => ?_⟩
              · skip
                have hT := brT hT hb
                refine ww_and1 ?_
                refine wt_not ?_
                refine t_val ?_
                refine e_call (ok_l_text_right T) hgd hr xt0 ?_
                refine wa_cons ?_
                refine we_name 6 ?_
                refine wa_cons ?_
                refine e_call (ok_l_read T) hgd hr xt0 ?_
                refine wa_cons ?_
                refine we_name 6 ?_
                refine wa_nil ?_
                refine ⟨_, _, rfl, Vw.p, sm_s hT fun d47 hT => ?_⟩
                refine wa_cons ?_
                refine we_bin ?_
                refine we_callT (T := "int") T.int ?_ bt_int
                refine wa_cons ?_
                refine we_name 4 ?_
                refine wa_nil ?_
                refine o_int1 Vw.p hT fun d48 hT => ?_
                refine e_int ?_
                refine o_mod Vw.p Vw.p hT fun d49 hT => ?_
                refine wa_nil ?_
                refine ⟨_, _, _, _, _, _, rfl, Vw.p, Vw.p, Vw.p, sm_s hT fun d50 hT => ?_⟩
                refine ⟨_, Vw.p, sm_s hT fun b51 hT => ?_⟩
                exact ⟨_, hT, rfl, rfl⟩
              · skip
                have hT := brF hT hb
                exact ⟨_, hT, rfl, rfl⟩
            · rintro z m' ⟨s44, hT, rfl, rfl⟩
              subst hk43
              refine ⟨fun hb => ?_, fun hb => ?_⟩
              · skip
                have hT := brT hT hb
                refine wss_one ?_
                refine ws_ret ?_
                refine e_bool ?_
                exact hT
              · skip
                have hT := brF hT hb
                refine wss_nil ?_
                refine wss_one ?_
                refine ws_if ?_
                obtain ⟨kk52, hk53, hT⟩ := jn_s hT
                refine WpT.imp (P := fun z m' => ∃ s54 : Bool × List D, Ok (kk52 s54) (fun r => post (td r.1) ((pbox_, mC (.lst r.2)) :: m1)) (fun _ => False) ∧ s54.1 = z ∧ ((pbox_, mC (.lst s54.2)) :: m1) = m') ?_ ?_
                · skip
                  refine wt_bool ?_
                  refine ww_or ?_
                  refine wt_not ?_
                  refine t_val ?_
                  refine e_call (ok_l_judged T) hgd hr xt0 ?_
                  refine wa_cons ?_
                  refine e_callP (ok_l_odd_cell T) hgd hr xt0 ?_
                  refine wa_cons ?_
                  refine we_name 0 ?_
                  refine wa_cons ?_
                  refine we_ix ?_
                  refine we_name 2 ?_
                  refine e_int ?_
                  refine o_ix Vw.p Vw.p hT fun d55 hT => ?_
                  refine wa_nil ?_
                  refine ⟨_, .refl _, ?_⟩
                  refine ⟨_, _, _, _, rfl, rfl, sm_s hT fun d56 hT => ?_⟩
                  refine ⟨_, .refl _, ?_⟩
                  refine wa_cons ?_
                  refine e_int ?_
                  refine wa_nil ?_
                  refine ⟨_, _, _, rfl, Vw.p, sm_s hT fun d57 hT => ?_⟩
                  refine ⟨_, Vw.p, sm_s hT fun b58 hT => ?_⟩
                  refine ⟨fun hb => ?_, fun hb => ?_⟩
                  · skip
                    have hT := brT hT hb
                    exact ⟨_, hT, rfl, rfl⟩
                  · skip
                    have hT := brF hT hb
                    refine ww_or1 ?_
                    refine wt_not ?_
                    refine t_val ?_
                    refine e_call (ok_l_judged T) hgd hr xt0 ?_
                    refine wa_cons ?_
                    refine e_callP (ok_l_odd_text T) hgd hr xt0 ?_
                    refine wa_cons ?_
                    refine we_name 0 ?_
                    refine wa_cons ?_
                    refine we_ix ?_
                    refine we_name 2 ?_
                    refine e_int ?_
                    refine o_ix Vw.p Vw.p hT fun d59 hT => ?_
                    refine wa_nil ?_
                    refine ⟨_, .refl _, ?_⟩
                    refine ⟨_, _, _, _, rfl, rfl, sm_s hT fun d60 hT => ?_⟩
                    refine ⟨_, .refl _, ?_⟩
                    refine wa_cons ?_
                    refine e_int ?_
                    refine wa_nil ?_
                    refine ⟨_, _, _, rfl, Vw.p, sm_s hT fun d61 hT => ?_⟩
                    refine ⟨_, Vw.p, sm_s hT fun b62 hT => ?_⟩
                    exact ⟨_, hT, rfl, rfl⟩
                · rintro z m' ⟨s54, hT, rfl, rfl⟩
                  subst hk53
                  refine ⟨fun hb => ?_, fun hb => ?_⟩
                  · skip
                    have hT := brT hT hb
                    refine wss_one ?_
                    refine ws_ret ?_
                    refine e_bool ?_
                    exact hT
                  · skip
                    have hT := brF hT hb
                    refine wss_nil ?_
                    exact ⟨_, hT, ⟨_, _, _, rfl⟩, Le.rfl⟩
        · obtain ⟨x29, x30, x31, rfl⟩ := he
          refine wss_le hle ?_
          refine wss_one ?_
          refine ws_if ?_
          obtain ⟨kk63, hk64, hT⟩ := jn_s hT
          refine WpT.imp (P := fun z m' => ∃ s65 : Bool, Ok (kk63 s65) (fun r => post (td r.1) ((pbox_, mC (.lst r.2)) :: m1)) (fun _ => False) ∧ s65 = z ∧ ((pbox_, mC (.lst s28)) :: m1) = m') ?_ ?_
          · skip
            refine wt_bool ?_
            refine ww_or ?_
            refine wt_not ?_
            refine t_val ?_
            refine e_call (ok_l_judged T) hgd hr xt0 ?_
            refine wa_cons ?_
            refine we_ix ?_
            refine we_name 2 ?_
            refine e_int ?_
            refine o_ix Vw.p Vw.p hT fun d66 hT => ?_
            refine wa_cons ?_
            refine e_int ?_
            refine wa_nil ?_
            refine ⟨_, _, _, rfl, Vw.p, sm_s hT fun d67 hT => ?_⟩
            refine ⟨_, Vw.p, sm_s hT fun b68 hT => ?_⟩
            refine ⟨fun hb => ?_, fun hb => ?_⟩
            · skip
              have hT := brT hT hb
              exact ⟨_, hT, rfl, rfl⟩
            · skip
              have hT := brF hT hb
              refine ww_or1 ?_
              refine wt_not ?_
              refine t_val ?_
              refine e_call (ok_l_judged T) hgd hr xt0 ?_
              refine wa_cons ?_
              refine we_ix ?_
              refine we_name 2 ?_
              refine e_int ?_
              refine o_ix Vw.p Vw.p hT fun d69 hT => ?_
              refine wa_cons ?_
              refine e_int ?_
              refine wa_nil ?_
              refine ⟨_, _, _, rfl, Vw.p, sm_s hT fun d70 hT => ?_⟩
              refine ⟨_, Vw.p, sm_s hT fun b71 hT => ?_⟩
              exact ⟨_, hT, rfl, rfl⟩
          · rintro z m' ⟨s65, hT, rfl, rfl⟩
            subst hk64
            refine ⟨fun hb => ?_, fun hb => ?_⟩
            · skip
              have hT := brT hT hb
              refine wss_one ?_
              refine ws_ret ?_
              refine e_bool ?_
              exact hT
            · skip
              have hT := brF hT hb
              refine wss_nil ?_
              exact ⟨_, hT, ⟨_, _, _, _, _, rfl⟩, Le.rfl⟩
  · obtain ⟨x8, x9, x10, x11, x12, rfl⟩ := he
    refine wss_le hle ?_
    refine wss_one ?_
    refine ws_ret ?_
    refine e_call (ok_l_others_right T) hgd hr xt0 ?_
    refine wa_cons ?_
    refine we_ix ?_
    refine we_name 1 ?_
    refine e_int ?_
    refine o_ix Vw.p Vw.p hT fun d72 hT => ?_
    refine wa_nil ?_
    refine ⟨_, _, rfl, Vw.p, sm_s hT fun d73 hT => ?_⟩
    exact hT
theorem ok_l_right (T : Tx K mg base) : DefK P w K mg base "_law_right" 10 T_l_right [] := by
  obtain ⟨f, fd, F, hm⟩ := T.f_l_right
  exact defK_mk F (g_l_right T F) hm (fun kV doc pm an cdv ct us hl => match us, hl with | [a0], _ => rfl)
end
end K01

set_option Elab.async false
set_option linter.all false
set_option maxRecDepth 100000
set_option maxHeartbeats 4000000
namespace K01
open PySem PySem.Spec PyProof.Rows L2 Ty Dy
variable [CE]

def T_cell : TSpec := fun xs m post _ => ∃ (l : List Int) (k : Int), xs = [tv (Scr.mk l), tv k] ∧ 0 ≤ k ∧ ∀ g : Int, post (tv g) m
def T_law : TSpec := fun xs m post _ => ∃ l : List Int, xs = [tv (Scr.mk l)] ∧ ∀ m', post (tv true) m'
section
variable {P : Program} {w : World} {K : PySem.W.Frag} {mg : Str → Option Value} {base : Heap}
theorem ix_in {n : Nat} {k : Int} (h0 : 0 ≤ k) (h1 : k < n) : ixN n k = some k.toNat := by
  unfold ixN
  rw [if_pos h0, if_pos h1]
theorem ok_l_cell (T : Tx K mg base) : DefK P w K mg base "_law_cell" 1 T_cell [] := by
  obtain ⟨f, fd, F, hm⟩ := T.f_l_cell
  have sc := sc_l_cell
  refine defK_mk F (fn_ok F sc_l_cell (fun xs m post xp h => ?_) fun cdv A outer s H E B0 H0 xs m post xp hgd hr hT hx => ?_) hm (fun kV doc pm an cdv ct us hl => match us, hl with | [a0, a1], _ => rfl)
  · obtain ⟨_, _, h, _⟩ := h; subst h; rfl
  obtain ⟨l, k, rfl, hk, hpost⟩ := hT
  refine wss_one ?_
  refine ws_ret ?_
  refine we_ifP (B := ?B1) ?hc1 (fun h => ?ht1) (fun h => ?hf1)
  case hc1 =>
    refine wt_cmp ?_
    refine we_name 1 ?_
    refine we_callB (id := "len") T.len ?_ bt_len
    refine wa_cons ?_
    refine we_name 0 ?_
    refine wa_nil ?_
    refine len_scr ?_
    refine lt_ii ?_
    refine BoolP.of ?_
    exact eqb_rfl
  case ht1 =>
    skip
    simp only [decide_eq_true_eq] at h
    refine we_ix ?_
    refine we_name 0 ?_
    refine we_name 1 ?_
    have hk2 : k.toNat < l.length := by omega
    refine ix_scr (x := Scr.mk l) (e := l[k.toNat]) ?_ ?_
    · unfold Ty.atT
      rw [show ixN l.length k = some k.toNat from ix_in hk (by omega)]
      simp
    exact hpost _
  case hf1 =>
    refine we_bin ?_
    refine we_bin ?_
    refine we_int ?_
    refine we_name 1 ?_
    refine mul_ii (by first | exact Or.inl ⟨by omega, by omega⟩ | exact Or.inr ⟨by omega, by omega⟩ | exact Or.inl ⟨by decide, by decide⟩) ?_
    refine we_bin ?_
    refine we_callB (id := "sum") T.sum ?_ bt_sum
    refine wa_cons ?_
    refine we_slice ?_
    refine we_name 0 ?_
    refine wo_none ?_
    refine wo_some ?_
    refine we_int ?_
    refine ⟨_, rfl, ?_⟩
    refine sl_scr ?_
    refine wa_nil ?_
    refine sum_l rfl ?_
    refine we_int ?_
    refine mod_ii (by decide) ?_
    refine add_ii ?_
    exact hpost _
theorem g_law (T : Tx K mg base) (hB : ∀ g : Int, ∃ b, F_l_box (.int g) = some (.lst b) ∧ Sm (F_l_right b) fun r => r.1 = .bl true) {f : Addr} {fd : FuncData} (F : FunD K "law" "law" (defArgs s_law) (defBody s_law) (defScope s_law) [] [] f fd) : FnG P w K mg base 11 f fd ["script"] T_law := by
  have sc := sc_law
  refine fn_ok F sc_law (fun xs m post xp h => ?_) fun cdv A outer s H E B0 H0 xs m post xp hgd hr hT hx => ?_
  · obtain ⟨_, h, _⟩ := h; subst h; rfl
  obtain ⟨l, rfl, hpost⟩ := hT
  refine wss_cons ?_
  refine ws_for ?_ own_passes rfl
  refine wi_range1 T.range ?_
  refine we_callB (id := "max") T.max ?_ bt_max
  refine wa_cons ?_
  refine we_int ?_
  refine wa_cons ?_
  refine we_callB (id := "min") T.min ?_ bt_min
  refine wa_cons ?_
  refine we_int ?_
  refine wa_cons ?_
  refine we_callB (id := "len") T.len ?_ bt_len
  refine wa_cons ?_
  refine we_name 0 ?_
  refine wa_nil ?_
  refine len_scr ?_
  refine wa_nil ?_
  refine min_ii rfl ?_
  refine wa_nil ?_
  refine max_ii rfl ?_
  refine ⟨_, rfl, by omega, by omega, ?_⟩
  refine forp_rng (fun i ρ' m' => ∃ x, ρ' = [some (tv (Scr.mk l)), x] ∧ ∃ L, m' = L ++ m) ⟨_, rfl, [], rfl⟩ (fun j ρ' m' hj hI => ?lbody) (fun ρ' m' hI => ?lrest)
  case lbody =>
    obtain ⟨x, rfl, L, rfl⟩ := hI
    refine wg_name 1 ?_ sc.nd
    refine wss_one ?_
    refine ws_if ?_
    refine wt_not ?_
    refine t_val ?_
    refine e_call (ok_l_right T) hgd hr xt0 ?_
    refine wa_cons ?_
    refine e_call (ok_l_box T) hgd hr xt0 ?_
    refine wa_cons ?_
    refine we_call (ok_l_cell T) hgd hr xt0 ?_
    refine wa_cons ?_
    refine we_name 0 ?_
    refine wa_cons ?_
    refine we_name 1 ?_
    refine wa_nil ?_
    refine FrP.all ⟨l, _, rfl, by omega, fun g => ?_⟩
    refine wa_nil ?_
    obtain ⟨b, e1, e2⟩ := hB g
    refine ⟨_, .int g, rfl, .inl cv_int, ?_⟩
    rw [e1]
    show ∀ (p : Addr) (xs : List D), D.lst b = .lst xs → _
    rintro p _ ⟨⟩
    refine wa_nil ?_
    obtain ⟨r, er, hr1⟩ := e2.get
    refine ⟨p, b, L ++ m, rfl, rfl, Sm.of er ?_⟩
    rw [hr1]
    refine ⟨.bl true, Vw.p, ?_⟩
    refine Sm.of (a := true) rfl ?_
    refine ⟨fun h => ?_, fun h => ?_⟩
    · exact absurd h (by decide)
    · refine wss_nil ?_
      exact ⟨_, rfl, _ :: L, rfl⟩
  case lrest =>
    obtain ⟨x, rfl, L, rfl⟩ := hI
    refine wss_one ?_
    refine ws_ret ?_
    refine we_bool ?_
    exact hpost _
end
end K01

set_option Elab.async false
set_option linter.all false
set_option maxRecDepth 100000
set_option maxHeartbeats 2000000
namespace K01
open PySem PySem.Spec PyProof.Rows L2 Ty Dy
section
variable {k n : Nat} {d : D}
theorem isi_t {T : String} {b : Bool} (h : d.tyn ≠ "") (e : kitB d.tyn T = some b) (hx : ∀ C fs, d ≠ .exc C fs) : D.isi d T = some b := by
  unfold D.isi
  split
  · exact absurd rfl (hx _ _)
  · rw [if_neg h]; exact e
local macro_rules | `(tactic| walk_at "isi") => `(tactic| (refine isi_t ?_ ?_ ?_ <;> first | (intro C fs e; cases e; done) | (simp [D.tyn]; done) | (show kitB (D.tyn _) _ = _; dsimp only [D.tyn]; decide +kernel)))
theorem isi_ss {s : Str} : D.isi (.str s) "str" = some true := by walk_at "isi"
theorem isi_is {s : Int} : D.isi (.int s) "str" = some false := by walk_at "isi"
theorem isi_bs {s : Bool} : D.isi (.bl s) "str" = some false := by walk_at "isi"
theorem isi_ns : D.isi .non "str" = some false := by walk_at "isi"
theorem isi_ls {s : List D} : D.isi (.lst s) "str" = some false := by walk_at "isi"
theorem isi_ts {s : List D} : D.isi (.tup s) "str" = some false := by walk_at "isi"
theorem isi_ds {s : List (D × D)} : D.isi (.dct s) "str" = some false := by walk_at "isi"
theorem isi_st {s : Str} : D.isi (.str s) "tuple" = some false := by walk_at "isi"
theorem isi_it {s : Int} : D.isi (.int s) "tuple" = some false := by walk_at "isi"
theorem isi_bt {s : Bool} : D.isi (.bl s) "tuple" = some false := by walk_at "isi"
theorem isi_nt : D.isi .non "tuple" = some false := by walk_at "isi"
theorem isi_lt {s : List D} : D.isi (.lst s) "tuple" = some false := by walk_at "isi"
theorem isi_tt {s : List D} : D.isi (.tup s) "tuple" = some true := by walk_at "isi"
theorem isi_dt {s : List (D × D)} : D.isi (.dct s) "tuple" = some false := by walk_at "isi"
theorem isi_si {s : Str} : D.isi (.str s) "int" = some false := by walk_at "isi"
theorem isi_ii {s : Int} : D.isi (.int s) "int" = some true := by walk_at "isi"
theorem isi_bi {s : Bool} : D.isi (.bl s) "int" = some true := by walk_at "isi"
theorem isi_ni : D.isi .non "int" = some false := by walk_at "isi"
theorem isi_li {s : List D} : D.isi (.lst s) "int" = some false := by walk_at "isi"
theorem isi_ti {s : List D} : D.isi (.tup s) "int" = some false := by walk_at "isi"
theorem isi_di {s : List (D × D)} : D.isi (.dct s) "int" = some false := by walk_at "isi"
theorem isi_ib {s : Int} : D.isi (.int s) "bool" = some false := by walk_at "isi"
theorem isi_bb {s : Bool} : D.isi (.bl s) "bool" = some true := by walk_at "isi"
theorem _root_.Dy.Fd.cases {P : D → Prop} (h : Fd k n d) (h1 : P .non) (h2 : ∀ b, P (.bl b)) (h3 : ∀ i, P (.int i)) (h4 : ∀ s, s.length ≤ n → (∀ c ∈ s.cps.toList, c < 0x110000) → P (.str s)) (h5 : ∀ l, P (.lst l)) (h6 : ∀ l, (∀ a ∈ l, Fd k n a) → P (.tup l)) (h7 : ∀ l, P (.dct l)) : P d := by
  cases d with
  | non => exact h1
  | bl b => exact h2 b
  | int i => exact h3 i
  | str s => exact h4 s h.str.1 h.str.2
  | lst l => exact h5 l
  | tup l => exact h6 l fun a ha => (fds_mem h.tup ha).mono (by omega) (Nat.le_refl _)
  | dct l => exact h7 l
  | set l => obtain ⟨x, e, _⟩ := h; simp [D.py] at e
  | ins C fs => obtain ⟨x, e, _⟩ := h; simp [D.py] at e
  | exc C fs => obtain ⟨x, e, _⟩ := h; simp [D.py] at e
  | ref a => obtain ⟨x, e, _⟩ := h; simp [D.py] at e
/-! ### is_cell -/
def letB (c : Nat) : Bool := decide (97 ≤ c) && decide (c ≤ 122)
def cellB : D → Bool
  | .str s => decide (1 ≤ s.length) && decide (s.length ≤ 8) && s.cps.toList.all letB
  | _ => false
theorem c_a : (D.str "a") = sg 97 := congrArg D.str (by decide +kernel)
theorem c_z : (D.str "z") = sg 122 := congrArg D.str (by decide +kernel)
theorem c_sp : (D.str " ") = sg 32 := congrArg D.str (by decide +kernel)
theorem c_ti : (D.str "~") = sg 126 := congrArg D.str (by decide +kernel)
theorem len_str {s : Str} (h : s.length ≤ 16000000) : D.len (.str s) = some (.int s.length) := if_pos h
theorem le_int {i j : Int} : D.le (.int i) (.int j) = some (decide (i ≤ j)) := rfl
theorem gt_int {i j : Int} : D.gt (.int i) (.int j) = some (decide (j < i)) := rfl
theorem ge_int {i j : Int} : D.ge (.int i) (.int j) = some (decide (j ≤ i)) := rfl
theorem lt_int {i j : Int} : D.lt (.int i) (.int j) = some (decide (i < j)) := rfl
theorem bool_bl {b : Bool} : D.bool (.bl b) = some b := rfl
theorem dc_le {a b : Nat} : decide ((a : Int) ≤ (b : Int)) = decide (a ≤ b) := by congr 1; exact propext Int.ofNat_le
theorem is_cell_eq (h : Fd k n d) (hn : n ≤ 1000000) : F_is_cell d = some (.bl (cellB d)) := by
  refine h.cases (P := fun d => F_is_cell d = some (.bl (cellB d))) ?h1 ?h2 ?h3 ?h4 ?h5 ?h6 ?h7
  case h4 =>
    intro s h1 h2
    unfold F_is_cell
    have e1 : D.le (.int 1) (.int (s.length : Int)) = some (decide (1 ≤ s.length)) := by rw [le_int]; exact congrArg some dc_le
    have e2 : D.le (.int (s.length : Int)) (.int 8) = some (decide (s.length ≤ 8)) := by rw [le_int]; exact congrArg some dc_le
    have e3 : mapO (fun x12 => Res.opt (jn (fun (s16 : D) => .ok s16) fun kk14 => bo (D.le (.str "a") x12) fun b17 => if b17 = true then bo (D.le x12 (.str "z")) fun b18 => kk14 (.bl b18) else kk14 (.bl false))) (s.cps.toList.map sg) = some (s.cps.toList.map fun c => .bl (letB c)) := by
      refine mapO_map fun c hc => ?_
      rw [c_a, c_z]
      simp only [jn, le_sg, bo_some, letB]
      cases decide (97 ≤ c) <;> rfl
    simp only [jn] at e3 ⊢
    simp only [isi_ss, bo_some, len_str (show s.length ≤ 16000000 by omega), e1, e2, items_str (show s.length ≤ 1000000 by omega), e3, all_map, cellB]
    cases decide (1 ≤ s.length) <;> cases decide (s.length ≤ 8) <;> rfl
  all_goals intros; unfold F_is_cell; simp only [jn, isi_is, isi_bs, isi_ns, isi_ls, isi_ts, isi_ds, bo_some]; rfl
theorem mem_abc {c : Nat} : decide (c ∈ (("abcdefghijklmnopqrstuvwxyz" : Str)).cps.toList) = letB c := by
  have e : (("abcdefghijklmnopqrstuvwxyz" : Str)).cps.toList = List.range' 97 26 := by decide +kernel
  rw [Bool.eq_iff_iff, decide_eq_true_eq, e, List.mem_range'_1, letB]
  simp only [Bool.and_eq_true, decide_eq_true_eq]
  omega
theorem l_is_cell_eq (h : Fd k n d) (hn : n ≤ 1000000) : F_l_is_cell d = some (.bl (cellB d)) := by
  refine h.cases (P := fun d => F_l_is_cell d = some (.bl (cellB d))) ?h1 ?h2 ?h3 ?h4 ?h5 ?h6 ?h7
  case h4 =>
    intro s h1 h2
    unfold F_l_is_cell
    have e1 : D.le (.int 1) (.int (s.length : Int)) = some (decide (1 ≤ s.length)) := by rw [le_int]; exact congrArg some dc_le
    have e2 : D.le (.int (s.length : Int)) (.int 8) = some (decide (s.length ≤ 8)) := by rw [le_int]; exact congrArg some dc_le
    have e3 : filO (fun x12 => Res.opt (bo (D.mem x12 (.str "abcdefghijklmnopqrstuvwxyz")) fun b14 => .ok ((!b14)))) (fun x12 => Res.opt (.ok x12)) (s.cps.toList.map sg) = some ((s.cps.toList.filter fun c => !letB c).map sg) := by
      refine filO_map (fun c hc => ?_) fun c hc => rfl
      rw [mem_sg, mem_abc]
      rfl
    have e4 := eq_nil (l := s.cps.toList.filter fun c => !letB c) fun c hc => h2 c ((List.mem_filter.mp hc).1)
    have e5 : (s.cps.toList.filter fun c => !letB c).isEmpty = s.cps.toList.all letB := by
      rw [Bool.eq_iff_iff, List.isEmpty_iff, List.filter_eq_nil_iff, List.all_eq_true]
      simp
    simp only [jn] at e3 ⊢
    simp only [isi_ss, bo_some, len_str (show s.length ≤ 16000000 by omega), e1, e2, items_str (show s.length ≤ 1000000 by omega), e3, e4, e5, cellB]
    cases decide (1 ≤ s.length) <;> cases decide (s.length ≤ 8) <;> rfl
  all_goals intros; unfold F_l_is_cell; simp only [jn, isi_is, isi_bs, isi_ns, isi_ls, isi_ts, isi_ds, bo_some]; rfl
/-! ### is_text -/
def sgnB (c : Nat) : Bool := decide (32 ≤ c) && decide (c ≤ 126)
def textB : D → Bool
  | .str s => decide (s.length ≤ 40) && s.cps.toList.all sgnB
  | _ => false
theorem is_text_eq (h : Fd k n d) (hn : n ≤ 1000000) : F_is_text d = some (.bl (textB d)) := by
  refine h.cases (P := fun d => F_is_text d = some (.bl (textB d))) ?h1 ?h2 ?h3 ?h4 ?h5 ?h6 ?h7
  case h4 =>
    intro s h1 h2
    unfold F_is_text F_is_signs
    have e2 : D.gt (.int (s.length : Int)) (.int 40) = some (!decide (s.length ≤ 40)) := by
      rw [gt_int]
      congr 1
      by_cases h : s.length ≤ 40
      · rw [decide_eq_true h, decide_eq_false (by omega)]; rfl
      · rw [decide_eq_false h, decide_eq_true (by omega)]; rfl
    have e3 : mapO (fun x11 => Res.opt (jn (fun (s15 : D) => .ok s15) fun kk13 => bo (D.le (.str " ") x11) fun b16 => if b16 = true then bo (D.le x11 (.str "~")) fun b17 => kk13 (.bl b17) else kk13 (.bl false))) (s.cps.toList.map sg) = some (s.cps.toList.map fun c => .bl (sgnB c)) := by
      refine mapO_map fun c hc => ?_
      rw [c_sp, c_ti]
      simp only [jn, le_sg, bo_some, sgnB]
      cases decide (32 ≤ c) <;> rfl
    simp only [jn] at e3 ⊢
    simp only [isi_ss, bo_some, len_str (show s.length ≤ 16000000 by omega), D.isNone, e2, items_str (show s.length ≤ 1000000 by omega), e3, all_map, textB]
    cases decide (s.length ≤ 40) <;> rfl
  all_goals intros; unfold F_is_text F_is_signs; simp only [jn, isi_is, isi_bs, isi_ns, isi_ls, isi_ts, isi_ds, bo_some]; rfl
theorem l_is_text_eq (h : Fd k n d) (hn : n ≤ 1000000) : F_l_is_text d = some (.bl (textB d)) := by
  refine h.cases (P := fun d => F_l_is_text d = some (.bl (textB d))) ?h1 ?h2 ?h3 ?h4 ?h5 ?h6 ?h7
  case h4 =>
    intro s h1 h2
    unfold F_l_is_text
    have e2 : D.gt (.int (s.length : Int)) (.int 40) = some (!decide (s.length ≤ 40)) := by
      rw [gt_int]
      congr 1
      by_cases h : s.length ≤ 40
      · rw [decide_eq_true h, decide_eq_false (by omega)]; rfl
      · rw [decide_eq_false h, decide_eq_true (by omega)]; rfl
    have e3 : filO (fun x8 => Res.opt (jn (fun (s12 : Bool) => .ok ((!s12))) fun kk10 => bo (D.le (.str " ") x8) fun b13 => if b13 = true then bo (D.le x8 (.str "~")) fun b14 => kk10 b14 else kk10 false)) (fun x8 => Res.opt (.ok x8)) (s.cps.toList.map sg) = some ((s.cps.toList.filter fun c => !sgnB c).map sg) := by
      refine filO_map (fun c hc => ?_) fun c hc => rfl
      rw [c_sp, c_ti]
      simp only [jn, le_sg, bo_some, sgnB]
      cases decide (32 ≤ c) <;> rfl
    have e4 := eq_nil (l := s.cps.toList.filter fun c => !sgnB c) fun c hc => h2 c ((List.mem_filter.mp hc).1)
    have e5 : (s.cps.toList.filter fun c => !sgnB c).isEmpty = s.cps.toList.all sgnB := by
      rw [Bool.eq_iff_iff, List.isEmpty_iff, List.filter_eq_nil_iff, List.all_eq_true]
      simp
    simp only [jn] at e3 ⊢
    simp only [isi_ss, bo_some, len_str (show s.length ≤ 16000000 by omega), e2, items_str (show s.length ≤ 1000000 by omega), e3, e4, e5, textB]
    cases decide (s.length ≤ 40) <;> rfl
  all_goals intros; unfold F_l_is_text; simp only [jn, isi_is, isi_bs, isi_ns, isi_ls, isi_ts, isi_ds, bo_some]; rfl
/-! ### is_line -/
def houseB : D → Bool
  | .int i => decide (0 ≤ i) && decide (i < 100)
  | _ => false
def countB : D → Bool
  | .int i => decide (0 ≤ i)
  | _ => false
def lineB : D → Bool
  | .tup [a, b, c, d] => houseB a && countB b && cellB c && textB d
  | _ => false
theorem is_house_eq (h : Fd k n d) : F_is_house d = some (.bl (houseB d)) := by
  refine h.cases (P := fun d => F_is_house d = some (.bl (houseB d))) ?h1 ?h2 ?h3 ?h4 ?h5 ?h6 ?h7
  case h3 =>
    intro i
    unfold F_is_house F_is_index F_is_integer
    simp only [jn, isi_ii, isi_ib, bo_some, opt_ok, le_int, lt_int, bool_bl, houseB]
    cases decide (0 ≤ i) <;> rfl
  case h2 =>
    intro i
    unfold F_is_house F_is_index F_is_integer
    simp only [jn, isi_bi, isi_bb, bo_some, opt_ok, le_int, lt_int, bool_bl, houseB]
    rfl
  all_goals intros; unfold F_is_house F_is_index F_is_integer; simp only [jn, isi_si, isi_ni, isi_li, isi_ti, isi_di, bo_some]; rfl
theorem is_count_eq (h : Fd k n d) : F_is_count d = some (.bl (countB d)) := by
  refine h.cases (P := fun d => F_is_count d = some (.bl (countB d))) ?h1 ?h2 ?h3 ?h4 ?h5 ?h6 ?h7
  case h3 =>
    intro i
    unfold F_is_count F_is_integer
    simp only [jn, isi_ii, isi_ib, bo_some, opt_ok, ge_int, lt_int, bool_bl, countB]
    rfl
  case h2 =>
    intro i
    unfold F_is_count F_is_integer
    simp only [jn, isi_bi, isi_bb, bo_some, opt_ok, le_int, lt_int, bool_bl, countB]
    rfl
  all_goals intros; unfold F_is_count F_is_integer; simp only [jn, isi_si, isi_ni, isi_li, isi_ti, isi_di, bo_some]; rfl
theorem l_count_eq (h : Fd k n d) : F_l_count d = some (.bl (countB d)) := by
  refine h.cases (P := fun d => F_l_count d = some (.bl (countB d))) ?h1 ?h2 ?h3 ?h4 ?h5 ?h6 ?h7
  case h3 =>
    intro i
    unfold F_l_count
    simp only [jn, isi_ii, isi_ib, bo_some, opt_ok, ge_int, lt_int, bool_bl, countB]
    rfl
  case h2 =>
    intro i
    unfold F_l_count
    simp only [jn, isi_bi, isi_bb, bo_some, opt_ok, le_int, lt_int, bool_bl, countB]
    rfl
  all_goals intros; unfold F_l_count; simp only [jn, isi_si, isi_ni, isi_li, isi_ti, isi_di, bo_some]; rfl
theorem ne4 {l : List D} : D.ne (.int (l.length : Int)) (.int 4) = some (!decide (l.length = 4)) := by
  show (some (decide ((l.length : Int) = 4))).map not = _
  simp only [Option.map_some]
  congr 2
  by_cases h : l.length = 4
  · rw [decide_eq_true h, decide_eq_true (by omega)]
  · rw [decide_eq_false h, decide_eq_false (by omega)]
theorem len4 {l : List D} (h : l.length = 4) : ∃ a b c d, l = [a, b, c, d] := match l, h with
  | [a, b, c, d], _ => ⟨a, b, c, d, rfl⟩
theorem lineB_n4 {l : List D} (h : l.length ≠ 4) : lineB (.tup l) = false := by
  unfold lineB
  split
  · rename_i e; cases e; exact absurd rfl h
  · rfl
theorem is_line_eq (h : Fd k n d) (hn : n ≤ 1000000) : F_is_line d = some (.bl (lineB d)) := by
  refine h.cases (P := fun d => F_is_line d = some (.bl (lineB d))) ?h1 ?h2 ?h3 ?h4 ?h5 ?h6 ?h7
  case h6 =>
    intro l hl
    unfold F_is_line
    simp only [jn, isi_tt, bo_some, D.len, ne4]
    by_cases h4 : l.length = 4
    · obtain ⟨a, b, c, e, rfl⟩ := len4 h4
      rw [decide_eq_true h4]
      simp only [D.un4, bo_some, is_house_eq (hl a (by simp)), is_count_eq (hl b (by simp)), is_cell_eq (hl c (by simp)) hn, is_text_eq (hl e (by simp)) hn, bool_bl, lineB]
      cases houseB a <;> cases countB b <;> cases cellB c <;> rfl
    · rw [decide_eq_false h4, lineB_n4 h4]
      rfl
  all_goals intros; unfold F_is_line; simp only [jn, isi_st, isi_it, isi_bt, isi_nt, isi_lt, isi_dt, bo_some]; rfl
theorem gt99 (h : Fd k n d) (hc : countB d = true) : D.gt d (.int 99) = some (!houseB d) := by
  cases d with
  | int i =>
    have h0 : 0 ≤ i := of_decide_eq_true hc
    rw [gt_int]
    congr 1
    rw [show houseB (.int i) = decide (i < 100) from by simp only [houseB, decide_eq_true h0, Bool.true_and]]
    by_cases h : i < 100
    · rw [decide_eq_true h, decide_eq_false (by omega)]; rfl
    · rw [decide_eq_false h, decide_eq_true (by omega)]; rfl
  | _ => cases hc
theorem count_house : houseB d = true → countB d = true := by
  cases d <;> intro h <;> try (cases h; done)
  unfold houseB at h
  simp only [Bool.and_eq_true] at h
  exact h.1
theorem ix4_0 {a b c e : D} : D.ix (.tup [a, b, c, e]) (.int 0) = some a := rfl
theorem ix4_1 {a b c e : D} : D.ix (.tup [a, b, c, e]) (.int 1) = some b := rfl
theorem ix4_2 {a b c e : D} : D.ix (.tup [a, b, c, e]) (.int 2) = some c := rfl
theorem ix4_3 {a b c e : D} : D.ix (.tup [a, b, c, e]) (.int 3) = some e := rfl
theorem l_is_line_eq (h : Fd k n d) (hn : n ≤ 1000000) : F_l_is_line d = some (.bl (lineB d)) := by
  refine h.cases (P := fun d => F_l_is_line d = some (.bl (lineB d))) ?h1 ?h2 ?h3 ?h4 ?h5 ?h6 ?h7
  case h6 =>
    intro l hl
    unfold F_l_is_line
    simp only [jn, isi_tt, bo_some, D.len, ne4]
    by_cases h4 : l.length = 4
    · obtain ⟨a, b, c, e, rfl⟩ := len4 h4
      rw [decide_eq_true h4]
      simp only [ix4_0, ix4_1, ix4_2, ix4_3, bo_some, l_count_eq (hl a (by simp)), l_count_eq (hl b (by simp)), l_is_cell_eq (hl c (by simp)) hn, l_is_text_eq (hl e (by simp)) hn, bool_bl, lineB]
      cases hc : countB a with
      | false =>
        have : houseB a = false := by cases hh : houseB a with | false => rfl | true => rw [count_house hh] at hc; cases hc
        rw [this]
        rfl
      | true =>
        simp only [gt99 (hl a (by simp)) hc, bo_some]
        cases houseB a <;> cases countB b <;> cases cellB c <;> rfl
    · rw [decide_eq_false h4, lineB_n4 h4]
      rfl
  all_goals intros; unfold F_l_is_line; simp only [jn, isi_st, isi_it, isi_bt, isi_nt, isi_lt, isi_dt, bo_some]; rfl
end
end K01

set_option Elab.async false
set_option linter.all false
set_option maxRecDepth 100000
set_option maxHeartbeats 4000000
namespace K01
open PySem PySem.Spec PyProof.Rows L2 Ty Dy
/-! ### texts -/
def jl (s : List Nat) : List (List Nat) → List Nat
  | [] => []
  | [x] => x
  | x :: y :: r => x ++ s ++ jl s (y :: r)
theorem join_list (s : Str) : ∀ (ys : List Str), (Txt.join s ys).cps.toList = jl s.cps.toList (ys.map fun y => y.cps.toList) := by
  intro ys
  rw [show Txt.join s ys = Str.join s ys from beq_iff_eq.mp (join_closes (sep := s) (sep' := s) (ys := ys) rfl)]
  induction ys with
  | nil => rfl
  | cons y ys ih =>
    cases ys with
    | nil => rw [join_one]; rfl
    | cons z r =>
      rw [join_cons_cons, app_list, app_list, ih]
      rfl
theorem jl_ones : ∀ (l : List Nat), jl [] (l.map fun c => [c]) = l
  | [] => rfl
  | [c] => rfl
  | c :: d :: r => by
    show [c] ++ [] ++ jl [] ((d :: r).map fun c => [c]) = _
    rw [jl_ones]
    rfl
theorem join_signs (l : List Nat) (h : l.length ≤ 1000000) : D.join (.str "") (.lst (l.map sg)) = some (.str ⟨l.toArray⟩) := by
  unfold D.join
  dsimp only
  rw [strsD_sg]
  dsimp only
  have e : (Txt.join ("" : Str) (l.map fun c => (⟨#[c]⟩ : Str))) = ⟨l.toArray⟩ := by
    refine str_ext ?_
    rw [join_list, List.map_map]
    show jl [] (l.map fun c => [c]) = _
    rw [jl_ones]
  rw [e, if_pos]
  have h1 : ((l.map fun c => (⟨#[c]⟩ : Str)).map (·.length)).sum = l.length := by
    rw [List.map_map]
    have : ((fun y : Str => y.length) ∘ fun c : Nat => (⟨#[c]⟩ : Str)) = fun _ => 1 := rfl
    rw [this]
    clear e h this
    induction l with
    | nil => rfl
    | cons c l ih => simp only [List.map_cons, List.sum_cons, ih, List.length_cons]; omega
  rw [h1, show (("" : Str)).length = 0 from rfl]
  omega
/-! ### the box -/
def Bx (n : Nat) (b : List D) : Prop := ∃ (g : Int) (f : Bool) (m k : Int), b = [.int g, .bl f, .int m, .int k] ∧ 0 ≤ g ∧ 0 ≤ m ∧ m < 2147483629 ∧ 0 ≤ k ∧ k + n ≤ 1000000
theorem Bx.le {n n' : Nat} {b : List D} (h : Bx n b) (hn : n' ≤ n := by omega) : Bx n' b := by
  obtain ⟨g, f, m, k, e, h1, h2, h3, h4, h5⟩ := h
  exact ⟨g, f, m, k, e, h1, h2, h3, h4, by omega⟩
theorem mod_i {i j : Int} (h : 0 < j) : D.mod (.int i) (.int j) = some (.int (i % j)) := if_pos h
theorem fdiv_i {i j : Int} (h : 0 < j) (h' : j < 1073741824) : D.fdiv (.int i) (.int j) = some (.int (i / j)) := if_pos ⟨h, h'⟩
theorem pow_i {i j : Int} (h : 0 ≤ j) (h' : j ≤ 1000000) (h2 : i.natAbs < 2 ^ 64) : D.pow (.int i) (.int j) = some (.int (i ^ j.toNat)) := if_pos ⟨h, h', h2⟩
theorem mul_i {i j : Int} (h : -(2 ^ 64) < i ∧ i < 2 ^ 64) : D.mul (.int i) (.int j) = some (.int (i * j)) := if_pos (.inl h)
theorem mul_j {i j : Int} (h : -(2 ^ 64) < j ∧ j < 2 ^ 64) : D.mul (.int i) (.int j) = some (.int (i * j)) := if_pos (.inr h)
theorem add_i {i j : Int} : D.add (.int i) (.int j) = some (.int (i + j)) := rfl
theorem sub_i {i j : Int} : D.sub (.int i) (.int j) = some (.int (i - j)) := rfl
theorem int1_i {i : Int} : D.int1 (.int i) = some (.int i) := rfl
theorem ixl0 {a b c d : D} : D.ix (.lst [a, b, c, d]) (.int 0) = some a := rfl
theorem ixl1 {a b c d : D} : D.ix (.lst [a, b, c, d]) (.int 1) = some b := rfl
theorem ixl2 {a b c d : D} : D.ix (.lst [a, b, c, d]) (.int 2) = some c := rfl
theorem ixl3 {a b c d : D} : D.ix (.lst [a, b, c, d]) (.int 3) = some d := rfl
theorem putl0 {a b c d x : D} : D.putL [a, b, c, d] (.int 0) x = some [x, b, c, d] := rfl
theorem putl3 {a b c d x : D} : D.putL [a, b, c, d] (.int 3) x = some [a, b, c, x] := rfl
section
variable {β : Type} {Q : β → Prop} {E : XE → Prop}
theorem take_ok {n : Nat} {b : List D} {many : Int} (h : Bx (n + 1) b) (h0 : 0 < many) (h1 : many < 1073741824) : ∃ i b', F_l_take b (.int many) = some (.int i, b') ∧ 0 ≤ i ∧ i < many ∧ Bx n b' := by
  obtain ⟨g, f, m, k, rfl, hg, hm, hm', hk, hn⟩ := h
  unfold F_l_take
  have tail : ∃ i b', Res.opt (bo (D.ix (.lst [.int g, .bl f, .int m, .int k]) (.int 3)) fun d15 => bo (D.add d15 (.int 1)) fun d16 => bo (D.putL [.int g, .bl f, .int m, .int k] (.int 3) d16) fun x17 => bo (D.ix (.lst x17) (.int 2)) fun d18 => bo (D.ix (.lst x17) (.int 3)) fun d19 => bo (D.mul (.int 15485863) d19) fun d20 => bo (D.add d18 d20) fun d21 => bo (D.add d21 (.int 179424673)) fun d22 => bo (D.pow d22 (.int 5)) fun d23 => bo (D.int1 d23) fun d24 => bo (D.mod d24 (.int 2147483647)) fun d25 => bo (D.mul d25 (.int 48271)) fun d26 => bo (D.ix (.lst x17) (.int 3)) fun d27 => bo (D.mul (.int 104729) d27) fun d28 => bo (D.add d26 d28) fun d29 => bo (D.pow d29 (.int 3)) fun d30 => bo (D.int1 d30) fun d31 => bo (D.mod d31 (.int 2147483587)) fun d32 => bo (D.fdiv d32 (.int 64)) fun d33 => bo (D.mod d33 (.int many)) fun d34 => .ok (d34, x17)) = some (.int i, b') ∧ 0 ≤ i ∧ i < many ∧ Bx n b' := by
    simp only [ixl3, bo_some, add_i, putl3, ixl2, mul_i (show -(2 ^ 64) < (15485863 : Int) ∧ (15485863 : Int) < 2 ^ 64 by decide), mul_i (show -(2 ^ 64) < (104729 : Int) ∧ (104729 : Int) < 2 ^ 64 by decide), mul_j (show -(2 ^ 64) < (48271 : Int) ∧ (48271 : Int) < 2 ^ 64 by decide), int1_i, mod_i (show (0 : Int) < 2147483647 by decide), mod_i (show (0 : Int) < 2147483587 by decide), fdiv_i (show (0 : Int) < 64 by decide) (by decide), mod_i h0]
    have q1 : (m + 15485863 * (k + 1) + 179424673).natAbs < 2 ^ 64 := by omega
    rw [pow_i (by decide) (by decide) q1]
    simp only [bo_some, int1_i, mod_i (show (0 : Int) < 2147483647 by decide), add_i, mul_j (show -(2 ^ 64) < (48271 : Int) ∧ (48271 : Int) < 2 ^ 64 by decide)]
    have z0 := Int.emod_nonneg ((m + 15485863 * (k + 1) + 179424673) ^ (5 : Int).toNat) (show (2147483647 : Int) ≠ 0 by decide)
    have z1 := Int.emod_lt_of_pos ((m + 15485863 * (k + 1) + 179424673) ^ (5 : Int).toNat) (show (0 : Int) < 2147483647 by decide)
    generalize (m + 15485863 * (k + 1) + 179424673) ^ (5 : Int).toNat % 2147483647 = z at *
    have q2 : (z * 48271 + 104729 * (k + 1)).natAbs < 2 ^ 64 := by omega
    rw [pow_i (by decide) (by decide) q2]
    simp only [bo_some, int1_i, mod_i (show (0 : Int) < 2147483587 by decide), fdiv_i (show (0 : Int) < 64 by decide) (by decide), mod_i h0, opt_ok]
    exact ⟨_, _, rfl, Int.emod_nonneg _ (by omega), Int.emod_lt_of_pos _ h0, g, f, m, k + 1, rfl, hg, hm, hm', by omega, by omega⟩
  simp only [jn, ixl0, ixl1, bo_some, bool_bl, gt_int, int1_i, mod_i h0, fdiv_i h0 h1, putl0, opt_ok]
  by_cases hc : f = true ∧ 0 < g
  · rw [if_pos hc.1, decide_eq_true hc.2, if_pos rfl]
    exact ⟨_, _, rfl, Int.emod_nonneg _ (by omega), Int.emod_lt_of_pos _ h0, g / many, f, m, k, rfl, Int.ediv_nonneg hg (by omega), hm, hm', hk, by omega⟩
  · by_cases hf : f = true
    · rw [if_pos hf, decide_eq_false (fun q => hc ⟨hf, q⟩), if_neg Bool.false_ne_true]
      exact tail
    · rw [if_neg hf, if_neg Bool.false_ne_true]
      exact tail
theorem tk {n : Nat} {b : List D} {many : Int} {k : D × List D → Res β} (h : Bx (n + 1) b) (h0 : 0 < many) (h1 : many < 1073741824) (g : ∀ i b', 0 ≤ i → i < many → Bx n b' → Ok (k (.int i, b')) Q E) : Ok (bo (F_l_take b (.int many)) k) Q E := by
  obtain ⟨i, b', e, h2, h3, h4⟩ := take_ok h h0 h1
  rw [e]
  exact g i b' h2 h3 h4
theorem mapC_ok {S : Type} {f : D → S → (D → S → Res β) → Res β} (I : Nat → List D → S → Prop) : ∀ {xs acc : List D} {s : S} {k : List D → S → Res β}, I xs.length acc s →
    (∀ n x acc s k', I (n + 1) acc s → (∀ y s', I n (acc ++ [y]) s' → Ok (k' y s') Q E) → Ok (f x s k') Q E) → (∀ acc s, I 0 acc s → Ok (k acc s) Q E) → Ok (mapC f xs acc s k) Q E
  | [], acc, s, k, h, _, hk => hk acc s h
  | x :: xs, acc, s, k, h, hf, hk => hf xs.length x acc s _ h fun y s' h' => mapC_ok I h' hf hk
theorem forC_ok {S : Type} {f : D → S → (S → Res β) → (S → Res β) → Res β} (I : Nat → S → Prop) : ∀ {xs : List D} {s : S} {k : S → Res β}, I xs.length s →
    (∀ n x s nx, x ∈ xs → I (n + 1) s → (∀ s', I n s' → Ok (nx s') Q E) → Ok (f x s nx k) Q E) → (∀ s, I 0 s → Ok (k s) Q E) → Ok (forC xs s f k) Q E
  | [], s, k, h, _, hk => hk s h
  | x :: xs, s, k, h, hf, hk => hf xs.length x s _ List.mem_cons_self h fun s' h' => forC_ok I h' (fun n y s nx hy => hf n y s nx (List.mem_cons_of_mem _ hy)) hk
end
theorem rngL_len {lo : Int} {n : Nat} : (D.rngL lo n).length = n := by simp [D.rngL]
theorem rng1_i {n : Int} (h0 : 0 ≤ n) (h : n ≤ 1000000) : D.rng1 (.int n) = some (D.rngL 0 n.toNat) := if_pos ⟨h, by omega⟩
theorem atT_ok {α : Type _} {xs : List α} {i : Int} (h0 : 0 ≤ i) (h1 : i < xs.length) : ∃ x, Ty.atT xs i = some x ∧ x ∈ xs := by
  have hl : i.toNat < xs.length := by omega
  refine ⟨xs[i.toNat], ?_, List.getElem_mem hl⟩
  unfold Ty.atT ixN
  rw [if_pos h0, if_pos h1]
  exact List.getElem?_eq_getElem hl
/-- a text of so many signs of a kind -/
def Tt (p : Nat → Bool) (n : Nat) (s : Str) : Prop := s.length = n ∧ s.cps.toList.all p = true
/-- a text of at most so many plain signs -/
def Sb (n : Nat) (s : Str) : Prop := s.length ≤ n ∧ ∀ c ∈ s.cps.toList, c < 256
section
variable {n m : Nat} {x y : Str}
theorem Sb.mono (h : Sb n x) (hn : n ≤ m := by omega) : Sb m x := ⟨Nat.le_trans h.1 hn, h.2⟩
theorem Sb.app (h : Sb n x) (k : Sb m y) : Sb (n + m) (x ++ y) := ⟨by rw [app_len]; exact Nat.add_le_add h.1 k.1, fun c hc => by
  rw [app_list, List.mem_append] at hc
  exact hc.elim (h.2 c) (k.2 c)⟩
theorem Sb.slice {l u : Option Int} (h : Sb n x) : Sb n (Txt.slice x l u) := ⟨Nat.le_trans (Txt.slice_le x l u) h.1, fun c hc => h.2 c (slice_mem hc)⟩
theorem Sb.one {c : Nat} (h : c < 256) : Sb 1 ⟨#[c]⟩ := ⟨Nat.le_refl _, fun d hd => by rw [List.mem_singleton.mp (show d ∈ [c] from hd)]; exact h⟩
theorem sb_lit (h : x.length ≤ n := by decide +kernel) (k : (x.cps.toList.all fun c => decide (c < 256)) = true := by decide +kernel) : Sb n x := ⟨h, fun c hc => of_decide_eq_true (List.all_eq_true.mp k c hc)⟩
theorem Sb.fd (h : Sb n x) : Fd 0 n (.str x) := (fd_str fun c hc => Nat.lt_trans (h.2 c hc) (by decide)).mono (Nat.le_refl _) h.1
theorem Sb.join {ys : List Str} (hx : Sb m x) (h : ∀ y ∈ ys, Sb n y) : Sb (ys.length * (n + m)) (Txt.join x ys) := by
  constructor
  · rw [show Txt.join x ys = Str.join x ys from beq_iff_eq.mp (join_closes (sep := x) (sep' := x) (ys := ys) rfl)]
    induction ys with
    | nil => rw [show (Str.join x []).length = 0 from rfl]; exact Nat.zero_le _
    | cons y ys ih =>
      cases ys with
      | nil => rw [join_one]; have := (h y List.mem_cons_self).1; simp; omega
      | cons z r =>
        rw [join_cons_cons, app_len, app_len]
        have h1 := (h y List.mem_cons_self).1
        have h2 := ih fun w hw => h w (List.mem_cons_of_mem _ hw)
        have h3 := hx.1
        have e : (y :: z :: r).length * (n + m) = (z :: r).length * (n + m) + (n + m) := by
          rw [List.length_cons, Nat.succ_mul]
        omega
  · intro c hc
    rcases join_mem hc with ⟨t, ht, h2⟩ | h2
    · exact (h t ht).2 c h2
    · exact hx.2 c h2
end
section
variable {β : Type} {Q : β → Prop} {E : XE → Prop} {n m : Nat} {x y : Str} {k : D → Res β}
theorem r_adds (h : Sb n x) (h2 : Sb m y) (g : ∀ z, z = x ++ y → Sb (n + m) z → Ok (k (.str z)) Q E) (hn : n + m ≤ 16000000 := by omega) : Ok (bo (D.add (.str x) (.str y)) k) Q E := by
  refine Ok.v (if_pos ?_) (g _ rfl (h.app h2))
  have := h.1; have := h2.1; omega
theorem r_slices {l u : Option Int} (h : Sb n x) (g : ∀ z, z = Txt.slice x l u → Sb n z → Ok (k (.str z)) Q E) (hn : n ≤ 16000000 := by omega) : Ok (bo (D.slice (.str x) l u) k) Q E := by
  refine Ok.v (if_pos ?_) (g _ rfl h.slice)
  have := h.1; omega
theorem r_ixs {i : Int} (h : Sb n x) (h0 : 0 ≤ i) (h1 : i < x.length) (g : ∀ c, c ∈ x.cps.toList → Sb 1 ⟨#[c]⟩ → Ok (k (.str ⟨#[c]⟩)) Q E) (hn : n ≤ 16000000 := by omega) : Ok (bo (D.ix (.str x) (.int i)) k) Q E := by
  rw [str_llen] at h1
  obtain ⟨c, e, hc⟩ := atT_ok h0 h1
  have hl := h.1
  have e2 : D.ix (.str x) (.int i) = some (.str ⟨#[c]⟩) := by
    unfold D.ix
    dsimp only
    rw [if_pos (show x.length ≤ 16000000 by omega), e]
    rfl
  exact Ok.v e2 (g c hc (.one (h.2 c hc)))
theorem r_ixl {xs : List D} {i : Int} (h0 : 0 ≤ i) (h1 : i < xs.length) (g : ∀ d, d ∈ xs → Ok (k d) Q E) : Ok (bo (D.ix (.lst xs) (.int i)) k) Q E := by
  obtain ⟨c, e, hc⟩ := atT_ok h0 h1
  exact Ok.v e (g c hc)
theorem r_lens (h : Sb n x) (g : Ok (k (.int x.length)) Q E) (hn : n ≤ 16000000 := by omega) : Ok (bo (D.len (.str x)) k) Q E := Ok.v (if_pos (by have := h.1; omega)) g
theorem any_ok {b : List D} {q : Nat} (hb : Bx (n + q) b) (hq : q ≤ 1000) : ∃ s b', F_l_any b (.int q) = some (.str s, b') ∧ Tt sgnB q s ∧ Bx n b' := by
  suffices h : Sm (F_l_any b (.int q)) fun r => ∃ s, r.1 = .str s ∧ Tt sgnB q s ∧ Bx n r.2 by
    obtain ⟨⟨d, b'⟩, e, s, rfl, h1, h2⟩ := h.get
    exact ⟨s, b', e, h1, h2⟩
  unfold F_l_any
  refine Ok.opt ?_
  refine Ok.v (a := ()) rfl ?_
  refine Ok.v (rng1_i (by omega) (by omega)) ?_
  refine mapC_ok (I := fun j acc s => ∃ l : List Nat, acc = l.map sg ∧ l.all sgnB = true ∧ l.length + j = q ∧ Bx (n + j) s) ⟨[], rfl, rfl, by simp [rngL_len], by rw [rngL_len]; exact hb⟩ ?_ ?_
  · rintro j x acc s k' ⟨l, rfl, hl, hc, hs⟩ hk
    have hlen : D.len (.str " !\"#$&'()*+,-./0123456789:;<=>?@ABCDEFGHIJKLMNOPQRSTUVWXYZ[\\]^_`abcdefghijklmnopqrstuvwxyz{|}~") = some (.int 94) := (len_str (by decide +kernel)).trans (congrArg (fun n : Nat => some (D.int n)) (show _ = 94 by decide +kernel))
    refine Ok.v hlen ?_
    refine tk hs (by decide) (by decide) fun i b' h0 h1 hb' => ?_
    dsimp only
    have hx : Sb 94 " !\"#$&'()*+,-./0123456789:;<=>?@ABCDEFGHIJKLMNOPQRSTUVWXYZ[\\]^_`abcdefghijklmnopqrstuvwxyz{|}~" := sb_lit
    refine r_ixs hx h0 (by rw [show (" !\"#$&'()*+,-./0123456789:;<=>?@ABCDEFGHIJKLMNOPQRSTUVWXYZ[\\]^_`abcdefghijklmnopqrstuvwxyz{|}~" : Str).length = 94 by decide +kernel]; exact h1) fun c hc _ => ?_
    refine hk _ _ ⟨l ++ [c], by rw [List.map_append]; rfl, ?_, by rw [List.length_append]; simp; omega, hb'⟩
    rw [List.all_append, hl, Bool.true_and]
    have ha : ((" !\"#$&'()*+,-./0123456789:;<=>?@ABCDEFGHIJKLMNOPQRSTUVWXYZ[\\]^_`abcdefghijklmnopqrstuvwxyz{|}~" : Str).cps.toList.all sgnB) = true := by decide +kernel
    simp [List.all_eq_true.mp ha c hc]
  · rintro acc s ⟨l, rfl, hl, hc, hs⟩
    refine Ok.v (join_signs l (by omega)) ?_
    exact ⟨_, rfl, ⟨by rw [str_llen]; show l.length = q; omega, hl⟩, hs⟩
theorem letters_ok {b : List D} {q : Nat} (hb : Bx (n + q) b) (hq : q ≤ 1000) : ∃ s b', F_l_letters b (.int q) = some (.str s, b') ∧ Tt letB q s ∧ Bx n b' := by
  suffices h : Sm (F_l_letters b (.int q)) fun r => ∃ s, r.1 = .str s ∧ Tt letB q s ∧ Bx n r.2 by
    obtain ⟨⟨d, b'⟩, e, s, rfl, h1, h2⟩ := h.get
    exact ⟨s, b', e, h1, h2⟩
  unfold F_l_letters
  refine Ok.opt ?_
  refine Ok.v (a := ()) rfl ?_
  refine Ok.v (rng1_i (by omega) (by omega)) ?_
  refine mapC_ok (I := fun j acc s => ∃ l : List Nat, acc = l.map sg ∧ l.all letB = true ∧ l.length + j = q ∧ Bx (n + j) s) ⟨[], rfl, rfl, by simp [rngL_len], by rw [rngL_len]; exact hb⟩ ?_ ?_
  · rintro j x acc s k' ⟨l, rfl, hl, hc, hs⟩ hk
    refine tk hs (by decide) (by decide) fun i b' h0 h1 hb' => ?_
    dsimp only
    have hx : Sb 26 "abcdefghijklmnopqrstuvwxyz" := sb_lit
    refine r_ixs hx h0 (by rw [show ("abcdefghijklmnopqrstuvwxyz" : Str).length = 26 by decide +kernel]; exact h1) fun c hc _ => ?_
    refine hk _ _ ⟨l ++ [c], by rw [List.map_append]; rfl, ?_, by rw [List.length_append]; simp; omega, hb'⟩
    rw [List.all_append, hl, Bool.true_and]
    have ha : (("abcdefghijklmnopqrstuvwxyz" : Str).cps.toList.all letB) = true := by decide +kernel
    simp [List.all_eq_true.mp ha c hc]
  · rintro acc s ⟨l, rfl, hl, hc, hs⟩
    refine Ok.v (join_signs l (by omega)) ?_
    exact ⟨_, rfl, ⟨by rw [str_llen]; show l.length = q; omega, hl⟩, hs⟩
end
end K01

set_option Elab.async false
set_option linter.all false
set_option maxRecDepth 100000
set_option maxHeartbeats 4000000
namespace K01
open PySem PySem.Spec PyProof.Rows L2 Ty Dy
section
variable {n : Nat} {b : List D}
theorem Tt.sb {p : Nat → Bool} {q : Nat} {s : Str} (h : Tt p q s) (hp : ∀ c, p c = true → c < 256) : Sb q s := ⟨Nat.le_of_eq h.1, fun c hc => hp c (List.all_eq_true.mp h.2 c hc)⟩
theorem let_s (c : Nat) (h : letB c = true) : sgnB c = true := by
  simp only [letB, sgnB, Bool.and_eq_true, decide_eq_true_eq] at h ⊢; omega
theorem sgn_lt (c : Nat) (h : sgnB c = true) : c < 256 := by
  simp only [sgnB, Bool.and_eq_true, decide_eq_true_eq] at h; omega
theorem eq_i {i j : Int} : D.eq (.int i) (.int j) = some (decide (i = j)) := rfl
theorem number_ok (hb : Bx (n + 2) b) : ∃ i b', F_l_number b = some (.int i, b') ∧ 0 ≤ i ∧ i < 10 ^ 20 ∧ Bx n b' := by
  suffices h : Sm (F_l_number b) fun r => ∃ i, r.1 = .int i ∧ 0 ≤ i ∧ i < 10 ^ 20 ∧ Bx n r.2 by
    obtain ⟨⟨d, b'⟩, e, s, rfl, h1, h2, h3⟩ := h.get
    exact ⟨s, b', e, h1, h2, h3⟩
  unfold F_l_number
  refine Ok.opt ?_
  refine tk hb (by decide) (by decide) fun w b1 h0 h1 hb1 => ?_
  dsimp only
  refine Ok.v eq_i ?_
  split
  · refine tk hb1 (by decide) (by decide) fun i b2 h0 h1 hb2 => ?_
    dsimp only
    refine Ok.v add_i ?_
    exact ⟨_, rfl, by omega, by omega, hb2⟩
  · refine Ok.v eq_i ?_
    split
    · refine Ok.v (pow_i (by decide) (by decide) (by decide)) ?_
      refine Ok.v sub_i ?_
      refine tk hb1 (by decide) (by decide) fun i b2 h0 h1 hb2 => ?_
      dsimp only
      refine Ok.v add_i ?_
      have e : (10 : Int) ^ (19 : Int).toNat = 10000000000000000000 := by decide +kernel
      refine ⟨_, rfl, ?_, ?_, hb2⟩ <;> rw [e] <;> omega
    · refine tk hb1 (by decide) (by decide) fun i b2 h0 h1 hb2 => ?_
      exact ⟨_, rfl, by omega, by omega, hb2⟩
theorem maker_ok (hb : Bx (n + 2) b) : ∃ i b', F_l_maker b = some (.int i, b') ∧ 0 ≤ i ∧ i < 100 ∧ Bx n b' := by
  suffices h : Sm (F_l_maker b) fun r => ∃ i, r.1 = .int i ∧ 0 ≤ i ∧ i < 100 ∧ Bx n r.2 by
    obtain ⟨⟨d, b'⟩, e, s, rfl, h1, h2, h3⟩ := h.get
    exact ⟨s, b', e, h1, h2, h3⟩
  unfold F_l_maker
  refine Ok.opt ?_
  refine tk hb (by decide) (by decide) fun w b1 h0 h1 hb1 => ?_
  dsimp only
  refine tk hb1 (by decide) (by decide) fun v b2 h2 h3 hb2 => ?_
  dsimp only
  refine Ok.v int1_i ?_
  refine Ok.v (mod_i (by decide)) ?_
  refine r_ixl h0 h1 fun d hd => ?_
  have key : ∃ i, d = .int i ∧ 0 ≤ i ∧ i < 100 := by
    simp only [List.mem_cons, List.not_mem_nil, or_false] at hd
    rcases hd with rfl | rfl | rfl | rfl | rfl
    · exact ⟨_, rfl, h2, h3⟩
    · exact ⟨_, rfl, by omega, by omega⟩
    · exact ⟨_, rfl, by omega, by omega⟩
    · exact ⟨_, rfl, by omega, by omega⟩
    · exact ⟨_, rfl, h2, h3⟩
  obtain ⟨i, rfl, h4, h5⟩ := key
  exact ⟨_, rfl, h4, h5, hb2⟩
/-- a proper line -/
structure Ln (i j : Int) (c t : Str) : Prop where
  i0 : 0 ≤ i
  i1 : i < 100
  j0 : 0 ≤ j
  j1 : j < 10 ^ 20
  c0 : 1 ≤ c.length
  c1 : c.length ≤ 8
  ca : c.cps.toList.all letB = true
  t1 : t.length ≤ 40
  ta : t.cps.toList.all sgnB = true
def ln (i j : Int) (c t : Str) : D := .tup [.int i, .int j, .str c, .str t]
theorem line_ok (hb : Bx (n + 100) b) : ∃ i j c t b', F_l_line b = some (ln i j c t, b') ∧ Ln i j c t ∧ Bx n b' := by
  suffices h : Sm (F_l_line b) fun r => ∃ i j c t, r.1 = ln i j c t ∧ Ln i j c t ∧ Bx n r.2 by
    obtain ⟨⟨d, b'⟩, e, i, j, c, t, rfl, h1, h2⟩ := h.get
    exact ⟨i, j, c, t, b', e, h1, h2⟩
  unfold F_l_line
  refine Ok.opt ?_
  refine tk hb (by decide) (by decide) fun w b1 h0 h1 hb1 => ?_
  dsimp only
  refine tk hb1 (by decide) (by decide) fun lo b2 h2 h3 hb2 => ?_
  dsimp only
  refine r_ixl h2 h3 fun d hd => ?_
  have key : ∃ q : Nat, d = .int q ∧ 1 ≤ q ∧ q ≤ 8 := by
    simp only [List.mem_cons, List.not_mem_nil, or_false] at hd
    rcases hd with rfl | rfl | rfl | rfl | rfl
    · exact ⟨1, rfl, by omega, by omega⟩
    · exact ⟨8, rfl, by omega, by omega⟩
    · exact ⟨4, rfl, by omega, by omega⟩
    · exact ⟨7, rfl, by omega, by omega⟩
    · exact ⟨2, rfl, by omega, by omega⟩
  obtain ⟨q, rfl, hq0, hq1⟩ := key
  obtain ⟨c, b3, e3, hc, hb3⟩ := letters_ok (n := n + 90) (q := q) (hb2.le (by omega)) (by omega)
  refine Ok.v e3 ?_
  dsimp only
  refine r_ixl h0 h1 fun d hd => ?_
  have key : ∃ q : Nat, d = .int q ∧ q ≤ 40 := by
    simp only [List.mem_cons, List.not_mem_nil, or_false] at hd
    rcases hd with rfl | rfl | rfl | rfl | rfl | rfl
    · exact ⟨0, rfl, by omega⟩
    · exact ⟨40, rfl, by omega⟩
    · exact ⟨1, rfl, by omega⟩
    · exact ⟨39, rfl, by omega⟩
    · exact ⟨6, rfl, by omega⟩
    · exact ⟨0, rfl, by omega⟩
  obtain ⟨r, rfl, hr⟩ := key
  obtain ⟨t, b4, e4, ht, hb4⟩ := any_ok (n := n + 10) (q := r) (hb3.le (by omega)) (by omega)
  refine Ok.v e4 ?_
  dsimp only
  have fin : ∀ (s : D × List D), (∃ t : Str, s.1 = .str t ∧ t.length ≤ 40 ∧ t.cps.toList.all sgnB = true) → Bx (n + 4) s.2 → Ok (bo (F_l_maker s.2) fun d13 => bo (F_l_number d13.2) fun d14 => .ok (.tup [d13.1, d14.1, .str c, s.1], d14.2)) (fun r => ∃ i j c t, r.1 = ln i j c t ∧ Ln i j c t ∧ Bx n r.2) (fun _ => False) := by
    rintro ⟨s1, s2⟩ ⟨t, rfl, ht1, ht2⟩ hs
    obtain ⟨i, b5, e5, h5, h6, hb5⟩ := maker_ok hs
    refine Ok.v e5 ?_
    dsimp only
    obtain ⟨j, b6, e6, h7, h8, hb6⟩ := number_ok hb5
    refine Ok.v e6 ?_
    exact ⟨i, j, c, t, rfl, ⟨h5, h6, h7, h8, by rw [hc.1]; exact hq0, by rw [hc.1]; exact hq1, hc.2, ht1, ht2⟩, hb6⟩
  unfold jn
  refine Ok.v eq_i ?_
  split
  · refine tk (hb4.le (n' := n + 5) (by omega)) (by decide) (by decide) fun v b5 h5 h6 hb5 => ?_
    dsimp only
    refine r_ixl h5 h6 fun d hd => ?_
    refine fin (d, b5) ?_ hb5
    simp only [List.mem_cons, List.not_mem_nil, or_false] at hd
    rcases hd with rfl | rfl | rfl | rfl | rfl | rfl <;> exact ⟨_, rfl, by decide +kernel, by decide +kernel⟩
  · exact fin (.str t, b4) ⟨t, rfl, by rw [ht.1]; omega, ht.2⟩ (hb4.le (by omega))
end
end K01

set_option Elab.async false
set_option linter.all false
set_option maxRecDepth 100000
set_option maxHeartbeats 4000000
namespace K01
open PySem PySem.Spec PyProof.Rows L2 Ty Dy
section
variable {n : Nat} {b : List D}
theorem r_muls {β : Type} {Q : β → Prop} {E : XE → Prop} {k : D → Res β} {c : Nat} {x : Str} {i : Int} (hx : x = ⟨#[c]⟩) (hc : c < 256) (h0 : 0 ≤ i) (h1 : i ≤ 1000) (g : ∀ z, z.length = i.toNat → Sb i.toNat z → Ok (k (.str z)) Q E) : Ok (bo (D.mul (.str x) (.int i)) k) Q E := by
  have e : x.length = 1 := by rw [hx]; rfl
  refine Ok.v (if_pos ⟨h0, by omega, by rw [e]; omega⟩) (g _ (mul_len hx) ⟨Nat.le_of_eq (mul_len hx), fun d hd => ?_⟩)
  rw [mul_mem hx hd]; exact hc
theorem ti {i : Int} : D.toInt (.int i) = some i := rfl
local macro_rules | `(tactic| walk_at "stp") => `(tactic| first
  | refine Ok.v ti ?_
  | refine Ok.v add_i ?_
  | refine Ok.v sub_i ?_
  | refine Ok.v lt_int ?_
  | refine Ok.v eq_i ?_
  | refine Ok.v (mod_i (by decide)) ?_
  | refine Ok.v int1_i ?_
  | refine r_slices (by assumption) (fun z _ hz => ?_)
  | refine r_adds (by assumption) (by assumption) (fun z _ hz => ?_)
  | refine r_lens (by assumption) ?_)
local macro_rules | `(tactic| walk_at "fdt") => `(tactic| first
  | exact Fd.mono (Sb.fd (by assumption))
  | exact fd_non.mono
  | exact fd_bl.mono
  | exact Fd.mono (fd_int (by omega))
  | exact Fd.mono (fd_lst (fds_cons (Sb.fd (by assumption)) fds_nil))
  | exact Fd.mono (fd_tup (fds_cons (Sb.fd (by assumption)) fds_nil)))
theorem odd_cell_ok {c : Str} (hb : Bx (n + 3) b) (hc : Sb 8 c) (h1 : 1 ≤ c.length) : ∃ d b', F_l_odd_cell b (.str c) = some (d, b') ∧ Fd 1 300 d ∧ Bx n b' := by
  suffices h : Sm (F_l_odd_cell b (.str c)) fun r => Fd 1 300 r.1 ∧ Bx n r.2 by
    obtain ⟨⟨d, b'⟩, e, h1, h2⟩ := h.get
    exact ⟨d, b', e, h1, h2⟩
  unfold F_l_odd_cell
  refine Ok.opt ?_
  refine tk hb (by decide) (by decide) fun w b1 w0 w1 hb1 => ?_
  dsimp only
  refine r_lens hc ?_
  have hl := hc.1
  refine tk hb1 (by omega) (by omega) fun a b2 a0 a1 hb2 => ?_
  dsimp only
  walk_at "stp"
  split
  · rename_i hw
    have hw := of_decide_eq_true hw
    refine tk hb2 (by decide) (by decide) fun v b3 v0 v1 hb3 => ?_
    dsimp only
    refine r_ixs (x := " 0A_`{z-~\n") (n := 10) sb_lit v0 v1 fun g hg hg1 => ?_
    repeat walk_at "stp"
    refine r_ixl w0 hw fun d hd => ?_
    refine ⟨?_, hb3⟩
    simp only [List.mem_cons, List.not_mem_nil, or_false] at hd
    rcases hd with rfl | rfl | rfl | rfl <;> walk_at "fdt"
  · rename_i hw
    have hw := of_decide_eq_false (Bool.eq_false_iff.mpr hw)
    refine r_lens hc ?_
    refine Ok.v sub_i ?_
    refine r_muls (x := "a") (c := 97) (by decide +kernel) (by decide) (by omega) (by omega) fun z hz1 hz2 => ?_
    have hz3 : Sb 9 z := hz2.mono (by omega)
    have hz4 : Sb 1 "z" := sb_lit
    have hz5 : Sb 0 "" := sb_lit
    refine r_adds hc hz3 (fun z _ hz => ?_)
    walk_at "stp"
    walk_at "stp"
    refine r_adds hc hz4 (fun z _ hz => ?_)
    walk_at "stp"
    refine r_ixl (by omega) (show w - 4 < 6 by omega) fun d hd => ?_
    refine ⟨?_, hb2.le⟩
    simp only [List.mem_cons, List.not_mem_nil, or_false] at hd
    rcases hd with rfl | rfl | rfl | rfl | rfl | rfl <;> walk_at "fdt"
theorem odd_text_ok {t : Str} (hb : Bx (n + 3) b) (ht : Sb 40 t) : ∃ d b', F_l_odd_text b (.str t) = some (d, b') ∧ Fd 1 300 d ∧ Bx n b' := by
  suffices h : Sm (F_l_odd_text b (.str t)) fun r => Fd 1 300 r.1 ∧ Bx n r.2 by
    obtain ⟨⟨d, b'⟩, e, h1, h2⟩ := h.get
    exact ⟨d, b', e, h1, h2⟩
  unfold F_l_odd_text
  refine Ok.opt ?_
  refine tk hb (by decide) (by decide) fun w b1 w0 w1 hb1 => ?_
  dsimp only
  refine r_lens ht ?_
  have hl := ht.1
  refine Ok.v add_i ?_
  refine tk hb1 (by omega) (by omega) fun a b2 a0 a1 hb2 => ?_
  dsimp only
  walk_at "stp"
  split
  · walk_at "stp"
    walk_at "stp"
    refine tk hb2 (by decide) (by decide) fun v b3 v0 v1 hb3 => ?_
    dsimp only
    refine r_ixs (x := "\n\t") (n := 2) sb_lit v0 v1 fun g hg hg1 => ?_
    repeat walk_at "stp"
    exact ⟨by walk_at "fdt", hb3⟩
  · rename_i hw
    have hw := of_decide_eq_false (Bool.eq_false_iff.mpr hw)
    refine r_lens ht ?_
    refine Ok.v sub_i ?_
    refine r_muls (x := "~") (c := 126) (by decide +kernel) (by decide) (by omega) (by omega) fun z hz1 hz2 => ?_
    have hz3 : Sb 41 z := hz2.mono (by omega)
    have hz4 : Sb 1 " " := sb_lit
    refine r_adds ht hz3 (fun z _ hz => ?_)
    walk_at "stp"
    walk_at "stp"
    refine r_adds ht hz4 (fun z _ hz => ?_)
    refine r_ixl w0 (show w < 8 by omega) fun d hd => ?_
    refine ⟨?_, hb2.le⟩
    simp only [List.mem_cons, List.not_mem_nil, or_false] at hd
    rcases hd with rfl | rfl | rfl | rfl | rfl | rfl | rfl | rfl <;> walk_at "fdt"
end
end K01

set_option Elab.async false
set_option linter.all false
set_option maxRecDepth 100000
set_option maxHeartbeats 4000000
namespace K01
open PySem PySem.Spec PyProof.Rows L2 Ty Dy
theorem jn_ok {S β : Type} {Q : β → Prop} {E : XE → Prop} {k : S → Res β} {f : (S → Res β) → Res β} (I : S → Prop) (hk : ∀ s, I s → Ok (k s) Q E) (hf : ∀ kk, (∀ s, I s → Ok (kk s) Q E) → Ok (f kk) Q E) : Ok (jn k f) Q E := hf k hk
theorem fds_all {k n : Nat} : ∀ {l : List D}, (∀ x ∈ l, Fd k n x) → Fds k (l.length * (n + 1)) l
  | [], _ => by
    obtain ⟨xs, a, b, c⟩ := fds_nil
    exact ⟨xs, a, ⟨b.lv, b.sh, Nat.le_trans b.dp (Nat.zero_le _), Nat.le_trans b.wt (Nat.zero_le _)⟩, c⟩
  | d :: l, h => by
    obtain ⟨xs, a, b, c⟩ := fds_cons (h d List.mem_cons_self) (fds_all (l := l) fun x hx => h x (List.mem_cons_of_mem _ hx))
    refine ⟨xs, a, ⟨b.lv, b.sh, Nat.le_trans b.dp (by simp), Nat.le_trans b.wt ?_⟩, c⟩
    rw [List.length_cons, Nat.succ_mul]
    omega
theorem fd_tupA {k n q : Nat} {l : List D} (h : ∀ x ∈ l, Fd k n x) (hl : l.length ≤ q) : Fd (k + 1) (q * (n + 1)) (.tup l) := (fd_tup (fds_all h)).mono (Nat.le_refl _) (Nat.mul_le_mul hl (Nat.le_refl _))
theorem fd_lstA {k n q : Nat} {l : List D} (h : ∀ x ∈ l, Fd k n x) (hl : l.length ≤ q) : Fd (k + 1) (q * (n + 1)) (.lst l) := (fd_lst (fds_all h)).mono (Nat.le_refl _) (Nat.mul_le_mul hl (Nat.le_refl _))
theorem add_l {xs ys : List D} (h : xs.length + ys.length ≤ 1000000) : D.add (.lst xs) (.lst ys) = some (.lst (xs ++ ys)) := if_pos h
/-- what is judged: data, or a dict of one pair -/
def Vl (d : D) : Prop := Fd 3 20000 d ∨ ∃ (x : Str) (e : D), d = .dct [(.str x, e)] ∧ (x = "line" ∨ x = "a") ∧ Fd 2 2000 e
section
local macro_rules | `(tactic| walk_at "stp") => `(tactic| first
  | refine Ok.v ti ?_
  | refine Ok.v add_i ?_
  | refine Ok.v sub_i ?_
  | refine Ok.v lt_int ?_
  | refine Ok.v eq_i ?_
  | refine Ok.v (mod_i (by decide)) ?_
  | refine Ok.v int1_i ?_
  | refine r_slices (by assumption) (fun z _ hz => ?_)
  | refine r_adds (by assumption) (by assumption) (fun z _ hz => ?_)
  | refine r_lens (by assumption) ?_)
local macro_rules | `(tactic| walk_at "fdt") => `(tactic| first
  | exact Fd.mono (Sb.fd (by assumption))
  | exact fd_non.mono
  | exact fd_bl.mono
  | exact Fd.mono (fd_int (by omega))
  | exact Fd.mono (fd_lst (fds_cons (Sb.fd (by assumption)) fds_nil))
  | exact Fd.mono (fd_tup (fds_cons (Sb.fd (by assumption)) fds_nil)))
variable {n : Nat} {b : List D}
/-- four items -/
def It (l : List D) : Prop := l.length = 4 ∧ ∀ x ∈ l, Fd 1 300 x
theorem r_put {β : Type} {Q : β → Prop} {E : XE → Prop} {k : List D → Res β} {l : List D} {i : Int} {d : D} (hl : It l) (hd : Fd 1 300 d) (h0 : 0 ≤ i) (h1 : i < 4) (g : ∀ l', It l' → Ok (k l') Q E) : Ok (bo (D.putL l (.int i) d) k) Q E := by
  have e : D.putL l (.int i) d = some (l.set i.toNat d) := by
    show (ixN l.length i).map _ = _
    unfold ixN
    rw [if_pos h0, if_pos (by rw [hl.1]; exact h1)]
    rfl
  refine Ok.v e (g _ ⟨by rw [List.length_set]; exact hl.1, fun x hx => ?_⟩)
  rcases List.mem_or_eq_of_mem_set hx with h | h
  · exact hl.2 x h
  · rw [h]; exact hd
theorem ln_it {i j : Int} {c t : Str} (h : Ln i j c t) : It [.int i, .int j, .str c, .str t] := by
  refine ⟨rfl, fun x hx => ?_⟩
  simp only [List.mem_cons, List.not_mem_nil, or_false] at hx
  have hc : Sb 8 c := ⟨h.c1, fun q hq => sgn_lt q (let_s q (List.all_eq_true.mp h.ca q hq))⟩
  have ht : Sb 40 t := ⟨h.t1, fun q hq => sgn_lt q (List.all_eq_true.mp h.ta q hq)⟩
  have := h.i0; have := h.i1; have := h.j0; have := h.j1
  rcases hx with rfl | rfl | rfl | rfl <;> walk_at "fdt"
theorem odd_ok {i j : Int} {c t : Str} (hl : Ln i j c t) (hb : Bx (n + 12) b) : ∃ d b', F_l_odd b (ln i j c t) = some (d, b') ∧ Vl d ∧ Bx n b' := by
  suffices h : Sm (F_l_odd b (ln i j c t)) fun r => Vl r.1 ∧ Bx n r.2 by
    obtain ⟨⟨d, b'⟩, e, h1, h2⟩ := h.get
    exact ⟨d, b', e, h1, h2⟩
  have hc : Sb 8 c := ⟨hl.c1, fun q hq => sgn_lt q (let_s q (List.all_eq_true.mp hl.ca q hq))⟩
  have ht : Sb 40 t := ⟨hl.t1, fun q hq => sgn_lt q (List.all_eq_true.mp hl.ta q hq)⟩
  have hit := ln_it hl
  have hfl : Fd 2 1204 (ln i j c t) := fd_tupA hit.2 (q := 4) (Nat.le_refl _)
  unfold F_l_odd
  refine Ok.opt ?_
  refine tk hb (by decide) (by decide) fun w b1 w0 w1 hb1 => ?_
  dsimp only
  refine tk hb1 (by decide) (by decide) fun v b2 v0 v1 hb2 => ?_
  dsimp only
  refine Ok.v (show D.list1L (ln i j c t) = some [.int i, .int j, .str c, .str t] from rfl) ?_
  refine jn_ok (I := fun s => Bx (n + 9) s.1 ∧ It s.2) ?_ ?_
  · rintro ⟨b3, l3⟩ ⟨hb3, hl3⟩
    refine jn_ok (I := fun s => Bx (n + 6) s.1 ∧ It s.2) ?_ ?_
    · rintro ⟨b4, l4⟩ ⟨hb4, hl4⟩
      refine jn_ok (I := fun s => Bx (n + 3) s.1 ∧ It s.2) ?_ ?_
      · rintro ⟨b5, l5⟩ ⟨hb5, hl5⟩
        dsimp only
        obtain ⟨p, q, r, s, rfl⟩ := len4 hl5.1
        have hm := hl5.2
        have f0 := hm p (by simp); have f1 := hm q (by simp); have f2 := hm r (by simp); have f3 := hm s (by simp)
        walk_at "stp"
        split
        · walk_at "stp"
          refine Ok.v (show D.slice (.lst [p, q, r, s]) none (some 3) = some (.lst [p, q, r]) from rfl) ?_
          refine Ok.v (show D.tuple1 (.lst [p, q, r]) = some (.tup [p, q, r]) from rfl) ?_
          refine Ok.v (show D.add (.lst [p, q, r, s]) (.lst [.str ""]) = some (.lst [p, q, r, s, .str ""]) from add_l (by simp only [List.length_cons, List.length_nil]; omega)) ?_
          refine Ok.v (show D.tuple1 (.lst [p, q, r, s, .str ""]) = some (.tup [p, q, r, s, .str ""]) from rfl) ?_
          walk_at "stp"
          refine Ok.v (show D.slice (.lst [p, q, r, s]) (some 1) none = some (.lst [q, r, s]) from rfl) ?_
          refine Ok.v (show D.tuple1 (.lst [q, r, s]) = some (.tup [q, r, s]) from rfl) ?_
          refine Ok.v (show D.dict1 (.lst [.tup [.str "line", ln i j c t]]) = some (.dct [(.str "line", ln i j c t)]) from rfl) ?_
          walk_at "stp"
          refine Ok.v (show D.slice (.lst [p, q, r, s]) none (some 1) = some (.lst [p]) from rfl) ?_
          refine Ok.v (show D.add (.lst [p]) (.lst [p, q, r, s]) = some (.lst [p, p, q, r, s]) from add_l (by simp only [List.length_cons, List.length_nil]; omega)) ?_
          refine Ok.v (show D.tuple1 (.lst [p, p, q, r, s]) = some (.tup [p, p, q, r, s]) from rfl) ?_
          refine Ok.v (add_l (by simp only [List.length_cons, List.length_nil]; omega)) ?_
          refine r_ixl v0 (show v < 12 from v1) fun d hd => ?_
          refine ⟨?_, hb5.le⟩
          have he : Fd 1 300 (.str "") := Fd.mono (Sb.fd (n := 0) sb_lit)
          simp only [List.cons_append, List.nil_append, List.mem_cons, List.not_mem_nil, or_false] at hd
          rcases hd with rfl | rfl | rfl | rfl | rfl | rfl | rfl | rfl | rfl | rfl | rfl | rfl
          · exact .inl ((fd_tupA (k := 1) (n := 300) (q := 3) (by simp [f0, f1, f2]) (by simp)).mono)
          · exact .inl ((fd_tupA (k := 1) (n := 300) (q := 5) (by simp [f0, f1, f2, f3, he]) (by simp)).mono)
          · exact .inl ((fd_lstA (k := 1) (n := 300) (q := 4) (by simp [f0, f1, f2, f3]) (by simp)).mono)
          · exact .inl ((fd_tup fds_nil).mono)
          · exact .inl (fd_non.mono)
          · exact .inl (Fd.mono (Sb.fd (n := 3) sb_lit))
          · exact .inl ((fd_tupA (k := 1) (n := 300) (q := 3) (by simp [f1, f2, f3]) (by simp)).mono)
          · exact .inl ((fd_int (by decide)).mono)
          · exact .inr ⟨_, _, rfl, .inl rfl, hfl.mono⟩
          · exact .inl ((fd_tupA (k := 2) (n := 1204) (q := 1) (by simpa using hfl) (by simp)).mono)
          · exact .inl ((fd_lstA (k := 2) (n := 1204) (q := 1) (by simpa using hfl) (by simp)).mono)
          · exact .inl ((fd_tupA (k := 1) (n := 300) (q := 5) (by simp [f0, f1, f2, f3]) (by simp)).mono)
        · walk_at "stp"
          split
          · refine Ok.v ixl1 ?_
            refine Ok.v ixl0 ?_
            refine Ok.v ixl2 ?_
            refine Ok.v ixl3 ?_
            exact ⟨.inl (fd_tupA (k := 1) (n := 300) (q := 4) (by simp [f0, f1, f2, f3]) (by simp)).mono, hb5.le⟩
          · refine Ok.v (show D.tuple1 (.lst [p, q, r, s]) = some (.tup [p, q, r, s]) from rfl) ?_
            exact ⟨.inl (fd_tupA (k := 1) (n := 300) (q := 4) (by simp [f0, f1, f2, f3]) (by simp)).mono, hb5.le⟩
      · intro kk hk
        dsimp only
        walk_at "stp"
        split
        · refine Ok.v (show D.ix (ln i j c t) (.int 3) = some (.str t) from rfl) ?_
          obtain ⟨d, b6, e, hd, hb6⟩ := odd_text_ok hb4 ht
          refine Ok.v e ?_
          dsimp only
          refine r_put hl4 hd (by decide) (by decide) fun l' hl' => ?_
          exact hk _ ⟨hb6, hl'⟩
        · exact hk _ ⟨hb4.le, hl4⟩
    · intro kk hk
      dsimp only
      walk_at "stp"
      split
      · refine Ok.v (show D.ix (ln i j c t) (.int 2) = some (.str c) from rfl) ?_
        obtain ⟨d, b6, e, hd, hb6⟩ := odd_cell_ok hb3 hc hl.c0
        refine Ok.v e ?_
        dsimp only
        refine r_put hl3 hd (by decide) (by decide) fun l' hl' => ?_
        exact hk _ ⟨hb6, hl'⟩
      · exact hk _ ⟨hb3.le, hl3⟩
  · intro kk hk
    walk_at "stp"
    split
    · rename_i hw
      have hw := of_decide_eq_true hw
      refine Ok.v (show D.neg (.int 1) = some (.int (-1)) from rfl) ?_
      refine Ok.v (pow_i (by decide) (by decide) (by decide)) ?_
      refine Ok.v (pow_i (by decide) (by decide) (by decide)) ?_
      refine Ok.v (show D.neg (.int (10 ^ (19 : Int).toNat)) = some (.int (-(10 ^ (19 : Int).toNat))) from rfl) ?_
      refine tk hb2 (by decide) (by decide) fun u b3 u0 u1 hb3 => ?_
      dsimp only
      have odds : ∀ d, d ∈ ([.int (-1), .bl true, .bl false, .non, .str "0", .str "", .tup [.int 0], .lst [.int 0], .int (10 ^ (19 : Int).toNat), .int (-(10 ^ (19 : Int).toNat)), .int 100, .int 99] : List D) → Fd 1 300 d := by
        intro d hd
        simp only [List.mem_cons, List.not_mem_nil, or_false] at hd
        rcases hd with rfl | rfl | rfl | rfl | rfl | rfl | rfl | rfl | rfl | rfl | rfl | rfl
        · exact (fd_int (by decide)).mono
        · exact fd_bl.mono
        · exact fd_bl.mono
        · exact fd_non.mono
        · exact Fd.mono (Sb.fd (n := 1) sb_lit)
        · exact Fd.mono (Sb.fd (n := 0) sb_lit)
        · exact Fd.mono (fd_tup (fds_cons (fd_int (by decide)) fds_nil))
        · exact Fd.mono (fd_lst (fds_cons (fd_int (by decide)) fds_nil))
        · exact (fd_int (by decide +kernel)).mono
        · exact (fd_int (by decide +kernel)).mono
        · exact (fd_int (by decide)).mono
        · exact (fd_int (by decide)).mono
      refine r_ixl v0 (show v < 12 from v1) fun d hd => ?_
      refine r_put hit (odds d hd) w0 (by omega) fun l4 hl4 => ?_
      refine jn_ok (I := fun d => Fd 1 300 d) ?_ ?_
      · intro d hd
        walk_at "stp"
        refine r_put hl4 hd (by omega) (by omega) fun l5 hl5 => ?_
        exact hk _ ⟨hb3, hl5⟩
      · intro kk2 hk2
        walk_at "stp"
        walk_at "stp"
        split
        · refine Ok.v (fdiv_i (by decide) (by decide)) ?_
          walk_at "stp"
          refine r_ixl (by omega) (show u / 3 < 12 by omega) fun d hd => ?_
          exact hk2 _ (odds d hd)
        · walk_at "stp"
          refine r_ixl (by omega) (by rw [hl4.1]; omega) fun d hd => ?_
          exact hk2 _ (hl4.2 d hd)
    · exact hk _ ⟨hb2.le, hit⟩
end
end K01

set_option Elab.async false
set_option linter.all false
set_option maxRecDepth 100000
set_option maxHeartbeats 4000000
namespace K01
open PySem PySem.Spec PyProof.Rows L2 Ty Dy
open PySem.Builtin PySem.Builtin.Str PySem.StrLaws
/-! ### numbers as texts -/
theorem istr_list {i : Int} (h : 0 ≤ i) : (istr i).cps.toList = TL.numL i.toNat := by
  have := TL.tl_num i.toNat
  rw [show ((i.toNat : Nat) : Int) = i by omega] at this
  exact this
theorem istr_sb {i : Int} (h : 0 ≤ i) (h1 : i < 10 ^ 20) : Sb 20 (istr i) := by
  constructor
  · rw [str_llen, istr_list h]
    refine TL.numL_len (by decide) ?_
    have : (10 : Int) ^ 20 = ((10 ^ 20 : Nat) : Int) := by decide
    omega
  · intro c hc
    rw [istr_list h] at hc
    have := TL.numL_digits i.toNat c hc
    omega
theorem log_lt {i : Int} (h : 0 ≤ i) (h1 : i < 10 ^ 20) : i.natAbs.log2 < 1920 := by
  have := log2_lt29 (i := i) (by
    have : (10 : Int) ^ 20 = ((10 ^ 20 : Nat) : Int) := by decide
    have : (10 : Nat) ^ 20 < 10 ^ 29 := by decide
    omega)
  omega
theorem str1_i {i : Int} (h : 0 ≤ i) (h1 : i < 10 ^ 20) : D.str1 (.int i) = some (.str (istr i)) := if_pos (log_lt h h1)
/-! ### words -/
theorem spl_mem : ∀ (l acc : List Nat) (w : List Nat), w ∈ TL.spl [32] 0 acc l → (∀ c ∈ w, c ∈ acc ∨ c ∈ l) ∧ w.length ≤ acc.length + l.length
  | [], acc, w, h => by
    rw [TL.spl_nil, List.mem_singleton] at h
    subst h
    exact ⟨fun c hc => .inl hc, by simp⟩
  | c :: r, acc, w, h => by
    by_cases hp : TL.pre [32] (c :: r) = true
    · rw [TL.spl_hit hp] at h
      rcases List.mem_cons.mp h with h | h
      · subst h
        exact ⟨fun c hc => .inl hc, by simp⟩
      · obtain ⟨h1, h2⟩ := spl_mem r [] w h
        refine ⟨fun d hd => ?_, by simp at h2 ⊢; omega⟩
        rcases h1 d hd with h | h
        · cases h
        · exact .inr (List.mem_cons_of_mem _ h)
    · rw [TL.spl_miss (Bool.eq_false_iff.mpr hp)] at h
      obtain ⟨h1, h2⟩ := spl_mem r (acc ++ [c]) w h
      refine ⟨fun d hd => ?_, by simp at h2 ⊢; omega⟩
      rcases h1 d hd with h | h
      · rcases List.mem_append.mp h with h | h
        · exact .inl h
        · rw [List.mem_singleton.mp h]; exact .inr List.mem_cons_self
      · exact .inr (List.mem_cons_of_mem _ h)
theorem spl_len : ∀ (l acc : List Nat), (TL.spl [32] 0 acc l).length ≤ l.length + 1 ∧ 1 ≤ (TL.spl [32] 0 acc l).length
  | [], acc => by rw [TL.spl_nil]; simp
  | c :: r, acc => by
    by_cases hp : TL.pre [32] (c :: r) = true
    · rw [TL.spl_hit hp]
      have := spl_len r []
      simp
      exact this.1
    · rw [TL.spl_miss (Bool.eq_false_iff.mpr hp)]
      have := spl_len r (acc ++ [c])
      simp
      omega
theorem sp_list : ((" " : Str)).cps.toList = [32] := by decide +kernel
theorem split_list (x : Str) : (Txt.split x " ").map (fun y => y.cps.toList) = TL.spl [32] 0 [] x.cps.toList := by
  have := TL.split_spl x " " (by show (" " : Str).cps.toList ≠ []; rw [sp_list]; simp) (TL.kind_ok (by decide +kernel))
  rw [show TL.tl " " = [32] from sp_list] at this
  exact this
theorem split_sb {n : Nat} {x : Str} (h : Sb n x) : ∀ w ∈ Txt.split x " ", Sb n w := by
  intro w hw
  have hm : w.cps.toList ∈ TL.spl [32] 0 [] x.cps.toList := by
    rw [← split_list]
    exact List.mem_map.mpr ⟨w, hw, rfl⟩
  obtain ⟨h1, h2⟩ := spl_mem _ _ _ hm
  constructor
  · rw [str_llen]
    have := h.1
    rw [str_llen] at this
    simp at h2 ⊢
    simp at this
    omega
  · intro c hc
    rcases h1 c hc with h | h'
    · cases h
    · exact h.2 c h'
theorem split_len (x : Str) : (Txt.split x " ").length ≤ x.length + 1 ∧ 1 ≤ (Txt.split x " ").length := by
  have e : (Txt.split x " ").length = (TL.spl [32] 0 [] x.cps.toList).length := by rw [← split_list, List.length_map]
  rw [e, str_llen]
  exact spl_len _ _
theorem index_sp {x : Str} (h : 32 ∈ x.cps.toList) : ∃ i : Nat, D.index2 (.str x) (.str " ") = some (.int i) := by
  obtain ⟨f, g, hl, hn⟩ := occ_lim x " " (by decide +kernel) 1
  unfold D.index2
  dsimp only
  cases e : occurrences x " " 0 x.length 1 with
  | cons i r => exact ⟨i, rfl⟩
  | nil =>
    exfalso
    rw [e] at g hn
    have hf : f = 0 := g
    obtain ⟨j, hj⟩ := List.getElem?_of_mem h
    refine hn (by simp) j (by omega) ?_
    have e2 : (" " : Str) = ⟨#[32]⟩ := by decide +kernel
    rw [e2]
    exact (subAt_one x 32 j).mpr hj
/-- words -/
def Ws (n m : Nat) (l : List D) : Prop := ∃ ws : List Str, l = ws.map D.str ∧ ws.length ≤ m ∧ ∀ w ∈ ws, Sb n w
theorem strsD_map : ∀ {l : List Str}, D.strsD (l.map D.str) = some l
  | [] => rfl
  | c :: l => by
    show (D.strsD (l.map D.str)).map _ = _
    rw [strsD_map]
    rfl
theorem sum_le {n : Nat} : ∀ {l : List Str}, (∀ w ∈ l, Sb n w) → (l.map (·.length)).sum ≤ l.length * n
  | [], _ => by simp
  | c :: l, h => by
    have h1 := (h c List.mem_cons_self).1
    have h2 := sum_le (l := l) fun w hw => h w (List.mem_cons_of_mem _ hw)
    rw [List.map_cons, List.sum_cons, List.length_cons, Nat.succ_mul]
    omega
section
variable {β : Type} {Q : β → Prop} {E : XE → Prop} {n m : Nat}
theorem r_join {k : D → Res β} {l : List D} (h : Ws n m l) (hn : n ≤ 1000) (hm : m ≤ 1000) (g : ∀ z, Sb (m * (n + 1)) z → Ok (k (.str z)) Q E) : Ok (bo (D.join (.str " ") (.lst l)) k) Q E := by
  obtain ⟨ws, rfl, h1, h2⟩ := h
  have hs : Sb 1 " " := sb_lit
  have hj := hs.join h2
  have e : D.join (.str " ") (.lst (ws.map D.str)) = some (.str (Txt.join " " ws)) := by
    unfold D.join
    dsimp only
    rw [strsD_map]
    dsimp only
    rw [if_pos]
    have := sum_le h2
    have a : ws.length * n ≤ 1000 * 1000 := Nat.mul_le_mul (by omega) hn
    have b := hs.1
    have c : ws.length * (" " : Str).length ≤ 1000 * 1 := Nat.mul_le_mul (by omega) b
    omega
  refine Ok.v e (g _ (hj.mono ?_))
  exact Nat.mul_le_mul h1 (Nat.le_refl _)
theorem Ws.mem {l : List D} {d : D} (h : Ws n m l) (hd : d ∈ l) : ∃ s, d = .str s ∧ Sb n s := by
  obtain ⟨ws, rfl, h1, h2⟩ := h
  obtain ⟨s, hs, rfl⟩ := List.mem_map.mp hd
  exact ⟨s, rfl, h2 s hs⟩
theorem ws_of : ∀ {l : List D}, (∀ d ∈ l, ∃ s, d = .str s ∧ Sb n s) → Ws n l.length l
  | [], _ => ⟨[], rfl, Nat.le_refl _, fun _ h => nomatch h⟩
  | d :: l, h => by
    obtain ⟨s, rfl, hs⟩ := h d List.mem_cons_self
    obtain ⟨ws, e, h1, h2⟩ := ws_of (l := l) fun x hx => h x (List.mem_cons_of_mem _ hx)
    refine ⟨s :: ws, by rw [List.map_cons, ← e], by simp; exact h1, fun w hw => ?_⟩
    rcases List.mem_cons.mp hw with rfl | hw
    · exact hs
    · exact h2 w hw
theorem Ws.len {l : List D} (h : Ws n m l) : l.length ≤ m := by
  obtain ⟨ws, rfl, h1, h2⟩ := h
  rw [List.length_map]; exact h1
theorem Ws.mono {n' m' : Nat} {l : List D} (h : Ws n m l) (h1 : n ≤ n' := by omega) (h2 : m ≤ m' := by omega) : Ws n' m' l := by
  obtain ⟨ws, e, a, b⟩ := h
  exact ⟨ws, e, Nat.le_trans a h2, fun w hw => (b w hw).mono h1⟩
theorem Ws.sub {l l' : List D} (h : Ws n m l) (hs : ∀ d ∈ l', d ∈ l) : Ws n l'.length l' := ws_of fun d hd => h.mem (hs d hd)
theorem Ws.app {n' m' : Nat} {l l' : List D} (h : Ws n m l) (h' : Ws n' m' l') : Ws (max n n') (m + m') (l ++ l') := by
  obtain ⟨ws, rfl, a, b⟩ := h
  obtain ⟨ws', rfl, a', b'⟩ := h'
  refine ⟨ws ++ ws', by rw [List.map_append], by rw [List.length_append]; omega, fun w hw => ?_⟩
  rcases List.mem_append.mp hw with h | h
  · exact (b w h).mono (Nat.le_max_left _ _)
  · exact (b' w h).mono (Nat.le_max_right _ _)
theorem r_putw {k : List D → Res β} {l : List D} {i : Int} {s : Str} (hl : Ws n m l) (hd : Sb n s) (h0 : 0 ≤ i) (h1 : i < l.length) (g : ∀ l', l'.length = l.length → Ws n m l' → Ok (k l') Q E) : Ok (bo (D.putL l (.int i) (.str s)) k) Q E := by
  have e : D.putL l (.int i) (.str s) = some (l.set i.toNat (.str s)) := by
    show (ixN l.length i).map _ = _
    unfold ixN
    rw [if_pos h0, if_pos h1]
    rfl
  have hw : Ws n (l.set i.toNat (.str s)).length (l.set i.toNat (.str s)) := ws_of fun x hx => by
    rcases List.mem_or_eq_of_mem_set hx with h | h
    · exact hl.mem h
    · exact ⟨s, h, hd⟩
  refine Ok.v e (g _ (List.length_set ..) (hw.mono (Nat.le_refl _) (by rw [List.length_set]; exact hl.len)))
theorem cut_mem {α : Type _} {l : List α} {lo hi : Option Int} {d : α} (h : d ∈ D.cutL l lo hi) : d ∈ l := List.mem_of_mem_drop (List.mem_of_mem_take h)
theorem cut_len {α : Type _} {l : List α} {lo hi : Option Int} : (D.cutL l lo hi).length ≤ l.length := by
  unfold D.cutL
  rw [List.length_take, List.length_drop]; omega
theorem slice_l {l : List D} {lo hi : Option Int} : D.slice (.lst l) lo hi = some (.lst (D.cutL l lo hi)) := rfl
theorem addL_l {xs ys : List D} (h : xs.length + ys.length ≤ 1000000) : D.addL (.lst xs) (.lst ys) = some (xs ++ ys) := if_pos h
end
end K01

set_option Elab.async false
set_option linter.all false
set_option maxRecDepth 100000
set_option maxHeartbeats 4000000
namespace K01
open PySem PySem.Spec PyProof.Rows L2 Ty Dy
section
local macro_rules | `(tactic| walk_at "stp") => `(tactic| first
  | refine Ok.v ti ?_
  | refine Ok.v add_i ?_
  | refine Ok.v sub_i ?_
  | refine Ok.v lt_int ?_
  | refine Ok.v eq_i ?_
  | refine Ok.v (mod_i (by decide)) ?_
  | refine Ok.v int1_i ?_
  | refine r_slices (by assumption) (fun z _ hz => ?_)
  | refine r_adds (by assumption) (by assumption) (fun z _ hz => ?_)
  | refine r_lens (by assumption) ?_)
local macro_rules | `(tactic| walk_at "fdt") => `(tactic| first
  | exact Fd.mono (Sb.fd (by assumption))
  | exact fd_non.mono
  | exact fd_bl.mono
  | exact Fd.mono (fd_int (by omega))
  | exact Fd.mono (fd_lst (fds_cons (Sb.fd (by assumption)) fds_nil))
  | exact Fd.mono (fd_tup (fds_cons (Sb.fd (by assumption)) fds_nil)))
variable {n : Nat} {b : List D}
theorem spoilt_ok {x : Str} (hx : Sb 100 x) (hs : 32 ∈ x.cps.toList) (hb : Bx (n + 20) b) : ∃ z b', F_l_spoilt b (.str x) = some (.str z, b') ∧ Sb 80000 z ∧ Bx n b' := by
  suffices h : Sm (F_l_spoilt b (.str x)) fun r => ∃ z, r.1 = .str z ∧ Sb 80000 z ∧ Bx n r.2 by
    obtain ⟨⟨d, b'⟩, e, z, rfl, h1, h2⟩ := h.get
    exact ⟨z, b', e, h1, h2⟩
  have hl := hx.1
  have hl0 : 0 < x.length := by rw [str_llen]; exact List.length_pos_of_mem hs
  unfold F_l_spoilt
  refine Ok.opt ?_
  refine tk hb (by decide) (by decide) fun w b1 w0 w1 hb1 => ?_
  dsimp only
  refine tk hb1 (by decide) (by decide) fun v b2 v0 v1 hb2 => ?_
  dsimp only
  refine jn_ok (I := fun s => ∃ q : Int, s = .int q ∧ 0 < q ∧ q ≤ 100) ?_ ?_
  · rintro s5 ⟨q, rfl, q0, q1⟩
    refine tk hb2 q0 (by omega) fun a b3 a0 a1 hb3 => ?_
    dsimp only
    refine jn_ok (I := fun s => ∃ g, s.1 = .str g ∧ Sb 1 g ∧ Bx (n + 15) s.2) ?_ ?_
    · rintro ⟨s1, b4⟩ ⟨g, hg, hg1, hb4⟩
      dsimp only at hg hb4 ⊢
      subst hg
      walk_at "stp"
      split
      · rename_i hw
        have hw := of_decide_eq_true hw
        repeat walk_at "stp"
        refine r_ixl w0 hw fun d hd => ?_
        simp only [List.mem_cons, List.not_mem_nil, or_false] at hd
        rcases hd with rfl | rfl | rfl <;> exact ⟨_, rfl, Sb.mono (by assumption), hb4.le⟩
      walk_at "stp"
      split
      · repeat walk_at "stp"
        exact ⟨_, rfl, Sb.mono (by assumption), hb4.le⟩
      walk_at "stp"
      split
      · have hn : Sb 1 "\n" := sb_lit
        refine r_adds hx hn fun z _ hz => ?_
        exact ⟨_, rfl, hz.mono, hb4.le⟩
      walk_at "stp"
      split
      · refine tk (hb4.le (n' := n + 1)) (by decide) (by decide) fun u b5 u0 u1 hb5 => ?_
        dsimp only
        walk_at "stp"
        refine Ok.v (str1_i (by omega) (by omega)) ?_
        have hi := istr_sb (i := 90 + u) (by omega) (by omega)
        refine Ok.v (show D.asS (.str x) = some () from rfl) ?_
        obtain ⟨i, hi2⟩ := index_sp hs
        refine Ok.v hi2 ?_
        walk_at "stp"
        walk_at "stp"
        refine r_adds hi (by assumption) fun z _ hz => ?_
        exact ⟨_, rfl, hz.mono, hb5.le⟩
      refine Ok.v (show D.asS (.str x) = some () from rfl) ?_
      obtain ⟨L1, L0⟩ := split_len x
      refine Ok.v (show D.split2L (.str x) (.str " ") = some ((Txt.split x " ").map D.str) from if_pos ⟨by decide +kernel, by omega⟩) ?_
      have hws : Ws 100 101 ((Txt.split x " ").map D.str) := ⟨_, rfl, by omega, split_sb hx⟩
      have hL : ((Txt.split x " ").map D.str).length = (Txt.split x " ").length := List.length_map ..
      generalize (Txt.split x " ").map D.str = wl at *
      generalize (Txt.split x " ").length = L at *
      refine Ok.v (show D.len (.lst wl) = some (.int wl.length) from rfl) ?_
      refine Ok.v (show D.min2 (.int 4) (.int wl.length) = some (.int (min 4 (wl.length : Int))) from rfl) ?_
      refine tk (hb4.le (n' := n + 14)) (by omega) (by omega) fun o b5 o0 o1 hb5 => ?_
      dsimp only
      refine Ok.v (show D.len (.lst wl) = some (.int wl.length) from rfl) ?_
      refine tk hb5 (by omega) (by omega) fun p b6 p0 p1 hb6 => ?_
      dsimp only
      refine jn_ok (I := fun s => s.length = L ∧ Ws 100 101 s) ?_ ?_
      · rintro l1 ⟨e1, hw1⟩
        refine jn_ok (I := fun s => s.2.length = L ∧ Ws 101 101 s.2 ∧ Bx (n + 2) s.1) ?_ ?_
        · rintro ⟨b7, l2⟩ ⟨e2, hw2, hb7⟩
          dsimp only at e2 hw2 hb7 ⊢
          refine jn_ok (I := fun s => (w ≠ 6 → s.length = L) ∧ Ws 101 202 s) ?_ ?_
          · rintro l3 ⟨e3, hw3⟩
            refine jn_ok (I := fun s => (w ≠ 6 → w ≠ 7 → s.length = L) ∧ Ws 101 500 s) ?_ ?_
            · rintro l4 ⟨e4, hw4⟩
              refine jn_ok (I := fun s => Ws 142 500 s.2 ∧ Bx n s.1) ?_ ?_
              · rintro ⟨b8, l5⟩ ⟨hw5, hb8⟩
                dsimp only at hw5 hb8 ⊢
                refine Ok.v (show D.asS (.str " ") = some () from rfl) ?_
                refine r_join hw5 (by omega) (by omega) fun z hz => ?_
                exact ⟨_, rfl, Sb.mono hz (by omega), hb8⟩
              · intro kk hk
                walk_at "stp"
                split
                · rename_i hw
                  have hw := of_decide_eq_true hw
                  have e4 := e4 (by omega) (by omega)
                  refine r_ixl o0 (by omega) fun d hd => ?_
                  obtain ⟨s, rfl, hs1⟩ := hw4.mem hd
                  refine r_muls (x := "~") (c := 126) (by decide +kernel) (by decide) (by omega) (by omega) fun z hz1 hz2 => ?_
                  refine tk (hb7.le (n' := n + 1)) (by decide) (by decide) fun u b8 u0 u1 hb8 => ?_
                  dsimp only
                  refine r_ixl u0 (show u < 5 from u1) fun d hd => ?_
                  have key : ∃ y, d = .str y ∧ Sb 41 y := by
                    simp only [List.mem_cons, List.not_mem_nil, or_false] at hd
                    rcases hd with rfl | rfl | rfl | rfl | rfl
                    · exact ⟨_, rfl, sb_lit⟩
                    · exact ⟨_, rfl, sb_lit⟩
                    · exact ⟨_, rfl, sb_lit⟩
                    · exact ⟨_, rfl, sb_lit⟩
                    · exact ⟨_, rfl, hz2⟩
                  obtain ⟨y, rfl, hy⟩ := key
                  refine r_adds hs1 hy fun z _ hz => ?_
                  refine r_putw (hw4.mono (n' := 142) (m' := 500)) hz o0 (by omega) fun l' _ hl' => ?_
                  exact hk _ ⟨hl', hb8⟩
                · exact hk _ ⟨hw4.mono, hb7.le⟩
            · intro kk hk
              walk_at "stp"
              split
              · rename_i hw
                have hw := of_decide_eq_true hw
                have e3 := e3 (by omega)
                walk_at "stp"
                refine Ok.v slice_l ?_
                refine r_ixl o0 (by omega) fun d hd => ?_
                obtain ⟨s, rfl, hs1⟩ := hw3.mem hd
                have c1 := cut_len (l := l3) (lo := none) (hi := some o)
                have c2 := cut_len (l := l3) (lo := some o) (hi := none)
                refine Ok.v (add_l (by simp only [List.length_cons, List.length_nil]; omega)) ?_
                walk_at "stp"
                refine Ok.v slice_l ?_
                refine Ok.v (addL_l (by rw [List.length_append]; simp only [List.length_cons, List.length_nil]; omega)) ?_
                refine hk _ ⟨fun _ h => absurd hw h, ?_⟩
                have q1 := hw3.sub (l' := D.cutL l3 none (some o)) fun d hd => cut_mem hd
                have q2 := hw3.sub (l' := D.cutL l3 (some o) none) fun d hd => cut_mem hd
                exact ((q1.app (ws_of (l := [.str s]) fun d hd => by rw [List.mem_singleton.mp hd]; exact ⟨s, rfl, hs1⟩)).app q2).mono (by omega) (by simp only [List.length_cons, List.length_nil]; omega)
              · exact hk _ ⟨fun h1 _ => e3 h1, hw3.mono⟩
          · intro kk hk
            walk_at "stp"
            split
            · rename_i hw
              have hw := of_decide_eq_true hw
              walk_at "stp"
              refine Ok.v slice_l ?_
              walk_at "stp"
              walk_at "stp"
              refine Ok.v slice_l ?_
              have c1 := cut_len (l := l2) (lo := none) (hi := some o)
              have c2 := cut_len (l := l2) (lo := some (o + 1)) (hi := none)
              have := hw2.len
              refine Ok.v (addL_l (by omega)) ?_
              refine hk _ ⟨fun h => absurd hw h, ?_⟩
              have q1 := hw2.sub (l' := D.cutL l2 none (some o)) fun d hd => cut_mem hd
              have q2 := hw2.sub (l' := D.cutL l2 (some (o + 1)) none) fun d hd => cut_mem hd
              exact (q1.app q2).mono (by omega) (by omega)
            · exact hk _ ⟨fun _ => e2, hw2.mono⟩
        · intro kk hk
          walk_at "stp"
          split
          · refine tk (hb6.le (n' := n + 3)) (by decide) (by decide) fun u b8 u0 u1 hb8 => ?_
            dsimp only
            refine r_ixl u0 (show u < 5 from u1) fun d hd => ?_
            have key : ∃ y, d = .str y ∧ Sb 1 y := by
              simp only [List.mem_cons, List.not_mem_nil, or_false] at hd
              rcases hd with rfl | rfl | rfl | rfl | rfl <;> exact ⟨_, rfl, sb_lit⟩
            obtain ⟨y, rfl, hy⟩ := key
            refine r_ixl o0 (by omega) fun d hd => ?_
            obtain ⟨s, rfl, hs1⟩ := hw1.mem hd
            refine r_adds hy hs1 fun z _ hz => ?_
            refine r_putw (hw1.mono (n' := 101) (m' := 101)) (hz.mono) o0 (by omega) fun l' e' hl' => ?_
            exact hk _ ⟨by dsimp only; omega, hl', hb8⟩
          · exact hk _ ⟨e1, hw1.mono, hb6.le⟩
      · intro kk hk
        walk_at "stp"
        split
        · refine r_ixl o0 (by omega) fun d hd => ?_
          obtain ⟨s, rfl, hs1⟩ := hws.mem hd
          refine r_ixl p0 p1 fun d2 hd2 => ?_
          obtain ⟨s2, rfl, hs2⟩ := hws.mem hd2
          refine r_putw hws hs2 o0 (by omega) fun l' e' hl' => ?_
          refine r_putw hl' hs1 p0 (by omega) fun l'' e'' hl'' => ?_
          exact hk _ ⟨by omega, hl''⟩
        · exact hk _ ⟨hL, hws⟩
    · intro kk hk
      walk_at "stp"
      split
      · obtain ⟨z, b4, e4, hz, hb4⟩ := any_ok (n := n + 16) (q := 1) hb3 (by omega)
        refine Ok.v e4 ?_
        exact hk _ ⟨z, rfl, hz.sb sgn_lt, hb4.le⟩
      · refine tk hb3 (by decide) (by decide) fun u b8 u0 u1 hb8 => ?_
        dsimp only
        refine r_ixs (x := " 0190a z\n") (n := 9) sb_lit u0 u1 fun g hg hg1 => ?_
        exact hk _ ⟨_, rfl, hg1, hb8.le⟩
  · intro kk hk
    walk_at "stp"
    split
    · walk_at "stp"
      exact hk _ ⟨_, rfl, by omega, by omega⟩
    · walk_at "stp"
      refine Ok.v (show D.min2 (.int x.length) (.int 14) = some (.int (min (x.length : Int) 14)) from rfl) ?_
      exact hk _ ⟨_, rfl, by omega, by omega⟩
end
end K01

set_option Elab.async false
set_option linter.all false
set_option maxRecDepth 100000
set_option maxHeartbeats 4000000
namespace K01
open PySem PySem.Spec PyProof.Rows L2 Ty Dy
open PySem.NumText
theorem spk_len {s : Nat} : ∀ (k : Nat) (acc l : List Nat), (spk s k acc l).length ≤ k + 1
  | k, acc, [] => by rw [spk_nil]; simp
  | 0, acc, c :: r => Nat.le_refl _
  | k + 1, acc, c :: r => by
    show (if c = s then acc :: spk s k [] r else spk s (k + 1) (acc ++ [c]) r).length ≤ _
    split
    · have := spk_len (s := s) k [] r
      rw [List.length_cons]; omega
    · exact spk_len (k + 1) (acc ++ [c]) r
theorem spk_mem {s : Nat} : ∀ (k : Nat) (acc l : List Nat), ∀ y ∈ spk s k acc l, (∀ c ∈ y, c ∈ acc ∨ c ∈ l) ∧ y.length ≤ acc.length + l.length
  | k, acc, [], y, hy => by
    rw [spk_nil, List.mem_singleton] at hy
    subst hy
    exact ⟨fun c hc => .inl hc, by simp⟩
  | 0, acc, z :: r, y, hy => by
    have e : y = acc ++ z :: r := List.mem_singleton.mp hy
    subst e
    exact ⟨fun c hc => List.mem_append.mp hc, by rw [List.length_append]; omega⟩
  | k + 1, acc, z :: r, y, hy => by
    have hy2 : y ∈ (if z = s then acc :: spk s k [] r else spk s (k + 1) (acc ++ [z]) r) := hy
    split at hy2
    · rcases List.mem_cons.mp hy2 with e | h
      · subst e
        exact ⟨fun c hc => .inl hc, by omega⟩
      · obtain ⟨h1, h2⟩ := spk_mem k [] r y h
        refine ⟨fun c hc => ?_, by simp at h2 ⊢; omega⟩
        rcases h1 c hc with q | q
        · cases q
        · exact .inr (List.mem_cons_of_mem _ q)
    · obtain ⟨h1, h2⟩ := spk_mem (k + 1) (acc ++ [z]) r y hy2
      refine ⟨fun c hc => ?_, by simp at h2 ⊢; omega⟩
      rcases h1 c hc with q | q
      · rcases List.mem_append.mp q with q | q
        · exact .inl q
        · exact .inr (List.mem_singleton.mp q ▸ List.mem_cons_self)
      · exact .inr (List.mem_cons_of_mem _ q)
theorem pre_32 {c : Nat} {r : List Nat} : TL.pre [32] (c :: r) = decide (c = 32) := by
  unfold TL.pre
  simp only [List.length_cons, List.length_nil, List.take_succ_cons, List.take_zero]
  by_cases h : c = 32
  · subst h; rfl
  · rw [decide_eq_false h]
    simpa using h
/-- the words ahead of the last part are the same -/
theorem spk_spl : ∀ (k : Nat) (acc l : List Nat) (j : Nat), j < k → j + 1 < (spk 32 k acc l).length → (spk 32 k acc l)[j]? = (TL.spl [32] 0 acc l)[j]?
  | 0, _, _, _, h, _ => absurd h (Nat.not_lt_zero _)
  | k + 1, acc, [], j, h, hj => by rw [spk_nil] at hj; simp at hj
  | k + 1, acc, c :: r, j, h, hj => by
    have e : spk 32 (k + 1) acc (c :: r) = if c = 32 then acc :: spk 32 k [] r else spk 32 (k + 1) (acc ++ [c]) r := rfl
    rw [e] at hj ⊢
    by_cases hc : c = 32
    · rw [if_pos hc] at hj ⊢
      rw [TL.spl_hit (by rw [pre_32]; exact decide_eq_true hc)]
      cases j with
      | zero => rfl
      | succ j =>
        rw [List.getElem?_cons_succ, List.getElem?_cons_succ]
        exact spk_spl k [] r j (by omega) (by simpa using hj)
    · rw [if_neg hc] at hj ⊢
      rw [TL.spl_miss (by rw [pre_32]; exact decide_eq_false hc)]
      exact spk_spl (k + 1) (acc ++ [c]) r j h hj
abbrev sp : Str := Str.ofString " "
def parts (x : Str) : List Str := Txt.splitMax x sp 3
theorem parts_spk (x : Str) : (parts x).map (fun y => y.cps.toList) = spk 32 3 [] x.cps.toList := splitMax_spk x (s := 32) (by decide) (k := 3) (by decide)
theorem parts_le (x : Str) : (parts x).length ≤ 4 := by
  have := spk_len (s := 32) 3 [] x.cps.toList
  rw [← parts_spk, List.length_map] at this
  exact this
theorem parts_sb {n : Nat} {x y : Str} (hx : Sb n x) (h : y ∈ parts x) : Sb n y := by
  have h2 : y.cps.toList ∈ (parts x).map fun y => y.cps.toList := List.mem_map.mpr ⟨y, h, rfl⟩
  rw [parts_spk] at h2
  obtain ⟨h3, h4⟩ := spk_mem 3 [] _ _ h2
  constructor
  · rw [str_llen]
    have := hx.1
    rw [str_llen] at this
    simp at h4 this ⊢
    omega
  · intro c hc
    rcases h3 c hc with q | q
    · cases q
    · exact hx.2 c q
/-! ### words of digits -/
def dig (c : Nat) : Bool := decide (48 ≤ c) && decide (c ≤ 57)
def dgB (s : Str) : Bool := s.cps.toList.all dig
theorem mem_dig {c : Nat} : decide (c ∈ (("0123456789" : Str)).cps.toList) = dig c := by
  have e : (("0123456789" : Str)).cps.toList = List.range' 48 10 := by decide +kernel
  rw [Bool.eq_iff_iff, decide_eq_true_eq, e, List.mem_range'_1, dig]
  simp only [Bool.and_eq_true, decide_eq_true_eq]
  omega
theorem dgB_all {s : Str} (h : dgB s = true) : AllDigits s.cps.toList := fun c hc => by
  have := List.all_eq_true.mp h c hc
  simpa [dig] using this
/-- no needless nought -/
def plB (s : Str) : Bool := match s.cps.toList with
  | [] => false
  | [_] => true
  | c :: _ :: _ => !decide (c = 48)
def cntD (s : Str) : D := if (dgB s && plB s) = true then .int (digitsVal s.cps.toList : Nat) else .non
def digD (s : Str) : D := if (dgB s && plB s) = true then .int (digitsVal s.cps.toList : Nat) else .int (-1)
def Wd (s : Str) : Prop := Sb 80000 s ∧ (dgB s = true → s.length ≤ 20)
theorem int1_d {s : Str} (h : dgB s = true) (hl : s.length ≤ 20) (hne : s.cps.toList ≠ []) : D.int1 (.str s) = some (.int (digitsVal s.cps.toList : Nat)) := by
  unfold D.int1
  dsimp only
  rw [intText_digits (dgB_all h) hne (by omega)]
  exact if_pos (by omega)
theorem sg_eq {c d : Nat} : decide ((⟨#[c]⟩ : Str) = ⟨#[d]⟩) = decide (c = d) := by
  by_cases h : c = d
  · subst h; simp
  · rw [decide_eq_false h, decide_eq_false]
    intro q
    have : ([c] : List Nat) = [d] := congrArg (fun s : Str => s.cps.toList) q
    exact h (List.singleton_inj.mp this)
theorem s0 : ("0" : Str) = ⟨#[48]⟩ := by decide +kernel
theorem ix_0 {s : Str} {c : Nat} {r : List Nat} (h : s.cps.toList = c :: r) (hl : s.length ≤ 80000) : D.ix (.str s) (.int 0) = some (sg c) := by
  unfold D.ix
  dsimp only
  rw [if_pos (show s.length ≤ 16000000 by omega), h]
  show (Ty.atT (c :: r) 0).map _ = _
  simp [Ty.atT, ixN]
  rfl
theorem eq_s {x y : Str} : D.eq (.str x) (.str y) = some (decide (x = y)) := rfl
theorem ne_s {x y : Str} : D.ne (.str x) (.str y) = some (!decide (x = y)) := rfl
theorem count_in_eq {s : Str} (h : Wd s) : F_count_in (.str s) = some (cntD s) := by
  have hl := h.1.1
  unfold F_count_in
  have e1 : D.le (.int 1) (.int (s.length : Int)) = some (decide (1 ≤ s.length)) := by rw [le_int]; exact congrArg some dc_le
  have e2 : D.le (.int (s.length : Int)) (.int 4000) = some (decide (s.length ≤ 4000)) := by rw [le_int]; exact congrArg some dc_le
  have e3 : mapO (fun x11 => Res.opt (bo (D.mem x11 (.str "0123456789")) fun b13 => .ok (D.bl b13))) (s.cps.toList.map sg) = some (s.cps.toList.map fun c => D.bl (dig c)) := mapO_map fun c hc => by
    rw [mem_sg, mem_dig]; rfl
  have off : cntD s = .non → (dgB s = true → s.length ≤ 4000 → 1 ≤ s.length → False) → (Res.opt (jn (fun (s3 : Bool) => if s3 = true then .ok .non else jn (fun (s18 : D) => .ok s18) fun kk16 => jn (fun (s21 : Bool) => if s21 = true then bo (D.int1 (.str s)) fun d25 => kk16 (d25) else kk16 (.non)) fun kk19 => bo (D.eq (.str s) (.str "0")) fun b22 => if b22 = true then kk19 true else bo (D.ix (.str s) (.int 0)) fun d23 => bo (D.ne d23 (.str "0")) fun b24 => kk19 b24) fun kk1 => jn (fun (s6 : Bool) => if (!s6) = true then kk1 true else bo (D.items (.str s)) fun xs10 => bo (mapO (fun x11 => Res.opt (bo (D.mem x11 (.str "0123456789")) fun b13 => .ok (.bl b13))) xs10) fun ys12 => bo (D.all (.lst ys12)) fun d14 => bo (D.bool d14) fun b15 => kk1 (!b15)) fun kk4 => bo (D.len (.str s)) fun d7 => bo (D.le (.int 1) d7) fun b8 => if b8 = true then bo (D.le d7 (.int 4000)) fun b9 => kk4 b9 else kk4 false)) = some (cntD s) := by
    intro e hno
    rw [e]
    simp only [jn, len_str (show s.length ≤ 16000000 by omega), bo_some, e1, e2, items_str (show s.length ≤ 1000000 by omega), e3, all_map, bool_bl]
    cases ha : decide (1 ≤ s.length) with
    | false => rfl
    | true =>
      cases hb : decide (s.length ≤ 4000) with
      | false => rfl
      | true =>
        cases hc : s.cps.toList.all dig with
        | false => rfl
        | true => exact (hno hc (of_decide_eq_true hb) (of_decide_eq_true ha)).elim
  by_cases hd : dgB s = true
  · have h20 := h.2 hd
    cases hc : s.cps.toList with
    | nil =>
      have h0 : s.length = 0 := by rw [str_llen, hc]; rfl
      exact off (by unfold cntD plB; rw [hc, Bool.and_false]; rfl) fun _ _ q => by omega
    | cons c r =>
      have h1 : 1 ≤ s.length := by rw [str_llen, hc]; simp
      have hint := int1_d hd h20 (by rw [hc]; simp)
      simp only [jn, len_str (show s.length ≤ 16000000 by omega), bo_some, e1, e2, items_str (show s.length ≤ 1000000 by omega), e3, all_map, bool_bl, decide_eq_true h1, decide_eq_true (show s.length ≤ 4000 by omega), show s.cps.toList.all dig = true from hd, eq_s, ix_0 hc hl, sg, ne_s, s0, sg_eq, hint]
      have ecnt : cntD s = if (plB s) = true then .int (digitsVal s.cps.toList : Nat) else .non := by unfold cntD; rw [hd, Bool.true_and]
      rw [ecnt]
      cases r with
      | nil =>
        have hp : plB s = true := by unfold plB; rw [hc]
        rw [hp]
        by_cases hz : s = ⟨#[48]⟩
        · rw [decide_eq_true hz]; rfl
        · rw [decide_eq_false hz]
          have hcz : c ≠ 48 := fun q => hz (str_ext (by rw [hc, q]))
          rw [decide_eq_false hcz]; rfl
      | cons c2 r =>
        have hp : plB s = !decide (c = 48) := by unfold plB; rw [hc]
        rw [hp]
        have hz : s ≠ ⟨#[48]⟩ := fun q => by rw [q] at hc; cases hc
        rw [decide_eq_false hz]
        cases decide (c = 48) <;> rfl
  · exact off (by unfold cntD; rw [Bool.eq_false_iff.mpr hd, Bool.false_and]; rfl) fun q _ _ => hd q
theorem digits_eq {s : Str} (h : Wd s) : F_l_digits (.str s) = some (digD s) := by
  have hl := h.1.1
  unfold F_l_digits
  have e3 : filO (fun x6 => Res.opt (bo (D.mem x6 (.str "0123456789")) fun b8 => .ok ((!b8)))) (fun x6 => Res.opt (.ok x6)) (s.cps.toList.map sg) = some ((s.cps.toList.filter fun c => !dig c).map sg) := filO_map (fun c hc => by rw [mem_sg, mem_dig]; rfl) fun c hc => rfl
  have e4 : D.ne (.lst ((s.cps.toList.filter fun c => !dig c).map sg)) (.lst []) = some (!dgB s) := by
    show (D.eq _ _).map not = _
    rw [eq_nil fun c hc => Nat.lt_trans (h.1.2 c (List.mem_filter.mp hc).1) (by decide)]
    have e5 : (s.cps.toList.filter fun c => !dig c).isEmpty = dgB s := by
      rw [Bool.eq_iff_iff, List.isEmpty_iff, List.filter_eq_nil_iff, dgB, List.all_eq_true]
      simp
    rw [e5]; rfl
  have eg : D.gt (.int (s.length : Int)) (.int 1) = some (decide (1 < s.length)) := by
    rw [gt_int]; congr 1
    by_cases q : 1 < s.length
    · rw [decide_eq_true q, decide_eq_true (by omega)]
    · rw [decide_eq_false q, decide_eq_false (by omega)]
  have eneg : D.neg (.int 1) = some (.int (-1)) := rfl
  cases hc : s.cps.toList with
  | nil =>
    have hs : s = "" := str_ext hc
    have : digD s = .int (-1) := by unfold digD plB; rw [hc, Bool.and_false]; rfl
    rw [this]
    simp only [jn, eq_s, bo_some, decide_eq_true hs, eneg, if_true, opt_ok]
  | cons c r =>
    have hs : s ≠ "" := fun q => by rw [q] at hc; cases hc
    simp only [jn, eq_s, bo_some, decide_eq_false hs, eneg, items_str (show s.length ≤ 1000000 by omega), e3, e4, len_str (show s.length ≤ 16000000 by omega), eg, ix_0 hc hl, sg, s0, sg_eq]
    by_cases hd : dgB s = true
    · rw [hd]
      have hint := int1_d hd (h.2 hd) (by rw [hc]; simp)
      simp only [hint, bo_some]
      have edg : digD s = if (plB s) = true then .int (digitsVal s.cps.toList : Nat) else .int (-1) := by unfold digD; rw [hd, Bool.true_and]
      rw [edg]
      cases r with
      | nil =>
        have hp : plB s = true := by unfold plB; rw [hc]
        rw [hp, decide_eq_false (by rw [str_llen, hc]; simp)]; rfl
      | cons c2 r =>
        have hp : plB s = !decide (c = 48) := by unfold plB; rw [hc]
        rw [hp, decide_eq_true (by rw [str_llen, hc]; simp)]
        cases decide (c = 48) <;> rfl
    · have : digD s = .int (-1) := by unfold digD; rw [Bool.eq_false_iff.mpr hd, Bool.false_and]; rfl
      rw [this, Bool.eq_false_iff.mpr hd]; rfl
end K01

set_option Elab.async false
set_option linter.all false
set_option maxRecDepth 100000
set_option maxHeartbeats 4000000
namespace K01
open PySem PySem.Spec PyProof.Rows L2 Ty Dy
open PySem.NumText
theorem fold_lt : ∀ (l : List Nat) (a : Nat), AllDigits l → l.foldl (fun acc c => acc * 10 + (c - 48)) a < (a + 1) * 10 ^ l.length
  | [], a, _ => by simp
  | c :: r, a, h => by
    have hc := h.head
    have ih := fold_lt r (a * 10 + (c - 48)) h.tail
    rw [List.foldl_cons, List.length_cons, Nat.pow_succ]
    refine Nat.lt_of_lt_of_le ih ?_
    have q : a * 10 + (c - 48) + 1 ≤ (a + 1) * 10 := by omega
    refine Nat.le_trans (Nat.mul_le_mul_right _ q) ?_
    rw [Nat.mul_assoc, Nat.mul_comm 10]
    exact Nat.le_refl _
theorem cnt_fd {s : Str} (h : Wd s) : Fd 0 97 (cntD s) := by
  unfold cntD
  split
  · rename_i hq
    simp only [Bool.and_eq_true] at hq
    have hv : digitsVal s.cps.toList < (0 + 1) * 10 ^ s.cps.toList.length := fold_lt s.cps.toList 0 (dgB_all hq.1)
    have hl := h.2 hq.1
    rw [str_llen] at hl
    refine fd_int ?_
    have h2 : 10 ^ s.cps.toList.length ≤ 10 ^ 20 := Nat.pow_le_pow_right (by decide) hl
    have h3 : (10 : Nat) ^ 20 < 10 ^ 29 := by decide
    omega
  · exact fd_non.mono
theorem digD_fd {s : Str} (h : Wd s) : Fd 0 97 (digD s) := by
  have hc := cnt_fd h
  unfold cntD at hc
  unfold digD
  split
  · rename_i hq
    rw [if_pos hq] at hc
    exact hc
  · exact fd_int (by decide)
/-- what a text is read as -/
def rdD (x : Str) : D := match parts x with
  | [a, b, c, e] => if lineB (.tup [cntD a, cntD b, .str c, .str e]) = true then .tup [cntD a, cntD b, .str c, .str e] else .non
  | _ => .non
/-- a text that may be read -/
def Rd (x : Str) : Prop := Sb 80000 x ∧ ∀ a b c e, parts x = [a, b, c, e] → (dgB a = true → a.length ≤ 20) ∧ (dgB b = true → b.length ≤ 20)
theorem split3_eq {x : Str} (h : x.length ≤ 80000) : D.split3 (.str x) (.str " ") (.int 3) = some (.lst ((parts x).map D.str)) := if_pos ⟨by decide +kernel, by decide, by decide, by omega⟩
theorem four_fd {a b c e : D} (ha : Fd 0 97 a) (hb : Fd 0 97 b) (hc : Fd 0 80000 c) (he : Fd 0 80000 e) : Fd 1 200000 (.tup [a, b, c, e]) :=
  (fd_tup (fds_cons ha (fds_cons hb (fds_cons hc (fds_cons he fds_nil))))).mono
theorem line_in_eq {x : Str} (h : Rd x) : F_line_in (.str x) = some (rdD x) := by
  unfold F_line_in
  have hl := h.1.1
  have h4 := parts_le x
  have hsb := fun y (hy : y ∈ parts x) => parts_sb h.1 hy
  have hrd := h.2
  simp only [show D.asS (.str x) = some () from rfl, bo_some, split3_eq hl, D.len]
  unfold rdD
  generalize parts x = ps at *
  match ps, h4, hsb, hrd with
  | [], _, _, _ => rfl
  | [_], _, _, _ => rfl
  | [_, _], _, _, _ => rfl
  | [_, _, _], _, _, _ => rfl
  | [a, b, c, e], _, hsb, hrd =>
    obtain ⟨ha, hb⟩ := hrd a b c e rfl
    have wa : Wd a := ⟨hsb a (by simp), ha⟩
    have wb : Wd b := ⟨hsb b (by simp), hb⟩
    have hf := four_fd (cnt_fd wa) (cnt_fd wb) (hsb c (by simp)).fd (hsb e (by simp)).fd
    simp only [List.map_cons, List.map_nil, List.length_cons, List.length_nil, lt_int, bo_some, ixl0, ixl1, ixl2, ixl3, count_in_eq wa, count_in_eq wb, jn, is_line_eq hf (by omega), bool_bl]
    cases lineB (.tup [cntD a, cntD b, .str c, .str e]) <;> rfl
  | _ :: _ :: _ :: _ :: _ :: _, h4, _, _ => exact absurd h4 (by simp)
theorem lineB_off {a b c e : D} (h : houseB a = false ∨ countB b = false) : lineB (.tup [a, b, c, e]) = false := by
  show (houseB a && countB b && cellB c && textB e) = false
  rcases h with h | h
  · rw [h]; rfl
  · rw [h, Bool.and_false]; rfl
theorem lineB_dig {a b : Str} {c e : D} : lineB (.tup [digD a, digD b, c, e]) = lineB (.tup [cntD a, cntD b, c, e]) := by
  show (houseB (digD a) && countB (digD b) && cellB c && textB e) = (houseB (cntD a) && countB (cntD b) && cellB c && textB e)
  have h1 : houseB (digD a) = houseB (cntD a) := by
    unfold digD cntD
    split <;> rfl
  have h2 : countB (digD b) = countB (cntD b) := by
    unfold digD cntD
    split <;> rfl
  rw [h1, h2]
theorem dig_cnt {a : Str} (h : houseB (cntD a) = true ∨ countB (cntD a) = true) : digD a = cntD a := by
  unfold digD cntD at *
  split
  · rfl
  · rename_i hq
    rw [if_neg hq] at h
    rcases h with h | h <;> cases h
theorem read_eq {x : Str} (h : Rd x) : F_l_read (.str x) = some (rdD x) := by
  unfold F_l_read
  have hl := h.1.1
  have h4 := parts_le x
  have hsb := fun y (hy : y ∈ parts x) => parts_sb h.1 hy
  have hrd := h.2
  simp only [show D.asS (.str x) = some () from rfl, bo_some, split3_eq hl, D.len]
  unfold rdD
  generalize parts x = ps at *
  match ps, h4, hsb, hrd with
  | [], _, _, _ => rfl
  | [_], _, _, _ => rfl
  | [_, _], _, _, _ => rfl
  | [_, _, _], _, _, _ => rfl
  | [a, b, c, e], _, hsb, hrd =>
    obtain ⟨ha, hb⟩ := hrd a b c e rfl
    have wa : Wd a := ⟨hsb a (by simp), ha⟩
    have wb : Wd b := ⟨hsb b (by simp), hb⟩
    have hf := four_fd (digD_fd wa) (digD_fd wb) (hsb c (by simp)).fd (hsb e (by simp)).fd
    have hne : D.ne (.int (([a, b, c, e] : List Str).map D.str).length) (.int 4) = some false := rfl
    simp only [hne, List.map_cons, List.map_nil, bo_some, ixl0, ixl1, ixl2, ixl3, digits_eq wa, digits_eq wb, jn, l_is_line_eq hf (by omega), bool_bl, lineB_dig]
    cases hlb : lineB (.tup [cntD a, cntD b, .str c, .str e]) with
    | false => rfl
    | true =>
      have hh : houseB (cntD a) = true ∧ countB (cntD b) = true := by
        have : (houseB (cntD a) && countB (cntD b) && cellB (.str c) && textB (.str e)) = true := hlb
        simp only [Bool.and_eq_true] at this
        exact ⟨this.1.1.1, this.1.1.2⟩
      rw [dig_cnt (.inl hh.1), dig_cnt (.inr hh.2)]
      rfl
  | _ :: _ :: _ :: _ :: _ :: _, h4, _, _ => exact absurd h4 (by simp)
/-! ### short words of digits -/
theorem eq_nilS {l : List Str} (h : ∀ y ∈ l, ∀ c ∈ y.cps.toList, c < 0x110000) : D.eq (.lst (l.map D.str)) (.lst []) = some l.isEmpty := by
  show D.eqP _ _ = _
  unfold D.eqP
  simp only [D.py, pys_strs, Option.map_some, show D.pys [] = some [] by simp [D.pys]]
  rw [if_pos ⟨shaped_strs h, by decide⟩]
  cases l <;> simp [PyData.eqv, PyData.eqvAll]
theorem cut3 {α : Type _} {l : List α} : D.cutL l none (some 3) = l.take 3 := by
  have e : min (Int.toNat 3) l.length = min 3 l.length := rfl
  show (l.drop 0).take (min (Int.toNat 3) l.length - 0) = _
  rw [e, List.drop_zero, Nat.sub_zero]
  by_cases h : 3 ≤ l.length
  · rw [Nat.min_eq_left h]
  · rw [Nat.min_eq_right (by omega), List.take_of_length_le (Nat.le_refl _), List.take_of_length_le (by omega)]
def digs (w : Str) : Str := ⟨(w.cps.toList.filter dig).toArray⟩
theorem short_ok {x : Str} (hx : Sb 80000 x) : F_l_short (.str x) = some (.bl ((((Txt.split x " ").take 3).map digs).filter fun w => decide (20 < w.length)).isEmpty) := by
  have hl := hx.1
  have hw := split_sb hx
  have hn := (split_len x).1
  unfold F_l_short
  have e1 : D.split2 (.str x) (.str " ") = some (.lst ((Txt.split x " ").map D.str)) := if_pos ⟨by decide +kernel, by omega⟩
  generalize Txt.split x " " = ws at *
  have e2 : D.items (.lst ((ws.map D.str).take 3)) = some ((ws.take 3).map D.str) := by
    rw [← List.map_take]
    exact if_pos (by rw [List.length_map, List.length_take]; omega)
  have e3 : mapO (fun x5 => Res.opt (bo (D.asS (.str "")) fun _ => bo (D.items x5) fun xs7 => bo (filO (fun x8 => Res.opt (bo (D.mem x8 (.str "0123456789")) fun b10 => .ok b10)) (fun x8 => Res.opt (.ok x8)) xs7) fun ys9 => bo (D.join (.str "") (.lst ys9)) fun d11 => .ok d11)) ((ws.take 3).map D.str) = some ((ws.take 3).map fun w => D.str (digs w)) := by
    refine mapO_map fun w hwm => ?_
    have hb := hw w (List.mem_of_mem_take hwm)
    have hbl := hb.1
    have f1 : filO (fun x8 => Res.opt (bo (D.mem x8 (.str "0123456789")) fun b10 => .ok b10)) (fun x8 => Res.opt (.ok x8)) (w.cps.toList.map sg) = some ((w.cps.toList.filter dig).map sg) := filO_map (fun c hc => by rw [mem_sg, mem_dig]; rfl) fun c hc => rfl
    have f2 := join_signs (w.cps.toList.filter dig) (Nat.le_trans (List.length_filter_le _ _) (by rw [← str_llen]; omega))
    simp only [show D.asS (.str "") = some () from rfl, bo_some, items_str (show w.length ≤ 1000000 by omega), f1, f2]
    rfl
  have hlen : ((ws.take 3).map fun w => D.str (digs w)).length ≤ 3 := by rw [List.length_map, List.length_take]; omega
  have e4 : D.items (.lst ((ws.take 3).map fun w => D.str (digs w))) = some (((ws.take 3).map digs).map D.str) := by
    rw [List.map_map]
    exact if_pos (by omega)
  have hd : ∀ w ∈ (ws.take 3).map digs, Sb 80000 w := by
    intro w hwm
    obtain ⟨v, hv, rfl⟩ := List.mem_map.mp hwm
    have hb := hw v (List.mem_of_mem_take hv)
    constructor
    · rw [str_llen]
      have := hb.1
      rw [str_llen] at this
      exact Nat.le_trans (List.length_filter_le _ _) this
    · exact fun c hc => hb.2 c (List.mem_filter.mp hc).1
  have e5 : filO (fun x13 => Res.opt (bo (D.len x13) fun d15 => bo (D.gt d15 (.int 20)) fun b16 => .ok b16)) (fun x13 => Res.opt (.ok x13)) (((ws.take 3).map digs).map D.str) = some ((((ws.take 3).map digs).filter fun w => decide (20 < w.length)).map D.str) := by
    refine filO_map (fun w hwm => ?_) fun c hc => rfl
    have := (hd w hwm).1
    rw [len_str (by omega)]
    simp only [bo_some, gt_int]
    show some _ = some _
    congr 1
    by_cases q : 20 < w.length
    · rw [decide_eq_true q, decide_eq_true (by omega)]
    · rw [decide_eq_false q, decide_eq_false (by omega)]
  have e6 := eq_nilS (l := ((ws.take 3).map digs).filter fun w => decide (20 < w.length)) fun y hy c hc => Nat.lt_trans ((hd y (List.mem_filter.mp hy).1).2 c hc) (by decide)
  simp only [show D.asS (.str x) = some () from rfl, bo_some, e1, ti, slice_l, cut3, e2, e3, e4, e5, e6]
  rfl
theorem short_rd {x : Str} (hx : Sb 80000 x) (h : ((((Txt.split x " ").take 3).map digs).filter fun w => decide (20 < w.length)).isEmpty = true) : Rd x := by
  refine ⟨hx, fun a b c e hp => ?_⟩
  rw [List.isEmpty_iff, List.filter_eq_nil_iff] at h
  have hs := parts_spk x
  have hsp := split_list x
  rw [hp] at hs
  have key : ∀ (j : Nat) (w : Str), j < 2 → [a, b, c, e][j]? = some w → (dgB w = true → w.length ≤ 20) := by
    intro j w hj hw hd
    have q := spk_spl 3 [] x.cps.toList j (by omega) (by rw [← hs]; simp; omega)
    rw [← hs, ← hsp, List.getElem?_map, List.getElem?_map, hw] at q
    cases hv : (Txt.split x " ")[j]? with
    | none => rw [hv] at q; cases q
    | some v =>
      rw [hv] at q
      have ev : w = v := str_ext (Option.some.inj q)
      subst ev
      have hm : digs w ∈ ((Txt.split x " ").take 3).map digs := List.mem_map.mpr ⟨w, List.mem_of_getElem? (i := j) (by rw [List.getElem?_take_of_lt (by omega)]; exact hv), rfl⟩
      have := h _ hm
      simp only [decide_eq_true_eq, Nat.not_lt] at this
      have el : (digs w).length = w.length := by
        rw [str_llen, str_llen]
        show (w.cps.toList.filter dig).length = _
        rw [List.filter_eq_self.mpr (List.all_eq_true.mp hd)]
      omega
  exact ⟨key 0 a (by omega) rfl, key 1 b (by omega) rfl⟩
end K01

set_option Elab.async false
set_option linter.all false
set_option maxRecDepth 100000
set_option maxHeartbeats 4000000
namespace K01
open PySem PySem.Spec PyProof.Rows L2 Ty Dy
open PySem.NumText
/-! ### written lines -/
def lt (i j : Int) (c t : Str) : Str := ((((((istr i ++ " ") ++ istr j) ++ " ") ++ c) ++ " ") ++ t)
structure Lp (i j : Int) (c t : Str) : Prop where
  i0 : 0 ≤ i
  i1 : i < 100
  j0 : 0 ≤ j
  jl : j.natAbs.log2 < 1920
  js : (istr j).length ≤ 30
  c0 : 1 ≤ c.length
  c1 : c.length ≤ 8
  ca : c.cps.toList.all letB = true
  t1 : t.length ≤ 40
  ta : t.cps.toList.all sgnB = true
theorem Ln.lp {i j : Int} {c t : Str} (h : Ln i j c t) : Lp i j c t := ⟨h.i0, h.i1, h.j0, log_lt h.j0 h.j1, Nat.le_trans (istr_sb h.j0 h.j1).1 (by decide), h.c0, h.c1, h.ca, h.t1, h.ta⟩
section
variable {i j : Int} {c t : Str} {d : D} {k n : Nat}
theorem Lp.csb (h : Lp i j c t) : Sb 8 c := ⟨h.c1, fun q hq => sgn_lt q (let_s q (List.all_eq_true.mp h.ca q hq))⟩
theorem Lp.tsb (h : Lp i j c t) : Sb 40 t := ⟨h.t1, fun q hq => sgn_lt q (List.all_eq_true.mp h.ta q hq)⟩
theorem Lp.jsb (h : Lp i j c t) : Sb 30 (istr j) := ⟨h.js, fun q hq => by
  rw [istr_list h.j0] at hq
  have := TL.numL_digits j.toNat q hq
  omega⟩
theorem Lp.isb (h : Lp i j c t) : Sb 2 (istr i) := by
  have := h.i1
  have := h.i0
  refine ⟨?_, (istr_sb h.i0 (by omega)).2⟩
  rw [str_llen, istr_list h.i0]
  exact TL.numL_len (by decide) (by omega)
theorem sb_sp : Sb 1 " " := sb_lit
theorem Lp.sb (h : Lp i j c t) : Sb 83 (lt i j c t) := ((((((h.isb.app sb_sp).app h.jsb).app sb_sp).app h.csb).app sb_sp).app h.tsb)
theorem Lp.line (h : Lp i j c t) : lineB (ln i j c t) = true := by
  show (houseB (.int i) && countB (.int j) && cellB (.str c) && textB (.str t)) = true
  have h1 : houseB (.int i) = true := by show (decide (0 ≤ i) && decide (i < 100)) = true; rw [decide_eq_true h.i0, decide_eq_true h.i1]; rfl
  have h2 : countB (.int j) = true := decide_eq_true h.j0
  have h3 : cellB (.str c) = true := by show (decide (1 ≤ c.length) && decide (c.length ≤ 8) && c.cps.toList.all letB) = true; rw [decide_eq_true h.c0, decide_eq_true h.c1, h.ca]; rfl
  have h4 : textB (.str t) = true := by show (decide (t.length ≤ 40) && t.cps.toList.all sgnB) = true; rw [decide_eq_true h.t1, h.ta]; rfl
  rw [h1, h2, h3, h4]; rfl
theorem line_of (hl : lineB d = true) (hf : Fd k n d) : ∃ i j c t, d = ln i j c t ∧ Lp i j c t := by
  unfold lineB at hl
  split at hl
  · rename_i a b c e
    simp only [Bool.and_eq_true] at hl
    obtain ⟨⟨⟨h1, h2⟩, h3⟩, h4⟩ := hl
    cases a <;> try (cases h1; done)
    rename_i i
    cases b <;> try (cases h2; done)
    rename_i j
    cases c <;> try (cases h3; done)
    rename_i c
    cases e <;> try (cases h4; done)
    rename_i t
    unfold houseB at h1
    unfold countB at h2
    unfold cellB at h3
    unfold textB at h4
    simp only [Bool.and_eq_true, decide_eq_true_eq] at h1 h2 h3 h4
    obtain ⟨x, e, f, _⟩ := fds_mem hf.tup (a := .int j) (by simp)
    cases e
    have hs := f.sh
    have hv := f.lv
    simp only [PyData.showable, decide_eq_true_eq] at hs
    simp only [PyData.leavesShort, decide_eq_true_eq] at hv
    exact ⟨i, j, c, t, rfl, h1.1, h1.2, h2, hs, hv, h3.1.1, h3.1.2, h3.2, h4.1, h4.2⟩
  · cases hl
theorem fmt_i (h : i.natAbs.log2 < 1920) : D.fmt (.int i) = some (istr i) := if_pos h
theorem fmt_s {x : Str} (h : x.length ≤ 16000000) : D.fmt (.str x) = some x := if_pos h
theorem cat_s {n m : Nat} {x y : Str} (hx : Sb n x) (hy : Sb m y) (h : n + m ≤ 1000 := by omega) : D.cat x y = some (x ++ y) := if_pos (by have := (hx.app hy).1; omega)
theorem add_s {n m : Nat} {x y : Str} (hx : Sb n x) (hy : Sb m y) (h : n + m ≤ 1000 := by omega) : D.add (.str x) (.str y) = some (.str (x ++ y)) := if_pos (by have := hx.1; have := hy.1; omega)
theorem emp_app (s : Str) : Str.empty ++ s = s := by
  refine str_ext ?_
  rw [app_list]
  rfl
theorem Lp.il (h : Lp i j c t) : i.natAbs.log2 < 1920 := log_lt h.i0 (by have := h.i1; omega)
theorem written_eq (h : Lp i j c t) : F_l_written (ln i j c t) = some (.str (lt i j c t)) := by
  unfold F_l_written
  have s1 := h.isb
  have s2 := s1.app sb_sp
  have s3 := s2.app h.jsb
  have s4 := s3.app sb_sp
  have s5 := s4.app h.csb
  have s6 := s5.app sb_sp
  simp only [ln, ix4_0, ix4_1, ix4_2, ix4_3, bo_some, show D.str1 (.int i) = some (.str (istr i)) from if_pos h.il, show D.str1 (.int j) = some (.str (istr j)) from if_pos h.jl, add_s s1 sb_sp, add_s s2 h.jsb, add_s s3 sb_sp, add_s s4 h.csb, add_s s5 sb_sp, add_s s6 h.tsb]
  rfl
theorem check_eq (hf : Fd k n d) (hn : n ≤ 1000000) : F_check_line d = if lineB d = true then .ok .non else .ex ⟨30, [(30, .arg 0)]⟩ := by
  unfold F_check_line
  simp only [is_line_eq hf hn, bo_some, bool_bl]
  cases lineB d <;> rfl
theorem ln_fd (h : Lp i j c t) (hj : Fd k n (.int j)) (hn : n ≤ 20000) : Fd (k + 1) 21000 (ln i j c t) := by
  have hi : Fd 0 97 (.int i) := fd_int (by have := h.i0; have := h.i1; omega)
  exact (fd_tup (fds_cons hi (fds_cons hj (fds_cons h.csb.fd (fds_cons h.tsb.fd fds_nil))))).mono (by omega) (by omega)
theorem key_eq (hf : Fd k n (ln i j c t)) (hn : n ≤ 1000000) (h : Lp i j c t) : F_key (ln i j c t) = .ok (.tup [.int i, .int j]) := by
  unfold F_key
  rw [check_eq hf hn, if_pos h.line]
  rfl
theorem text_eq (hf : Fd k n (ln i j c t)) (hn : n ≤ 1000000) (h : Lp i j c t) : F_line_text (ln i j c t) = .ok (.str (lt i j c t)) := by
  unfold F_line_text
  rw [check_eq hf hn, if_pos h.line]
  have s0 : Sb 0 Str.empty := sb_lit
  have s1 := h.isb
  have s2 := s1.app sb_sp
  have s3 := s2.app h.jsb
  have s4 := s3.app sb_sp
  have s5 := s4.app h.csb
  have s6 := s5.app sb_sp
  have hc := h.c1
  have ht := h.t1
  simp only [bx_ok, ln, D.un4, bo_some, fmt_i h.il, fmt_i h.jl, fmt_s (show c.length ≤ 16000000 by omega), fmt_s (show t.length ≤ 16000000 by omega), cat_s s0 s1, emp_app, cat_s s1 sb_sp, cat_s s2 h.jsb, cat_s s3 sb_sp, cat_s s4 h.csb, cat_s s5 sb_sp, cat_s s6 h.tsb]
  rfl
/-! ### read again -/
theorem numL_head : ∀ (m : Nat), 1 ≤ m → ∃ c r, TL.numL m = c :: r ∧ c ≠ 48 := by
  intro m
  induction m using Nat.strongRecOn with
  | _ m ih =>
    intro h
    by_cases h10 : m < 10
    · rw [TL.numL_lt h10]
      exact ⟨48 + m, [], rfl, by omega⟩
    · obtain ⟨c, r, e, hc⟩ := ih (m / 10) (by omega) (by omega)
      rw [TL.numL_step (by omega), e]
      exact ⟨c, _, rfl, hc⟩
theorem cnt_num (h0 : 0 ≤ i) : cntD (istr i) = .int i := by
  have e := istr_list h0
  have hd : dgB (istr i) = true := by
    unfold dgB
    rw [e, List.all_eq_true]
    intro c hc
    have := TL.numL_digits i.toNat c hc
    simpa [dig] using this
  have hp : plB (istr i) = true := by
    unfold plB
    rw [e]
    by_cases h : i.toNat = 0
    · rw [h, TL.numL_lt (by decide)]
    · obtain ⟨c, r, e2, hc⟩ := numL_head i.toNat (by omega)
      rw [e2]
      cases r with
      | nil => rfl
      | cons a b => exact (by simpa using hc)
  unfold cntD
  rw [hd, hp, e, TL.numL_val]
  show D.int _ = _
  congr 1
  omega
theorem parts_lt (h : Lp i j c t) : parts (lt i j c t) = [istr i, istr j, c, t] := by
  have key : (parts (lt i j c t)).map TL.tl = [istr i, istr j, c, t].map TL.tl := by
    show (parts (lt i j c t)).map (fun y => y.cps.toList) = _
    rw [parts_spk]
    have e : (lt i j c t).cps.toList = (istr i).cps.toList ++ 32 :: ((istr j).cps.toList ++ 32 :: (c.cps.toList ++ 32 :: t.cps.toList)) := by
      unfold lt
      simp only [app_list, sp_list, List.append_assoc, List.cons_append, List.nil_append]
    rw [e, spk_cut, spk_cut, spk_cut, spk_zero]
    · rfl
    · intro hm
      have := List.all_eq_true.mp h.ca 32 hm
      exact absurd this (by decide)
    · rw [istr_list h.j0]; exact TL.numL_free (.inl (by decide))
    · rw [istr_list h.i0]; exact TL.numL_free (.inl (by decide))
  exact TL.map_tl_inj key
theorem rd_lt (h : Ln i j c t) : Rd (lt i j c t) ∧ rdD (lt i j c t) = ln i j c t := by
  have hp := h.lp
  constructor
  · refine ⟨hp.sb.mono, fun a b c' e q => ?_⟩
    rw [parts_lt hp] at q
    cases q
    exact ⟨fun _ => Nat.le_trans hp.isb.1 (by decide), fun _ => (istr_sb h.j0 h.j1).1⟩
  · unfold rdD
    rw [parts_lt hp]
    dsimp only
    rw [cnt_num h.i0, cnt_num h.j0]
    exact if_pos hp.line
end
end K01

set_option Elab.async false
set_option linter.all false
set_option maxRecDepth 100000
set_option maxHeartbeats 4000000
namespace K01
open PySem PySem.Spec PyProof.Rows L2 Ty Dy
/-- what a value that is judged must be -/
structure Vk (d : D) : Prop where
  cp : F_l_copy d = some d
  r3 : ∃ s, D.repr (.lst [d, d, d]) = some (.str s)
  gr : grows d = true
  rg : ∃ s, D.repr (grown d) = some (.str s)
  ic : F_is_cell d = some (.bl (cellB d))
  lc : F_l_is_cell d = some (.bl (cellB d))
  it : F_is_text d = some (.bl (textB d))
  lt : F_l_is_text d = some (.bl (textB d))
  il : F_is_line d = some (.bl (lineB d))
  ll : F_l_is_line d = some (.bl (lineB d))
  li : lineB d = true → ∃ k n, n ≤ 100000 ∧ k ≤ 50 ∧ Fd k n d
section
variable {k n : Nat} {d : D}
theorem fds_len : ∀ {l : List D} {k n : Nat}, Fds k n l → l.length ≤ n
  | [], _, _, _ => Nat.zero_le _
  | b :: l, k, n, ⟨xs, e, f, c⟩ => by
    simp only [D.pys] at e
    split at e
    · rename_i y ys e1 e2
      cases e
      obtain ⟨g1, g2, g3, g4⟩ := f
      simp only [PyData.leavesShortAll, Bool.and_eq_true] at g1
      simp only [PyData.showableAll, Bool.and_eq_true] at g2
      simp only [PyData.depthAll] at g3
      simp only [PyData.weightAll] at g4
      simp only [PyData.canLayAll0, Bool.and_eq_true] at c
      have := fds_len (l := l) (k := k) (n := n - 1) ⟨ys, e2, ⟨g1.2, g2.2, by omega, by omega⟩, c.2⟩
      simp only [List.length_cons]
      omega
    · cases e
theorem Fd.nodct {l : List (D × D)} (h : Fd k n (.dct l)) : False := by
  obtain ⟨x, e, f, c⟩ := h
  simp only [D.py] at e
  cases e1 : D.pykv l with
  | none => rw [e1] at e; cases e
  | some ys =>
    rw [e1] at e
    cases e
    simp [PyData.canLay0] at c
theorem lit_more : Sb 4 "more" := sb_lit
theorem vk_fd (h : Fd k n d) (hk : k ≤ 40) (hn : n ≤ 90000) : Vk d := by
  have ht := h.tyn
  have hcp : F_l_copy d = some d := by
    cases d <;> first | rfl | (unfold F_l_copy; dsimp only; exact if_neg ht)
  have h3 : Fd (k + 1) (3 * (n + 1)) (.lst [d, d, d]) := fd_lstA (l := [d, d, d]) (q := 3) (by simp [h]) (by simp)
  refine ⟨hcp, h3.repr (by omega) (by omega), ?_, ?_, is_cell_eq h (by omega), l_is_cell_eq h (by omega), is_text_eq h (by omega), l_is_text_eq h (by omega), is_line_eq h (by omega), l_is_line_eq h (by omega), fun _ => ⟨k, n, by omega, by omega, h⟩⟩
  · cases d with
    | lst xs => exact decide_eq_true (by have := fds_len (l := xs) (h.lst); omega)
    | dct l => exact (Fd.nodct h).elim
    | ins C fs => exact absurd rfl ht
    | exc C fs => exact absurd rfl ht
    | set xs => obtain ⟨x, e, _⟩ := h; simp [D.py] at e
    | ref a => exact absurd rfl ht
    | _ => rfl
  · cases d with
    | lst xs =>
      have := fd_lst (fds_app h.lst (fds_cons lit_more.fd fds_nil))
      exact this.repr (by omega) (by omega)
    | dct l => exact (Fd.nodct h).elim
    | _ => exact h.repr (by omega) (by omega)
/-- data, dicts too -/
def Fe (k n : Nat) (d : D) : Prop := ∃ x, d.py = some x ∧ Fine k n x
def Fes (k n : Nat) (l : List D) : Prop := ∃ xs, D.pys l = some xs ∧ Fines k n xs
theorem Fd.e (h : Fd k n d) : Fe k n d := by
  obtain ⟨x, a, b, _⟩ := h
  exact ⟨x, a, b⟩
theorem fes_nil : Fes 0 0 [] := ⟨[], by simp [D.pys], fines_nil⟩
theorem fes_cons {k' n' : Nat} {l : List D} (h : Fe k n d) (t : Fes k' n' l) : Fes (max k k') (n + 1 + n') (d :: l) := by
  obtain ⟨x, a, b⟩ := h
  obtain ⟨xs, a', b'⟩ := t
  refine ⟨x :: xs, ?_, fines_cons b b'⟩
  simp only [D.pys, a, a']
theorem fe_lst {l : List D} (h : Fes k n l) : Fe (k + 1) n (.lst l) := by
  obtain ⟨xs, a, b⟩ := h
  refine ⟨.list xs, ?_, fine_list b⟩
  simp only [D.py, a, Option.map_some]
theorem Fe.repr (h : Fe k n d) (hk : k ≤ 60) (hn : n ≤ 400000) : ∃ s, D.repr d = some (.str s) := by
  obtain ⟨x, e, f⟩ := h
  refine ⟨x.shown, ?_⟩
  unfold D.repr
  rw [e]
  exact if_pos ⟨f.sh, Nat.le_trans f.dp hk, f.shown hn⟩
theorem fe_dct1 {x : Str} (hx : Sb 8 x) (h : Fd k n d) : Fe (k + 1) (n + 10) (.dct [(.str x, d)]) := by
  obtain ⟨v, a, b, c⟩ := h
  refine ⟨.dict [(.str x, v)], ?_, (fine_dict1 (fun c hc => Nat.lt_trans (hx.2 c hc) (by decide)) b).mono (Nat.le_refl _) (by have := hx.1; omega)⟩
  simp only [D.py, D.pykv, a, Option.map_some]
theorem fe_dct0 : Fe 1 0 (.dct []) := ⟨.dict [], by simp [D.py, D.pykv], ⟨rfl, rfl, by simp [PyData.depth, PyData.depthKv], by simp [PyData.weight, PyData.weightKv]⟩⟩
theorem fine_dict2 {x y : Str} {d e : PyData} (hx : ∀ c ∈ x.cps.toList, c < 4294967296) (hy : ∀ c ∈ y.cps.toList, c < 4294967296) (h : Fine k n d) (h2 : Fine k n e) : Fine (k + 1) (x.length + n + 2 + (y.length + n + 2)) (.dict [(.str x, d), (.str y, e)]) := by
  have hs := fine_str hx
  have hs2 := fine_str hy
  refine ⟨?_, ?_, ?_, ?_⟩
  · simp only [PyData.leavesShort, PyData.leavesShortKv, h.lv, h2.lv, Bool.and_true]
    have a := hs.lv
    have b := hs2.lv
    simp only [PyData.leavesShort] at a b
    rw [a, b]; rfl
  · simp only [PyData.showable, PyData.showableKv, h.sh, h2.sh]; rfl
  · have := h.dp
    have := h2.dp
    simp only [PyData.depth, PyData.depthKv]; omega
  · have := h.wt
    have := h2.wt
    have e : (PyData.str x).weight = x.cps.size := rfl
    have e2 : x.length = x.cps.size := rfl
    have e3 : (PyData.str y).weight = y.cps.size := rfl
    have e4 : y.length = y.cps.size := rfl
    simp only [PyData.weight, PyData.weightKv]; omega
theorem dct_off (l : List (D × D)) : F_is_cell (.dct l) = some (.bl false) ∧ F_l_is_cell (.dct l) = some (.bl false) ∧ F_is_text (.dct l) = some (.bl false) ∧ F_l_is_text (.dct l) = some (.bl false) ∧ F_is_line (.dct l) = some (.bl false) ∧ F_l_is_line (.dct l) = some (.bl false) := by
  refine ⟨?_, ?_, ?_, ?_, ?_, ?_⟩
  · unfold F_is_cell; simp only [jn, isi_ds, bo_some]; rfl
  · unfold F_l_is_cell; simp only [jn, isi_ds, bo_some]; rfl
  · unfold F_is_text F_is_signs; simp only [jn, isi_ds, bo_some]; rfl
  · unfold F_l_is_text; simp only [jn, isi_ds, bo_some]; rfl
  · unfold F_is_line; simp only [jn, isi_dt, bo_some]; rfl
  · unfold F_l_is_line; simp only [jn, isi_dt, bo_some]; rfl
theorem vk_dct0 : Vk (.dct []) := by
  obtain ⟨a, b, c, e, f, g⟩ := dct_off []
  refine ⟨rfl, ?_, rfl, ?_, a, b, c, e, f, g, fun h => by cases h⟩
  · exact (fe_lst (fes_cons fe_dct0 (fes_cons fe_dct0 (fes_cons fe_dct0 fes_nil)))).repr (by omega) (by omega)
  · exact (fe_dct1 (x := "more") sb_lit (fd_int (i := 1) (by decide))).repr (by omega) (by omega)
theorem vk_dct1 {x : Str} (hx : x = "line" ∨ x = "a") (h : Fd k n d) (hk : k ≤ 40) (hn : n ≤ 90000) : Vk (.dct [(.str x, d)]) := by
  obtain ⟨a, b, c, e, f, g⟩ := dct_off [(.str x, d)]
  have hs : Sb 8 x := by rcases hx with rfl | rfl <;> exact sb_lit
  refine ⟨rfl, ?_, rfl, ?_, a, b, c, e, f, g, fun h => by cases h⟩
  · have h1 := fe_dct1 hs h
    exact (fe_lst (fes_cons h1 (fes_cons h1 (fes_cons h1 fes_nil)))).repr (by omega) (by omega)
  · obtain ⟨v, av, bv, cv⟩ := h
    have eg : grown (.dct [(.str x, d)]) = .dct [(.str x, d), (.str "more", .int 1)] := by
      have : D.eqFB (.str x) (.str "more") = false := by rcases hx with rfl | rfl <;> decide +kernel
      show D.dct (kput _ _ _) = _
      unfold kput
      simp only [List.any_cons, List.any_nil, this, Bool.or_false]
      rfl
    have q : Fe (k + 1) (n + n + 300) (.dct [(.str x, d), (.str "more", .int 1)]) := by
      refine ⟨.dict [(.str x, v), (.str "more", .int 1)], by simp only [D.py, D.pykv, av, Option.map_some], ?_⟩
      exact (fine_dict2 (n := n + 97) (fun c hc => Nat.lt_trans (hs.2 c hc) (by decide)) (fun c hc => Nat.lt_trans (lit_more.2 c hc) (by decide)) bv.mono ((fine_int (i := 1) (by decide)).mono)).mono (Nat.le_refl _) (by have := hs.1; have := lit_more.1; omega)
    rw [eg]
    exact q.repr (by omega) (by omega)
end
theorem Vl.vk {d : D} (h : Vl d) : Vk d := by
  rcases h with h | ⟨x, e, rfl, hx, he⟩
  · exact vk_fd h (by omega) (by omega)
  · exact vk_dct1 hx he (by omega) (by omega)
/-! ### equal -/
theorem eq_self {k n : Nat} {d : D} (h : Fd k n d) (hk : k ≤ 60) : D.eq d d = some true := by
  have key : D.eqP d d = some true := by
    obtain ⟨x, e, f, c⟩ := h
    unfold D.eqP
    rw [e]
    dsimp only
    rw [if_pos ⟨Fd.shaped f c (by omega), Fd.shaped f c (by omega)⟩, PySem.SeqAt.eqv_refl x c]
  unfold D.eq
  cases d <;> first | exact key | (show some (decide _) = _; rw [decide_eq_true rfl]) | rfl
theorem eq_str {s : Str} : D.eq (.str s) (.str s) = some true := by rw [eq_s, decide_eq_true rfl]
theorem equal_self {k n : Nat} {d : D} (h : Fd k n d) (hk : k ≤ 60) (hn : n ≤ 400000) : F_l_equal d d = some (.bl true) := by
  obtain ⟨s, e⟩ := h.repr hk hn
  unfold F_l_equal
  simp only [jn, eq_self h hk, bo_some, e, eq_str]
  rfl
theorem rng3 : D.rng1 (.int 3) = some ((List.range 3).map fun (k : Nat) => .int (0 + (k : Int))) := rng1_i (by decide) (by decide)
theorem rng2' : D.rng1 (.int 2) = some (D.rngL 0 2) := rng1_i (by decide) (by decide)
theorem bl3 (a b c : Bool) : Fd 1 10 (.lst [.bl a, .bl b, .bl c]) := (fd_lst (fds_cons fd_bl (fds_cons fd_bl (fds_cons fd_bl fds_nil)))).mono
theorem bl2 {a b : D} {t : Int} : (t = 0 ∨ t = 1) → ∃ q, D.eq (.int t) (.int 0) = some q := fun _ => ⟨_, rfl⟩
def ix3_0 {a b c : D} : D.ix (.lst [a, b, c]) (.int 0) = some a := rfl
def ix3_1 {a b c : D} : D.ix (.lst [a, b, c]) (.int 1) = some b := rfl
def ix3_2 {a b c : D} : D.ix (.lst [a, b, c]) (.int 2) = some c := rfl
theorem judged_ok {d : D} (h : Vk d) (t : Int) : F_l_judged d (.int t) = some (.bl true) := by
  obtain ⟨s, hs⟩ := h.r3
  unfold F_l_judged
  have e1 : mapO (fun x2 => Res.opt (bo (F_l_copy d) fun d4 => .ok d4)) ((List.range 3).map fun (k : Nat) => D.int (0 + (k : Int))) = some [d, d, d] := by
    have := mapO_map (f := fun _ : D => Res.opt (bo (F_l_copy d) fun d4 => Res.ok d4)) (g := fun (k : Nat) => D.int (0 + (k : Int))) (h := fun _ => d) (l := List.range 3) fun c _ => by rw [h.cp]; rfl
    exact this
  simp only [rng3, bo_some, e1, jn, eq_i, ix3_0, ix3_1, ix3_2, h.ic, h.it, h.il, h.lc, h.lt, h.ll, hs, show D.ne (.str s) (.str s) = some false by rw [ne_s, decide_eq_true rfl]; rfl, equal_self (bl3 (cellB d) (textB d) (lineB d)) (by omega) (by omega)]
  cases decide (t = 0) <;> rfl
end K01

set_option Elab.async false
set_option linter.all false
set_option maxRecDepth 100000
set_option maxHeartbeats 4000000
namespace K01
open PySem PySem.Spec PyProof.Rows L2 Ty Dy
theorem check_vk {d : D} (h : Vk d) : F_check_line d = if lineB d = true then .ok .non else .ex ⟨30, [(30, .arg 0)]⟩ := by
  unfold F_check_line
  simp only [h.il, bo_some, bool_bl]
  cases lineB d <;> rfl
theorem at30 : XE.at (XE.sub [.arg 0] (XE.sub [.arg 0] ⟨30, [(30, .arg 0)]⟩)) xtab 30 = some (.arg 0) := if_pos (by decide)
theorem at41 {k : Nat} : XE.at (XE.sub [.arg k] ⟨41, [(30, .arg 0)]⟩) xtab 30 = some (.arg k) := if_pos (by
  refine ⟨?_, ?_, ?_⟩
  · show xtab.contains (41, 30) = true; decide
  · decide
  · show (decide (30 < attrs.length) && true) = true
    decide)
theorem tryR_ex {S β : Type} {y : XE} {H : XE → Res β} {k : S → Res β} : tryR (.ex y : Res (S ⊕ β)) H k = H y := rfl
theorem tryR_inl {S β : Type} {s : S} {H : XE → Res β} {k : S → Res β} : tryR (.ok (.inl s) : Res (S ⊕ β)) H k = k s := rfl
theorem very_vk {d : D} (h : Vk d) : F_l_very d d = some (.bl true) := by
  obtain ⟨s, hs⟩ := h.rg
  unfold F_l_very
  rw [if_pos h.gr, hs]
  rfl
theorem told_off {d : D} (h : Vk d) (hl : lineB d = false) (q t : Int) : F_l_told d (.int q) (.int t) = some (.lst [.str "refused", .bl true]) := by
  have hc : F_check_line d = .ex ⟨30, [(30, .arg 0)]⟩ := by rw [check_vk h, hl]; rfl
  unfold F_l_told F_key F_line_text
  simp only [jn, eq_i, bo_some, hc, bx_ex]
  have hh : ∀ (k : Unit → Res D), tryR (.ex (XE.sub [.arg 0] (XE.sub [.arg 0] ⟨30, [(30, .arg 0)]⟩)) : Res (Unit ⊕ D)) (fun y6 => bo (exq y6.cls 30) fun b7 => if b7 = true then bo (XE.at y6 xtab 30) fun v8 => bo (asArg 0 v8) fun _ => bo (F_l_very d d) fun d10 => .ok (.lst [.str "refused", d10]) else .bad) k = .ok (.lst [.str "refused", .bl true]) := by
    intro k
    rw [tryR_ex]
    simp only [show exq (XE.sub [.arg 0] (XE.sub [.arg 0] ⟨30, [(30, .arg 0)]⟩)).cls 30 = some true from rfl, bo_some, if_true, at30, show asArg 0 (.arg 0) = some () from rfl, very_vk h]
  cases decide (q = 0) <;> cases decide (t = 0) <;> exact congrArg Res.opt (hh _)
theorem told_line {i j : Int} {c t : Str} {k n : Nat} (hf : Fd k n (ln i j c t)) (hn : n ≤ 1000000) (h : Lp i j c t) (u : Int) : F_l_told (ln i j c t) (.int 0) (.int u) = some (.lst [.str "told", .tup [.int i, .int j]]) ∧ F_l_told (ln i j c t) (.int 1) (.int u) = some (.lst [.str "told", .str (lt i j c t)]) := by
  constructor
  · unfold F_l_told
    simp only [jn, eq_i, bo_some, key_eq hf hn h, bx_ok]
    cases decide (u = 0) <;> rfl
  · unfold F_l_told
    simp only [jn, eq_i, bo_some, text_eq hf hn h, bx_ok]
    cases decide (u = 0) <;> rfl
theorem line_right_ok {d : D} (h : Vk d) (t : Int) : F_l_line_right d (.int t) = some (.bl true) := by
  refine Sm.eq ?_
  unfold F_l_line_right
  refine Ok.opt ?_
  refine Ok.v (judged_ok h t) ?_
  refine Ok.v bool_bl ?_
  rw [if_neg (by decide)]
  refine jn_ok (I := fun s => ∃ a b : D, s = .lst [a, b] ∧ (∀ u : Int, F_l_told d (.int 0) (.int u) = some a ∧ F_l_told d (.int 1) (.int u) = some b) ∧ ∃ k n, k ≤ 60 ∧ n ≤ 400000 ∧ Fd k n (.lst [a, b])) ?_ ?_
  · rintro s ⟨a, b, rfl, hab, k, n, hk, hn, hf⟩
    refine Ok.v rng2' ?_
    refine forC_ok (I := fun _ _ => True) trivial ?_ fun s _ => rfl
    intro m x s nx hx _ hnx
    refine Ok.v h.cp ?_
    refine Ok.v (hab t).1 ?_
    refine Ok.v h.cp ?_
    refine Ok.v sub_i ?_
    refine Ok.v (hab (1 - t)).2 ?_
    refine Ok.v (equal_self hf hk hn) ?_
    refine Ok.v bool_bl ?_
    rw [if_neg (by decide)]
    exact hnx () trivial
  · intro kk hk
    refine Ok.v h.ll ?_
    refine Ok.v bool_bl ?_
    cases hl : lineB d with
    | false =>
      rw [if_neg (by decide)]
      refine hk _ ⟨_, _, rfl, fun u => ⟨told_off h hl 0 u, told_off h hl 1 u⟩, 2, 100, by omega, by omega, ?_⟩
      have q : Fd 1 10 (.lst [.str "refused", .bl true]) := (fd_lst (fds_cons (Sb.fd (n := 7) sb_lit) (fds_cons fd_bl fds_nil))).mono
      exact (fd_lst (fds_cons q (fds_cons q fds_nil))).mono
    | true =>
      rw [if_pos rfl]
      obtain ⟨k, n, hn, hk', hf⟩ := h.li hl
      obtain ⟨i, j, c, t, rfl, hp⟩ := line_of hl hf
      refine Ok.v ti ?_
      refine Ok.v (show D.slice (ln i j c t) none (some 2) = some (.tup [.int i, .int j]) from rfl) ?_
      refine Ok.v (written_eq hp) ?_
      refine hk _ ⟨_, _, rfl, fun u => told_line hf (by omega) hp u, k + 3, 2 * n + 1000, by omega, by omega, ?_⟩
      have f0 := fds_mem hf.tup (a := .int i) (by simp)
      have f1 := fds_mem hf.tup (a := .int j) (by simp)
      have lt4 : Fd 0 4 (.str "told") := Sb.fd sb_lit
      have q1 := fd_lst (fds_cons lt4 (fds_cons (fd_tup (fds_cons f0 (fds_cons f1 fds_nil))) fds_nil))
      have q2 := fd_lst (fds_cons lt4 (fds_cons hp.sb.fd fds_nil))
      exact (fd_lst (fds_cons q1 (fds_cons q2 fds_nil))).mono (by omega) (by omega)
/-! ### texts -/
theorem read_no {d : D} {b : Bool} (h : D.isi d "str" = some b) (hn : b = true → F_line_in d = some .non) : F_read_line d = .ex ⟨41, [(30, .arg 0)]⟩ := by
  unfold F_read_line
  simp only [jn, h, bo_some]
  cases b with
  | false => rfl
  | true => simp only [hn rfl, bo_some, if_true]; rfl
theorem isNone_ln {i j : Int} {c t : Str} : D.isNone (ln i j c t) = false := rfl
theorem text_no {d : D} (h : Vk d) (hr : F_read_line d = .ex ⟨41, [(30, .arg 0)]⟩) (t : Int) : F_l_text_right d .non (.int t) = some (.bl true) := by
  unfold F_l_text_right
  simp only [jn, h.cp, bo_some, eq_i, hr, bx_ex]
  have key : ∀ (k : D → Res D) (b : Bool), tryR (if b = true then (.ex (XE.sub [.arg 3] ⟨41, [(30, .arg 0)]⟩) : Res (D ⊕ D)) else .ex (XE.sub [.arg 3] ⟨41, [(30, .arg 0)]⟩)) (fun y10 => bo (exq y10.cls 41) fun b11 => if b11 = true then if (D.isNone .non) = true then bo (XE.at y10 xtab 30) fun v15 => bo (asArg 3 v15) fun _ => bo (F_l_very d d) fun d17 => .ok d17 else .ok (.bl false) else .bad) k = .ok (.bl true) := by
    intro k b
    have e : (if b = true then (.ex (XE.sub [.arg 3] ⟨41, [(30, .arg 0)]⟩) : Res (D ⊕ D)) else .ex (XE.sub [.arg 3] ⟨41, [(30, .arg 0)]⟩)) = .ex (XE.sub [.arg 3] ⟨41, [(30, .arg 0)]⟩) := by cases b <;> rfl
    rw [e, tryR_ex]
    simp only [show exq (XE.sub [.arg 3] ⟨41, [(30, .arg 0)]⟩).cls 41 = some true from rfl, show D.isNone .non = true from rfl, bo_some, if_true, at41, show asArg 3 (.arg 3) = some () from rfl, very_vk h]
  exact congrArg Res.opt (key _ _)
theorem text_yes {d : D} {x : Str} {k n : Nat} (h : F_l_copy (.str x) = some (.str x)) (hr : F_read_line (.str x) = .ok d) (hn : D.isNone d = false) (hf : Fd k n d) (hk : k ≤ 60) (hm : n ≤ 400000) (t : Int) : F_l_text_right (.str x) d (.int t) = some (.bl true) := by
  unfold F_l_text_right
  simp only [jn, h, bo_some, eq_i, hr, bx_ok, hn]
  have e : ∀ b : Bool, (if b = true then (.ok (.inl d) : Res (D ⊕ D)) else .ok (.inl d)) = .ok (.inl d) := fun b => by cases b <;> rfl
  simp only [e, tryR_inl, Bool.not_false, if_true, equal_self hf hk hm, bo_some]
  rfl
theorem rdD_is {x : Str} (h : Rd x) : rdD x = .non ∨ (D.isNone (rdD x) = false ∧ Fd 1 200000 (rdD x)) := by
  have hsb := fun y (hy : y ∈ parts x) => parts_sb h.1 hy
  have hrd := h.2
  unfold rdD
  split
  · rename_i a b c e hp
    split
    · right
      obtain ⟨ha, hb⟩ := hrd a b c e hp
      rw [hp] at hsb
      have wa : Wd a := ⟨hsb a (by simp), ha⟩
      have wb : Wd b := ⟨hsb b (by simp), hb⟩
      exact ⟨rfl, four_fd (cnt_fd wa) (cnt_fd wb) (hsb c (by simp)).fd (hsb e (by simp)).fd⟩
    · exact .inl rfl
  · exact .inl rfl
theorem text_rd {x : Str} (h : Rd x) (t : Int) : F_l_text_right (.str x) (rdD x) (.int t) = some (.bl true) := by
  have hv : Vk (.str x) := vk_fd h.1.fd (by omega) (by omega)
  rcases rdD_is h with e | ⟨e, f⟩
  · rw [e]
    exact text_no hv (read_no isi_ss fun _ => by rw [line_in_eq h, e]) t
  · refine text_yes hv.cp ?_ e f (by omega) (by omega) t
    unfold F_read_line
    simp only [jn, isi_ss, bo_some, line_in_eq h, e, if_true]
    rfl
end K01

set_option Elab.async false
set_option linter.all false
set_option maxRecDepth 100000
set_option maxHeartbeats 4000000
namespace K01
open PySem PySem.Spec PyProof.Rows L2 Ty Dy
theorem isi_xs {C : Nat} {fs : List (Nat × D)} : D.isi (.exc C fs) "str" = some false := by unfold D.isi; exact if_pos (by decide)
theorem isi_xt {C : Nat} {fs : List (Nat × D)} : D.isi (.exc C fs) "tuple" = some false := by unfold D.isi; exact if_pos (by decide)
theorem items_l {l : List D} (h : l.length ≤ 1000000) : D.items (.lst l) = some l := if_pos h
theorem forC_cons {S β : Type} {x : D} {xs : List D} {s : S} {f : D → S → (S → Res β) → (S → Res β) → Res β} {k : S → Res β} : forC (x :: xs) s f k = f x s (fun s' => forC xs s' f k) k := rfl
theorem forC_nil {S β : Type} {s : S} {f : D → S → (S → Res β) → (S → Res β) → Res β} {k : S → Res β} : forC [] s f k = k s := rfl
theorem rngL3 : D.rngL 0 3 = [.int 0, .int 1, .int 2] := rfl
theorem rng3' : D.rng1 (.int 3) = some [.int 0, .int 1, .int 2] := rng1_i (by decide) (by decide)
theorem appL_l {xs : List D} {y : D} (h : xs.length ≤ 1000000) : D.appL xs y = some (xs ++ [y]) := if_pos h
theorem at30' : XE.at (XE.sub [.arg 0] (XE.sub [.arg 0] ⟨30, [(30, .arg 0)]⟩)) xtab 30 = some (.arg 0) := at30
theorem object_ok (x : D) : F_l_object_right (.exc 41 [(30, x)]) = some (.bl true) := by
  have c1 : F_is_cell (.exc 41 [(30, x)]) = some (.bl false) := by unfold F_is_cell; simp only [jn, isi_xs, bo_some]; rfl
  have c2 : F_is_text (.exc 41 [(30, x)]) = some (.bl false) := by unfold F_is_text F_is_signs; simp only [jn, isi_xs, bo_some]; rfl
  have c3 : F_is_line (.exc 41 [(30, x)]) = some (.bl false) := by unfold F_is_line; simp only [jn, isi_xt, bo_some]; rfl
  have c4 : F_check_line (.exc 41 [(30, x)]) = .ex ⟨30, [(30, .arg 0)]⟩ := by unfold F_check_line; simp only [c3, bo_some, bool_bl]; rfl
  have c5 : F_key (.exc 41 [(30, x)]) = .ex (XE.sub [.arg 0] ⟨30, [(30, .arg 0)]⟩) := by unfold F_key; rw [c4]; rfl
  have c6 : F_line_text (.exc 41 [(30, x)]) = .ex (XE.sub [.arg 0] ⟨30, [(30, .arg 0)]⟩) := by unfold F_line_text; rw [c4]; rfl
  have c7 : F_read_line (.exc 41 [(30, x)]) = .ex ⟨41, [(30, .arg 0)]⟩ := read_no isi_xs fun h => nomatch h
  have ne : D.ne (.lst [.bl false, .bl false, .bl false]) (.lst [.bl false, .bl false, .bl false]) = some false := by
    show (D.eq _ _).map not = _
    rw [eq_self (bl3 false false false) (by omega)]; rfl
  have fin : D.eq (.lst [.str "line", .str "line", .str "text"]) (.lst [.str "line", .str "line", .str "text"]) = some true :=
    eq_self (fd_lst (fds_cons (Sb.fd (n := 4) sb_lit) (fds_cons (Sb.fd (n := 4) sb_lit) (fds_cons (Sb.fd (n := 4) sb_lit) fds_nil)))) (by omega)
  have e0 : decide ((0 : Int) = 0) = true := rfl
  have e1 : decide ((1 : Int) = 0) = false := rfl
  have e2 : decide ((2 : Int) = 0) = false := rfl
  have e3 : decide ((1 : Int) = 1) = true := rfl
  have e4 : decide ((2 : Int) = 1) = false := rfl
  unfold F_l_object_right
  simp only [c1, c2, c3, bo_some, ne, rng3', forC_cons, forC_nil, jn, eq_i, e0, e1, e2, e3, e4, if_true, Bool.false_eq_true, if_false, c5, c6, c7, bx_ex, tryR_ex, show exq (XE.sub [.arg 0] (XE.sub [.arg 0] ⟨30, [(30, .arg 0)]⟩)).cls 30 = some true from rfl, show exq (XE.sub [.arg 0] ⟨41, [(30, .arg 0)]⟩).cls 30 = some false from rfl, show exq (XE.sub [.arg 0] ⟨41, [(30, .arg 0)]⟩).cls 41 = some true from rfl, at30, at41, show asArg 0 (.arg 0) = some () from rfl, show D.eqSelf (.exc 41 [(30, x)]) = some true from rfl,
    show D.appL ([] : List D) (.str "line") = some [.str "line"] from appL_l (by simp), show D.appL [.str "line"] (.str "line") = some [.str "line", .str "line"] from appL_l (by simp), show D.appL [.str "line", .str "line"] (.str "text") = some [.str "line", .str "line", .str "text"] from appL_l (by simp), fin]
  rfl
theorem rd_small {x : Str} (h : Sb 20 x) : Rd x := ⟨h.mono, fun a b c e hp => ⟨fun _ => (parts_sb h (by rw [hp]; simp)).1, fun _ => (parts_sb h (by rw [hp]; simp)).1⟩⟩
theorem rdD_off {x : Str} (h : (parts x).length ≠ 4) : rdD x = .non := by
  unfold rdD
  split
  · rename_i hp
    rw [hp] at h
    exact absurd rfl h
  · rfl
theorem parts_len (x : Str) : (parts x).length = (spk 32 3 [] x.cps.toList).length := by rw [← parts_spk, List.length_map]
def vals (t : Str) : List D := [.non, .int 0, .bl true, .bl false, .int (-1), .str "", .str " ", .lst [], .tup [], .dct [], .lst [.str t], .tup [.str t], .dct [(.str "a", .str t)], .int (10 ^ (19 : Int).toNat)]
theorem vals_ok {t : Str} (ht : Sb 83 t) : ∀ d ∈ vals t, Vk d ∧ F_read_line d = .ex ⟨41, [(30, .arg 0)]⟩ := by
  intro d hd
  unfold vals at hd
  simp only [List.mem_cons, List.not_mem_nil, or_false] at hd
  have no : false = true → F_line_in d = some .non := fun h => nomatch h
  rcases hd with rfl | rfl | rfl | rfl | rfl | rfl | rfl | rfl | rfl | rfl | rfl | rfl | rfl | rfl
  · exact ⟨vk_fd fd_non (by omega) (by omega), read_no isi_ns no⟩
  · exact ⟨vk_fd (fd_int (by decide)) (by omega) (by omega), read_no isi_is no⟩
  · exact ⟨vk_fd fd_bl (by omega) (by omega), read_no isi_bs no⟩
  · exact ⟨vk_fd fd_bl (by omega) (by omega), read_no isi_bs no⟩
  · exact ⟨vk_fd (fd_int (by decide)) (by omega) (by omega), read_no isi_is no⟩
  · have hs : Sb 20 "" := sb_lit
    exact ⟨vk_fd hs.fd (by omega) (by omega), read_no isi_ss fun _ => by
      rw [line_in_eq (rd_small hs), rdD_off]
      rw [parts_len, show ("" : Str).cps.toList = [] from by decide +kernel, spk_nil]
      decide⟩
  · have hs : Sb 20 " " := sb_lit
    exact ⟨vk_fd hs.fd (by omega) (by omega), read_no isi_ss fun _ => by
      rw [line_in_eq (rd_small hs), rdD_off]
      rw [parts_len, sp_list]
      decide⟩
  · exact ⟨vk_fd (fd_lst fds_nil) (by omega) (by omega), read_no isi_ls no⟩
  · exact ⟨vk_fd (fd_tup fds_nil) (by omega) (by omega), read_no isi_ts no⟩
  · exact ⟨vk_dct0, read_no isi_ds no⟩
  · exact ⟨vk_fd (fd_lst (fds_cons ht.fd fds_nil)) (by omega) (by omega), read_no isi_ls no⟩
  · exact ⟨vk_fd (fd_tup (fds_cons ht.fd fds_nil)) (by omega) (by omega), read_no isi_ts no⟩
  · exact ⟨vk_dct1 (.inr rfl) ht.fd (by omega) (by omega), read_no isi_ds no⟩
  · exact ⟨vk_fd (fd_int (by decide +kernel)) (by omega) (by omega), read_no isi_is no⟩
section
local macro_rules | `(tactic| walk_at "stp") => `(tactic| first
  | refine Ok.v ti ?_
  | refine Ok.v add_i ?_
  | refine Ok.v sub_i ?_
  | refine Ok.v lt_int ?_
  | refine Ok.v eq_i ?_
  | refine Ok.v (mod_i (by decide)) ?_
  | refine Ok.v int1_i ?_
  | refine r_slices (by assumption) (fun z _ hz => ?_)
  | refine r_adds (by assumption) (by assumption) (fun z _ hz => ?_)
  | refine r_lens (by assumption) ?_)
local macro_rules | `(tactic| walk_at "fdt") => `(tactic| first
  | exact Fd.mono (Sb.fd (by assumption))
  | exact fd_non.mono
  | exact fd_bl.mono
  | exact Fd.mono (fd_int (by omega))
  | exact Fd.mono (fd_lst (fds_cons (Sb.fd (by assumption)) fds_nil))
  | exact Fd.mono (fd_tup (fds_cons (Sb.fd (by assumption)) fds_nil)))
theorem ln_vk {i j : Int} {c t : Str} (h : Ln i j c t) : Vk (ln i j c t) := vk_fd (k := 2) (n := 1204) (fd_tupA (ln_it h).2 (q := 4) (Nat.le_refl _)) (by omega) (by omega)
theorem others_ok {i j : Int} {c t : Str} (h : Ln i j c t) : F_l_others_right (ln i j c t) = some (.bl true) := by
  refine Sm.eq ?_
  have hp := h.lp
  have hv := vals_ok hp.sb
  have hlv := ln_vk h
  unfold F_l_others_right
  refine Ok.opt ?_
  refine Ok.v (written_eq hp) ?_
  refine Ok.v (show D.neg (.int 1) = some (.int (-1)) from rfl) ?_
  refine Ok.v (show D.dict1 (.lst [.tup [.str "a", .str (lt i j c t)]]) = some (.dct [(.str "a", .str (lt i j c t))]) from rfl) ?_
  refine Ok.v (pow_i (by decide) (by decide) (by decide)) ?_
  obtain ⟨vv, hvv⟩ : ∃ v, v = D.lst (vals (lt i j c t)) := ⟨_, rfl⟩
  refine Ok.v (a := vv) (by rw [hvv]; unfold D.keep; rw [keepN]; rfl) ?_
  have hvi : ∀ q : Nat, q < 14 → ∃ d, D.ix vv (.int (0 + (q : Int))) = some d ∧ d ∈ vals (lt i j c t) := fun q hq => by
    rw [hvv]
    exact atT_ok (xs := vals (lt i j c t)) (by omega) (by show (0 : Int) + (q : Int) < 14; omega)
  refine Ok.v (show D.len vv = some (.int 14) from by rw [hvv]; rfl) ?_
  refine Ok.v (show D.rng1 (.int 14) = some (D.rngL 0 14) from rng1_i (by decide) (by decide)) ?_
  refine forC_ok (I := fun _ _ => True) trivial ?_ ?_
  · intro m x s nx hx _ hnx
    obtain ⟨q, hq, rfl⟩ := List.mem_map.mp hx
    rw [List.mem_range] at hq
    refine jn_ok (I := fun s => s = false) ?_ ?_
    · rintro s rfl
      rw [if_neg (by decide)]
      exact hnx () trivial
    · intro kk hk
      obtain ⟨d, ed, hd⟩ := hvi q hq
      refine Ok.v ed ?_
      obtain ⟨d1, d2⟩ := hv d hd
      walk_at "stp"
      walk_at "stp"
      refine Ok.v (text_no d1 d2 _) ?_
      refine Ok.v bool_bl ?_
      rw [if_neg (by decide)]
      refine Ok.v ed ?_
      walk_at "stp"
      walk_at "stp"
      refine Ok.v (line_right_ok d1 _) ?_
      refine Ok.v bool_bl ?_
      exact hk _ rfl
  · intro s _
    refine jn_ok (I := fun s => s = .bl true) (fun s hs => hs) fun kk hk => ?_
    refine Ok.v (text_no hlv (read_no isi_ts fun h => nomatch h) 0) ?_
    refine Ok.v bool_bl ?_
    rw [if_pos rfl]
    refine Ok.v (show D.list1 (ln i j c t) = some (.lst [.int i, .int j, .str c, .str t]) from rfl) ?_
    have hl : Vk (.lst [.int i, .int j, .str c, .str t]) := vk_fd (fd_lstA (q := 4) (ln_it h).2 (Nat.le_refl _)) (by omega) (by omega)
    refine Ok.v (text_no hl (read_no isi_ls fun h => nomatch h) 1) ?_
    refine Ok.v bool_bl ?_
    rw [if_pos rfl]
    refine Ok.v (object_ok _) ?_
    exact hk _ rfl
theorem right_ok {b : List D} (hb : Bx 5000 b) : Sm (F_l_right b) fun r => r.1 = .bl true := by
  unfold F_l_right
  refine Ok.opt ?_
  obtain ⟨i1, j1, c1, t1, b1, e1, h1, hb1⟩ := line_ok (n := 4900) hb
  refine Ok.v e1 ?_
  dsimp only
  obtain ⟨i2, j2, c2, t2, b2, e2, h2, hb2⟩ := line_ok (n := 4800) hb1
  refine Ok.v e2 ?_
  dsimp only
  walk_at "stp"
  refine Ok.v (show D.slice (.lst [ln i1 j1 c1 t1, ln i2 j2 c2 t2]) none (some 1) = some (.lst [ln i1 j1 c1 t1]) from rfl) ?_
  refine Ok.v (add_l (by simp only [List.length_cons, List.length_nil]; omega)) ?_
  refine Ok.v (show D.items (.lst [ln i1 j1 c1 t1, ln i2 j2 c2 t2, ln i1 j1 c1 t1]) = some [ln i1 j1 c1 t1, ln i2 j2 c2 t2, ln i1 j1 c1 t1] from items_l (by simp only [List.length_cons, List.length_nil]; omega)) ?_
  refine forC_ok (I := fun m s => Bx (m * 300) s) (hb2.le (by simp only [List.length_cons, List.length_nil]; omega)) ?_ ?_
  · intro m x s nx hx hs hnx
    have key : ∃ i j c t, x = ln i j c t ∧ Ln i j c t := by
      simp only [List.mem_cons, List.not_mem_nil, or_false] at hx
      rcases hx with rfl | rfl | rfl
      · exact ⟨_, _, _, _, rfl, h1⟩
      · exact ⟨_, _, _, _, rfl, h2⟩
      · exact ⟨_, _, _, _, rfl, h1⟩
    obtain ⟨i, j, c, t, rfl, h⟩ := key
    have hp := h.lp
    have hv := ln_vk h
    obtain ⟨r1, r2⟩ := rd_lt h
    have tr : ∀ u : Int, F_l_text_right (.str (lt i j c t)) (ln i j c t) (.int u) = some (.bl true) := fun u => by
      have := text_rd r1 u
      rw [r2] at this
      exact this
    have hit := ln_it h
    refine Ok.v (written_eq hp) ?_
    refine jn_ok (I := fun s => s = false) ?_ ?_
    · rintro s rfl
      rw [if_neg (by decide)]
      refine Ok.v (show D.rng1 (.int 6) = some (D.rngL 0 6) from rng1_i (by decide) (by decide)) ?_
      refine forC_ok (I := fun q s => Bx (m * 300 + q * 40) s) (hs.le (by rw [rngL_len]; omega)) ?_ ?_
      · intro q x b nx2 hx hb hnx2
        obtain ⟨w, hw, rfl⟩ := List.mem_map.mp hx
        obtain ⟨d, b1, e1, hd, hb1⟩ := odd_ok (n := m * 300 + q * 40 + 28) h (hb.le (by omega))
        refine Ok.v e1 ?_
        dsimp only
        have h32 : 32 ∈ (lt i j c t).cps.toList := by
          unfold lt
          simp only [app_list, sp_list, List.mem_append, List.mem_singleton, or_true, true_or]
        obtain ⟨z, b2, e2, hz, hb2⟩ := spoilt_ok (n := m * 300 + q * 40 + 8) hp.sb.mono h32 (hb1.le (by omega))
        refine Ok.v e2 ?_
        dsimp only
        walk_at "stp"
        walk_at "stp"
        refine Ok.v (line_right_ok hd.vk _) ?_
        refine Ok.v bool_bl ?_
        rw [if_neg (by decide)]
        refine jn_ok (I := fun s => s = false) ?_ ?_
        · rintro s rfl
          rw [if_neg (by decide)]
          refine jn_ok (I := fun s => s.1 = false ∧ Bx (m * 300 + q * 40) s.2) ?_ ?_
          · rintro ⟨s1, b3⟩ ⟨hs1, hb3⟩
            dsimp only at hs1 hb3 ⊢
            subst hs1
            rw [if_neg (by decide)]
            exact hnx2 _ hb3
          · intro kk hk
            refine Ok.v (show D.ix (ln i j c t) (.int 2) = some (.str c) from rfl) ?_
            obtain ⟨d3, b3, e3, hd3, hb3⟩ := odd_cell_ok (n := m * 300 + q * 40 + 5) hb2 hp.csb h.c0
            refine Ok.v e3 ?_
            dsimp only
            refine Ok.v (judged_ok (vk_fd hd3 (by omega) (by omega)) 0) ?_
            refine Ok.v bool_bl ?_
            rw [if_neg (by decide)]
            refine Ok.v (show D.ix (ln i j c t) (.int 3) = some (.str t) from rfl) ?_
            obtain ⟨d4, b4, e4, hd4, hb4⟩ := odd_text_ok (n := m * 300 + q * 40 + 2) hb3 hp.tsb
            refine Ok.v e4 ?_
            dsimp only
            refine Ok.v (judged_ok (vk_fd hd4 (by omega) (by omega)) 1) ?_
            refine Ok.v bool_bl ?_
            exact hk _ ⟨rfl, hb4.le⟩
        · intro kk hk
          refine Ok.v (short_ok hz) ?_
          refine Ok.v bool_bl ?_
          split
          · rename_i hsh
            have hr := short_rd hz hsh
            refine Ok.v (read_eq hr) ?_
            walk_at "stp"
            walk_at "stp"
            refine Ok.v (text_rd hr _) ?_
            refine Ok.v bool_bl ?_
            exact hk _ rfl
          · exact hk _ rfl
      · intro b hb
        refine jn_ok (I := fun s => s = false) ?_ ?_
        · rintro s rfl
          rw [if_neg (by decide)]
          exact hnx _ (hb.le (by omega))
        · intro kk hk
          refine Ok.v (show D.ix (ln i j c t) (.int 2) = some (.str c) from rfl) ?_
          refine Ok.v (judged_ok (vk_fd hp.csb.fd (by omega) (by omega)) 1) ?_
          refine Ok.v bool_bl ?_
          rw [if_neg (by decide)]
          refine Ok.v (show D.ix (ln i j c t) (.int 3) = some (.str t) from rfl) ?_
          refine Ok.v (judged_ok (vk_fd hp.tsb.fd (by omega) (by omega)) 0) ?_
          refine Ok.v bool_bl ?_
          exact hk _ rfl
    · intro kk hk
      refine Ok.v (line_right_ok hv 0) ?_
      refine Ok.v bool_bl ?_
      rw [if_neg (by decide)]
      refine Ok.v (tr 1) ?_
      refine Ok.v bool_bl ?_
      rw [if_neg (by decide)]
      refine Ok.v (tr 0) ?_
      refine Ok.v bool_bl ?_
      exact hk _ rfl
  · intro s _
    refine Ok.v (show D.ix (.lst [ln i1 j1 c1 t1, ln i2 j2 c2 t2]) (.int 0) = some (ln i1 j1 c1 t1) from rfl) ?_
    refine Ok.v (others_ok h1) ?_
    rfl
theorem box_ok (g : Int) : ∃ b, F_l_box (.int g) = some (.lst b) ∧ Bx 5000 b := by
  have ea : D.abs (.int g) = some (.int (if g < 0 then -g else g)) := rfl
  have h0 : 0 ≤ (if g < 0 then -g else g) := by split <;> omega
  have hm0 := Int.emod_nonneg (if g < 0 then -g else g) (show (2147483629 : Int) ≠ 0 by decide)
  have hm1 := Int.emod_lt_of_pos (if g < 0 then -g else g) (show (0 : Int) < 2147483629 by decide)
  generalize (if g < 0 then -g else g) = a at *
  refine ⟨[.int a, .bl (decide ((10 : Int) ^ (18 : Int).toNat ≤ a)), .int (a % 2147483629), .int 0], ?_, a, _, _, 0, rfl, h0, hm0, hm1, by omega, by omega⟩
  unfold F_l_box
  simp only [ea, bo_some, pow_i (show (0 : Int) ≤ 18 by decide) (by decide) (show (10 : Int).natAbs < 2 ^ 64 by decide), ge_int, int1_i, mod_i (show (0 : Int) < 2147483629 by decide)]
  rfl
end
end K01

set_option Elab.async false
set_option linter.all false
set_option maxRecDepth 100000
set_option maxHeartbeats 0

namespace K01
open PySem PySem.Spec PyProof.Rows L2 Ty Dy
def d_InvalidLine_init : He.DefD := ⟨("InvalidLine", some "__init__"), "__init__", "InvalidLine.__init__", defArgs s_InvalidLine_init, defBody s_InvalidLine_init, defScope s_InvalidLine_init, [], []⟩
def d_InvalidText_init : He.DefD := ⟨("InvalidText", some "__init__"), "__init__", "InvalidText.__init__", defArgs s_InvalidText_init, defBody s_InvalidText_init, defScope s_InvalidText_init, [], []⟩
def d_is_integer : He.DefD := ⟨("is_integer", none), "is_integer", "is_integer", defArgs s_is_integer, defBody s_is_integer, defScope s_is_integer, [], []⟩
def d_is_count : He.DefD := ⟨("is_count", none), "is_count", "is_count", defArgs s_is_count, defBody s_is_count, defScope s_is_count, [], []⟩
def d_is_index : He.DefD := ⟨("is_index", none), "is_index", "is_index", defArgs s_is_index, defBody s_is_index, defScope s_is_index, [], []⟩
def d_is_house : He.DefD := ⟨("is_house", none), "is_house", "is_house", defArgs s_is_house, defBody s_is_house, defScope s_is_house, [], []⟩
def d_is_signs : He.DefD := ⟨("is_signs", none), "is_signs", "is_signs", defArgs s_is_signs, defBody s_is_signs, defScope s_is_signs, [.non], []⟩
def d_count_in : He.DefD := ⟨("count_in", none), "count_in", "count_in", defArgs s_count_in, defBody s_count_in, defScope s_count_in, [], []⟩
def d_is_cell : He.DefD := ⟨("is_cell", none), "is_cell", "is_cell", defArgs s_is_cell, defBody s_is_cell, defScope s_is_cell, [], []⟩
def d_is_text : He.DefD := ⟨("is_text", none), "is_text", "is_text", defArgs s_is_text, defBody s_is_text, defScope s_is_text, [], []⟩
def d_is_line : He.DefD := ⟨("is_line", none), "is_line", "is_line", defArgs s_is_line, defBody s_is_line, defScope s_is_line, [], []⟩
def d_check_line : He.DefD := ⟨("check_line", none), "check_line", "check_line", defArgs s_check_line, defBody s_check_line, defScope s_check_line, [], []⟩
def d_key : He.DefD := ⟨("key", none), "key", "key", defArgs s_key, defBody s_key, defScope s_key, [], []⟩
def d_line_text : He.DefD := ⟨("line_text", none), "line_text", "line_text", defArgs s_line_text, defBody s_line_text, defScope s_line_text, [], []⟩
def d_line_in : He.DefD := ⟨("line_in", none), "line_in", "line_in", defArgs s_line_in, defBody s_line_in, defScope s_line_in, [], []⟩
def d_read_line : He.DefD := ⟨("read_line", none), "read_line", "read_line", defArgs s_read_line, defBody s_read_line, defScope s_read_line, [], []⟩
def d_l_cell : He.DefD := ⟨("_law_cell", none), "_law_cell", "_law_cell", defArgs s_l_cell, defBody s_l_cell, defScope s_l_cell, [], []⟩
def d_l_box : He.DefD := ⟨("_law_box", none), "_law_box", "_law_box", defArgs s_l_box, defBody s_l_box, defScope s_l_box, [], []⟩
def d_l_take : He.DefD := ⟨("_law_take", none), "_law_take", "_law_take", defArgs s_l_take, defBody s_l_take, defScope s_l_take, [], []⟩
def d_l_any : He.DefD := ⟨("_law_any", none), "_law_any", "_law_any", defArgs s_l_any, defBody s_l_any, defScope s_l_any, [], []⟩
def d_l_letters : He.DefD := ⟨("_law_letters", none), "_law_letters", "_law_letters", defArgs s_l_letters, defBody s_l_letters, defScope s_l_letters, [], []⟩
def d_l_number : He.DefD := ⟨("_law_number", none), "_law_number", "_law_number", defArgs s_l_number, defBody s_l_number, defScope s_l_number, [], []⟩
def d_l_maker : He.DefD := ⟨("_law_maker", none), "_law_maker", "_law_maker", defArgs s_l_maker, defBody s_l_maker, defScope s_l_maker, [], []⟩
def d_l_line : He.DefD := ⟨("_law_line", none), "_law_line", "_law_line", defArgs s_l_line, defBody s_l_line, defScope s_l_line, [], []⟩
def d_l_count : He.DefD := ⟨("_law_count", none), "_law_count", "_law_count", defArgs s_l_count, defBody s_l_count, defScope s_l_count, [], []⟩
def d_l_is_cell : He.DefD := ⟨("_law_is_cell", none), "_law_is_cell", "_law_is_cell", defArgs s_l_is_cell, defBody s_l_is_cell, defScope s_l_is_cell, [], []⟩
def d_l_is_text : He.DefD := ⟨("_law_is_text", none), "_law_is_text", "_law_is_text", defArgs s_l_is_text, defBody s_l_is_text, defScope s_l_is_text, [], []⟩
def d_l_is_line : He.DefD := ⟨("_law_is_line", none), "_law_is_line", "_law_is_line", defArgs s_l_is_line, defBody s_l_is_line, defScope s_l_is_line, [], []⟩
def d_l_written : He.DefD := ⟨("_law_written", none), "_law_written", "_law_written", defArgs s_l_written, defBody s_l_written, defScope s_l_written, [], []⟩
def d_l_digits : He.DefD := ⟨("_law_digits", none), "_law_digits", "_law_digits", defArgs s_l_digits, defBody s_l_digits, defScope s_l_digits, [], []⟩
def d_l_read : He.DefD := ⟨("_law_read", none), "_law_read", "_law_read", defArgs s_l_read, defBody s_l_read, defScope s_l_read, [], []⟩
def d_l_equal : He.DefD := ⟨("_law_equal", none), "_law_equal", "_law_equal", defArgs s_l_equal, defBody s_l_equal, defScope s_l_equal, [], []⟩
def d_l_copy : He.DefD := ⟨("_law_copy", none), "_law_copy", "_law_copy", defArgs s_l_copy, defBody s_l_copy, defScope s_l_copy, [], []⟩
def d_l_very : He.DefD := ⟨("_law_very", none), "_law_very", "_law_very", defArgs s_l_very, defBody s_l_very, defScope s_l_very, [], []⟩
def d_l_odd_cell : He.DefD := ⟨("_law_odd_cell", none), "_law_odd_cell", "_law_odd_cell", defArgs s_l_odd_cell, defBody s_l_odd_cell, defScope s_l_odd_cell, [], []⟩
def d_l_odd_text : He.DefD := ⟨("_law_odd_text", none), "_law_odd_text", "_law_odd_text", defArgs s_l_odd_text, defBody s_l_odd_text, defScope s_l_odd_text, [], []⟩
def d_l_odd : He.DefD := ⟨("_law_odd", none), "_law_odd", "_law_odd", defArgs s_l_odd, defBody s_l_odd, defScope s_l_odd, [], []⟩
def d_l_spoilt : He.DefD := ⟨("_law_spoilt", none), "_law_spoilt", "_law_spoilt", defArgs s_l_spoilt, defBody s_l_spoilt, defScope s_l_spoilt, [], []⟩
def d_l_short : He.DefD := ⟨("_law_short", none), "_law_short", "_law_short", defArgs s_l_short, defBody s_l_short, defScope s_l_short, [], []⟩
def d_l_judged : He.DefD := ⟨("_law_judged", none), "_law_judged", "_law_judged", defArgs s_l_judged, defBody s_l_judged, defScope s_l_judged, [], []⟩
def d_l_told : He.DefD := ⟨("_law_told", none), "_law_told", "_law_told", defArgs s_l_told, defBody s_l_told, defScope s_l_told, [], []⟩
def d_l_line_right : He.DefD := ⟨("_law_line_right", none), "_law_line_right", "_law_line_right", defArgs s_l_line_right, defBody s_l_line_right, defScope s_l_line_right, [], []⟩
def d_l_text_right : He.DefD := ⟨("_law_text_right", none), "_law_text_right", "_law_text_right", defArgs s_l_text_right, defBody s_l_text_right, defScope s_l_text_right, [], []⟩
def d_l_object_right : He.DefD := ⟨("_law_object_right", none), "_law_object_right", "_law_object_right", defArgs s_l_object_right, defBody s_l_object_right, defScope s_l_object_right, [], []⟩
def d_l_others_right : He.DefD := ⟨("_law_others_right", none), "_law_others_right", "_law_others_right", defArgs s_l_others_right, defBody s_l_others_right, defScope s_l_others_right, [], []⟩
def d_l_right : He.DefD := ⟨("_law_right", none), "_law_right", "_law_right", defArgs s_l_right, defBody s_l_right, defScope s_l_right, [], []⟩
def d_law : He.DefD := ⟨("law", none), "law", "law", defArgs s_law, defBody s_law, defScope s_law, [], []⟩
def fn : List He.DefD := [d_InvalidLine_init, d_InvalidText_init, d_is_integer, d_is_count, d_is_index, d_is_house, d_is_signs, d_count_in, d_is_cell, d_is_text, d_is_line, d_check_line, d_key, d_line_text, d_line_in, d_read_line, d_l_cell, d_l_box, d_l_take, d_l_any, d_l_letters, d_l_number, d_l_maker, d_l_line, d_l_count, d_l_is_cell, d_l_is_text, d_l_is_line, d_l_written, d_l_digits, d_l_read, d_l_equal, d_l_copy, d_l_very, d_l_odd_cell, d_l_odd_text, d_l_odd, d_l_spoilt, d_l_short, d_l_judged, d_l_told, d_l_line_right, d_l_text_right, d_l_object_right, d_l_others_right, d_l_right, d_law]
def fa : List He.Fa := [.glo "AlongError", .glo "InvalidLine", .glo "InvalidText", .glo "is_integer", .glo "is_count", .glo "is_index", .glo "is_house", .glo "is_signs", .glo "count_in", .glo "is_cell", .glo "is_text", .glo "is_line", .glo "check_line", .glo "key", .glo "line_text", .glo "line_in", .glo "read_line", .glo "_law_cell", .glo "_law_box", .glo "_law_take", .glo "_law_any", .glo "_law_letters", .glo "_law_number", .glo "_law_maker", .glo "_law_line", .glo "_law_count", .glo "_law_is_cell", .glo "_law_is_text", .glo "_law_is_line", .glo "_law_written", .glo "_law_digits", .glo "_law_read", .glo "_law_equal", .glo "_law_copy", .glo "_law_very", .glo "_law_odd_cell", .glo "_law_odd_text", .glo "_law_odd", .glo "_law_spoilt", .glo "_law_short", .glo "_law_judged", .glo "_law_told", .glo "_law_line_right", .glo "_law_text_right", .glo "_law_object_right", .glo "_law_others_right", .glo "_law_right", .glo "law", .free "abs", .free "all", .free "bool", .free "dict", .free "int", .free "isinstance", .free "len", .free "list", .free "max", .free "min", .free "range", .free "repr", .free "str", .free "sum", .free "tuple", .str "DIGITS" "0123456789", .int "MOST_DIGITS" 4000, .int "MANY_HOUSES" 100, .int "MOST_LETTERS" 8, .int "MOST_SIGNS" 40, .noat "InvalidLine" "given", .noat "InvalidText" "given", .exm "InvalidLine" "InvalidLine" true, .exm "InvalidLine" "InvalidText" false, .exm "InvalidText" "InvalidLine" false, .exm "InvalidText" "InvalidText" true]
def ex (K : PySem.W.Frag) : Bool := (sysB K && (supB K (He.ga K "AlongError") && (oexB K (He.ga K "InvalidLine") && (iniB K "InvalidLine" && (xfB K (He.ga K "InvalidLine") && (excB K (He.ga K "InvalidLine") && (oexB K (He.ga K "InvalidText") && (iniB K "InvalidText" && (xfB K (He.ga K "InvalidText") && (excB K (He.ga K "InvalidText") && xkB K (He.ga K "InvalidText")))))))))))
def cnm : Nat → Str
  | 0 => "AlongError"
  | 30 => "InvalidLine"
  | 41 => "InvalidText"
  | _ => ""
@[reducible] def ceK (K : PySem.W.Frag) : CE := ⟨fun i => He.ga K (cnm i)⟩
abbrev R : PySem.W.OpenRow := PySem.W.OpenLaw.row PySem.Challenge.rw_allalong_k01_lines_and_texts
abbrev hk : PySem.W.Hook := hookX 4 fa fn ex
def ob (s : PySem.W.SharedT) : He.AlD := obX 4 fa fn ex (HandSHeadRun.getT s)
theorem ob_eq (s : PySem.W.SharedT) : ob s = hk.obs s.abs := obX_eq (HandSHeadRun.getT_eq s)
theorem run (w : World) : HandSHeadRun.RunEq R (PySem.W.view R.prog [56]) hk ob 4000 ((("AlongError" : PySem.Str) :: ("InvalidLine" : PySem.Str) :: ("InvalidText" : PySem.Str) :: ("is_integer" : PySem.Str) :: ("is_count" : PySem.Str) :: ("is_index" : PySem.Str) :: ("is_house" : PySem.Str) :: ("is_signs" : PySem.Str) :: ("count_in" : PySem.Str) :: ("is_cell" : PySem.Str) :: ("is_text" : PySem.Str) :: ("is_line" : PySem.Str) :: ("check_line" : PySem.Str) :: ("key" : PySem.Str) :: ("line_text" : PySem.Str) :: ("line_in" : PySem.Str) :: ("read_line" : PySem.Str) :: ("_law_cell" : PySem.Str) :: ("_law_box" : PySem.Str) :: ("_law_take" : PySem.Str) :: ("_law_any" : PySem.Str) :: ("_law_letters" : PySem.Str) :: ("_law_number" : PySem.Str) :: ("_law_maker" : PySem.Str) :: ("_law_line" : PySem.Str) :: ("_law_count" : PySem.Str) :: ("_law_is_cell" : PySem.Str) :: ("_law_is_text" : PySem.Str) :: ("_law_is_line" : PySem.Str) :: ("_law_written" : PySem.Str) :: ("_law_digits" : PySem.Str) :: ("_law_read" : PySem.Str) :: ("_law_equal" : PySem.Str) :: ("_law_copy" : PySem.Str) :: ("_law_very" : PySem.Str) :: ("_law_odd_cell" : PySem.Str) :: ("_law_odd_text" : PySem.Str) :: ("_law_odd" : PySem.Str) :: ("_law_spoilt" : PySem.Str) :: ("_law_short" : PySem.Str) :: ("_law_judged" : PySem.Str) :: ("_law_told" : PySem.Str) :: ("_law_line_right" : PySem.Str) :: ("_law_text_right" : PySem.Str) :: ("_law_object_right" : PySem.Str) :: ("_law_others_right" : PySem.Str) :: ("_law_right" : PySem.Str) :: ("DIGITS" : PySem.Str) :: ("MOST_DIGITS" : PySem.Str) :: ("MANY_HOUSES" : PySem.Str) :: ("MOST_LETTERS" : PySem.Str) :: ("MOST_SIGNS" : PySem.Str) :: [])) w := by
  intro os
  kernel_rfl
theorem tx {K : PySem.W.Frag} {h : Heap} {mg : Str → Option Value} {base : Heap} (X : K.In h) (G : h.Ns mainGlobals mg) (c : He.SaysD fa fn K) (e : ex K = true) (hb : (base.get? sysModules).isSome = true) :
    @Tx (ceK K) K mg base := by
  unfold ex at e
  simp only [Bool.and_eq_true] at e
  obtain ⟨e0, e1, e2, e3, e4, e5, e6, e7, e8, e9, e10⟩ := e
  letI : CE := ceK K
  exact {
  f_is_integer := let ⟨fd, F⟩ := c.def_ 2 (d := d_is_integer) rfl; ⟨_, fd, F, He.glo_ok X G (c.fact 3 (f := .glo "is_integer") rfl)⟩
  f_is_count := let ⟨fd, F⟩ := c.def_ 3 (d := d_is_count) rfl; ⟨_, fd, F, He.glo_ok X G (c.fact 4 (f := .glo "is_count") rfl)⟩
  f_is_index := let ⟨fd, F⟩ := c.def_ 4 (d := d_is_index) rfl; ⟨_, fd, F, He.glo_ok X G (c.fact 5 (f := .glo "is_index") rfl)⟩
  f_is_house := let ⟨fd, F⟩ := c.def_ 5 (d := d_is_house) rfl; ⟨_, fd, F, He.glo_ok X G (c.fact 6 (f := .glo "is_house") rfl)⟩
  f_is_signs := let ⟨fd, F⟩ := c.def_ 6 (d := d_is_signs) rfl; ⟨_, fd, F, He.glo_ok X G (c.fact 7 (f := .glo "is_signs") rfl)⟩
  f_count_in := let ⟨fd, F⟩ := c.def_ 7 (d := d_count_in) rfl; ⟨_, fd, F, He.glo_ok X G (c.fact 8 (f := .glo "count_in") rfl)⟩
  f_is_cell := let ⟨fd, F⟩ := c.def_ 8 (d := d_is_cell) rfl; ⟨_, fd, F, He.glo_ok X G (c.fact 9 (f := .glo "is_cell") rfl)⟩
  f_is_text := let ⟨fd, F⟩ := c.def_ 9 (d := d_is_text) rfl; ⟨_, fd, F, He.glo_ok X G (c.fact 10 (f := .glo "is_text") rfl)⟩
  f_is_line := let ⟨fd, F⟩ := c.def_ 10 (d := d_is_line) rfl; ⟨_, fd, F, He.glo_ok X G (c.fact 11 (f := .glo "is_line") rfl)⟩
  f_check_line := let ⟨fd, F⟩ := c.def_ 11 (d := d_check_line) rfl; ⟨_, fd, F, He.glo_ok X G (c.fact 12 (f := .glo "check_line") rfl)⟩
  f_key := let ⟨fd, F⟩ := c.def_ 12 (d := d_key) rfl; ⟨_, fd, F, He.glo_ok X G (c.fact 13 (f := .glo "key") rfl)⟩
  f_line_text := let ⟨fd, F⟩ := c.def_ 13 (d := d_line_text) rfl; ⟨_, fd, F, He.glo_ok X G (c.fact 14 (f := .glo "line_text") rfl)⟩
  f_line_in := let ⟨fd, F⟩ := c.def_ 14 (d := d_line_in) rfl; ⟨_, fd, F, He.glo_ok X G (c.fact 15 (f := .glo "line_in") rfl)⟩
  f_read_line := let ⟨fd, F⟩ := c.def_ 15 (d := d_read_line) rfl; ⟨_, fd, F, He.glo_ok X G (c.fact 16 (f := .glo "read_line") rfl)⟩
  f_l_cell := let ⟨fd, F⟩ := c.def_ 16 (d := d_l_cell) rfl; ⟨_, fd, F, He.glo_ok X G (c.fact 17 (f := .glo "_law_cell") rfl)⟩
  f_l_box := let ⟨fd, F⟩ := c.def_ 17 (d := d_l_box) rfl; ⟨_, fd, F, He.glo_ok X G (c.fact 18 (f := .glo "_law_box") rfl)⟩
  f_l_take := let ⟨fd, F⟩ := c.def_ 18 (d := d_l_take) rfl; ⟨_, fd, F, He.glo_ok X G (c.fact 19 (f := .glo "_law_take") rfl)⟩
  f_l_any := let ⟨fd, F⟩ := c.def_ 19 (d := d_l_any) rfl; ⟨_, fd, F, He.glo_ok X G (c.fact 20 (f := .glo "_law_any") rfl)⟩
  f_l_letters := let ⟨fd, F⟩ := c.def_ 20 (d := d_l_letters) rfl; ⟨_, fd, F, He.glo_ok X G (c.fact 21 (f := .glo "_law_letters") rfl)⟩
  f_l_number := let ⟨fd, F⟩ := c.def_ 21 (d := d_l_number) rfl; ⟨_, fd, F, He.glo_ok X G (c.fact 22 (f := .glo "_law_number") rfl)⟩
  f_l_maker := let ⟨fd, F⟩ := c.def_ 22 (d := d_l_maker) rfl; ⟨_, fd, F, He.glo_ok X G (c.fact 23 (f := .glo "_law_maker") rfl)⟩
  f_l_line := let ⟨fd, F⟩ := c.def_ 23 (d := d_l_line) rfl; ⟨_, fd, F, He.glo_ok X G (c.fact 24 (f := .glo "_law_line") rfl)⟩
  f_l_count := let ⟨fd, F⟩ := c.def_ 24 (d := d_l_count) rfl; ⟨_, fd, F, He.glo_ok X G (c.fact 25 (f := .glo "_law_count") rfl)⟩
  f_l_is_cell := let ⟨fd, F⟩ := c.def_ 25 (d := d_l_is_cell) rfl; ⟨_, fd, F, He.glo_ok X G (c.fact 26 (f := .glo "_law_is_cell") rfl)⟩
  f_l_is_text := let ⟨fd, F⟩ := c.def_ 26 (d := d_l_is_text) rfl; ⟨_, fd, F, He.glo_ok X G (c.fact 27 (f := .glo "_law_is_text") rfl)⟩
  f_l_is_line := let ⟨fd, F⟩ := c.def_ 27 (d := d_l_is_line) rfl; ⟨_, fd, F, He.glo_ok X G (c.fact 28 (f := .glo "_law_is_line") rfl)⟩
  f_l_written := let ⟨fd, F⟩ := c.def_ 28 (d := d_l_written) rfl; ⟨_, fd, F, He.glo_ok X G (c.fact 29 (f := .glo "_law_written") rfl)⟩
  f_l_digits := let ⟨fd, F⟩ := c.def_ 29 (d := d_l_digits) rfl; ⟨_, fd, F, He.glo_ok X G (c.fact 30 (f := .glo "_law_digits") rfl)⟩
  f_l_read := let ⟨fd, F⟩ := c.def_ 30 (d := d_l_read) rfl; ⟨_, fd, F, He.glo_ok X G (c.fact 31 (f := .glo "_law_read") rfl)⟩
  f_l_equal := let ⟨fd, F⟩ := c.def_ 31 (d := d_l_equal) rfl; ⟨_, fd, F, He.glo_ok X G (c.fact 32 (f := .glo "_law_equal") rfl)⟩
  f_l_copy := let ⟨fd, F⟩ := c.def_ 32 (d := d_l_copy) rfl; ⟨_, fd, F, He.glo_ok X G (c.fact 33 (f := .glo "_law_copy") rfl)⟩
  f_l_very := let ⟨fd, F⟩ := c.def_ 33 (d := d_l_very) rfl; ⟨_, fd, F, He.glo_ok X G (c.fact 34 (f := .glo "_law_very") rfl)⟩
  f_l_odd_cell := let ⟨fd, F⟩ := c.def_ 34 (d := d_l_odd_cell) rfl; ⟨_, fd, F, He.glo_ok X G (c.fact 35 (f := .glo "_law_odd_cell") rfl)⟩
  f_l_odd_text := let ⟨fd, F⟩ := c.def_ 35 (d := d_l_odd_text) rfl; ⟨_, fd, F, He.glo_ok X G (c.fact 36 (f := .glo "_law_odd_text") rfl)⟩
  f_l_odd := let ⟨fd, F⟩ := c.def_ 36 (d := d_l_odd) rfl; ⟨_, fd, F, He.glo_ok X G (c.fact 37 (f := .glo "_law_odd") rfl)⟩
  f_l_spoilt := let ⟨fd, F⟩ := c.def_ 37 (d := d_l_spoilt) rfl; ⟨_, fd, F, He.glo_ok X G (c.fact 38 (f := .glo "_law_spoilt") rfl)⟩
  f_l_short := let ⟨fd, F⟩ := c.def_ 38 (d := d_l_short) rfl; ⟨_, fd, F, He.glo_ok X G (c.fact 39 (f := .glo "_law_short") rfl)⟩
  f_l_judged := let ⟨fd, F⟩ := c.def_ 39 (d := d_l_judged) rfl; ⟨_, fd, F, He.glo_ok X G (c.fact 40 (f := .glo "_law_judged") rfl)⟩
  f_l_told := let ⟨fd, F⟩ := c.def_ 40 (d := d_l_told) rfl; ⟨_, fd, F, He.glo_ok X G (c.fact 41 (f := .glo "_law_told") rfl)⟩
  f_l_line_right := let ⟨fd, F⟩ := c.def_ 41 (d := d_l_line_right) rfl; ⟨_, fd, F, He.glo_ok X G (c.fact 42 (f := .glo "_law_line_right") rfl)⟩
  f_l_text_right := let ⟨fd, F⟩ := c.def_ 42 (d := d_l_text_right) rfl; ⟨_, fd, F, He.glo_ok X G (c.fact 43 (f := .glo "_law_text_right") rfl)⟩
  f_l_object_right := let ⟨fd, F⟩ := c.def_ 43 (d := d_l_object_right) rfl; ⟨_, fd, F, He.glo_ok X G (c.fact 44 (f := .glo "_law_object_right") rfl)⟩
  f_l_others_right := let ⟨fd, F⟩ := c.def_ 44 (d := d_l_others_right) rfl; ⟨_, fd, F, He.glo_ok X G (c.fact 45 (f := .glo "_law_others_right") rfl)⟩
  f_l_right := let ⟨fd, F⟩ := c.def_ 45 (d := d_l_right) rfl; ⟨_, fd, F, He.glo_ok X G (c.fact 46 (f := .glo "_law_right") rfl)⟩
  f_law := let ⟨fd, F⟩ := c.def_ 46 (d := d_law) rfl; ⟨_, fd, F, He.glo_ok X G (c.fact 47 (f := .glo "law") rfl)⟩
  abs := He.free_ok X G (c.fact 48 (f := .free "abs") rfl)
  all := He.free_ok X G (c.fact 49 (f := .free "all") rfl)
  bool := He.free_ok X G (c.fact 50 (f := .free "bool") rfl)
  dict := He.free_ok X G (c.fact 51 (f := .free "dict") rfl)
  int := He.free_ok X G (c.fact 52 (f := .free "int") rfl)
  isinstance := He.free_ok X G (c.fact 53 (f := .free "isinstance") rfl)
  len := He.free_ok X G (c.fact 54 (f := .free "len") rfl)
  list := He.free_ok X G (c.fact 55 (f := .free "list") rfl)
  max := He.free_ok X G (c.fact 56 (f := .free "max") rfl)
  min := He.free_ok X G (c.fact 57 (f := .free "min") rfl)
  range := He.free_ok X G (c.fact 58 (f := .free "range") rfl)
  repr := He.free_ok X G (c.fact 59 (f := .free "repr") rfl)
  str := He.free_ok X G (c.fact 60 (f := .free "str") rfl)
  sum := He.free_ok X G (c.fact 61 (f := .free "sum") rfl)
  tuple := He.free_ok X G (c.fact 62 (f := .free "tuple") rfl)
  DIGITS := He.str_ok X G (c.fact 63 (f := .str "DIGITS" "0123456789") rfl)
  MOST_DIGITS := He.int_ok X G (c.fact 64 (f := .int "MOST_DIGITS" 4000) rfl)
  MANY_HOUSES := He.int_ok X G (c.fact 65 (f := .int "MANY_HOUSES" 100) rfl)
  MOST_LETTERS := He.int_ok X G (c.fact 66 (f := .int "MOST_LETTERS" 8) rfl)
  MOST_SIGNS := He.int_ok X G (c.fact 67 (f := .int "MOST_SIGNS" 40) rfl)
  sys := hb
  g_AlongError := He.glo_ok X G (c.fact 0 (f := .glo "AlongError") rfl)
  g_InvalidLine := He.glo_ok X G (c.fact 1 (f := .glo "InvalidLine") rfl)
  g_InvalidText := He.glo_ok X G (c.fact 2 (f := .glo "InvalidText") rfl)
  sup_AlongError := supB_ok e1
  oe_InvalidLine := oexB_ok e2
  xe_InvalidLine := xfB_ok e4
  ee_InvalidLine := excB_ok e5
  ie_InvalidLine := let ⟨fd, F⟩ := c.def_ 0 (d := d_InvalidLine_init) rfl; ⟨_, fd, F, (iniB_ok e3).1, (iniB_ok e3).2⟩
  n_InvalidLine_given := He.noat_ok (c.fact 68 (f := .noat "InvalidLine" "given") rfl)
  m_InvalidLine_InvalidLine := He.exm_ok (c.fact 70 (f := .exm "InvalidLine" "InvalidLine" true) rfl)
  m_InvalidLine_InvalidText := He.exm_ok (c.fact 71 (f := .exm "InvalidLine" "InvalidText" false) rfl)
  oe_InvalidText := oexB_ok e6
  xe_InvalidText := xfB_ok e8
  ee_InvalidText := excB_ok e9
  ie_InvalidText := let ⟨fd, F⟩ := c.def_ 1 (d := d_InvalidText_init) rfl; ⟨_, fd, F, (iniB_ok e7).1, (iniB_ok e7).2⟩
  n_InvalidText_given := He.noat_ok (c.fact 69 (f := .noat "InvalidText" "given") rfl)
  m_InvalidText_InvalidLine := He.exm_ok (c.fact 72 (f := .exm "InvalidText" "InvalidLine" false) rfl)
  m_InvalidText_InvalidText := He.exm_ok (c.fact 73 (f := .exm "InvalidText" "InvalidText" true) rfl)
  xk_InvalidText := xkB_ok e10
  }
end K01
open PySem PySem.W PySem.Calls PyProof.Rows
theorem PySem.Challenge.cw_allalong_k01_lines_and_texts_holds : PySem.Challenge.rw_allalong_k01_lines_and_texts.Holds := by
  w_on; o_law
  refine HandSHeadRun.head_any (r := OpenLaw.row PySem.Challenge.rw_allalong_k01_lines_and_texts) (q := view (OpenLaw.row PySem.Challenge.rw_allalong_k01_lines_and_texts).prog [56]) (H := K01.hk) (ob := K01.ob) (M := 4000) (loose := (("AlongError" : PySem.Str) :: ("InvalidLine" : PySem.Str) :: ("InvalidText" : PySem.Str) :: ("is_integer" : PySem.Str) :: ("is_count" : PySem.Str) :: ("is_index" : PySem.Str) :: ("is_house" : PySem.Str) :: ("is_signs" : PySem.Str) :: ("count_in" : PySem.Str) :: ("is_cell" : PySem.Str) :: ("is_text" : PySem.Str) :: ("is_line" : PySem.Str) :: ("check_line" : PySem.Str) :: ("key" : PySem.Str) :: ("line_text" : PySem.Str) :: ("line_in" : PySem.Str) :: ("read_line" : PySem.Str) :: ("_law_cell" : PySem.Str) :: ("_law_box" : PySem.Str) :: ("_law_take" : PySem.Str) :: ("_law_any" : PySem.Str) :: ("_law_letters" : PySem.Str) :: ("_law_number" : PySem.Str) :: ("_law_maker" : PySem.Str) :: ("_law_line" : PySem.Str) :: ("_law_count" : PySem.Str) :: ("_law_is_cell" : PySem.Str) :: ("_law_is_text" : PySem.Str) :: ("_law_is_line" : PySem.Str) :: ("_law_written" : PySem.Str) :: ("_law_digits" : PySem.Str) :: ("_law_read" : PySem.Str) :: ("_law_equal" : PySem.Str) :: ("_law_copy" : PySem.Str) :: ("_law_very" : PySem.Str) :: ("_law_odd_cell" : PySem.Str) :: ("_law_odd_text" : PySem.Str) :: ("_law_odd" : PySem.Str) :: ("_law_spoilt" : PySem.Str) :: ("_law_short" : PySem.Str) :: ("_law_judged" : PySem.Str) :: ("_law_told" : PySem.Str) :: ("_law_line_right" : PySem.Str) :: ("_law_text_right" : PySem.Str) :: ("_law_object_right" : PySem.Str) :: ("_law_others_right" : PySem.Str) :: ("_law_right" : PySem.Str) :: ("DIGITS" : PySem.Str) :: ("MOST_DIGITS" : PySem.Str) :: ("MANY_HOUSES" : PySem.Str) :: ("MOST_LETTERS" : PySem.Str) :: ("MOST_SIGNS" : PySem.Str) :: [])) (d := HandSHeadRun.topDef (OpenLaw.row PySem.Challenge.rw_allalong_k01_lines_and_texts).prog 56) (kwd := []) K01.ob_eq
    (by kernel_rfl) (fun s => by kernel_rfl) K01.run (by kernel_rfl) (by kernel_rfl) (by kernel_rfl) (by rfl) (by first | assumption | decide +kernel) (by decide +kernel) ⟨rfl, rfl, rfl, rfl, rfl, by decide +kernel⟩ ?hw ?hc
  case hw => w_witness2
  case hc =>
    refine Ty.walk_law (l := PySem.Challenge.rw_allalong_k01_lines_and_texts) (n := 63) (k := 11) (x := "script") rfl (by decide) (by kernel_rfl) ⟨rfl, by decide, by decide⟩ ?F
    intro w mg fa h Y G hmg0
    obtain ⟨K, KX, c, e⟩ := Y
    have hmg : mg ("law" : PySem.Str) = some (.ref fa) := by
      have e : (HandSHeadRun.topDef (OpenLaw.row PySem.Challenge.rw_allalong_k01_lines_and_texts).prog 56).name = ("law" : PySem.Str) := by kernel_rfl
      rw [← e]
      exact hmg0
    obtain ⟨fd, F⟩ := c.def_ 46 (d := K01.d_law) rfl
    have e1 := hmg.symm.trans (He.glo_ok KX G (c.fact 47 (f := .glo "law") rfl))
    cases e1
    have b := L2.FunD.bindsA (ps := ["script"]) F fun _ _ _ _ _ _ us hl => match us, hl with | [_], _ => rfl
    have e' : K01.ex K = true := e
    unfold K01.ex at e'
    letI : Dy.CE := K01.ceK K
    exact ⟨K, fd, K01.T_law, KX, Dy.sysB_ok (Bool.and_eq_true_iff.mp e').1, fun s v => b s [v] rfl, fun ns _ => ⟨ns, rfl, fun _ => rfl⟩, fun base _ _ hb => K01.g_law (K01.tx KX G c e hb) (fun g => let ⟨b, e, h⟩ := K01.box_ok g; ⟨b, e, K01.right_ok h⟩) F⟩

