import PyProof.Rows.All
import HandS.ForMost
import HandS.ForExc
import HandS.Wide
import HandS.WideBits
import HandS.Gcd
import HandS.IsInst
import HandS.Style
import HandS.TupAny
import HandS.TupLe
import HandS.CallSlots
import HandS.RevTup
import HandS.Rev
import HandS.Conv
import HandS.FStr
import HandS.Head0
import HandS.Head1
import HandS.Head2
import HandS.HeadEnd
import HandS.HeadHook1
import HandS.HeadHook2
import HandS.EndBits
import PySem.Challenge.RW_fewestfigures_k76_kept_digits_of_any_for
set_option Elab.async false
set_option linter.all false
set_option maxRecDepth 100000
set_option maxHeartbeats 4000000
namespace PV
open PySem L2

/-! ### pure values -/
inductive LK | own | fz | rd
  deriving DecidableEq
inductive T where
  | non | bl (b : Bool) | int (i : Int) | str (s : Str) | tup (l : List T) | lst (k : LK) (l : List T)
  deriving Inhabited
inductive R (α : Type) where
  | ok (a : α) | exc (c : Str) | stuck
def R.bind {α β : Type} : R α → (α → R β) → R β
  | .ok a, f => f a
  | .exc c, _ => .exc c
  | .stuck, _ => .stuck

abbrev Fr := PySem.W.Frag
/-- no owned list within -/
def T.fro : T → Bool
  | .tup l => froL l
  | .lst k l => decide (k ≠ .own) && froL l
  | _ => true
where froL : List T → Bool
  | [] => true
  | t :: ts => T.fro t && froL ts
/-- the same, all lists frozen -/
def T.frz : T → T
  | .tup l => .tup (frzL l)
  | .lst k l => .lst (if k = .own then .fz else k) (frzL l)
  | t => t
where frzL : List T → List T
  | [] => []
  | t :: ts => T.frz t :: frzL ts

/-- v stands for t: the frozen parts in F, the owned ones in H at the addresses fp -/
def Rp (K : Fr) (F H : Hp) : T → V → List Addr → Prop
  | .non, v, fp => v = .non ∧ fp = []
  | .bl b, v, fp => v = .bl b ∧ fp = []
  | .int i, v, fp => v = .int i ∧ fp = []
  | .str s, v, fp => v = .str s ∧ fp = []
  | .tup l, v, fp => ∃ a vs, v = .ref a ∧ SqT K F a vs ∧ RpL K F H l vs fp
  | .lst .own l, v, fp => ∃ a vs fp', v = .ref a ∧ fp = a :: fp' ∧ H a = some (.lst vs) ∧ RpL K F H l vs fp'
  | .lst .fz l, v, fp => ∃ a vs, v = .ref a ∧ fp = [] ∧ F a = some (.lst vs) ∧ RpL K F H l vs []
  | .lst .rd l, v, fp => ∃ a vs, v = .ref a ∧ fp = [] ∧ SqL K F a vs ∧ RpL K F H l vs []
where RpL (K : Fr) (F H : Hp) : List T → List V → List Addr → Prop
  | [], vs, fp => vs = [] ∧ fp = []
  | t :: ts, vs, fp => ∃ v vs' f1 f2, vs = v :: vs' ∧ fp = f1 ++ f2 ∧ Rp K F H t v f1 ∧ RpL K F H ts vs' f2
abbrev RpL := @Rp.RpL

theorem Same.rd {F F' : Hp} {a : Addr} {u : HO} (s : Same F F') (h : Rd F a u) : Rd F' a u := by
  rcases h with h | ⟨o, h⟩
  · exact .inl (s _ _ h)
  · exact .inr ⟨o, s _ _ h⟩
theorem Same.sql {K : Fr} {F F' : Hp} {a : Addr} {vs : List V} (s : Same F F') (h : SqL K F a vs) : SqL K F' a vs := by
  rcases h with h | h
  · exact .inl (Same.rd s h)
  · exact .inr h
theorem Same.sqt {K : Fr} {F F' : Hp} {a : Addr} {vs : List V} (s : Same F F') (h : SqT K F a vs) : SqT K F' a vs := by
  rcases h with h | h
  · exact .inl (Same.rd s h)
  · exact .inr h

mutual
theorem Rp.mono {K : Fr} {F F' H H' : Hp} (s : Same F F') : ∀ (t : T) (v : V) (fp : List Addr), (∀ a ∈ fp, ∀ o, H a = some o → H' a = some o) → Rp K F H t v fp → Rp K F' H' t v fp
  | .non, _, _, _, h => h
  | .bl _, _, _, _, h => h
  | .int _, _, _, _, h => h
  | .str _, _, _, _, h => h
  | .tup l, v, fp, k, h => by
    obtain ⟨a, vs, e, q, r⟩ := h
    exact ⟨a, vs, e, Same.sqt s q, RpL.mono s l vs fp k r⟩
  | .lst .own l, v, fp, k, h => by
    obtain ⟨a, vs, fp', e, e2, q, r⟩ := h
    subst e2
    exact ⟨a, vs, fp', e, rfl, k a (List.mem_cons_self) _ q, RpL.mono s l vs fp' (fun b hb => k b (List.mem_cons_of_mem _ hb)) r⟩
  | .lst .fz l, v, fp, k, h => by
    obtain ⟨a, vs, e, e2, q, r⟩ := h
    exact ⟨a, vs, e, e2, s _ _ q, RpL.mono s l vs [] (fun b hb => nomatch hb) r⟩
  | .lst .rd l, v, fp, k, h => by
    obtain ⟨a, vs, e, e2, q, r⟩ := h
    exact ⟨a, vs, e, e2, Same.sql s q, RpL.mono s l vs [] (fun b hb => nomatch hb) r⟩
theorem RpL.mono {K : Fr} {F F' H H' : Hp} (s : Same F F') : ∀ (ts : List T) (vs : List V) (fp : List Addr), (∀ a ∈ fp, ∀ o, H a = some o → H' a = some o) → RpL K F H ts vs fp → RpL K F' H' ts vs fp
  | [], _, _, _, h => h
  | t :: ts, vs, fp, k, h => by
    obtain ⟨v, vs', f1, f2, e, e2, h1, h2⟩ := h
    subst e2
    exact ⟨v, vs', f1, f2, e, rfl, Rp.mono s t v f1 (fun a ha => k a (List.mem_append_left _ ha)) h1, RpL.mono s ts vs' f2 (fun a ha => k a (List.mem_append_right _ ha)) h2⟩
end
mutual
theorem Rp.fro {K : Fr} {F H : Hp} : ∀ (t : T) (v : V) (fp : List Addr), t.fro = true → Rp K F H t v fp → fp = []
  | .non, _, _, _, h => h.2
  | .bl _, _, _, _, h => h.2
  | .int _, _, _, _, h => h.2
  | .str _, _, _, _, h => h.2
  | .tup l, v, fp, k, h => by
    obtain ⟨a, vs, e, q, r⟩ := h
    exact RpL.fro l vs fp k r
  | .lst .own l, v, fp, k, h => by
    have : (decide (LK.own ≠ .own) && T.fro.froL l) = true := k
    simp at this
  | .lst .fz l, v, fp, k, h => by
    obtain ⟨a, vs, e, e2, q, r⟩ := h
    exact e2
  | .lst .rd l, v, fp, k, h => by
    obtain ⟨a, vs, e, e2, q, r⟩ := h
    exact e2
theorem RpL.fro {K : Fr} {F H : Hp} : ∀ (ts : List T) (vs : List V) (fp : List Addr), T.fro.froL ts = true → RpL K F H ts vs fp → fp = []
  | [], _, _, _, h => h.2
  | t :: ts, vs, fp, k, h => by
    obtain ⟨v, vs', f1, f2, e, e2, h1, h2⟩ := h
    have k' : (t.fro && T.fro.froL ts) = true := k
    rw [Bool.and_eq_true] at k'
    rw [e2, Rp.fro t v f1 k'.1 h1, RpL.fro ts vs' f2 k'.2 h2]
    rfl
end
/-- the lists made frozen -/
def FzTo (F H F' : Hp) (fp : List Addr) : Prop := Same F F' ∧ Same F' H ∧ ∀ a, F' a ≠ none → F a ≠ none ∨ a ∈ fp
theorem FzTo.refl {F H : Hp} (s : Same F H) : FzTo F H F [] := ⟨Same.refl F, s, fun a h => .inl h⟩
mutual
theorem Rp.freeze {K : Fr} {F H : Hp} : ∀ (t : T) (v : V) (fp : List Addr), Same F H → (∀ a ∈ fp, F a = none) → fp.Nodup → Rp K F H t v fp → ∃ F', FzTo F H F' fp ∧ Rp K F' H (t.frz) v []
  | .non, _, fp, s, _, _, h => ⟨F, ⟨Same.refl F, s, fun a q => .inl q⟩, h.1, rfl⟩
  | .bl _, _, fp, s, _, _, h => ⟨F, ⟨Same.refl F, s, fun a q => .inl q⟩, h.1, rfl⟩
  | .int _, _, fp, s, _, _, h => ⟨F, ⟨Same.refl F, s, fun a q => .inl q⟩, h.1, rfl⟩
  | .str _, _, fp, s, _, _, h => ⟨F, ⟨Same.refl F, s, fun a q => .inl q⟩, h.1, rfl⟩
  | .tup l, v, fp, s, hf, hn, h => by
    obtain ⟨a, vs, e, q, r⟩ := h
    obtain ⟨F', z, r'⟩ := RpL.freeze l vs fp s hf hn r
    exact ⟨F', z, a, vs, e, Same.sqt z.1 q, r'⟩
  | .lst .own l, v, fp, s, hf, hn, h => by
    obtain ⟨a, vs, fp', e, e2, q, r⟩ := h
    subst e2
    obtain ⟨F', ⟨z1, z2, z3⟩, r'⟩ := RpL.freeze l vs fp' s (fun b hb => hf b (List.mem_cons_of_mem _ hb)) (List.nodup_cons.mp hn).2 r
    have na : F' a = none := by
      cases w : F' a with
      | none => rfl
      | some o =>
        rcases z3 a (by rw [w]; simp) with y | y
        · exact absurd (hf a List.mem_cons_self) y
        · exact absurd y (List.nodup_cons.mp hn).1
    refine ⟨upd F' a (.lst vs), ⟨fun b o hb => ?_, fun b o hb => ?_, fun b hb => ?_⟩, a, vs, e, rfl, upd_same, ?_⟩
    · rw [upd_ne (ne_of_none (z1 b o hb) na)]
      exact z1 b o hb
    · by_cases c : b = a
      · subst c
        rw [upd_same] at hb
        cases hb
        exact q
      · rw [upd_ne c] at hb
        exact z2 b o hb
    · by_cases c : b = a
      · subst c
        exact .inr List.mem_cons_self
      · rw [upd_ne c] at hb
        rcases z3 b hb with y | y
        · exact .inl y
        · exact .inr (List.mem_cons_of_mem _ y)
    · refine RpL.mono (F := F') (H := H) (fun b o hb => ?_) _ vs [] (fun b hb => nomatch hb) r'
      rw [upd_ne (ne_of_none hb na)]
      exact hb
  | .lst .fz l, v, fp, s, hf, hn, h => by
    obtain ⟨a, vs, e, e2, q, r⟩ := h
    subst e2
    obtain ⟨F', z, r'⟩ := RpL.freeze l vs [] s (fun b hb => nomatch hb) List.nodup_nil r
    exact ⟨F', z, a, vs, e, rfl, z.1 _ _ q, r'⟩
  | .lst .rd l, v, fp, s, hf, hn, h => by
    obtain ⟨a, vs, e, e2, q, r⟩ := h
    subst e2
    obtain ⟨F', z, r'⟩ := RpL.freeze l vs [] s (fun b hb => nomatch hb) List.nodup_nil r
    exact ⟨F', z, a, vs, e, rfl, Same.sql z.1 q, r'⟩
theorem RpL.freeze {K : Fr} {F H : Hp} : ∀ (ts : List T) (vs : List V) (fp : List Addr), Same F H → (∀ a ∈ fp, F a = none) → fp.Nodup → RpL K F H ts vs fp → ∃ F', FzTo F H F' fp ∧ RpL K F' H (T.frz.frzL ts) vs []
  | [], _, fp, s, _, _, h => ⟨F, ⟨Same.refl F, s, fun a q => .inl q⟩, h.1, rfl⟩
  | t :: ts, vs, fp, s, hf, hn, h => by
    obtain ⟨v, vs', f1, f2, e, e2, h1, h2⟩ := h
    subst e2
    obtain ⟨n1, n2, n3⟩ := List.nodup_append.mp hn
    obtain ⟨F1, ⟨z1, z2, z3⟩, r1⟩ := Rp.freeze t v f1 s (fun b hb => hf b (List.mem_append_left _ hb)) n1 h1
    have h2' : RpL K F1 H ts vs' f2 := RpL.mono z1 ts vs' f2 (fun _ _ _ q => q) h2
    obtain ⟨F2, ⟨y1, y2, y3⟩, r2⟩ := RpL.freeze ts vs' f2 z2 (fun b hb => by
      cases w : F1 b with
      | none => rfl
      | some o =>
        rcases z3 b (by rw [w]; simp) with x | x
        · exact absurd (hf b (List.mem_append_right _ hb)) x
        · exact absurd rfl (n3 b x b hb)) n2 h2'
    refine ⟨F2, ⟨z1.trans y1, y2, fun b hb => ?_⟩, v, vs', [], [], e, rfl, Rp.mono y1 _ v [] (fun b hb => nomatch hb) r1, r2⟩
    rcases y3 b hb with x | x
    · rcases z3 b x with w | w
      · exact .inl w
      · exact .inr (List.mem_append_left _ w)
    · exact .inr (List.mem_append_right _ x)
end
end PV
namespace PV
open PySem L2

/-! ### what an evaluation does to the heaps -/
structure Ext (F H F' H' : Hp) : Prop where
  h : Same H H'
  f : Same F F'
  s : Same F' H'
  n : ∀ a, F' a ≠ none → F a ≠ none ∨ H a = none
theorem Ext.refl {F H : Hp} (s : Same F H) : Ext F H F H := ⟨Same.refl H, Same.refl F, s, fun a h => .inl h⟩
theorem Ext.trans {F H F1 H1 F2 H2 : Hp} (a : Ext F H F1 H1) (b : Ext F1 H1 F2 H2) : Ext F H F2 H2 :=
  ⟨a.h.trans b.h, a.f.trans b.f, b.s, fun x hx => by
    rcases b.n x hx with y | y
    · exact a.n x y
    · exact .inr (a.h.free y)⟩
theorem Ext.lst {F H : Hp} {p : Addr} {vs : List V} (s : Same F H) (hp : H p = none) : Ext F H F (upd H p (.lst vs)) :=
  ⟨fun b o e => by rw [upd_ne (ne_of_none e hp)]; exact e, Same.refl F, fun b o e => by
    have e' := s b o e
    rw [upd_ne (ne_of_none e' hp)]; exact e', fun a h => .inl h⟩
theorem Ext.tup {F H : Hp} {p : Addr} {o' : HO} (s : Same F H) (hp : H p = none) : Ext F H (upd F p o') (upd H p o') :=
  ⟨fun b o e => by rw [upd_ne (ne_of_none e hp)]; exact e, fun b o e => by rw [upd_ne (ne_of_none e (s.free hp))]; exact e, fun b o e => by
    by_cases c : b = p
    · subst c
      rw [upd_same] at e ⊢
      exact e
    · rw [upd_ne c] at e ⊢
      exact s b o e, fun a h => by
    by_cases c : a = p
    · subst c
      exact .inr hp
    · rw [upd_ne c] at h
      exact .inl h⟩
theorem Ext.fz {F H F' : Hp} {fp : List Addr} (z : FzTo F H F' fp) (hf : ∀ a ∈ fp, H a = none) : Ext F H F' H :=
  ⟨Same.refl H, z.1, z.2.1, fun a h => by
    rcases z.2.2 a h with x | x
    · exact .inl x
    · exact .inr (hf a x)⟩
def Frsh (H F' : Hp) (fp : List Addr) : Prop := fp.Nodup ∧ ∀ a ∈ fp, H a = none ∧ F' a = none
theorem Frsh.nil {H F' : Hp} : Frsh H F' [] := ⟨List.nodup_nil, fun _ h => nomatch h⟩
theorem Frsh.back {F H F1 H1 F2 : Hp} {fp : List Addr} (a : Ext F H F1 H1) (f : Frsh H1 F2 fp) : Frsh H F2 fp :=
  ⟨f.1, fun x hx => ⟨a.h.free (f.2 x hx).1, (f.2 x hx).2⟩⟩
/-- fresh things stay out of later frozen ones -/
theorem Ext.out {F H F' H' : Hp} {a : Addr} (e : Ext F H F' H') (h1 : F a = none) (h2 : H a ≠ none) : F' a = none := by
  cases q : F' a with
  | none => rfl
  | some o =>
    rcases e.n a (by rw [q]; simp) with x | x
    · exact absurd h1 x
    · exact absurd x h2
theorem Rp.ext {K : Fr} {F H F' H' : Hp} {t : T} {v : V} {fp : List Addr} (e : Ext F H F' H') (h : Rp K F H t v fp) : Rp K F' H' t v fp :=
  Rp.mono e.f t v fp (fun a _ o q => e.h a o q) h
theorem RpL.ext {K : Fr} {F H F' H' : Hp} {t : List T} {v : List V} {fp : List Addr} (e : Ext F H F' H') (h : RpL K F H t v fp) : RpL K F' H' t v fp :=
  RpL.mono e.f t v fp (fun a _ o q => e.h a o q) h
mutual
/-- owned cells are tracked -/
theorem Rp.there {K : Fr} {F H : Hp} : ∀ (t : T) (v : V) (fp : List Addr), Rp K F H t v fp → ∀ a ∈ fp, H a ≠ none
  | .non, _, _, h, a, m => by rw [h.2] at m; cases m
  | .bl _, _, _, h, a, m => by rw [h.2] at m; cases m
  | .int _, _, _, h, a, m => by rw [h.2] at m; cases m
  | .str _, _, _, h, a, m => by rw [h.2] at m; cases m
  | .tup l, v, fp, h, a, m => by
    obtain ⟨b, vs, e, q, r⟩ := h
    exact RpL.there l vs fp r a m
  | .lst .own l, v, fp, h, a, m => by
    obtain ⟨b, vs, fp', e, e2, q, r⟩ := h
    subst e2
    rcases List.mem_cons.mp m with x | x
    · subst x
      rw [q]; simp
    · exact RpL.there l vs fp' r a x
  | .lst .fz l, v, fp, h, a, m => by
    obtain ⟨b, vs, e, e2, q, r⟩ := h
    rw [e2] at m; cases m
  | .lst .rd l, v, fp, h, a, m => by
    obtain ⟨b, vs, e, e2, q, r⟩ := h
    rw [e2] at m; cases m
theorem RpL.there {K : Fr} {F H : Hp} : ∀ (ts : List T) (vs : List V) (fp : List Addr), RpL K F H ts vs fp → ∀ a ∈ fp, H a ≠ none
  | [], _, _, h, a, m => by rw [h.2] at m; cases m
  | t :: ts, vs, fp, h, a, m => by
    obtain ⟨v, vs', f1, f2, e, e2, h1, h2⟩ := h
    subst e2
    rcases List.mem_append.mp m with x | x
    · exact Rp.there t v f1 h1 a x
    · exact RpL.there ts vs' f2 h2 a x
end
theorem Frsh.keep {K : Fr} {F0 H0 F H F' H' : Hp} {t : T} {v : V} {fp : List Addr} (f : Frsh H0 F fp) (h : Rp K F H t v fp) (e : Ext F H F' H') : Frsh H0 F' fp :=
  ⟨f.1, fun a m => ⟨(f.2 a m).1, e.out (f.2 a m).2 (Rp.there t v fp h a m)⟩⟩
theorem Frsh.keepL {K : Fr} {F0 H0 F H F' H' : Hp} {t : List T} {v : List V} {fp : List Addr} (f : Frsh H0 F fp) (h : RpL K F H t v fp) (e : Ext F H F' H') : Frsh H0 F' fp :=
  ⟨f.1, fun a m => ⟨(f.2 a m).1, e.out (f.2 a m).2 (RpL.there t v fp h a m)⟩⟩

/-- a wish about exceptions by their class's name -/
abbrev XW := Str → Hp → Prop
def Post (K : Fr) (F H : Hp) (W : XW) : R T → VK → Prop
  | .ok t, Q => ∀ v F' H' fp, Ext F H F' H' → Rp K F' H' t v fp → Frsh H F' fp → Q v H'
  | .exc c, _ => ∀ F' H', Ext F H F' H' → W c H'
  | .stuck, _ => False
def PostV (K : Fr) (F H : Hp) (W : XW) : R T → VK → Prop
  | .ok t, Q => ∀ v F' H' fp, Ext F H F' H' → Rp K F' H' t v fp → Q v H'
  | .exc c, _ => ∀ F' H', Ext F H F' H' → W c H'
  | .stuck, _ => False
theorem PostV.post {K : Fr} {F H : Hp} {W : XW} {r : R T} {Q : VK} (h : PostV K F H W r Q) : Post K F H W r Q := by
  cases r with
  | ok t => exact fun v F' H' fp e r _ => h v F' H' fp e r
  | exc c => exact h
  | stuck => exact h
theorem Post.ext {K : Fr} {F H F1 H1 : Hp} {W : XW} {r : R T} {Q : VK} (e : Ext F H F1 H1) (h : Post K F H W r Q) : Post K F1 H1 W r Q := by
  cases r with
  | ok t => exact fun v F' H' fp e' r f => h v F' H' fp (e.trans e') r (f.back e)
  | exc c => exact fun F' H' e' => h F' H' (e.trans e')
  | stuck => exact h
theorem PostV.ext {K : Fr} {F H F1 H1 : Hp} {W : XW} {r : R T} {Q : VK} (e : Ext F H F1 H1) (h : PostV K F H W r Q) : PostV K F1 H1 W r Q := by
  cases r with
  | ok t => exact fun v F' H' fp e' r => h v F' H' fp (e.trans e') r
  | exc c => exact fun F' H' e' => h F' H' (e.trans e')
  | stuck => exact h
/-- the answer's shape: scalars -/
theorem Post.int {K : Fr} {F H : Hp} {W : XW} {i : Int} {Q : VK} (s : Same F H) (h : Post K F H W (.ok (.int i)) Q) : Q (.int i) H := h _ F H [] (Ext.refl s) ⟨rfl, rfl⟩ Frsh.nil
theorem Post.bl {K : Fr} {F H : Hp} {W : XW} {i : Bool} {Q : VK} (s : Same F H) (h : Post K F H W (.ok (.bl i)) Q) : Q (.bl i) H := h _ F H [] (Ext.refl s) ⟨rfl, rfl⟩ Frsh.nil
theorem Post.str {K : Fr} {F H : Hp} {W : XW} {i : Str} {Q : VK} (s : Same F H) (h : Post K F H W (.ok (.str i)) Q) : Q (.str i) H := h _ F H [] (Ext.refl s) ⟨rfl, rfl⟩ Frsh.nil
theorem Post.non {K : Fr} {F H : Hp} {W : XW} {Q : VK} (s : Same F H) (h : Post K F H W (.ok .non) Q) : Q .non H := h _ F H [] (Ext.refl s) ⟨rfl, rfl⟩ Frsh.nil
/-- a new list of frozen things -/
theorem Post.lst {K : Fr} {F H : Hp} {W : XW} {ts : List T} {vs : List V} {Q : VK} (s : Same F H) (h : Post K F H W (.ok (.lst .own ts)) Q) (r : RpL K F H ts vs []) : ∀ p, H p = none → Q (.ref p) (upd H p (.lst vs)) := fun p hp =>
  h _ F _ [p] (Ext.lst s hp) ⟨p, vs, [], rfl, rfl, upd_same, RpL.ext (Ext.lst s hp) r⟩ ⟨List.nodup_cons.mpr ⟨(fun z => nomatch z), List.nodup_nil⟩, fun a m => by
    rcases List.mem_cons.mp m with x | x
    · subst x
      exact ⟨hp, s.free hp⟩
    · cases x⟩
/-- a new tuple -/
theorem Post.tup {K : Fr} {F H : Hp} {W : XW} {ts : List T} {vs : List V} {Q : VK} (s : Same F H) (h : Post K F H W (.ok (.tup ts)) Q) (r : RpL K F H ts vs []) : ∀ p, H p = none → Q (.ref p) (upd H p (.tup vs)) := fun p hp =>
  h _ _ _ [] (Ext.tup s hp) ⟨p, vs, rfl, .inl (.inl upd_same), RpL.ext (Ext.tup s hp) r⟩ Frsh.nil
/-- the very thing again -/
theorem Post.same {K : Fr} {F H : Hp} {W : XW} {t : T} {v : V} {Q : VK} (s : Same F H) (h : Post K F H W (.ok t) Q) (r : Rp K F H t v []) : Q v H := h v F H [] (Ext.refl s) r Frsh.nil

/-! ### lists of things -/
theorem RpL.length {K : Fr} {F H : Hp} : ∀ {ts : List T} {vs : List V} {fp : List Addr}, RpL K F H ts vs fp → vs.length = ts.length
  | [], vs, fp, h => by rw [h.1]; rfl
  | t :: ts, vs, fp, h => by
    obtain ⟨v, vs', f1, f2, e, e2, h1, h2⟩ := h
    subst e
    simp only [List.length_cons]
    rw [RpL.length h2]
theorem RpL.append {K : Fr} {F H : Hp} : ∀ {ts ts' : List T} {vs vs' : List V} {fp fp' : List Addr}, RpL K F H ts vs fp → RpL K F H ts' vs' fp' → RpL K F H (ts ++ ts') (vs ++ vs') (fp ++ fp')
  | [], _, vs, _, fp, _, h, h' => by
    obtain ⟨e1, e2⟩ := h
    subst e1 e2
    exact h'
  | t :: ts, _, vs, _, fp, _, h, h' => by
    obtain ⟨v, vs', f1, f2, e, e2, h1, h2⟩ := h
    subst e e2
    refine ⟨v, _, f1, _, rfl, ?_, h1, RpL.append h2 h'⟩
    rw [List.append_assoc]
theorem RpL.get {K : Fr} {F H : Hp} : ∀ {ts : List T} {vs : List V} {fp : List Addr} {j : Nat} {t : T}, RpL K F H ts vs fp → ts[j]? = some t → ∃ v f, vs[j]? = some v ∧ Rp K F H t v f
  | [], _, _, j, t, h, e => by simp at e
  | a :: ts, vs, fp, 0, t, h, e => by
    obtain ⟨v, vs', f1, f2, e1, e2, h1, h2⟩ := h
    have e' : a = t := by simpa using e
    subst e' e1
    exact ⟨v, f1, by simp, h1⟩
  | a :: ts, vs, fp, j + 1, t, h, e => by
    obtain ⟨v, vs', f1, f2, e1, e2, h1, h2⟩ := h
    subst e1
    obtain ⟨w, f, q1, q2⟩ := RpL.get (j := j) h2 (by simpa using e)
    exact ⟨w, f, by simpa using q1, q2⟩
theorem RpL.drop {K : Fr} {F H : Hp} : ∀ {ts : List T} {vs : List V} (n : Nat), RpL K F H ts vs [] → RpL K F H (ts.drop n) (vs.drop n) []
  | _, _, 0, h => h
  | [], vs, n + 1, h => by rw [h.1]; exact ⟨rfl, rfl⟩
  | t :: ts, vs, n + 1, h => by
    obtain ⟨v, vs', f1, f2, e1, e2, h1, h2⟩ := h
    subst e1
    obtain ⟨x, y⟩ := List.append_eq_nil_iff.mp e2.symm
    subst y
    exact RpL.drop n h2
theorem RpL.take {K : Fr} {F H : Hp} : ∀ {ts : List T} {vs : List V} (n : Nat), RpL K F H ts vs [] → RpL K F H (ts.take n) (vs.take n) []
  | ts, vs, 0, h => by simp; exact ⟨rfl, rfl⟩
  | [], vs, n + 1, h => by rw [h.1]; exact ⟨rfl, rfl⟩
  | t :: ts, vs, n + 1, h => by
    obtain ⟨v, vs', f1, f2, e1, e2, h1, h2⟩ := h
    subst e1
    obtain ⟨x, y⟩ := List.append_eq_nil_iff.mp e2.symm
    subst x y
    exact ⟨v, _, [], [], rfl, rfl, h1, RpL.take n h2⟩
theorem RpL.nil {K : Fr} {F H : Hp} : RpL K F H [] [] [] := ⟨rfl, rfl⟩
theorem RpL.ints {K : Fr} {F H : Hp} : ∀ {ns : List Int} {vs : List V} {fp : List Addr}, RpL K F H (ns.map T.int) vs fp → vs = ns.map V.int
  | [], _, _, h => h.1
  | n :: ns, vs, fp, h => by
    obtain ⟨v, vs', f1, f2, e1, e2, h1, h2⟩ := h
    subst e1
    rw [h1.1, RpL.ints h2]
    rfl
theorem RpL.strs {K : Fr} {F H : Hp} : ∀ {ns : List Str} {vs : List V} {fp : List Addr}, RpL K F H (ns.map T.str) vs fp → vs = ns.map V.str
  | [], _, _, h => h.1
  | n :: ns, vs, fp, h => by
    obtain ⟨v, vs', f1, f2, e1, e2, h1, h2⟩ := h
    subst e1
    rw [h1.1, RpL.strs h2]
    rfl
theorem RpL.bls {K : Fr} {F H : Hp} : ∀ {ns : List Bool} {vs : List V} {fp : List Addr}, RpL K F H (ns.map T.bl) vs fp → vs = ns.map V.bl
  | [], _, _, h => h.1
  | n :: ns, vs, fp, h => by
    obtain ⟨v, vs', f1, f2, e1, e2, h1, h2⟩ := h
    subst e1
    rw [h1.1, RpL.bls h2]
    rfl
/-- a list, however it is held, can be read -/
theorem Rp.readL {K : Fr} {F H : Hp} {k : LK} {l : List T} {v : V} {fp : List Addr} (s : Same F H) (h : Rp K F H (.lst k l) v fp) : ∃ a vs f, v = .ref a ∧ SqL K H a vs ∧ RpL K F H l vs f ∧ (k ≠ .rd → H a = some (.lst vs)) := by
  cases k with
  | own =>
    obtain ⟨a, vs, fp', e, e2, q, r⟩ := h
    exact ⟨a, vs, fp', e, .inl (.inl q), r, fun _ => q⟩
  | fz =>
    obtain ⟨a, vs, e, e2, q, r⟩ := h
    exact ⟨a, vs, [], e, .inl (.inl (s _ _ q)), r, fun _ => s _ _ q⟩
  | rd =>
    obtain ⟨a, vs, e, e2, q, r⟩ := h
    exact ⟨a, vs, [], e, Same.sql s q, r, fun z => absurd rfl z⟩
theorem Rp.readT {K : Fr} {F H : Hp} {l : List T} {v : V} {fp : List Addr} (s : Same F H) (h : Rp K F H (.tup l) v fp) : ∃ a vs, v = .ref a ∧ SqT K H a vs ∧ RpL K F H l vs fp := by
  obtain ⟨a, vs, e, q, r⟩ := h
  exact ⟨a, vs, e, Same.sqt s q, r⟩
end PV
namespace PV
open PySem L2 PyProof.Rows

/-! ### operations on pure values -/
def MulOk (i j : Int) : Prop := CMul i j ∨ CMulX i j
def DivOk (i j : Int) : Prop := 0 < j ∧ Builtin.divisionGoesByPylong i j = false
def repS (x : Str) (n : Int) : Str := ⟨(List.replicate n.toNat x.cps.toList).flatten.toArray⟩
open Classical in
noncomputable def addT : T → T → R T
  | .int i, .int j => .ok (.int (i + j))
  | .str i, .str j => if i.length + j.length ≤ sizeLine then .ok (.str (i ++ j)) else .stuck
  | .lst k xs, .lst k' ys => if k ≠ .rd ∧ k' ≠ .rd ∧ T.fro.froL xs = true ∧ T.fro.froL ys = true ∧ xs.length + ys.length ≤ sizeLine then .ok (.lst .own (xs ++ ys)) else .stuck
  | .tup xs, .tup ys => if T.fro.froL xs = true ∧ T.fro.froL ys = true ∧ xs.length + ys.length ≤ sizeLine then .ok (.tup (xs ++ ys)) else .stuck
  | _, _ => .stuck
def subT : T → T → R T
  | .int i, .int j => .ok (.int (i - j))
  | _, _ => .stuck
open Classical in
noncomputable def mulT : T → T → R T
  | .int i, .int j => if MulOk i j then .ok (.int (i * j)) else .stuck
  | .str x, .int n => if n < 2 ^ 31 ∧ -(2 ^ 31) < n ∧ x.length * n.toNat ≤ 1000000 then .ok (.str (repS x n)) else .stuck
  | .lst k xs, .int n => if k ≠ .rd ∧ T.fro.froL xs = true ∧ -(2 ^ 63) ≤ n ∧ n < 2 ^ 63 ∧ xs.length * n.toNat ≤ sizeLine then .ok (.lst .own (List.replicate n.toNat xs).flatten) else .stuck
  | _, _ => .stuck
open Classical in
noncomputable def fdivT : T → T → R T
  | .int i, .int j => if DivOk i j then .ok (.int (i / j)) else .stuck
  | _, _ => .stuck
open Classical in
noncomputable def modT : T → T → R T
  | .int i, .int j => if 0 < j then .ok (.int (i % j)) else .stuck
  | _, _ => .stuck
open Classical in
noncomputable def powT : T → T → R T
  | .int i, .int j => if CPow i j then .ok (.int (i ^ j.toNat)) else .stuck
  | _, _ => .stuck
def andT : T → T → R T
  | .int i, .int j => .ok (.int (Builtin.bitAnd i j))
  | _, _ => .stuck
def orT : T → T → R T
  | .int i, .int j => .ok (.int (Builtin.bitOr i j))
  | _, _ => .stuck
def xorT : T → T → R T
  | .int i, .int j => .ok (.int (Builtin.bitXor i j))
  | _, _ => .stuck
noncomputable def binT : Operator → T → T → R T
  | .Add => addT | .Sub => subT | .Mult => mulT | .FloorDiv => fdivT | .Mod => modT | .Pow => powT
  | .BitAnd => andT | .BitOr => orT | .BitXor => xorT
  | _ => fun _ _ => .stuck

/-- the rule r of values does what g says of things -/
def OpOk (K : Fr) (g : T → T → R T) (r : R2) : Prop := ∀ (F H : Hp) (W : XW) (x y : T) (v w : V) (fx fy : List Addr) (Q : VK), Same F H → Rp K F H x v fx → Rp K F H y w fy → Post K F H W (g x y) Q → r v w H Q

def rStrAdd : R2 := fun x y H Q => ∃ i j, x = .str i ∧ y = .str j ∧ i.length + j.length ≤ sizeLine ∧ Q (.str (i ++ j)) H
def rAdd (K : Fr) : R2 := fun x y H Q => rI0 (fun i j => .int (i + j)) x y H Q ∨ rStrAdd x y H Q ∨ rCat x y H Q ∨ rCatA K x y H Q
section
variable {X : Cx}
theorem op_addU : OpR X (binaryOp .Add) (rAdd X.K) := op_add.or (op_add_str.or (op_cat.or op_catA))
def rMul : R2 := fun x y H Q => rI CMul (fun i j => .int (i * j)) x y H Q ∨ rI CMulX (fun i j => .int (i * j)) x y H Q ∨
  (∃ z n, x = .str z ∧ y = .int n ∧ n < 2 ^ 31 ∧ -(2 ^ 31) < n ∧ z.length * n.toNat ≤ 1000000 ∧ Q (.str (repS z n)) H) ∨ rRep x y H Q
theorem rep_flat (x : Str) (n : Nat) : (List.replicate n x.cps).foldl (· ++ ·) #[] = (List.replicate n x.cps.toList).flatten.toArray := by
  have h : ∀ (k : Nat) (acc : Array Nat), (List.replicate k x.cps).foldl (· ++ ·) acc = acc ++ (List.replicate k x.cps.toList).flatten.toArray := by
    intro k
    induction k with
    | zero => intro acc; simp
    | succ k ih =>
      intro acc
      rw [List.replicate_succ, List.foldl_cons, ih, List.replicate_succ, List.flatten_cons]
      apply Array.ext'
      simp
  rw [h]
  simp
theorem op_repS : OpR X (binaryOp .Mult) (fun x y H Q => ∃ z n, x = .str z ∧ y = .int n ∧ n < 2 ^ 31 ∧ -(2 ^ 31) < n ∧ z.length * n.toNat ≤ 1000000 ∧ Q (.str (repS z n)) H) := by
  intro pins s σ H x y v u Q I rx ry h
  obtain ⟨z, n, rfl, rfl, h1, h2, h3, q⟩ := h
  obtain ⟨t, rfl⟩ := rx
  obtain ⟨t', rfl⟩ := ry
  refine PySem.P.mul_str ?_ (fun a b => ?_) (fun a b => ?_) ?_
  · have e1 : decide (n < -(2 ^ 63 : Int)) = false := decide_eq_false (by omega)
    have e2 : decide (n ≥ 2 ^ 63) = false := decide_eq_false (by omega)
    rw [e1, e2]; rfl
  · have hp : 0 < n := by omega
    intro q2
    have h6 : (z.length : Int) ≤ 1000000 := by
      have : z.length * 1 ≤ z.length * n.toNat := Nat.mul_le_mul_left _ (by omega)
      omega
    have h7 : (2 ^ 63 - 1 : Int) / n ≥ 2 ^ 31 := by
      rw [ge_iff_le, Int.le_ediv_iff_mul_le hp]
      omega
    omega
  · have : z.length * n.toNat ≤ sizeLine := Nat.le_trans h3 (by rw [sizeLine_eq]; decide)
    exact decide_eq_false (by show ¬ _ > _; omega)
  · by_cases c : n < 1
    · rw [if_pos c]
      have e : repS z n = Str.empty := by
        unfold repS
        rw [show n.toNat = 0 by omega]
        rfl
      rw [e] at q
      exact ⟨by decide, .str _, H, I.tok _, ⟨_, rfl⟩, q⟩
    · rw [if_neg c]
      by_cases d : (n == 1 || z.length == 0) = true
      · rw [if_pos d]
        have e : repS z n = z := by
          rw [Bool.or_eq_true] at d
          unfold repS
          rcases d with d | d
          · have : n.toNat = 1 := by have := beq_iff_eq.mp d; omega
            rw [this]
            simp
          · have d := beq_iff_eq.mp d
            obtain ⟨cps⟩ := z
            have d' : cps.size = 0 := d
            have : cps = #[] := Array.eq_empty_of_size_eq_zero d'
            subst this
            simp
        rw [e] at q
        exact ⟨.str _, H, I, ⟨_, rfl⟩, q⟩
      · rw [if_neg d, rep_flat]
        refine ⟨?_, .str _, H, I.tok _, ⟨_, rfl⟩, q⟩
        have hl : (List.replicate n.toNat z.cps.toList).flatten.length = n.toNat * z.cps.size := by simp
        show (List.replicate n.toNat z.cps.toList).flatten.toArray.size ≤ sizeLine
        rw [List.size_toArray, hl, sizeLine_eq]
        have : z.length * n.toNat ≤ 1000000 := h3
        have e : z.length = z.cps.size := rfl
        rw [e, Nat.mul_comm] at this
        omega
theorem op_mulU : OpR X (binaryOp .Mult) rMul := op_mul.or (op_mulX.or (op_repS.or op_rep))
theorem op_fdivU : OpR X (binaryOp .FloorDiv) (rI DivOk fun i j => .int (i / j)) := opI fun i j _ _ _ _ _ hc q => by
  have h1 : (0 : Int) < j := hc.1
  exact floordiv_int (by omega) (by rw [Int.fdiv_eq_ediv_of_nonneg i (by omega)]; exact q) (.inl hc.2)
end
def rBin (K : Fr) : Operator → R2
  | .Add => rAdd K | .Sub => rI0 fun i j => .int (i - j) | .Mult => rMul | .FloorDiv => rI DivOk fun i j => .int (i / j)
  | .Mod => rI (fun _ j => 0 < j) fun i j => .int (i % j) | .Pow => rI CPow fun i j => .int (i ^ j.toNat)
  | .BitAnd => rI0 fun i j => .int (Builtin.bitAnd i j) | .BitOr => rI0 fun i j => .int (Builtin.bitOr i j) | .BitXor => rI0 fun i j => .int (Builtin.bitXor i j)
  | _ => fun _ _ _ _ => False
theorem op_bin {X : Cx} : ∀ op : Operator, OpR X (binaryOp op) (rBin X.K op)
  | .Add => op_addU | .Sub => op_sub | .Mult => op_mulU | .FloorDiv => op_fdivU | .Mod => op_mod | .Pow => op_pow
  | .BitAnd => op_and | .BitOr => op_or | .BitXor => op_xor
  | .MatMult => fun _ _ _ _ _ _ _ _ _ _ _ _ h => h.elim
  | .Div => fun _ _ _ _ _ _ _ _ _ _ _ _ h => h.elim
  | .LShift => fun _ _ _ _ _ _ _ _ _ _ _ _ h => h.elim
  | .RShift => fun _ _ _ _ _ _ _ _ _ _ _ _ h => h.elim

theorem RpL.rep {K : Fr} {F H : Hp} {ts : List T} {vs : List V} (h : RpL K F H ts vs []) : ∀ n : Nat, RpL K F H (List.replicate n ts).flatten (List.replicate n vs).flatten []
  | 0 => by simp; exact RpL.nil
  | n + 1 => by
    rw [List.replicate_succ, List.replicate_succ, List.flatten_cons, List.flatten_cons]
    exact RpL.append (fp := []) h (RpL.rep h n)
theorem addOk {K : Fr} : OpOk K addT (rAdd K) := by
  intro F H W x y v w fx fy Q s rx ry h
  unfold addT at h
  split at h
  · rename_i i j
    exact .inl ⟨i, j, rx.1, ry.1, Post.int s h⟩
  · rename_i i j
    split at h
    · rename_i c
      exact .inr (.inl ⟨i, j, rx.1, ry.1, c, Post.str s h⟩)
    · exact h.elim
  · rename_i k xs k' ys
    split at h
    · rename_i c
      obtain ⟨c1, c2, c3, c4, c5⟩ := c
      obtain ⟨a, vs, f, e, q, r, z⟩ := Rp.readL s rx
      obtain ⟨b, ws, f', e', q', r', z'⟩ := Rp.readL s ry
      have n1 := RpL.fro _ _ _ c3 r
      have n2 := RpL.fro _ _ _ c4 r'
      subst n1 n2
      refine .inr (.inr (.inl ⟨a, b, vs, ws, e, e', z c1, z' c2, ?_, Post.lst s h (RpL.append r r')⟩))
      rw [RpL.length r, RpL.length r']
      exact c5
    · exact h.elim
  · rename_i xs ys
    split at h
    · rename_i c
      obtain ⟨c3, c4, c5⟩ := c
      obtain ⟨a, vs, e, q, r⟩ := Rp.readT s rx
      obtain ⟨b, ws, e', q', r'⟩ := Rp.readT s ry
      have n1 := RpL.fro _ _ _ c3 r
      have n2 := RpL.fro _ _ _ c4 r'
      subst n1 n2
      have l1 := RpL.length r
      have l2 := RpL.length r'
      refine .inr (.inr (.inr ⟨a, b, vs, ws, e, e', q, q', by rw [l1, l2]; exact c5, fun z => ?_, fun z z2 => ?_, fun z z2 => Post.tup s h (RpL.append r r')⟩))
      · subst z
        have : xs = [] := List.eq_nil_of_length_eq_zero l1.symm
        subst this
        rw [← e']
        have hn := Rp.fro (.tup ys) _ _ c4 ry
        rw [hn] at ry
        exact Post.same s h ry
      · subst z2
        have : ys = [] := List.eq_nil_of_length_eq_zero l2.symm
        subst this
        rw [List.append_nil] at h
        rw [← e]
        have hn := Rp.fro (.tup xs) _ _ c3 rx
        rw [hn] at rx
        exact Post.same s h rx
    · exact h.elim
  · exact h.elim
theorem mulOk {K : Fr} : OpOk K mulT rMul := by
  intro F H W x y v w fx fy Q s rx ry h
  unfold mulT at h
  split at h
  · rename_i i j
    split at h
    · rename_i c
      rcases c with c | c
      · exact .inl ⟨i, j, rx.1, ry.1, c, Post.int s h⟩
      · exact .inr (.inl ⟨i, j, rx.1, ry.1, c, Post.int s h⟩)
    · exact h.elim
  · rename_i z n
    split at h
    · rename_i c
      exact .inr (.inr (.inl ⟨z, n, rx.1, ry.1, c.1, c.2.1, c.2.2, Post.str s h⟩))
    · exact h.elim
  · rename_i k xs n
    split at h
    · rename_i c
      obtain ⟨c1, c3, c4, c5, c6⟩ := c
      obtain ⟨a, vs, f, e, q, r, z⟩ := Rp.readL s rx
      have n1 := RpL.fro _ _ _ c3 r
      subst n1
      refine .inr (.inr (.inr ⟨a, n, vs, e, ry.1, z c1, c4, c5, by rw [RpL.length r]; exact c6, Post.lst s h (RpL.rep r _)⟩))
    · exact h.elim
  · exact h.elim
theorem binOk {K : Fr} : ∀ op : Operator, OpOk K (binT op) (rBin K op)
  | .Add => addOk
  | .Mult => mulOk
  | .Sub => by
    intro F H W x y v w fx fy Q s rx ry h
    have h : Post K F H W (subT x y) Q := h
    unfold subT at h
    split at h
    · exact ⟨_, _, rx.1, ry.1, Post.int s h⟩
    · exact h.elim
  | .FloorDiv => by
    intro F H W x y v w fx fy Q s rx ry h
    have h : Post K F H W (fdivT x y) Q := h
    unfold fdivT at h
    split at h
    · split at h
      · rename_i c
        exact ⟨_, _, rx.1, ry.1, c, Post.int s h⟩
      · exact h.elim
    · exact h.elim
  | .Mod => by
    intro F H W x y v w fx fy Q s rx ry h
    have h : Post K F H W (modT x y) Q := h
    unfold modT at h
    split at h
    · split at h
      · rename_i c
        exact ⟨_, _, rx.1, ry.1, c, Post.int s h⟩
      · exact h.elim
    · exact h.elim
  | .Pow => by
    intro F H W x y v w fx fy Q s rx ry h
    have h : Post K F H W (powT x y) Q := h
    unfold powT at h
    split at h
    · split at h
      · rename_i c
        exact ⟨_, _, rx.1, ry.1, c, Post.int s h⟩
      · exact h.elim
    · exact h.elim
  | .BitAnd => by
    intro F H W x y v w fx fy Q s rx ry h
    have h : Post K F H W (andT x y) Q := h
    unfold andT at h
    split at h
    · exact ⟨_, _, rx.1, ry.1, Post.int s h⟩
    · exact h.elim
  | .BitOr => by
    intro F H W x y v w fx fy Q s rx ry h
    have h : Post K F H W (orT x y) Q := h
    unfold orT at h
    split at h
    · exact ⟨_, _, rx.1, ry.1, Post.int s h⟩
    · exact h.elim
  | .BitXor => by
    intro F H W x y v w fx fy Q s rx ry h
    have h : Post K F H W (xorT x y) Q := h
    unfold xorT at h
    split at h
    · exact ⟨_, _, rx.1, ry.1, Post.int s h⟩
    · exact h.elim
  | .MatMult => fun _ _ _ _ _ _ _ _ _ _ _ _ _ h => h.elim
  | .Div => fun _ _ _ _ _ _ _ _ _ _ _ _ _ h => h.elim
  | .LShift => fun _ _ _ _ _ _ _ _ _ _ _ _ _ h => h.elim
  | .RShift => fun _ _ _ _ _ _ _ _ _ _ _ _ _ h => h.elim
end PV
namespace PV
open PySem L2 PyProof.Rows

/-! ### comparisons -/
def toP : T → PyData
  | .non => .none | .bl b => .bool b | .int i => .int i | .str s => .str s
  | .tup l => .tuple (toPL l)
  | .lst _ l => .list (toPL l)
where toPL : List T → List PyData
  | [] => []
  | t :: ts => toP t :: toPL ts
abbrev toPL := @toP.toPL
mutual
theorem Rp.dp {K : Fr} {F H : Hp} (s : Same F H) : ∀ (t : T) (v : V) (fp : List Addr), Rp K F H t v fp → Dp K H v (toP t)
  | .non, _, _, h => by rw [h.1]; exact .non
  | .bl _, _, _, h => by rw [h.1]; exact .bl _
  | .int _, _, _, h => by rw [h.1]; exact .int _
  | .str _, _, _, h => by rw [h.1]; exact .str _
  | .tup l, v, fp, h => by
    obtain ⟨a, vs, e, q, r⟩ := h
    subst e
    exact .tup (Same.sqt s q) (RpL.dp s l vs fp r)
  | .lst .own l, v, fp, h => by
    obtain ⟨a, vs, fp', e, e2, q, r⟩ := h
    subst e
    exact .lst (.inl (.inl q)) (RpL.dp s l vs fp' r)
  | .lst .fz l, v, fp, h => by
    obtain ⟨a, vs, e, e2, q, r⟩ := h
    subst e
    exact .lst (.inl (.inl (s _ _ q))) (RpL.dp s l vs [] r)
  | .lst .rd l, v, fp, h => by
    obtain ⟨a, vs, e, e2, q, r⟩ := h
    subst e
    exact .lst (Same.sql s q) (RpL.dp s l vs [] r)
theorem RpL.dp {K : Fr} {F H : Hp} (s : Same F H) : ∀ (ts : List T) (vs : List V) (fp : List Addr), RpL K F H ts vs fp → DpAll K H vs (toPL ts)
  | [], vs, fp, h => by rw [h.1]; exact .nil
  | t :: ts, vs, fp, h => by
    obtain ⟨v, vs', f1, f2, e, e2, h1, h2⟩ := h
    subst e
    exact .cons (Rp.dp s t v f1 h1) (RpL.dp s ts vs' f2 h2)
end
def flT : T → Bool
  | .non => true | .bl _ => true | .int _ => true | .str _ => true | _ => false
/-- == of plain things -/
def eqF : T → T → Bool
  | .non, .non => true
  | .bl a, .bl b => a == b
  | .bl a, .int b => (if a then 1 else 0) == b
  | .int a, .bl b => a == (if b then 1 else 0)
  | .int a, .int b => a == b
  | .str a, .str b => a == b
  | _, _ => false
def eqT : T → T → Option Bool
  | .non, .non => some true
  | .int i, .int j => some (decide (i = j))
  | .str i, .str j => some (decide (i = j))
  | .bl i, .bl j => some (decide (i = j))
  | .non, .int _ => some false
  | .int _, .non => some false
  | .non, .str _ => some false
  | .str _, .non => some false
  | .int _, .str _ => some false
  | .str _, .int _ => some false
  | x, y => if SeqAt.shaped (toP x) && SeqAt.shaped (toP y) then some (PyData.eqv (toP x) (toP y)) else none
def inStr (i z : Str) : Bool := !(Builtin.Str.occurrences z i 0 z.length 1).isEmpty
def isT : T → T → Option Bool
  | .non, .non => some true
  | _, .non => some false
  | .bl a, .bl b => some (decide (a = b))
  | _, _ => none
def inT (x : T) : T → Option Bool
  | .str z => match x with
    | .str i => if i.length = 1 then some (decide (i.cps.getD 0 0 ∈ z.cps.toList)) else some (inStr i z)
    | _ => none
  | .lst _ l => if flT x && l.all flT then some (l.any fun y => eqF y x) else none
  | .tup l => if flT x && l.all flT then some (l.any fun y => eqF y x) else none
  | _ => none
def cmpB : CmpOp → T → T → Option Bool
  | .Eq, x, y => eqT x y
  | .NotEq, x, y => (eqT x y).map (!·)
  | .Lt, .int i, .int j => some (decide (i < j))
  | .LtE, .int i, .int j => some (decide (i ≤ j))
  | .Gt, .int i, .int j => some (decide (j < i))
  | .GtE, .int i, .int j => some (decide (j ≤ i))
  | .Is, x, y => isT x y
  | .IsNot, x, y => (isT x y).map (!·)
  | .In, x, y => inT x y
  | .NotIn, x, y => (inT x y).map (!·)
  | _, _, _ => none
def cmpT (op : CmpOp) (x y : T) : R T := match cmpB op x y with | some b => .ok (.bl b) | none => .stuck
def isNon : T → Bool | .non => true | _ => false

def rEqU (K : Fr) : R2 := fun x y H Q => rEq x y H Q ∨ rEqD K x y H Q
def rNeU (K : Fr) : R2 := fun x y H Q => rNe x y H Q ∨ rNeD K x y H Q
def rInS1 : R2 := fun x y H Q => ∃ (c : Nat) (z : Str), x = .str ⟨#[c]⟩ ∧ y = .str z ∧ Q (.bl (decide (c ∈ z.cps.toList))) H
def rInS2 : R2 := fun x y H Q => ∃ i j, x = .str i ∧ y = .str j ∧ Q (.bl (!(Builtin.Str.occurrences j i 0 j.length 1).isEmpty)) H
def rNiS1 : R2 := fun x y H Q => ∃ (c : Nat) (z : Str), x = .str ⟨#[c]⟩ ∧ y = .str z ∧ Q (.bl (!decide (c ∈ z.cps.toList))) H
def rNiS2 : R2 := fun x y H Q => ∃ i j, x = .str i ∧ y = .str j ∧ Q (.bl (!(!(Builtin.Str.occurrences j i 0 j.length 1).isEmpty))) H
def rIsU : R2 := fun x y H Q => (y = .non ∧ Q (.bl (decide (x = .non))) H) ∨ rIsB x y H Q
def rIsnU : R2 := fun x y H Q => (y = .non ∧ Q (.bl (!decide (x = .non))) H) ∨ rNotB x y H Q
def rCmp (K : Fr) : CmpOp → R2
  | .Eq => rEqU K | .NotEq => rNeU K
  | .Lt => rI0 fun i j => .bl (decide (i < j)) | .LtE => rI0 fun i j => .bl (decide (i ≤ j))
  | .Gt => rI0 fun i j => .bl (decide (j < i)) | .GtE => rI0 fun i j => .bl (decide (j ≤ i))
  | .Is => rIsU | .IsNot => rIsnU
  | .In => fun x y H Q => rInS1 x y H Q ∨ rInS2 x y H Q ∨ rIn K false x y H Q
  | .NotIn => fun x y H Q => rNiS1 x y H Q ∨ rNiS2 x y H Q ∨ rIn K true x y H Q
theorem op_cmp {X : Cx} (hu : X.A.units + 64 < cLine) : ∀ op : CmpOp, OpR X (compareOp op) (rCmp X.K op)
  | .Eq => op_eq.or (op_eqD hu) | .NotEq => op_ne.or (op_neD hu)
  | .Lt => op_lt | .LtE => op_le | .Gt => op_gt | .GtE => op_ge
  | .Is => op_isN.or op_isBl | .IsNot => op_notN.or op_notBl
  | .In => op_in_sign.or (op_in_str.or op_in_seq)
  | .NotIn => op_notIn_sign.or (op_notin_str.or op_notIn_seq)
theorem Rp.flat {K : Fr} {F H : Hp} {t : T} {v : V} {fp : List Addr} (h : Rp K F H t v fp) (f : flT t = true) : flatV v = true := by
  cases t with
  | non => rw [h.1]; rfl
  | bl b => rw [h.1]; rfl
  | int b => rw [h.1]; rfl
  | str b => rw [h.1]; rfl
  | tup l => cases f
  | lst k l => cases f
theorem RpL.flat {K : Fr} {F H : Hp} : ∀ {ts : List T} {vs : List V} {fp : List Addr}, RpL K F H ts vs fp → ts.all flT = true → vs.all flatV = true
  | [], _, _, h, _ => by rw [h.1]; rfl
  | t :: ts, vs, fp, h, f => by
    obtain ⟨v, vs', f1, f2, e, e2, h1, h2⟩ := h
    subst e
    rw [List.all_cons, Bool.and_eq_true] at f ⊢
    exact ⟨Rp.flat h1 f.1, RpL.flat h2 f.2⟩
theorem eqF_ok {K : Fr} {F H : Hp} {x y : T} {v w : V} {fx fy : List Addr} (hx : Rp K F H x v fx) (hy : Rp K F H y w fy) (f : flT x = true) (g : flT y = true) : eqV v w = eqF x y := by
  cases x with
  | non => rw [hx.1]; cases y with
    | non => rw [hy.1]; rfl
    | bl b => rw [hy.1]; rfl
    | int b => rw [hy.1]; rfl
    | str b => rw [hy.1]; rfl
    | tup l => cases g
    | lst k l => cases g
  | bl a => rw [hx.1]; cases y with
    | non => rw [hy.1]; rfl
    | bl b => rw [hy.1]; rfl
    | int b => rw [hy.1]; rfl
    | str b => rw [hy.1]; rfl
    | tup l => cases g
    | lst k l => cases g
  | int a => rw [hx.1]; cases y with
    | non => rw [hy.1]; rfl
    | bl b => rw [hy.1]; rfl
    | int b => rw [hy.1]; rfl
    | str b => rw [hy.1]; rfl
    | tup l => cases g
    | lst k l => cases g
  | str a => rw [hx.1]; cases y with
    | non => rw [hy.1]; rfl
    | bl b => rw [hy.1]; rfl
    | int b => rw [hy.1]; rfl
    | str b => rw [hy.1]; rfl
    | tup l => cases g
    | lst k l => cases g
  | tup l => cases f
  | lst k l => cases f
theorem RpL.inV {K : Fr} {F H : Hp} {x : T} {v : V} {fx : List Addr} (hx : Rp K F H x v fx) (f : flT x = true) : ∀ {ts : List T} {vs : List V} {fp : List Addr}, RpL K F H ts vs fp → ts.all flT = true → L2.inV v vs = ts.any fun y => eqF y x
  | [], _, _, h, _ => by rw [h.1]; rfl
  | t :: ts, vs, fp, h, g => by
    obtain ⟨w, vs', f1, f2, e, e2, h1, h2⟩ := h
    subst e
    rw [List.all_cons, Bool.and_eq_true] at g
    have ih := RpL.inV hx f h2 g.2
    unfold L2.inV at ih ⊢
    rw [List.any_cons, List.any_cons, ih, eqF_ok h1 hx g.1 f]
theorem str_one {i : Str} (h : i.length = 1) : i = ⟨#[i.cps.getD 0 0]⟩ := by
  obtain ⟨cps⟩ := i
  obtain ⟨l⟩ := cps
  have h' : l.length = 1 := h
  match l, h' with
  | [c], _ => rfl
/-- == -/
theorem eqOk {K : Fr} {F H : Hp} {x y : T} {v w : V} {fx fy : List Addr} {b : Bool} {Q : VK} (s : Same F H) (rx : Rp K F H x v fx) (ry : Rp K F H y w fy) (e : eqT x y = some b) (q : Q (.bl b) H) : rEqU K v w H Q := by
  unfold eqT at e
  split at e
  · cases e; rw [rx.1, ry.1]; exact .inl ⟨rfl, q⟩
  · cases e; rw [rx.1, ry.1]; exact .inl ⟨rfl, by simpa using q⟩
  · cases e; rw [rx.1, ry.1]; exact .inl ⟨rfl, by simpa using q⟩
  · cases e; rw [rx.1, ry.1]; exact .inl ⟨rfl, by simpa using q⟩
  · cases e; rw [rx.1, ry.1]; exact .inl ⟨rfl, by simpa using q⟩
  · cases e; rw [rx.1, ry.1]; exact .inl ⟨rfl, by simpa using q⟩
  · cases e; rw [rx.1, ry.1]; exact .inl ⟨rfl, by simpa using q⟩
  · cases e; rw [rx.1, ry.1]; exact .inl ⟨rfl, by simpa using q⟩
  · cases e; rw [rx.1, ry.1]; exact .inl ⟨rfl, by simpa using q⟩
  · cases e; rw [rx.1, ry.1]; exact .inl ⟨rfl, by simpa using q⟩
  · split at e
    · rename_i c
      cases e
      rw [Bool.and_eq_true] at c
      exact .inr ⟨_, _, Rp.dp s _ _ _ rx, Rp.dp s _ _ _ ry, c.1, c.2, q⟩
    · cases e
theorem neOk {K : Fr} {F H : Hp} {x y : T} {v w : V} {fx fy : List Addr} {b : Bool} {Q : VK} (s : Same F H) (rx : Rp K F H x v fx) (ry : Rp K F H y w fy) (e : eqT x y = some b) (q : Q (.bl (!b)) H) : rNeU K v w H Q := by
  unfold eqT at e
  split at e
  · cases e; rw [rx.1, ry.1]; exact .inl ⟨rfl, q⟩
  · cases e; rw [rx.1, ry.1]; exact .inl ⟨rfl, by simpa using q⟩
  · cases e; rw [rx.1, ry.1]; exact .inl ⟨rfl, by simpa using q⟩
  · cases e; rw [rx.1, ry.1]; exact .inl ⟨rfl, by simpa using q⟩
  · cases e; rw [rx.1, ry.1]; exact .inl ⟨rfl, by simpa using q⟩
  · cases e; rw [rx.1, ry.1]; exact .inl ⟨rfl, by simpa using q⟩
  · cases e; rw [rx.1, ry.1]; exact .inl ⟨rfl, by simpa using q⟩
  · cases e; rw [rx.1, ry.1]; exact .inl ⟨rfl, by simpa using q⟩
  · cases e; rw [rx.1, ry.1]; exact .inl ⟨rfl, by simpa using q⟩
  · cases e; rw [rx.1, ry.1]; exact .inl ⟨rfl, by simpa using q⟩
  · split at e
    · rename_i c
      cases e
      rw [Bool.and_eq_true] at c
      exact .inr ⟨_, _, Rp.dp s _ _ _ rx, Rp.dp s _ _ _ ry, c.1, c.2, q⟩
    · cases e
theorem Rp.non_iff {K : Fr} {F H : Hp} {x : T} {v : V} {fx : List Addr} (rx : Rp K F H x v fx) : decide (v = .non) = isNon x := by
  cases x with
  | non => rw [rx.1]; rfl
  | bl b => rw [rx.1]; rfl
  | int b => rw [rx.1]; rfl
  | str b => rw [rx.1]; rfl
  | tup l =>
    obtain ⟨a, vs, e, q, r⟩ := rx
    rw [e]; rfl
  | lst k l =>
    cases k with
    | own => obtain ⟨a, vs, fp', e, e2, q, r⟩ := rx; rw [e]; rfl
    | fz => obtain ⟨a, vs, e, e2, q, r⟩ := rx; rw [e]; rfl
    | rd => obtain ⟨a, vs, e, e2, q, r⟩ := rx; rw [e]; rfl
theorem isOk {K : Fr} {F H : Hp} {x y : T} {v w : V} {fx fy : List Addr} {b : Bool} {Q : VK} (rx : Rp K F H x v fx) (ry : Rp K F H y w fy) (e : isT x y = some b) (q : Q (.bl b) H) : rIsU v w H Q := by
  unfold isT at e
  split at e
  · cases e; rw [rx.1, ry.1]; exact .inl ⟨rfl, q⟩
  · rename_i hn
    cases e
    refine .inl ⟨ry.1, ?_⟩
    rw [Rp.non_iff rx]
    have hx : isNon x = false := by
      cases x with
      | non => exact (hn rfl).elim
      | _ => rfl
    rw [hx]
    exact q
  · cases e; rw [rx.1, ry.1]; exact .inr ⟨_, _, rfl, rfl, q⟩
  · cases e
theorem isnOk {K : Fr} {F H : Hp} {x y : T} {v w : V} {fx fy : List Addr} {b : Bool} {Q : VK} (rx : Rp K F H x v fx) (ry : Rp K F H y w fy) (e : isT x y = some b) (q : Q (.bl (!b)) H) : rIsnU v w H Q := by
  unfold isT at e
  split at e
  · cases e; rw [rx.1, ry.1]; exact .inl ⟨rfl, q⟩
  · rename_i hn
    cases e
    refine .inl ⟨ry.1, ?_⟩
    rw [Rp.non_iff rx]
    have hx : isNon x = false := by
      cases x with
      | non => exact (hn rfl).elim
      | _ => rfl
    rw [hx]
    exact q
  · cases e; rw [rx.1, ry.1]; exact .inr ⟨_, _, rfl, rfl, q⟩
  · cases e
theorem inOk {K : Fr} {F H : Hp} {x y : T} {v w : V} {fx fy : List Addr} {b : Bool} {Q : VK} (s : Same F H) (rx : Rp K F H x v fx) (ry : Rp K F H y w fy) (e : inT x y = some b) (q : Q (.bl b) H) : rCmp K .In v w H Q := by
  unfold inT at e
  split at e
  · split at e
    · rename_i z _ i
      split at e
      · rename_i c
        cases e
        rw [rx.1, ry.1, str_one c]
        exact .inl ⟨_, _, rfl, rfl, q⟩
      · cases e
        rw [rx.1, ry.1]
        exact .inr (.inl ⟨_, _, rfl, rfl, q⟩)
    · cases e
  · split at e
    · rename_i c
      cases e
      rw [Bool.and_eq_true] at c
      obtain ⟨a, vs, f, e1, q1, r, _⟩ := Rp.readL s ry
      refine .inr (.inr ⟨a, vs, e1, .inl q1, Rp.flat rx c.1, RpL.flat r c.2, ?_⟩)
      rw [RpL.inV rx c.1 r c.2]
      exact q
    · cases e
  · split at e
    · rename_i c
      cases e
      rw [Bool.and_eq_true] at c
      obtain ⟨a, vs, e1, q1, r⟩ := Rp.readT s ry
      refine .inr (.inr ⟨a, vs, e1, .inr q1, Rp.flat rx c.1, RpL.flat r c.2, ?_⟩)
      rw [RpL.inV rx c.1 r c.2]
      exact q
    · cases e
  · cases e
theorem niOk {K : Fr} {F H : Hp} {x y : T} {v w : V} {fx fy : List Addr} {b : Bool} {Q : VK} (s : Same F H) (rx : Rp K F H x v fx) (ry : Rp K F H y w fy) (e : inT x y = some b) (q : Q (.bl (!b)) H) : rCmp K .NotIn v w H Q := by
  unfold inT at e
  split at e
  · split at e
    · rename_i z _ i
      split at e
      · rename_i c
        cases e
        rw [rx.1, ry.1, str_one c]
        exact .inl ⟨_, _, rfl, rfl, q⟩
      · cases e
        rw [rx.1, ry.1]
        exact .inr (.inl ⟨_, _, rfl, rfl, q⟩)
    · cases e
  · split at e
    · rename_i c
      cases e
      rw [Bool.and_eq_true] at c
      obtain ⟨a, vs, f, e1, q1, r, _⟩ := Rp.readL s ry
      refine .inr (.inr ⟨a, vs, e1, .inl q1, Rp.flat rx c.1, RpL.flat r c.2, ?_⟩)
      rw [RpL.inV rx c.1 r c.2]
      exact q
    · cases e
  · split at e
    · rename_i c
      cases e
      rw [Bool.and_eq_true] at c
      obtain ⟨a, vs, e1, q1, r⟩ := Rp.readT s ry
      refine .inr (.inr ⟨a, vs, e1, .inr q1, Rp.flat rx c.1, RpL.flat r c.2, ?_⟩)
      rw [RpL.inV rx c.1 r c.2]
      exact q
    · cases e
  · cases e
theorem Post.cmp {K : Fr} {F H : Hp} {W : XW} {op : CmpOp} {x y : T} {Q : VK} (s : Same F H) (h : Post K F H W (cmpT op x y) Q) : ∃ b, cmpB op x y = some b ∧ Q (.bl b) H := by
  unfold cmpT at h
  cases e : cmpB op x y with
  | some b =>
    rw [e] at h
    exact ⟨b, rfl, Post.bl s h⟩
  | none =>
    rw [e] at h
    exact h.elim
theorem map_some {o : Option Bool} {b : Bool} (h : o.map (!·) = some b) : ∃ c, o = some c ∧ b = !c := by
  cases o with
  | none => cases h
  | some c => exact ⟨c, rfl, by cases h; rfl⟩
theorem cmpOk {K : Fr} (op : CmpOp) : OpOk K (cmpT op) (rCmp K op) := by
  intro F H W x y v w fx fy Q s rx ry h
  obtain ⟨b, e, q⟩ := Post.cmp s h
  cases op with
  | Eq => exact eqOk s rx ry e q
  | NotEq =>
    obtain ⟨c, e1, e2⟩ := map_some e
    subst e2
    exact neOk s rx ry e1 q
  | Is => exact isOk rx ry e q
  | IsNot =>
    obtain ⟨c, e1, e2⟩ := map_some e
    subst e2
    exact isnOk rx ry e1 q
  | In => exact inOk s rx ry e q
  | NotIn =>
    obtain ⟨c, e1, e2⟩ := map_some e
    subst e2
    exact niOk s rx ry e1 q
  | Lt => cases x <;> cases y <;> first | (cases e; exact ⟨_, _, rx.1, ry.1, q⟩) | (cases e)
  | LtE => cases x <;> cases y <;> first | (cases e; exact ⟨_, _, rx.1, ry.1, q⟩) | (cases e)
  | Gt => cases x <;> cases y <;> first | (cases e; exact ⟨_, _, rx.1, ry.1, q⟩) | (cases e)
  | GtE => cases x <;> cases y <;> first | (cases e; exact ⟨_, _, rx.1, ry.1, q⟩) | (cases e)
end PV
namespace PV
open PySem L2 PyProof.Rows

/-! ### subscripts, slices -/
def ixT : T → T → R T
  | .lst _ xs, .int i => match atI xs i with | some t => .ok t | none => .stuck
  | .tup xs, .int i => match atI xs i with | some t => .ok t | none => .stuck
  | .str z, .int i => if z.length ≤ sizeLine then (match atI z.cps.toList i with | some c => .ok (.str ⟨#[c]⟩) | none => .stuck) else .stuck
  | _, _ => .stuck
theorem atI_rp {K : Fr} {F H : Hp} {ts : List T} {vs : List V} {fp : List Addr} {i : Int} {t : T} (r : RpL K F H ts vs fp) (e : atI ts i = some t) : ∃ v f, atI vs i = some v ∧ Rp K F H t v f := by
  unfold atI at e ⊢
  rw [RpL.length r]
  cases q : ixN ts.length i with
  | none => rw [q] at e; cases e
  | some j =>
    rw [q] at e
    obtain ⟨v, f, h1, h2⟩ := RpL.get (j := j) r e
    exact ⟨v, f, h1, h2⟩
theorem ixOk {K : Fr} {F H : Hp} {W : XW} {x y : T} {v w : V} {fx fy : List Addr} {Q : VK} (s : Same F H) (rx : Rp K F H x v fx) (ry : Rp K F H y w fy) (h : PostV K F H W (ixT x y) Q) : rIx K v w H Q := by
  unfold ixT at h
  split at h
  · rename_i k xs i
    cases e : atI xs i with
    | none => rw [e] at h; exact h.elim
    | some t =>
      rw [e] at h
      obtain ⟨a, vs, f, e1, q1, r, _⟩ := Rp.readL s rx
      obtain ⟨u, g, e2, r2⟩ := atI_rp r e
      exact .inl ⟨a, vs, i, u, e1, ry.1, q1, e2, h u F H g (Ext.refl s) r2⟩
  · rename_i xs i
    cases e : atI xs i with
    | none => rw [e] at h; exact h.elim
    | some t =>
      rw [e] at h
      obtain ⟨a, vs, e1, q1, r⟩ := Rp.readT s rx
      obtain ⟨u, g, e2, r2⟩ := atI_rp r e
      exact .inr (.inl ⟨a, vs, i, u, e1, ry.1, q1, e2, h u F H g (Ext.refl s) r2⟩)
  · rename_i z i
    split at h
    · rename_i c
      cases e : atI z.cps.toList i with
      | none => rw [e] at h; exact h.elim
      | some t =>
        rw [e] at h
        exact .inr (.inr ⟨z, i, t, rx.1, ry.1, c, e, Post.str s h.post⟩)
    · exact h.elim
  · exact h.elim
def cutL {α : Type} (xs : List α) (lo hi : Option Int) : List α := List.take (HT.sIx xs.length xs.length hi - HT.sIx xs.length 0 lo) (List.drop (HT.sIx xs.length 0 lo) xs)
def slT : T → Option Int → Option Int → R T
  | .lst _ xs, lo, hi => if T.fro.froL xs then .ok (.lst .own (cutL xs lo hi)) else .stuck
  | .tup xs, lo, hi => if T.fro.froL xs then .ok (.tup (cutL xs lo hi)) else .stuck
  | .str z, lo, hi => if z.length ≤ sizeLine then .ok (.str (cutS z lo hi)) else .stuck
  | _, _, _ => .stuck
def rSl (K : Fr) : V → Option Int → Option Int → Hp → VK → Prop := fun x lo hi H Q => rSlL K x lo hi H Q ∨ (rSlA K x lo hi H Q ∨ rSlS x lo hi H Q)
theorem sl_all {X : Cx} : SlR X (rSl X.K) := sl_list.or (sl_tupA.or sl_str)
theorem RpL.cut {K : Fr} {F H : Hp} {ts : List T} {vs : List V} {lo hi : Option Int} (r : RpL K F H ts vs []) : RpL K F H (cutL ts lo hi) (cutV vs lo hi) [] := by
  unfold cutL cutV
  rw [RpL.length r]
  exact RpL.take _ (RpL.drop _ r)
theorem slOk {K : Fr} {F H : Hp} {W : XW} {x : T} {v : V} {fx : List Addr} {lo hi : Option Int} {Q : VK} (s : Same F H) (rx : Rp K F H x v fx) (h : Post K F H W (slT x lo hi) Q) : rSl K v lo hi H Q := by
  cases x with
  | lst k xs =>
    have h : Post K F H W (if T.fro.froL xs then .ok (.lst .own (cutL xs lo hi)) else .stuck) Q := h
    split at h
    · rename_i c
      obtain ⟨a, vs, f, e1, q1, r, _⟩ := Rp.readL s rx
      have n := RpL.fro _ _ _ c r
      subst n
      exact .inl ⟨a, vs, e1, q1, Post.lst s h (RpL.cut r)⟩
    · exact h.elim
  | tup xs =>
    have h : Post K F H W (if T.fro.froL xs then .ok (.tup (cutL xs lo hi)) else .stuck) Q := h
    split at h
    · rename_i c
      obtain ⟨a, vs, e1, q1, r⟩ := Rp.readT s rx
      have n := RpL.fro _ _ _ c r
      rw [n] at r
      refine .inr (.inl ⟨a, vs, e1, q1, fun z => ?_, fun z => Post.tup s h (RpL.cut r)⟩)
      have l := RpL.length r
      have e : cutL xs lo hi = xs := by
        unfold cutL
        rw [l] at z
        rw [z.1, z.2]
        simp
      rw [e] at h
      rw [n] at rx
      rw [← e1]
      exact Post.same s h rx
    · exact h.elim
  | str z =>
    have h : Post K F H W (if z.length ≤ sizeLine then .ok (.str (cutS z lo hi)) else .stuck) Q := h
    split at h
    · rename_i c
      exact .inr (.inr ⟨z, rx.1, c, Post.str s h⟩)
    · exact h.elim
  | non => exact (show False from h).elim
  | bl _ => exact (show False from h).elim
  | int _ => exact (show False from h).elim

/-! ### built-in functions and types, called -/
def asInts : List T → Option (List Int)
  | [] => some []
  | .int i :: r => (asInts r).map (i :: ·)
  | _ :: _ => none
def asBls : List T → Option (List Bool)
  | [] => some []
  | .bl i :: r => (asBls r).map (i :: ·)
  | _ :: _ => none
def asStrs : List T → Option (List Str)
  | [] => some []
  | .str i :: r => (asStrs r).map (i :: ·)
  | _ :: _ => none
theorem asInts_eq : ∀ {ts : List T} {ns : List Int}, asInts ts = some ns → ts = ns.map T.int
  | [], ns, h => by cases h; rfl
  | .int i :: r, ns, h => by
    unfold asInts at h
    cases e : asInts r with
    | none => rw [e] at h; cases h
    | some m =>
      rw [e] at h
      have h : i :: m = ns := Option.some.inj h
      rw [← h, List.map_cons, asInts_eq e]
  | .non :: r, ns, h => by cases h
  | .bl _ :: r, ns, h => by cases h
  | .str _ :: r, ns, h => by cases h
  | .tup _ :: r, ns, h => by cases h
  | .lst _ _ :: r, ns, h => by cases h
theorem asInts_map : ∀ (ns : List Int), asInts (ns.map T.int) = some ns
  | [] => rfl
  | n :: ns => by
    show (asInts (ns.map T.int)).map (n :: ·) = _
    rw [asInts_map ns]; rfl
theorem asBls_eq : ∀ {ts : List T} {ns : List Bool}, asBls ts = some ns → ts = ns.map T.bl
  | [], ns, h => by cases h; rfl
  | .bl i :: r, ns, h => by
    unfold asBls at h
    cases e : asBls r with
    | none => rw [e] at h; cases h
    | some m =>
      rw [e] at h
      have h : i :: m = ns := Option.some.inj h
      rw [← h, List.map_cons, asBls_eq e]
  | .non :: r, ns, h => by cases h
  | .int _ :: r, ns, h => by cases h
  | .str _ :: r, ns, h => by cases h
  | .tup _ :: r, ns, h => by cases h
  | .lst _ _ :: r, ns, h => by cases h
theorem asBls_map : ∀ (ns : List Bool), asBls (ns.map T.bl) = some ns
  | [] => rfl
  | n :: ns => by
    show (asBls (ns.map T.bl)).map (n :: ·) = _
    rw [asBls_map ns]; rfl
theorem asStrs_eq : ∀ {ts : List T} {ns : List Str}, asStrs ts = some ns → ts = ns.map T.str
  | [], ns, h => by cases h; rfl
  | .str i :: r, ns, h => by
    unfold asStrs at h
    cases e : asStrs r with
    | none => rw [e] at h; cases h
    | some m =>
      rw [e] at h
      have h : i :: m = ns := Option.some.inj h
      rw [← h, List.map_cons, asStrs_eq e]
  | .non :: r, ns, h => by cases h
  | .bl _ :: r, ns, h => by cases h
  | .int _ :: r, ns, h => by cases h
  | .tup _ :: r, ns, h => by cases h
  | .lst _ _ :: r, ns, h => by cases h
theorem asStrs_map : ∀ (ns : List Str), asStrs (ns.map T.str) = some ns
  | [] => rfl
  | n :: ns => by
    show (asStrs (ns.map T.str)).map (n :: ·) = _
    rw [asStrs_map ns]; rfl
def maxL : List Int → Int
  | [] => 0
  | [a] => a
  | a :: r => max a (maxL r)
def minL : List Int → Int
  | [] => 0
  | [a] => a
  | a :: r => min a (minL r)
theorem maxL_mem : ∀ {l : List Int}, l ≠ [] → maxL l ∈ l ∧ ∀ y ∈ l, y ≤ maxL l
  | [], h => absurd rfl h
  | [a], _ => ⟨List.mem_cons_self, fun y hy => by
    have : y = a := by simpa using hy
    subst this; exact Int.le_refl _⟩
  | a :: b :: r, _ => by
    obtain ⟨h1, h2⟩ := maxL_mem (l := b :: r) (by simp)
    show max a (maxL (b :: r)) ∈ _ ∧ ∀ y ∈ _, y ≤ max a (maxL (b :: r))
    refine ⟨?_, fun y hy => ?_⟩
    · rcases Int.le_total a (maxL (b :: r)) with c | c
      · rw [Int.max_eq_right c]; exact List.mem_cons_of_mem _ h1
      · rw [Int.max_eq_left c]; exact List.mem_cons_self
    · rcases List.mem_cons.mp hy with x | x
      · subst x; exact Int.le_max_left _ _
      · exact Int.le_trans (h2 y x) (Int.le_max_right _ _)
theorem minL_mem : ∀ {l : List Int}, l ≠ [] → minL l ∈ l ∧ ∀ y ∈ l, minL l ≤ y
  | [], h => absurd rfl h
  | [a], _ => ⟨List.mem_cons_self, fun y hy => by
    have : y = a := by simpa using hy
    subst this; exact Int.le_refl _⟩
  | a :: b :: r, _ => by
    obtain ⟨h1, h2⟩ := minL_mem (l := b :: r) (by simp)
    show min a (minL (b :: r)) ∈ _ ∧ ∀ y ∈ _, min a (minL (b :: r)) ≤ y
    refine ⟨?_, fun y hy => ?_⟩
    · rcases Int.le_total a (minL (b :: r)) with c | c
      · rw [Int.min_eq_left c]; exact List.mem_cons_self
      · rw [Int.min_eq_right c]; exact List.mem_cons_of_mem _ h1
    · rcases List.mem_cons.mp hy with x | x
      · subst x; exact Int.min_le_left _ _
      · exact Int.le_trans (Int.min_le_right _ _) (h2 y x)

inductive Blt | len | int | abs | max | min | sum | all | any | list | tuple | str
  deriving DecidableEq
def Blt.name : Blt → Str
  | .len => "len" | .int => "int" | .abs => "abs" | .max => "max" | .min => "min" | .sum => "sum" | .all => "all" | .any => "any" | .list => "list" | .tuple => "tuple" | .str => "str"
def Blt.val : Blt → Value
  | .len => .builtin "len" | .int => .type "int" | .abs => .builtin "abs" | .max => .builtin "max" | .min => .builtin "min" | .sum => .builtin "sum" | .all => .builtin "all" | .any => .builtin "any"
  | .list => .type "list" | .tuple => .type "tuple" | .str => .type "str"
def itemsOf : T → Option (List T)
  | .lst _ l => some l
  | .tup l => some l
  | _ => none
def bltT : Blt → List T → R T
  | .len, [.str z] => if z.length ≤ sizeLine then .ok (.int z.length) else .stuck
  | .len, [.lst _ l] => .ok (.int l.length)
  | .len, [.tup l] => .ok (.int l.length)
  | .int, [.int i] => .ok (.int i)
  | .int, [.bl b] => .ok (.int (if b then 1 else 0))
  | .int, [.str a] => if a.length ≤ 640 then (match PySem.intText? a with | some n => .ok (.int n) | none => .stuck) else .stuck
  | .abs, [.int i] => .ok (.int (if i < 0 then -i else i))
  | .max, [.int i, .int j] => .ok (.int (if j > i then j else i))
  | .max, [.lst _ l] => match asInts l with | some (n :: ns) => .ok (.int (maxL (n :: ns))) | _ => .stuck
  | .min, [.int i, .int j] => .ok (.int (if j < i then j else i))
  | .min, [.lst _ l] => match asInts l with | some (n :: ns) => .ok (.int (minL (n :: ns))) | _ => .stuck
  | .sum, [.lst _ l] => match asInts l with | some ns => .ok (.int ns.sum) | _ => .stuck
  | .all, [.lst _ l] => match asBls l with | some ns => .ok (.bl (ns.all id)) | _ => .stuck
  | .any, [.lst _ l] => match asBls l with | some ns => .ok (.bl (ns.any id)) | _ => .stuck
  | .list, [.lst _ l] => if T.fro.froL l then .ok (.lst .own l) else .stuck
  | .list, [.tup l] => if T.fro.froL l then .ok (.lst .own l) else .stuck
  | .tuple, [.lst _ l] => if T.fro.froL l then .ok (.tup l) else .stuck
  | .tuple, [.tup l] => if T.fro.froL l then .ok (.tup l) else .stuck
  | .str, [.int i] => if i.natAbs.log2 < 1920 then .ok (.str (toString i)) else .stuck
  | _, _ => .stuck
def rBlt (K : Fr) : Blt → List V → Hp → VK → Prop
  | .len => fun xs H Q => ∃ x n, xs = [x] ∧ LenV K x H n ∧ Q (.int n) H
  | .int => fun xs H Q => ((∃ i, xs = [.int i] ∧ Q (.int i) H) ∨ ∃ k, xs = [.bl k] ∧ Q (.int (if k then 1 else 0)) H) ∨ ∃ a n, xs = [.str a] ∧ PySem.intText? a = some n ∧ a.length ≤ 640 ∧ Q (.int n) H
  | .abs => fun xs H Q => ∃ i, xs = [.int i] ∧ Q (.int (if i < 0 then -i else i)) H
  | .max => fun xs H Q => (∃ i j, xs = [.int i, .int j] ∧ Q (.int (if j > i then j else i)) H) ∨ rMax K xs H Q
  | .min => fun xs H Q => (∃ i j, xs = [.int i, .int j] ∧ Q (.int (if j < i then j else i)) H) ∨ rMin K xs H Q
  | .sum => rSum K
  | .all => rAll K
  | .any => rAny K
  | .list => fun xs H Q => ∃ p ys, xs = [.ref p] ∧ (SqL K H p ys ∨ SqT K H p ys) ∧ ∀ l, H l = none → Q (.ref l) (upd H l (.lst ys))
  | .tuple => fun xs H Q => ∃ p ys, xs = [.ref p] ∧ ((SqL K H p ys ∧ ∀ l, H l = none → Q (.ref l) (upd H l (.tup ys))) ∨ (SqT K H p ys ∧ Q (.ref p) H))
  | .str => fun xs H Q => ∃ i, xs = [.int i] ∧ i.natAbs.log2 < 1920 ∧ Q (.str (toString i)) H
theorem call_blt {X : Cx} (hc : X.calm = true) : ∀ b : Blt, CallR X b.val (rBlt X.K b)
  | .len => call_len | .int => CallR.or call_int1 call_int_str | .abs => call_abs | .max => CallR.or (call_max2 hc) (cr_max hc) | .min => CallR.or (call_min2 hc) (cr_min hc)
  | .sum => cr_sum hc | .all => cr_all hc | .any => cr_any hc | .list => call_list_of | .tuple => call_tuple_of | .str => call_str_int
theorem RpL.one {K : Fr} {F H : Hp} {t : T} {vs : List V} {fp : List Addr} (r : RpL K F H [t] vs fp) : ∃ v f, vs = [v] ∧ Rp K F H t v f := by
  obtain ⟨v, vs', f1, f2, e, e2, h1, h2⟩ := r
  exact ⟨v, f1, by rw [e, h2.1], h1⟩
theorem RpL.two {K : Fr} {F H : Hp} {t u : T} {vs : List V} {fp : List Addr} (r : RpL K F H [t, u] vs fp) : ∃ v w f g, vs = [v, w] ∧ Rp K F H t v f ∧ Rp K F H u w g := by
  obtain ⟨v, vs', f1, f2, e, e2, h1, h2⟩ := r
  obtain ⟨w, g, e3, h3⟩ := RpL.one h2
  exact ⟨v, w, f1, g, by rw [e, e3], h1, h3⟩
theorem bltOk {K : Fr} {F H : Hp} {W : XW} {b : Blt} {ts : List T} {vs : List V} {fp : List Addr} {Q : VK} (s : Same F H) (r : RpL K F H ts vs fp) (h : Post K F H W (bltT b ts) Q) : rBlt K b vs H Q := by
  unfold bltT at h
  split at h
  · obtain ⟨v, f, e, r1⟩ := RpL.one r
    split at h
    · rename_i c
      rw [e, r1.1]
      exact ⟨_, _, rfl, ⟨c, rfl⟩, Post.int s h⟩
    · exact h.elim
  · obtain ⟨v, f, e, r1⟩ := RpL.one r
    obtain ⟨a, ws, g, e1, q1, r2, _⟩ := Rp.readL s r1
    refine ⟨v, _, e, ?_, Post.int s h⟩
    rw [e1]
    exact .inl ⟨ws, q1, (RpL.length r2).symm⟩
  · obtain ⟨v, f, e, r1⟩ := RpL.one r
    obtain ⟨a, ws, e1, q1, r2⟩ := Rp.readT s r1
    refine ⟨v, _, e, ?_, Post.int s h⟩
    rw [e1]
    exact .inr ⟨ws, q1, (RpL.length r2).symm⟩
  · obtain ⟨v, f, e, r1⟩ := RpL.one r
    rw [e, r1.1]
    exact .inl (.inl ⟨_, rfl, Post.int s h⟩)
  · obtain ⟨v, f, e, r1⟩ := RpL.one r
    rw [e, r1.1]
    exact .inl (.inr ⟨_, rfl, Post.int s h⟩)
  · obtain ⟨v, f, e, r1⟩ := RpL.one r
    split at h
    · rename_i c
      split at h
      · rename_i n e2
        rw [e, r1.1]
        exact .inr ⟨_, n, rfl, e2, c, Post.int s h⟩
      · exact h.elim
    · exact h.elim
  · obtain ⟨v, f, e, r1⟩ := RpL.one r
    rw [e, r1.1]
    exact ⟨_, rfl, Post.int s h⟩
  · obtain ⟨v, w, f, g, e, r1, r2⟩ := RpL.two r
    rw [e, r1.1, r2.1]
    exact .inl ⟨_, _, rfl, Post.int s h⟩
  · obtain ⟨v, f, e, r1⟩ := RpL.one r
    split at h
    · rename_i n ns e2
      obtain ⟨a, ws, g, e1, q1, r2, _⟩ := Rp.readL s r1
      rw [asInts_eq e2] at r2
      rw [RpL.ints r2] at q1
      refine .inr ⟨a, n :: ns, by rw [e, e1], q1, by simp, fun m hm hx => ?_⟩
      obtain ⟨h1, h2⟩ := maxL_mem (l := n :: ns) (by simp)
      have : m = maxL (n :: ns) := Int.le_antisymm (h2 m hm) (hx _ h1)
      rw [this]
      exact Post.int s h
    · exact h.elim
  · obtain ⟨v, w, f, g, e, r1, r2⟩ := RpL.two r
    rw [e, r1.1, r2.1]
    exact .inl ⟨_, _, rfl, Post.int s h⟩
  · obtain ⟨v, f, e, r1⟩ := RpL.one r
    split at h
    · rename_i n ns e2
      obtain ⟨a, ws, g, e1, q1, r2, _⟩ := Rp.readL s r1
      rw [asInts_eq e2] at r2
      rw [RpL.ints r2] at q1
      refine .inr ⟨a, n :: ns, by rw [e, e1], q1, by simp, fun m hm hx => ?_⟩
      obtain ⟨h1, h2⟩ := minL_mem (l := n :: ns) (by simp)
      have : m = minL (n :: ns) := Int.le_antisymm (hx _ h1) (h2 m hm)
      rw [this]
      exact Post.int s h
    · exact h.elim
  · obtain ⟨v, f, e, r1⟩ := RpL.one r
    split at h
    · rename_i ns e2
      obtain ⟨a, ws, g, e1, q1, r2, _⟩ := Rp.readL s r1
      rw [asInts_eq e2] at r2
      rw [RpL.ints r2] at q1
      exact ⟨a, ns, by rw [e, e1], q1, Post.int s h⟩
    · exact h.elim
  · obtain ⟨v, f, e, r1⟩ := RpL.one r
    split at h
    · rename_i ns e2
      obtain ⟨a, ws, g, e1, q1, r2, _⟩ := Rp.readL s r1
      rw [asBls_eq e2] at r2
      rw [RpL.bls r2] at q1
      exact ⟨a, ns, by rw [e, e1], q1, Post.bl s h⟩
    · exact h.elim
  · obtain ⟨v, f, e, r1⟩ := RpL.one r
    split at h
    · rename_i ns e2
      obtain ⟨a, ws, g, e1, q1, r2, _⟩ := Rp.readL s r1
      rw [asBls_eq e2] at r2
      rw [RpL.bls r2] at q1
      exact ⟨a, ns, by rw [e, e1], q1, Post.bl s h⟩
    · exact h.elim
  · obtain ⟨v, f, e, r1⟩ := RpL.one r
    split at h
    · rename_i c
      obtain ⟨a, ws, g, e1, q1, r2, _⟩ := Rp.readL s r1
      have n := RpL.fro _ _ _ c r2
      rw [n] at r2
      exact ⟨a, ws, by rw [e, e1], .inl q1, Post.lst s h r2⟩
    · exact h.elim
  · obtain ⟨v, f, e, r1⟩ := RpL.one r
    split at h
    · rename_i c
      obtain ⟨a, ws, e1, q1, r2⟩ := Rp.readT s r1
      have n := RpL.fro _ _ _ c r2
      rw [n] at r2
      exact ⟨a, ws, by rw [e, e1], .inr q1, Post.lst s h r2⟩
    · exact h.elim
  · obtain ⟨v, f, e, r1⟩ := RpL.one r
    split at h
    · rename_i c
      obtain ⟨a, ws, g, e1, q1, r2, _⟩ := Rp.readL s r1
      have n := RpL.fro _ _ _ c r2
      rw [n] at r2
      exact ⟨a, ws, by rw [e, e1], .inl ⟨q1, Post.tup s h r2⟩⟩
    · exact h.elim
  · obtain ⟨v, f, e, r1⟩ := RpL.one r
    split at h
    · rename_i c
      obtain ⟨a, ws, e1, q1, r2⟩ := Rp.readT s r1
      have n := Rp.fro (.tup _) _ _ c r1
      rw [n] at r1
      refine ⟨a, ws, by rw [e, e1], .inr ⟨q1, ?_⟩⟩
      rw [← e1]
      exact Post.same s h r1
    · exact h.elim
  · obtain ⟨v, f, e, r1⟩ := RpL.one r
    split at h
    · rename_i c
      rw [e, r1.1]
      exact ⟨_, rfl, c, Post.str s h⟩
    · exact h.elim
  · exact h.elim
end PV
namespace RT
open PySem PySem.Spec PyProof.Rows
section
variable {prog : Program} {w : World} {A : Around} {E : Value → Shared → Prop} {s : Shared} {R : Result → Shared → Prop}
theorem extend_rev {S it l : Addr} {items : Array Value} {c₀ : Nat} (res : Value) (hh : A.in1.handled = none) (hit : s.heap.IsRevIter it l ((items.size : Int) - 1)) (hl : s.heap.IsList l items) (hne : l ≠ it) (hSi : S ≠ it) (hSl : S ≠ l)
    (hS : s.heap.get? S = some { cls := .type "list", data := .seq #[] c₀ }) (hn : items.size ≤ sizeLine)
    (hR : ∀ (h' : Heap) (tk : Nat) (acc : Array Value) (c' : Nat), (∀ b o, b ≠ S → b ≠ it → s.heap.get? b = some o → h'.get? b = some o) → h'.get? S = some { cls := .type "list", dict := none, data := .seq acc c', slots := #[] } →
      ItemsOf (fun i v => items[items.size - 1 - i]? = some v) acc items.size → R (.ok (.ret res)) { s with heap := h', toks := tk }) :
    wpAny (model prog w) A.in1 (Builtin.List.listExtendWith (.ref S) (.ref it) res)
      (fun fin s' => match fin with | .done f => R (.ok f) s' | .again c' => c'.quiet = true ∧ codeAny (model prog w) A c' R s') (fun e s' => R (.error e) s') s := by
  have W := (Walks.listRev (prog := prog) (w := w) (A := A.in1) hh it l hne items).toS
  have hSf : S ∉ [it, l] := by simp only [List.mem_cons, List.not_mem_nil, or_false, not_or]; exact ⟨hSi, hSl⟩
  have hT : s.TypeIs (.ref it) "list_reverseiterator" := hit.typeIs
  have h1 : Builtin.List.listSameRef (.ref S) (.ref it) = false := by simp [Builtin.List.listSameRef, hSi]
  unfold Builtin.List.listExtendWith
  refine wpAny_bind (wpAny_typeOf hT ?_)
  rw [if_neg (by rw [h1]; decide)]
  refine wpAny_bind (wpAny_pyIter_revIter hit ?_)
  refine wpAny_bind (wpAny_holding ?_)
  unfold Builtin.List.listLengthHint
  refine wpAny_bind (wpAny_specialOf hT nolen_lri ?_)
  show wpAny _ A.in1 (specialOf (Value.ref it) (Str.ofString "__length_hint__") >>= _) _ _ _
  refine wpAny_bind (wpAny_specialOf hT hint_lri ?_)
  generalize hid : ("list_reverseiterator.__length_hint__" : String) = id0
  wp_delta
  rw [show splitId id0 = some ("list_reverseiterator", "__length_hint__") from by subst hid; decide +kernel]
  subst hid
  refine wpAny_bind (wpAny_isInstance (b := true) hT (by rw [isSubtype_type]; kernel_rfl) ?_)
  refine wpAny_pure ?_
  rw [if_neg (by decide)]
  have e0 : ((items.size : Nat) : Int) - 1 - ((0 : Nat) : Int) = (items.size : Int) - 1 := by omega
  refine wpAny_pure ⟨plainId_quiet F.plain_extend_loop _, codeAny_extend_loopS W hn _ hSf _ items.size 0 _ _ _ rfl (Nat.zero_le _) ⟨Nat.zero_le _, by rw [e0]; exact hit, hl⟩ hS (ItemsOf.nil _) fun s' acc' c' hm hS' hacc => ?_⟩
  have e := Moved.eq_with hm
  rw [e]
  refine hR s'.heap s'.toks acc' c' (fun b o hb hb2 e => hm.heap b o (fun hmem => ?_) e) hS' hacc
  rcases List.mem_cons.mp hmem with e' | hmem
  · exact hb e'
  · exact hb2 (List.mem_singleton.mp hmem)
theorem call_list_rev {it l : Addr} {items : Array Value} {Q : Value → Shared → Prop} (hh : A.handled = none) (hit : s.heap.IsRevIter it l ((items.size : Int) - 1)) (hl : s.heap.IsList l items) (hne : l ≠ it) (hn : items.size ≤ sizeLine)
    (hQ : ∀ (h' : Heap) (tk : Nat) (acc : Array Value) (c' : Nat), (∀ b o, b ≠ it → s.heap.get? b = some o → h'.get? b = some o) → h'.get? s.heap.objs.size = some { cls := .type "list", dict := none, data := .seq acc c', slots := #[] } →
      ItemsOf (fun i v => items[items.size - 1 - i]? = some v) acc items.size → Q (.ref s.heap.objs.size) { s with heap := h', toks := tk }) :
    wpAny (model prog w) A (call (.type "list") [.ref it]) Q E s := by
  obtain ⟨oi, hoi, _⟩ := id hit
  obtain ⟨ol, hol, _⟩ := id hl
  have hSi : s.heap.objs.size ≠ it := Nat.ne_of_gt (Heap.lt_size hoi)
  have hSl : s.heap.objs.size ≠ l := Nat.ne_of_gt (Heap.lt_size hol)
  refine callType_codes (Q₁ := fun obj s₁ => obj = .ref s.heap.objs.size ∧ s₁ = { s with heap := s.heap.push { cls := .type "list", data := .seq #[] } }) F.called_list (F.typeCall_list_1 _) F.entry_list_init
    (code_list_new _ ⟨rfl, rfl⟩) fun obj s₁ h₁ => ?_
  obtain ⟨rfl, rfl⟩ := h₁
  have hS : (s.heap.push { cls := .type "list", data := .seq #[] }).get? s.heap.objs.size = some { cls := .type "list", data := .seq #[] } := Heap.get?_push_size _ rfl
  refine ⟨⟨_, hS, rfl⟩, F.args_list_init_2 _ _, ?_⟩
  show wpAny _ A.in1.in1 (do let old ← Builtin.List.listItems (.ref s.heap.objs.size); Builtin.List.listUpdate (.ref s.heap.objs.size) (fun _ => #[]); letGo old.toList.reverse; Builtin.List.listExtendWith (.ref s.heap.objs.size) (.ref it) .none) _ _ _
  refine wpAny_bind ?_
  unfold Builtin.List.listItems
  refine wpAny_bind (wpAny_seqItems hS rfl (wpAny_pure ?_))
  show wpAny _ A.in1.in1 (updateSeq s.heap.objs.size (fun _ => #[]) >>= fun _ => letGo (#[] : Array Value).toList.reverse >>= fun _ => Builtin.List.listExtendWith (.ref s.heap.objs.size) (.ref it) .none) _ _ _
  refine wpAny_bind (wpAny_updateSeq hS rfl ?_)
  have hS₂ := Heap.get?_update_self (Obj.mapSeq (fun _ => (#[] : Array Value))) hS rfl
  have oth : ∀ b o, b ≠ s.heap.objs.size → s.heap.get? b = some o → ((s.heap.push { cls := .type "list", data := .seq #[] }).update s.heap.objs.size (Obj.mapSeq (fun _ => (#[] : Array Value)))).get? b = some o :=
    fun b o hb e => (Heap.get?_update_other _ _ (Ne.symm hb)).trans (Heap.get?_push_of_some _ e)
  refine wpAny_bind (wpAny_letGo ?_)
  refine extend_rev (A := A.in1) (l := l) (items := items) .none hh (hit.at fun o e => oth _ _ (Ne.symm hSi) e) ?_ hne hSi hSl hS₂ hn fun h' tk acc c' hk hS' hacc => ⟨rfl, ?_⟩
  · obtain ⟨o, ho, hc, n, hd⟩ := hl
    exact ⟨o, oth _ _ (Ne.symm hSl) ho, hc, n, hd⟩
  · exact hQ h' tk acc c' (fun b o hb e => hk b o (Nat.ne_of_lt (Heap.lt_size e)) hb (oth b o (Nat.ne_of_lt (Heap.lt_size e)) e)) hS' hacc
end
end RT
namespace PV
open PySem L2 PyProof.Rows
/-- list(reversed(x)), x a list: a new list -/
def tLstRev (K : PySem.W.Frag) (te : TE) : TE := fun σ H Q => te σ H fun v H1 => ∃ (a : Addr) (xs : List V), v = .ref a ∧ SqL K H1 a xs ∧ ∀ q, H1 q = none → Q (.ref q) (upd H1 q (.lst xs.reverse))
theorem pe_lstRev {X : Cx} {e : Expr} {te : TE} {p p2 pos pos2 : Pos} (hc : X.calm = true) (hg : Gl X "list") (hm : X.mg "list" = none) (hg2 : Gl X "reversed") (hm2 : X.mg "reversed" = none) (he : PE X e te)
    (hs : starEach [e] X.env = (false, eval e X.env) :: starEach [] X.env := by rfl)
    (hs2 : starEach [.Call (.Name "reversed" p2) [e] [] pos2] X.env = (false, eval (.Call (.Name "reversed" p2) [e] [] pos2) X.env) :: starEach [] X.env := by rfl) :
    PE X (.Call (.Name "list" p) [.Call (.Name "reversed" p2) [e] [] pos2] [] pos) (tLstRev X.K te) := by
  refine ⟨fun pins s σ H Q I h => ?_⟩
  refine Call_ (ld_blt I hg hm boot_list (PyProof.Rows.callWith_type1 (args_cons (Call_ (ld_blt I hg2 hm2 PyProof.Rows.boot_reversed (PyProof.Rows.callWith_type1 (args_cons (thn (he.run pins s σ H _ I h) fun u s1 ⟨v, H1, I1, r1, q1⟩ => args_nil ?_) hs) hs rfl))) hs2) hs2 rfl))
  obtain ⟨a, xs, ev, hq, q⟩ := q1
  subst ev
  obtain rfl : u = Value.ref a := r1
  obtain ⟨its, rv, p', hz⟩ := I1.list hq
  refine call_reversed_list p'.isList (args_nil ?_)
  have k0 : ∀ b o, s1.heap.get? b = some o → (s1.heap.push (revObj a ((its.toArray.size : Int) - 1))).get? b = some o := fun b o e => Heap.get?_push_of_some _ e
  have I2 : Inv X pins σ H1 { s1 with heap := s1.heap.push (revObj a ((its.toArray.size : Int) - 1)) } := I1.kept (t' := s1.toks) k0
  obtain ⟨f0, f1, f2, f3, f4, f5⟩ := I1.fpOk (H' := H1) (b := s1.heap.objs.size) (Nat.le_refl _) (I1.hok.fresh (Nat.le_refl _))
  have hl := p'.isList
  obtain ⟨ol, hol, _⟩ := id hl
  have hne : a ≠ s1.heap.objs.size := Nat.ne_of_lt (Heap.lt_size hol)
  have hn : its.toArray.size ≤ sizeLine := by rw [List.size_toArray, ← rv.length]; exact hz
  refine RT.call_list_rev (s := { s1 with heap := s1.heap.push (revObj a ((its.toArray.size : Int) - 1)) }) (I1.ok.hd hc) ⟨_, Heap.get?_push_size _ rfl, rfl, rfl⟩ (hl.push _) hne hn fun h' tk acc c' hk hS' hi => ?_
  have I3 : Inv X pins σ (upd H1 (s1.heap.push (revObj a ((its.toArray.size : Int) - 1))).objs.size (.lst xs.reverse)) { s1 with heap := h', toks := tk } := by
    refine I2.turnedNew (t' := tk) (ch := [s1.heap.objs.size]) (fun b o hb e => hk b o (fun z => hb (by rw [z]; exact List.mem_singleton.mpr rfl)) e) (fun b hb => ?_) (Nat.le_refl _)
      (show ObjOk X.prog X.w _ _ _ (.lst xs.reverse) from ⟨by rw [List.length_reverse]; exact hz, acc.toList, c', RT.vals_rev rv hi, ?_⟩)
    · have e : b = s1.heap.objs.size := List.mem_singleton.mp hb
      subst e
      exact ⟨f0, f1, f2, f3, f4, f5⟩
    · rw [Array.toArray_toList]; exact hS'
  exact ⟨.ref _, _, I3, rfl, q _ (I2.hok.fresh (Nat.le_refl _))⟩
end PV
namespace PV
open PySem L2 PyProof.Rows

/-! ### the small tongue -/
inductive Tg where
  | nm (i : Nat) | tp (l : List Tg)
inductive IK where
  | seq | rng1 | rng2 | enm | zip
  deriving DecidableEq
inductive Ty | list | tuple | int | bool | str
  deriving DecidableEq
inductive M0 | bitLength
  deriving DecidableEq
inductive M1 | join
  deriving DecidableEq
mutual
inductive CE where
  | int (i : Int) | bl (b : Bool) | non | str (s : Str)
  | cst (x : Str) (t : T)
  | var (i : Nat)
  | bin (op : Operator) (a b : CE)
  | neg (a : CE) | notv (a : CE) | andv (es : List CE) | orv (es : List CE)
  | cmp (op : CmpOp) (a b : CE)
  | chn (op op' : CmpOp) (a b c : CE)
  | ite (c : CB) (a b : CE)
  | tup (es : List CE) | lst (es : List CE)
  | sub (a i : CE)
  | sl (a : CE) (lo hi : Option CE)
  | call (f : Nat) (es : List CE)
  | callv (f : Nat) (es : List CE)
  | call0 (f : Nat)
  | rev (e : CE)
  | blt (b : Blt) (es : List CE)
  | gcd (a b : CE)
  | isi (a : CE) (ty : Ty)
  | m0 (m : M0) (o : CE)
  | m1 (m : M1) (o e : CE)
  | comp (elt : CE) (g : Tg) (k : IK) (es : List CE) (c : Option CB) (own : List (Str × Nat))
inductive CB where
  | tru (e : CE) | val (e : CE) | not (b : CB) | and (bs : List CB) | or (bs : List CB)
end

abbrev En := List (Option T)
def truT : T → R Bool
  | .non => .ok false
  | .bl b => .ok b
  | .int i => .ok (i != 0)
  | .str y => if y.length ≤ sizeLine then .ok ((y.length : Int) != 0) else .stuck
  | .tup l => .ok (!l.isEmpty)
  | .lst _ l => .ok (!l.isEmpty)
def tyIs : Ty → T → Bool
  | .list, .lst _ _ => true
  | .tuple, .tup _ => true
  | .int, .int _ => true
  | .int, .bl _ => true
  | .bool, .bl _ => true
  | .str, .str _ => true
  | _, _ => false
def asB : R T → R Bool
  | .ok (.bl b) => .ok b
  | .exc c => .exc c
  | _ => .stuck
def ofB : R Bool → R T
  | .ok b => .ok (.bl b)
  | .exc c => .exc c
  | .stuck => .stuck
/-- held as it is, unless it looks at what another owns -/
def capT (vw : Bool) (t : T) : R T := if vw && !t.fro then .stuck else .ok t
def CE.vw : CE → Bool
  | .var _ => true | .sub _ _ => true | .cst _ _ => true | _ => false
def m0T : M0 → T → R T
  | .bitLength, .int i => .ok (.int (Builtin.Int.intBits i : Nat))
  | _, _ => .stuck
def m1T : M1 → T → T → R T
  | .join, .str a, .lst _ l => match asStrs l with
    | some ys => if (ys.map (·.length)).sum + ys.length * a.length ≤ 16777216 then .ok (.str (Txt.join a ys)) else .stuck
    | none => .stuck
  | _, _, _ => .stuck
def isStr : T → Bool
  | .str _ => true
  | _ => false
/-- list(reversed(x)) -/
def revT : T → R T
  | .lst _ l => if T.fro.froL l = true then .ok (.lst .own l.reverse) else .stuck
  | _ => .stuck
/-- nothing within that others hold -/
def T.scal : T → Bool
  | .tup _ => false
  | .lst _ _ => false
  | _ => true
def scalR : R T → R T
  | .ok t => if t.scal then .ok t else .stuck
  | r => r
def enumL : Nat → List T → List T
  | _, [] => []
  | i, t :: ts => .tup [.int i, t] :: enumL (i + 1) ts
def zipL : List T → List T → List T
  | a :: as, b :: bs => .tup [a, b] :: zipL as bs
  | _, _ => []
def rngL (lo : Int) (n : Nat) : List T := (List.range n).map fun (i : Nat) => T.int (lo + (i : Int))
/-- what is walked -/
def itT : IK → List T → R (List T)
  | .seq, [.lst _ l] => if T.fro.froL l then .ok l else .stuck
  | .seq, [.tup l] => if T.fro.froL l then .ok l else .stuck
  | .rng1, [.int j] => if j < 2 ^ 62 ∧ -(2 ^ 62) ≤ j then .ok (rngL 0 j.toNat) else .stuck
  | .rng2, [.int i, .int j] => if i < 2 ^ 62 ∧ -(2 ^ 62) ≤ i ∧ j < 2 ^ 62 ∧ -(2 ^ 62) ≤ j then .ok (rngL i (j - i).toNat) else .stuck
  | .enm, [.lst _ l] => if T.fro.froL l then .ok (enumL 0 l) else .stuck
  | .zip, [.lst _ l, .lst _ l'] => if T.fro.froL l && T.fro.froL l' then .ok (zipL l l') else .stuck
  | _, _ => .stuck
mutual
def Tg.ixs : Tg → List Nat
  | .nm i => [i]
  | .tp l => Tg.ixsL l
def Tg.ixsL : List Tg → List Nat
  | [] => []
  | g :: gs => g.ixs ++ Tg.ixsL gs
end
def subIx (g : Tg) (own : List (Str × Nat)) : Bool := g.ixs.all fun i => (own.map (·.2)).contains i
mutual
def bindG : Tg → T → En → Option En
  | .nm i, t, ρ => if i < ρ.length then some (ρ.set i (some t)) else none
  | .tp l, .tup ts, ρ => if l.length = ts.length then bindGs l ts ρ else none
  | .tp _, _, _ => none
def bindGs : List Tg → List T → En → Option En
  | [], _, ρ => some ρ
  | g :: gs, t :: ts, ρ => match bindG g t ρ with
    | some ρ' => bindGs gs ts ρ'
    | none => none
  | _ :: _, [], _ => none
end
def wipeE (ρ : En) : List Nat → En
  | [] => ρ
  | v :: vs => (wipeE ρ vs).set v none
/-- one item of a comprehension after another -/
def consO : Option T → List T → List T
  | some y, r => y :: r
  | none, r => r
def mapR (f : T → R (Option T)) : List T → R (List T)
  | [] => .ok []
  | t :: ts => (f t).bind fun o => (mapR f ts).bind fun r => .ok (consO o r)
abbrev Orc := Nat → List T → R T
/-- inside a comprehension nothing may be raised -/
def R.calm {α : Type} : R α → R α
  | .ok a => .ok a
  | _ => .stuck
mutual
noncomputable def ev (Γ : Orc) : CE → En → R T
  | .int i, _ => .ok (.int i)
  | .bl b, _ => .ok (.bl b)
  | .non, _ => .ok .non
  | .str s, _ => .ok (.str s)
  | .cst _ t, _ => .ok t
  | .var i, ρ => match ρ[i]? with
    | some (some t) => .ok t
    | _ => .stuck
  | .bin op a b, ρ => (ev Γ a ρ).bind fun x => (ev Γ b ρ).bind fun y => binT op x y
  | .neg a, ρ => (ev Γ a ρ).bind fun x => match x with
    | .int i => .ok (.int (-i))
    | _ => .stuck
  | .notv a, ρ => (asB (ev Γ a ρ)).bind fun b => .ok (.bl (!b))
  | .andv es, ρ => evAnd Γ es ρ
  | .orv es, ρ => evOr Γ es ρ
  | .cmp op a b, ρ => (ev Γ a ρ).bind fun x => (ev Γ b ρ).bind fun y => cmpT op x y
  | .chn op op' a b c, ρ => (ev Γ a ρ).bind fun x => (ev Γ b ρ).bind fun y => (asB (cmpT op x y)).bind fun k => if k then (ev Γ c ρ).bind fun z => cmpT op' y z else .ok (.bl false)
  | .ite c a b, ρ => (evB Γ c ρ).bind fun k => if k then (ev Γ a ρ).bind (capT a.vw) else (ev Γ b ρ).bind (capT b.vw)
  | .tup es, ρ => (evs Γ es ρ).bind fun ts => if ts.length ≤ 1000 then .ok (.tup ts) else .stuck
  | .lst es, ρ => (evs Γ es ρ).bind fun ts => if ts.length ≤ 1000 then .ok (.lst .own (T.frz.frzL ts)) else .stuck
  | .sub a i, ρ => (ev Γ a ρ).bind fun x => (ev Γ i ρ).bind fun y => ixT x y
  | .sl a lo hi, ρ => (ev Γ a ρ).bind fun x => (evO Γ lo ρ).bind fun l => (evO Γ hi ρ).bind fun h => slT x l h
  | .call f es, ρ => (evs Γ es ρ).bind fun ts => Γ f (T.frz.frzL ts)
  | .callv f es, ρ => (evsV Γ es ρ).bind fun ts => scalR (Γ f (T.frz.frzL ts))
  | .call0 f, ρ => Γ f []
  | .rev e, ρ => (ev Γ e ρ).bind revT
  | .blt b es, ρ => (evsV Γ es ρ).bind fun ts => bltT b ts
  | .gcd a b, ρ => (ev Γ a ρ).bind fun x => (ev Γ b ρ).bind fun y => match x, y with
    | .int i, .int j => .ok (.int ((Nat.gcd i.natAbs j.natAbs : Nat) : Int))
    | _, _ => .stuck
  | .isi a ty, ρ => (ev Γ a ρ).bind fun x => .ok (.bl (tyIs ty x))
  | .m0 m o, ρ => (ev Γ o ρ).bind fun x => m0T m x
  | .m1 m o e, ρ => (ev Γ o ρ).bind fun x => if isStr x then (ev Γ e ρ).bind fun y => m1T m x y else .stuck
  | .comp elt g k es c own, ρ => (evs Γ es ρ).bind fun ts => (itT k (T.frz.frzL ts)).bind fun l => if l.length ≤ sizeLine ∧ subIx g own = true then
      (mapR (fun t => match bindG g t (wipeE ρ (own.map (·.2))) with
        | some ρ' => ((evC Γ c ρ').calm).bind fun b => if b then (((ev Γ elt ρ').bind (capT elt.vw)).calm).bind fun y => .ok (some y.frz) else .ok none
        | none => .stuck) l).bind fun ys => .ok (.lst .own ys)
    else .stuck
noncomputable def evB (Γ : Orc) : CB → En → R Bool
  | .tru e, ρ => (ev Γ e ρ).bind truT
  | .val e, ρ => asB (ev Γ e ρ)
  | .not b, ρ => (evB Γ b ρ).bind fun k => .ok (!k)
  | .and bs, ρ => evBAnd Γ bs ρ
  | .or bs, ρ => evBOr Γ bs ρ
noncomputable def evBAnd (Γ : Orc) : List CB → En → R Bool
  | [], _ => .stuck
  | [b], ρ => evB Γ b ρ
  | b :: b' :: bs, ρ => (evB Γ b ρ).bind fun k => if k then evBAnd Γ (b' :: bs) ρ else .ok false
noncomputable def evBOr (Γ : Orc) : List CB → En → R Bool
  | [], _ => .stuck
  | [b], ρ => evB Γ b ρ
  | b :: b' :: bs, ρ => (evB Γ b ρ).bind fun k => if k then .ok true else evBOr Γ (b' :: bs) ρ
noncomputable def evAnd (Γ : Orc) : List CE → En → R T
  | [], _ => .stuck
  | [b], ρ => ofB (asB (ev Γ b ρ))
  | b :: b' :: bs, ρ => (asB (ev Γ b ρ)).bind fun k => if k then evAnd Γ (b' :: bs) ρ else .ok (.bl false)
noncomputable def evOr (Γ : Orc) : List CE → En → R T
  | [], _ => .stuck
  | [b], ρ => ofB (asB (ev Γ b ρ))
  | b :: b' :: bs, ρ => (asB (ev Γ b ρ)).bind fun k => if k then .ok (.bl true) else evOr Γ (b' :: bs) ρ
/-- held -/
noncomputable def evs (Γ : Orc) : List CE → En → R (List T)
  | [], _ => .ok []
  | e :: es, ρ => ((ev Γ e ρ).bind (capT e.vw)).bind fun t => (evs Γ es ρ).bind fun ts => .ok (t :: ts)
/-- looked at -/
noncomputable def evsV (Γ : Orc) : List CE → En → R (List T)
  | [], _ => .ok []
  | e :: es, ρ => (ev Γ e ρ).bind fun t => (evsV Γ es ρ).bind fun ts => .ok (t :: ts)
noncomputable def evO (Γ : Orc) : Option CE → En → R (Option Int)
  | none, _ => .ok none
  | some e, ρ => (ev Γ e ρ).bind fun t => match t with
    | .int i => .ok (some i)
    | _ => .stuck
noncomputable def evC (Γ : Orc) : Option CB → En → R Bool
  | none, _ => .ok true
  | some b, ρ => evB Γ b ρ
end
end PV
namespace PV
open PySem L2 PyProof.Rows

/-! ### readings -/
structure Mt where
  K : Fr
  mg : Str → Option Value
  cs : Str → T → Prop
  cv : Str → V
  np : Nat → Nat
  Γ : Orc
  W : L2.St → XW
def Mt.calm (M : Mt) : Mt := { M with W := fun _ _ _ => False }
def WXof (M : Mt) : WX := fun cls d σ H => ∃ c C, M.mg c = some (.ref C) ∧ cls = .ref C ∧ d = none ∧ M.W σ c H
/-- what a def of the table promises: the answer of the oracle -/
def spD (K : Fr) (mg : Str → Option Value) (np : Nat → Nat) (Γ : Orc) (f : Nat) : Sp := fun vs H Q E =>
  ∃ F ts, vs.length = np f ∧ Same F H ∧ RpL K F H ts vs [] ∧ Post K F H (fun c H' => ∀ C, mg c = some (.ref C) → E (.ref C) none H') (Γ f ts) Q
def Ty.name : Ty → String
  | .list => "list" | .tuple => "tuple" | .int => "int" | .bool => "bool" | .str => "str"
def rJoin (K : Fr) : V → List V → Hp → VK → Prop := fun x xs H Q => ∃ a p, ∃ ys : List Str, x = .str a ∧ xs = [.ref p] ∧ (SqL K H p (ys.map V.str) ∨ SqT K H p (ys.map V.str)) ∧
      (ys.map (·.length)).sum + ys.length * a.length ≤ 16777216 ∧ Q (.str (Txt.join a ys)) H
/-- what is walked, by the arguments' values -/
def itP (K : Fr) : IK → List V → Hp → (It → Hp → Prop) → Prop
  | .seq, vs, H1, R => match vs with
    | [x] => ∃ a, x = .ref a ∧ (((∃ xs, SqL K H1 a xs) ∧ R (Itl K a) H1) ∨ ((∃ xs, SqT K H1 a xs) ∧ R (Itt K a) H1))
    | _ => False
  | .rng1, vs, H1, R => ∃ j : Int, vs = [.int j] ∧ -(2 ^ 62) ≤ j ∧ j < 2 ^ 62 ∧ R (Itr 0 j.toNat) H1
  | .rng2, vs, H1, R => ∃ i j : Int, vs = [.int i, .int j] ∧ (-(2 ^ 62) ≤ i ∧ i < 2 ^ 62 ∧ -(2 ^ 62) ≤ j ∧ j < 2 ^ 62) ∧ R (Itr i (j - i).toNat) H1
  | .enm, vs, H1, R => ∃ a xs, vs = [.ref a] ∧ SqL K H1 a xs ∧ R (Ite K a) H1
  | .zip, vs, H1, R => ∃ a b xs ys, vs = [.ref a, .ref b] ∧ SqL K H1 a xs ∧ SqL K H1 b ys ∧ R (Itz K a b) H1
def rM0 (K : Fr) : M0 → V → Hp → VK → Prop
  | .bitLength, x, H, Q => ∃ i, x = .int i ∧ Q (.int (Builtin.Int.intBits i : Nat)) H
def rM1 (K : Fr) : M1 → V → List V → Hp → VK → Prop
  | .join => rJoin K
mutual
def rdG (K : Fr) : Tg → TG
  | .nm i => gName i
  | .tp l => gTup K l.length (rdGs K l)
def rdGs (K : Fr) : List Tg → TGs
  | [] => gNil
  | g :: gs => gCons (rdG K g) (rdGs K gs)
end
def tNo : TE := fun _ _ _ => False
mutual
def rd : CE → Mt → TE
  | .int i, _ => tC (.int i)
  | .bl b, _ => tC (.bl b)
  | .non, _ => tC .non
  | .str s, _ => tC (.str s)
  | .cst x t, M => fun _ H Q => M.cs x t → Q (M.cv x) H
  | .var i, _ => tVar i
  | .bin op a b, M => tOp (rBin M.K op) (rd a M) (rd b M)
  | .neg a, M => tUn (rU fun i => .int (-i)) (rd a M)
  | .notv a, M => tNotV (rd a M)
  | .andv es, M => rdAnd es M
  | .orv es, M => rdOr es M
  | .cmp op a b, M => tOp (rCmp M.K op) (rd a M) (rd b M)
  | .chn op op' a b c, M => tChain (rCmp M.K op) (rCmp M.K op') (rd a M) (rd b M) (rd c M)
  | .ite c a b, M => tIf (rdB c M) (rd a M) (rd b M)
  | .tup es, M => tTup (rds es M)
  | .lst es, M => tLst (rds es M)
  | .sub a i, M => tOp (rIx M.K) (rd a M) (rd i M)
  | .sl a lo hi, M => tSl (rSl M.K) (rd a M) (rdO lo M) (rdO hi M)
  | .call f es, M => tCallS (spD M.K M.mg M.np M.Γ f) (WE (WXof M)) (rds es M)
  | .callv f es, M => tCallS (spD M.K M.mg M.np M.Γ f) (WE (WXof M)) (rds es M)
  | .call0 f, M => tCallS (spD M.K M.mg M.np M.Γ f) (WE (WXof M)) tNil
  | .rev e, M => tLstRev M.K (rd e M)
  | .blt b es, M => tCB (rBlt M.K b) (rds es M)
  | .gcd a b, M => tCB rGcd (tCons (rd a M) (tCons (rd b M) tNil))
  | .isi a ty, M => tCB (rIsi M.K) (tCons (rd a M) (tCons (tC (.ty ty.name)) tNil))
  | .m0 m o, M => fun σ H Q => rd o M σ H fun x H1 => rM0 M.K m x H1 Q
  | .m1 m o e, M => tM1 (rM1 M.K m) (rd o M) (rd e M)
  | .comp elt g k es c own, M => tLc (fun σ H R => rds es M σ H fun vs H1 => itP M.K k vs H1 R) (rdG M.K g) (rdC c M.calm) (rd elt M.calm) (own.map (·.2))
def rdB : CB → Mt → TT
  | .tru e, M => fun σ H Q => rd e M σ H fun x H' => ∃ k, TruV M.K x H' k ∧ Q k H'
  | .val e, M => tB (rd e M)
  | .not b, M => tNot (rdB b M)
  | .and bs, M => rdBAnd bs M
  | .or bs, M => rdBOr bs M
def rdBAnd : List CB → Mt → TT
  | [], _ => fun _ _ _ => False
  | [b], M => rdB b M
  | b :: b' :: bs, M => tAnd (rdB b M) (rdBAnd (b' :: bs) M)
def rdBOr : List CB → Mt → TT
  | [], _ => fun _ _ _ => False
  | [b], M => rdB b M
  | b :: b' :: bs, M => tOr (rdB b M) (rdBOr (b' :: bs) M)
def rdAnd : List CE → Mt → TE
  | [], _ => tNo
  | [b], M => rd b M
  | b :: b' :: bs, M => tAndV (rd b M) (rdAnd (b' :: bs) M)
def rdOr : List CE → Mt → TE
  | [], _ => tNo
  | [b], M => rd b M
  | b :: b' :: bs, M => tOrV (rd b M) (rdOr (b' :: bs) M)
def rds : List CE → Mt → TA
  | [], _ => tNil
  | e :: es, M => tCons (rd e M) (rds es M)
def rdO : Option CE → Mt → TO
  | none, _ => tNoPart
  | some e, M => tPart (rd e M)
def rdC : Option CB → Mt → TT
  | none, _ => tYes
  | some b, M => rdB b M
end
/-- the iterators of a walk, by the arguments' readings -/
def rdI (k : IK) (es : List CE) (M : Mt) : TI := fun σ H R => rds es M σ H fun vs H1 => itP M.K k vs H1 R

/-! ### the state of the names -/
def EnvOk (K : Fr) (F H : Hp) (σ : L2.St) (ρ : En) : Prop := σ.length = ρ.length ∧ ∀ (i : Nat) (t : T), ρ[i]? = some (some t) → ∃ v fp, σ[i]? = some (some v) ∧ Rp K F H t v fp
theorem EnvOk.ext {K : Fr} {F H F' H' : Hp} {σ : L2.St} {ρ : En} (e : Ext F H F' H') (h : EnvOk K F H σ ρ) : EnvOk K F' H' σ ρ :=
  ⟨h.1, fun i t q => by
    obtain ⟨v, fp, a, b⟩ := h.2 i t q
    exact ⟨v, fp, a, Rp.ext e b⟩⟩
structure MtOk (M : Mt) : Prop where
  cst : ∀ x t, M.cs x t → Rp M.K (fun _ => none) (fun _ => none) t (M.cv x) []
  np : ∀ f ts, M.Γ f ts ≠ .stuck → ts.length = M.np f
theorem MtOk.calm {M : Mt} (h : MtOk M) : MtOk M.calm := ⟨h.cst, h.np⟩
theorem Rp.none {K : Fr} {F H : Hp} {t : T} {v : V} (h : Rp K (fun _ => none) (fun _ => none) t v []) : Rp K F H t v [] :=
  Rp.mono (fun _ _ z => by cases z) t v [] (fun _ z => by cases z) h

/-! ### post-conditions of other kinds of answers -/
def PostB (F H : Hp) (W : XW) : R Bool → (Bool → Hp → Prop) → Prop
  | .ok b, Q => ∀ F' H', Ext F H F' H' → Q b H'
  | .exc c, _ => ∀ F' H', Ext F H F' H' → W c H'
  | .stuck, _ => False
def PostO (F H : Hp) (W : XW) : R (Option Int) → (Option Int → Hp → Prop) → Prop
  | .ok b, Q => ∀ F' H', Ext F H F' H' → Q b H'
  | .exc c, _ => ∀ F' H', Ext F H F' H' → W c H'
  | .stuck, _ => False
def PostL (K : Fr) (F H : Hp) (W : XW) : R (List T) → (List V → Hp → Prop) → Prop
  | .ok ts, Q => ∀ vs F' H' fp, Ext F H F' H' → RpL K F' H' ts vs fp → Frsh H F' fp → Q vs H'
  | .exc c, _ => ∀ F' H', Ext F H F' H' → W c H'
  | .stuck, _ => False
def PostLV (K : Fr) (F H : Hp) (W : XW) : R (List T) → (List V → Hp → Prop) → Prop
  | .ok ts, Q => ∀ vs F' H' fp, Ext F H F' H' → RpL K F' H' ts vs fp → Q vs H'
  | .exc c, _ => ∀ F' H', Ext F H F' H' → W c H'
  | .stuck, _ => False
def PostX (b : Bool) (K : Fr) (F H : Hp) (W : XW) (r : R T) (Q : VK) : Prop := if b then PostV K F H W r Q else Post K F H W r Q
theorem PostX.of {b : Bool} {K : Fr} {F H : Hp} {W : XW} {r : R T} {Q : VK} (h : PostV K F H W r Q) : PostX b K F H W r Q := by
  cases b with
  | true => exact h
  | false => exact h.post
/-- the binds -/
theorem PostX.bind {b : Bool} {K : Fr} {F H : Hp} {W : XW} {r : R T} {f : T → R T} {Q Q1 : VK} (h : PostX b K F H W (r.bind f) Q)
    (k : ∀ t, r = .ok t → PostX b K F H W (f t) Q → ∀ v F' H' fp, Ext F H F' H' → Rp K F' H' t v fp → Q1 v H') : PostV K F H W r Q1 := by
  cases r with
  | ok t => exact k t rfl h
  | exc c => cases b <;> exact h
  | stuck => cases b <;> exact h.elim
theorem Post.bind {K : Fr} {F H : Hp} {W : XW} {r : R T} {f : T → R T} {Q Q1 : VK} (h : Post K F H W (r.bind f) Q)
    (k : ∀ t, r = .ok t → Post K F H W (f t) Q → ∀ v F' H' fp, Ext F H F' H' → Rp K F' H' t v fp → Q1 v H') : PostV K F H W r Q1 := by
  cases r with
  | ok t => exact k t rfl h
  | exc c => exact h
  | stuck => exact h.elim
theorem PostV.bind {K : Fr} {F H : Hp} {W : XW} {r : R T} {f : T → R T} {Q Q1 : VK} (h : PostV K F H W (r.bind f) Q)
    (k : ∀ t, r = .ok t → PostV K F H W (f t) Q → ∀ v F' H' fp, Ext F H F' H' → Rp K F' H' t v fp → Q1 v H') : PostV K F H W r Q1 := by
  cases r with
  | ok t => exact k t rfl h
  | exc c => exact h
  | stuck => exact h.elim
theorem PostB.bindV {F H : Hp} {K : Fr} {W : XW} {r : R T} {f : T → R Bool} {Q : Bool → Hp → Prop} {Q1 : VK} (h : PostB F H W (r.bind f) Q)
    (k : ∀ t, r = .ok t → PostB F H W (f t) Q → ∀ v F' H' fp, Ext F H F' H' → Rp K F' H' t v fp → Q1 v H') : PostV K F H W r Q1 := by
  cases r with
  | ok t => exact k t rfl h
  | exc c => exact h
  | stuck => exact h.elim
theorem PostB.ext {F H F1 H1 : Hp} {W : XW} {r : R Bool} {Q : Bool → Hp → Prop} (e : Ext F H F1 H1) (h : PostB F H W r Q) : PostB F1 H1 W r Q := by
  cases r with
  | ok t => exact fun F' H' e' => h F' H' (e.trans e')
  | exc c => exact fun F' H' e' => h F' H' (e.trans e')
  | stuck => exact h
theorem PostX.ext {b : Bool} {K : Fr} {F H F1 H1 : Hp} {W : XW} {r : R T} {Q : VK} (e : Ext F H F1 H1) (h : PostX b K F H W r Q) : PostX b K F1 H1 W r Q := by
  cases b with
  | true => exact PostV.ext e h
  | false => exact Post.ext e h
/-- captured -/
theorem Post.cap {K : Fr} {F H : Hp} {W : XW} {b : Bool} {r : R T} {Q : VK} (h : Post K F H W (r.bind (capT b)) Q) : PostX b K F H W r Q := by
  cases r with
  | exc c => cases b <;> exact h
  | stuck => cases b <;> exact h.elim
  | ok t =>
    cases b with
    | false => exact h
    | true =>
      have h : Post K F H W (if true && !t.fro then .stuck else .ok t) Q := h
      intro v F' H' fp e r
      cases f : t.fro with
      | false => rw [f] at h; exact h.elim
      | true =>
        rw [f] at h
        have n := Rp.fro t v fp f r
        subst n
        exact h v F' H' [] e r Frsh.nil

theorem truOk {K : Fr} {F H : Hp} {t : T} {v : V} {fp : List Addr} {b : Bool} (s : Same F H) (r : Rp K F H t v fp) (h : truT t = .ok b) : TruV K v H b := by
  cases t with
  | non => rw [r.1]; cases h; rfl
  | bl x => rw [r.1]; cases h; rfl
  | int x => rw [r.1]; cases h; rfl
  | str x =>
    rw [r.1]
    have h : (if x.length ≤ sizeLine then R.ok ((x.length : Int) != 0) else .stuck) = .ok b := h
    split at h
    · rename_i c
      cases h
      exact ⟨c, rfl⟩
    · cases h
  | tup l =>
    obtain ⟨a, vs, e, q, r⟩ := Rp.readT s r
    rw [e]
    cases h
    refine .inr (.inl ⟨vs, q, ?_⟩)
    have := RpL.length r
    cases l <;> cases vs <;> simp_all
  | lst k l =>
    obtain ⟨a, vs, f, e, q, r, _⟩ := Rp.readL s r
    rw [e]
    cases h
    refine .inl ⟨vs, q, ?_⟩
    have := RpL.length r
    cases l <;> cases vs <;> simp_all
theorem Rp.asBl {K : Fr} {F H : Hp} {t : T} {v : V} {fp : List Addr} {b : Bool} (r : Rp K F H t v fp) (h : asB (.ok t) = .ok b) : t = .bl b ∧ v = .bl b := by
  cases t <;> cases h
  exact ⟨rfl, r.1⟩
def tyB (n : String) : Ty → Bool
  | .list => n == "list" | .tuple => n == "tuple" | .int => n == "int" || n == "bool" | .bool => n == "bool" | .str => n == "str"
theorem kb_non (ty : Ty) : kitB "NoneType" ty.name = some (tyB "NoneType" ty) := by cases ty <;> decide +kernel
theorem kb_bool (ty : Ty) : kitB "bool" ty.name = some (tyB "bool" ty) := by cases ty <;> decide +kernel
theorem kb_int (ty : Ty) : kitB "int" ty.name = some (tyB "int" ty) := by cases ty <;> decide +kernel
theorem kb_str (ty : Ty) : kitB "str" ty.name = some (tyB "str" ty) := by cases ty <;> decide +kernel
theorem kb_tup (ty : Ty) : kitB "tuple" ty.name = some (tyB "tuple" ty) := by cases ty <;> decide +kernel
theorem kb_lst (ty : Ty) : kitB "list" ty.name = some (tyB "list" ty) := by cases ty <;> decide +kernel
theorem Rp.ty {K : Fr} {F H : Hp} {t : T} {v : V} {fp : List Addr} (s : Same F H) (ty : Ty) (r : Rp K F H t v fp) : ∃ tv, TyX K H v (.type tv) ∧ PySem.W.kitOne K (.type tv) (.type ty.name) = some (tyIs ty t) := by
  cases t with
  | non => exact ⟨"NoneType", by rw [r.1]; exact .base .non, by cases ty <;> exact kit_ty (kb_non _)⟩
  | bl x => exact ⟨"bool", by rw [r.1]; exact .base (.bl x), by cases ty <;> exact kit_ty (kb_bool _)⟩
  | int x => exact ⟨"int", by rw [r.1]; exact .base (.int x), by cases ty <;> exact kit_ty (kb_int _)⟩
  | str x => exact ⟨"str", by rw [r.1]; exact .base (.str x), by cases ty <;> exact kit_ty (kb_str _)⟩
  | tup l =>
    obtain ⟨a, vs, e, q, r⟩ := Rp.readT s r
    refine ⟨"tuple", ?_, by cases ty <;> exact kit_ty (kb_tup _)⟩
    rw [e]
    rcases q with (q | ⟨o, q⟩) | ⟨o, its, n, q, c, _⟩
    · exact .base (.tup q)
    · exact .fTuple q
    · exact .kTuple q c
  | lst k l =>
    obtain ⟨a, vs, f, e, q, r, _⟩ := Rp.readL s r
    refine ⟨"list", ?_, by cases ty <;> exact kit_ty (kb_lst _)⟩
    rw [e]
    rcases q with (q | ⟨o, q⟩) | ⟨o, its, n, q, c, _⟩
    · exact .base (.lst q)
    · exact .base (.frz q)
    · exact .kList q c
end PV
namespace PV
open PySem L2 PyProof.Rows

/-! ### walks -/
/-- J yields these things, whatever becomes of what is not frozen -/
def YI (K : Fr) (F : Hp) (J : It) (l : List T) : Prop := ∀ (i : Nat) (F' H' : Hp), Same F F' → Same F' H' →
  (∀ t, l[i]? = some t → J.go i H' ∧ ∀ x H'', J.yld i H' x H'' → ∃ F'', Ext F' H' F'' H'' ∧ Rp K F'' H'' t x []) ∧ (l.length ≤ i → J.stop i H')
theorem RpL.get0 {K : Fr} {F H : Hp} {ts : List T} {vs : List V} {j : Nat} {t : T} (r : RpL K F H ts vs []) (e : ts[j]? = some t) : ∃ v, vs[j]? = some v ∧ Rp K F H t v [] := by
  induction ts generalizing vs j with
  | nil => simp at e
  | cons a ts ih =>
    obtain ⟨v, vs', f1, f2, e1, e2, h1, h2⟩ := r
    obtain ⟨x, y⟩ := List.append_eq_nil_iff.mp e2.symm
    subst x y e1
    cases j with
    | zero =>
      have e' : a = t := by simpa using e
      subst e'
      exact ⟨v, by simp, h1⟩
    | succ j =>
      obtain ⟨w, q1, q2⟩ := ih (j := j) h2 (by simpa using e)
      exact ⟨w, by simpa using q1, q2⟩
theorem RpL.mono0 {K : Fr} {F F' H H' : Hp} {ts : List T} {vs : List V} (s : Same F F') (r : RpL K F H ts vs []) : RpL K F' H' ts vs [] :=
  RpL.mono s ts vs [] (fun _ z => nomatch z) r
theorem Rp.mono0 {K : Fr} {F F' H H' : Hp} {t : T} {v : V} (s : Same F F') (r : Rp K F H t v []) : Rp K F' H' t v [] :=
  Rp.mono s t v [] (fun _ z => nomatch z) r
/-- a frozen list that is read -/
theorem Rp.frzL {K : Fr} {F H : Hp} {k : LK} {l : List T} {v : V} (f : T.fro.froL l = true) (hk : k ≠ .own) (r : Rp K F H (.lst k l) v []) : ∃ a vs, v = .ref a ∧ SqL K F a vs ∧ RpL K F H l vs [] := by
  cases k with
  | own => exact absurd rfl hk
  | fz =>
    obtain ⟨a, vs, e, e2, q, r⟩ := r
    exact ⟨a, vs, e, .inl (.inl q), r⟩
  | rd =>
    obtain ⟨a, vs, e, e2, q, r⟩ := r
    exact ⟨a, vs, e, q, r⟩
theorem yi_list {K : Fr} {F H : Hp} {a : Addr} {l : List T} {vs : List V} (q : SqL K F a vs) (r : RpL K F H l vs []) : YI K F (Itl K a) l := fun i F' H' s1 s2 =>
  ⟨fun t e => by
    obtain ⟨v, e1, r1⟩ := RpL.get0 r e
    have q' : SqL K H' a vs := Same.sql (s1.trans s2) q
    exact ⟨⟨vs, v, q', e1⟩, fun x H'' y => by
      obtain ⟨e2, y⟩ := y
      subst e2
      have := (y vs q').symm.trans e1
      cases this
      exact ⟨F', Ext.refl s2, Rp.mono0 s1 r1⟩⟩,
   fun h => ⟨vs, Same.sql (s1.trans s2) q, by rw [RpL.length r]; exact h⟩⟩
theorem yi_tup {K : Fr} {F H : Hp} {a : Addr} {l : List T} {vs : List V} (q : SqT K F a vs) (r : RpL K F H l vs []) : YI K F (Itt K a) l := fun i F' H' s1 s2 =>
  ⟨fun t e => by
    obtain ⟨v, e1, r1⟩ := RpL.get0 r e
    have q' : SqT K H' a vs := Same.sqt (s1.trans s2) q
    exact ⟨⟨vs, v, q', e1⟩, fun x H'' y => by
      obtain ⟨e2, y⟩ := y
      subst e2
      have := (y vs q').symm.trans e1
      cases this
      exact ⟨F', Ext.refl s2, Rp.mono0 s1 r1⟩⟩,
   fun h => ⟨vs, Same.sqt (s1.trans s2) q, by rw [RpL.length r]; exact h⟩⟩
theorem rngL_get {lo : Int} {n i : Nat} {t : T} (e : (rngL lo n)[i]? = some t) : i < n ∧ t = .int (lo + (i : Int)) := by
  unfold rngL at e
  rw [List.getElem?_map] at e
  cases q : (List.range n)[i]? with
  | none => rw [q] at e; cases e
  | some j =>
    rw [q] at e
    have h := List.getElem?_eq_some_iff.mp q
    obtain ⟨h1, h2⟩ := h
    rw [List.getElem_range] at h2
    subst h2
    rw [List.length_range] at h1
    exact ⟨h1, (Option.some.inj e).symm⟩
theorem rngL_length {lo : Int} {n : Nat} : (rngL lo n).length = n := by unfold rngL; simp
theorem yi_rng {K : Fr} {F : Hp} {lo : Int} {n : Nat} : YI K F (Itr lo n) (rngL lo n) := fun i F' H' s1 s2 =>
  ⟨fun t e => by
    obtain ⟨h1, h2⟩ := rngL_get e
    subst h2
    exact ⟨h1, fun x H'' y => by
      obtain ⟨e2, y⟩ := y
      subst e2 y
      exact ⟨F', Ext.refl s2, rfl, rfl⟩⟩,
   fun h => by
    rw [rngL_length] at h
    exact h⟩
theorem enumL_get : ∀ {l : List T} {k i : Nat} {t : T}, (enumL k l)[i]? = some t → ∃ u, l[i]? = some u ∧ t = .tup [.int ((k + i : Nat) : Int), u]
  | [], k, i, t, e => by simp [enumL] at e
  | u :: l, k, 0, t, e => by
    have e' : T.tup [.int k, u] = t := by simpa [enumL] using e
    exact ⟨u, by simp, by rw [← e']; simp⟩
  | u :: l, k, i + 1, t, e => by
    have e' : (enumL (k + 1) l)[i]? = some t := by simpa [enumL] using e
    obtain ⟨w, h1, h2⟩ := enumL_get e'
    exact ⟨w, by simpa using h1, by rw [h2, show k + 1 + i = k + (i + 1) by omega]⟩
theorem enumL_length : ∀ {l : List T} {k : Nat}, (enumL k l).length = l.length
  | [], k => rfl
  | u :: l, k => by simp [enumL, enumL_length]
theorem yi_enum {K : Fr} {F H : Hp} {a : Addr} {l : List T} {vs : List V} (q : SqL K F a vs) (r : RpL K F H l vs []) : YI K F (Ite K a) (enumL 0 l) := fun i F' H' s1 s2 =>
  ⟨fun t e => by
    obtain ⟨u, h1, h2⟩ := enumL_get e
    subst h2
    obtain ⟨v, e1, r1⟩ := RpL.get0 r h1
    have q' : SqL K H' a vs := Same.sql (s1.trans s2) q
    exact ⟨⟨vs, v, q', e1⟩, fun x H'' y => by
      obtain ⟨p, z, ex, hp, eH, y⟩ := y
      have := (y vs q').symm.trans e1
      cases this
      subst ex eH
      refine ⟨_, Ext.tup s2 hp, p, _, rfl, .inl (.inl upd_same), ?_⟩
      have ee := Ext.tup (o' := .tup [V.int (i : Nat), v]) s2 hp
      exact ⟨_, _, [], [], rfl, rfl, ⟨by rw [Nat.zero_add], rfl⟩, _, _, [], [], rfl, rfl, Rp.mono0 (s1.trans ee.f) r1, rfl, rfl⟩⟩,
   fun h => ⟨vs, Same.sql (s1.trans s2) q, by rw [RpL.length r]; rw [enumL_length] at h; exact h⟩⟩
theorem zipL_get : ∀ {l m : List T} {i : Nat} {t : T}, (zipL l m)[i]? = some t → ∃ u w, l[i]? = some u ∧ m[i]? = some w ∧ t = .tup [u, w]
  | [], _, i, t, e => by simp [zipL] at e
  | _ :: _, [], i, t, e => by simp [zipL] at e
  | u :: l, w :: m, 0, t, e => by
    have e' : T.tup [u, w] = t := by simpa [zipL] using e
    exact ⟨u, w, by simp, by simp, e'.symm⟩
  | u :: l, w :: m, i + 1, t, e => by
    have e' : (zipL l m)[i]? = some t := by simpa [zipL] using e
    obtain ⟨u', w', h1, h2, h3⟩ := zipL_get e'
    exact ⟨u', w', by simpa using h1, by simpa using h2, h3⟩
theorem zipL_length : ∀ {l m : List T}, (zipL l m).length = min l.length m.length
  | [], m => by simp [zipL]
  | u :: l, [] => by simp [zipL]
  | u :: l, w :: m => by simp [zipL, zipL_length]
theorem yi_zip {K : Fr} {F H : Hp} {a b : Addr} {l m : List T} {vs ws : List V} (q : SqL K F a vs) (r : RpL K F H l vs []) (q2 : SqL K F b ws) (r2 : RpL K F H m ws []) : YI K F (Itz K a b) (zipL l m) := fun i F' H' s1 s2 =>
  ⟨fun t e => by
    obtain ⟨u, w, h1, h2, h3⟩ := zipL_get e
    subst h3
    obtain ⟨v, e1, r1⟩ := RpL.get0 r h1
    obtain ⟨v2, e2, r3⟩ := RpL.get0 r2 h2
    have q' : SqL K H' a vs := Same.sql (s1.trans s2) q
    have q2' : SqL K H' b ws := Same.sql (s1.trans s2) q2
    exact ⟨⟨vs, ws, v, v2, q', q2', e1, e2⟩, fun x H'' y => by
      obtain ⟨p, z, z2, ex, hp, eH, y, y2⟩ := y
      have := (y vs q').symm.trans e1
      cases this
      have := (y2 ws q2').symm.trans e2
      cases this
      subst ex eH
      refine ⟨_, Ext.tup s2 hp, p, _, rfl, .inl (.inl upd_same), ?_⟩
      have ee := Ext.tup (o' := .tup [v, v2]) s2 hp
      exact ⟨_, _, [], [], rfl, rfl, Rp.mono0 (s1.trans ee.f) r1, _, _, [], [], rfl, rfl, Rp.mono0 (s1.trans ee.f) r3, rfl, rfl⟩⟩,
   fun h => ⟨vs, ws, Same.sql (s1.trans s2) q, Same.sql (s1.trans s2) q2, by rw [RpL.length r, RpL.length r2]; rw [zipL_length] at h; omega⟩⟩

/-! ### targets -/
def Sets (L : List Nat) (σ σ' : L2.St) : Prop := σ'.length = σ.length ∧ ∀ i : Nat, i ∉ L → σ'[i]? = σ[i]?
theorem Sets.refl {σ : L2.St} : Sets [] σ σ := ⟨rfl, fun _ _ => rfl⟩
theorem Sets.trans {L L' : List Nat} {σ σ1 σ2 : L2.St} (a : Sets L σ σ1) (b : Sets L' σ1 σ2) : Sets (L ++ L') σ σ2 :=
  ⟨b.1.trans a.1, fun i h => (b.2 i fun z => h (List.mem_append_right _ z)).trans (a.2 i fun z => h (List.mem_append_left _ z))⟩
theorem EnvOk.set {K : Fr} {F H : Hp} {σ : L2.St} {ρ : En} {i : Nat} {t : T} {v : V} {fp : List Addr} (h : EnvOk K F H σ ρ) (r : Rp K F H t v fp) (hi : i < ρ.length) : EnvOk K F H (σ.set i (some v)) (ρ.set i (some t)) := by
  refine ⟨by rw [List.length_set, List.length_set]; exact h.1, fun j u e => ?_⟩
  by_cases c : i = j
  · subst c
    rw [List.getElem?_set_self hi] at e
    cases e
    exact ⟨v, fp, List.getElem?_set_self (by rw [h.1]; exact hi), r⟩
  · rw [List.getElem?_set_ne c] at e
    rw [List.getElem?_set_ne c]
    exact h.2 j u e
mutual
theorem bindOk {K : Fr} : ∀ (g : Tg) (t : T) (v : V) (fp : List Addr) (ρ ρ' : En) (σ : L2.St) (F H : Hp) (Q : L2.St → Hp → Prop), Same F H → Rp K F H t v fp → EnvOk K F H σ ρ → bindG g t ρ = some ρ' →
    (∀ σ', EnvOk K F H σ' ρ' → Sets g.ixs σ σ' → Q σ' H) → rdG K g v σ H Q
  | .nm i, t, v, fp, ρ, ρ', σ, F, H, Q, s, r, E, e, k => by
    have e : (if i < ρ.length then some (ρ.set i (some t)) else none) = some ρ' := e
    split at e
    · rename_i c
      cases e
      refine k _ (E.set r c) ⟨List.length_set, fun j h => List.getElem?_set_ne (fun z => h ?_)⟩
      subst z
      exact List.mem_cons_self
    · cases e
  | .tp l, .tup ts, v, fp, ρ, ρ', σ, F, H, Q, s, r, E, e, k => by
    have e : (if l.length = ts.length then bindGs l ts ρ else none) = some ρ' := e
    split at e
    · rename_i c
      obtain ⟨a, vs, ev, q, r⟩ := Rp.readT s r
      exact ⟨a, vs, ev, q, by rw [RpL.length r, c], bindsOk l ts vs fp ρ ρ' σ F H Q s r E e k c⟩
    · cases e
  | .tp l, .non, _, _, _, _, _, _, _, _, _, _, _, e, _ => nomatch e
  | .tp l, .bl _, _, _, _, _, _, _, _, _, _, _, _, e, _ => nomatch e
  | .tp l, .int _, _, _, _, _, _, _, _, _, _, _, _, e, _ => nomatch e
  | .tp l, .str _, _, _, _, _, _, _, _, _, _, _, _, e, _ => nomatch e
  | .tp l, .lst _ _, _, _, _, _, _, _, _, _, _, _, _, e, _ => nomatch e
theorem bindsOk {K : Fr} : ∀ (gs : List Tg) (ts : List T) (vs : List V) (fp : List Addr) (ρ ρ' : En) (σ : L2.St) (F H : Hp) (Q : L2.St → Hp → Prop), Same F H → RpL K F H ts vs fp → EnvOk K F H σ ρ → bindGs gs ts ρ = some ρ' →
    (∀ σ', EnvOk K F H σ' ρ' → Sets (Tg.ixsL gs) σ σ' → Q σ' H) → gs.length = ts.length → rdGs K gs vs σ H Q
  | [], ts, vs, fp, ρ, ρ', σ, F, H, Q, s, r, E, e, k, hl => by
    have : ts = [] := List.eq_nil_of_length_eq_zero hl.symm
    subst this
    cases e
    exact ⟨r.1, k σ E Sets.refl⟩
  | g :: gs, [], _, _, _, _, _, _, _, _, _, _, _, e, _, _ => nomatch e
  | g :: gs, t :: ts, vs, fp, ρ, ρ', σ, F, H, Q, s, r, E, e, k, hl => by
    obtain ⟨v, vs', f1, f2, e1, e2, h1, h2⟩ := r
    have e : (match bindG g t ρ with | some ρ' => bindGs gs ts ρ' | none => none) = some ρ' := e
    split at e
    · rename_i ρ1 e3
      exact ⟨v, vs', e1, bindOk g t v f1 ρ ρ1 σ F H _ s h1 E e3 fun σ1 E1 S1 => bindsOk gs ts vs' f2 ρ1 ρ' σ1 F H Q s h2 E1 e (fun σ2 E2 S2 => k σ2 E2 (S1.trans S2)) (by simpa using hl)⟩
    · cases e
end
end PV
namespace PV
open PySem L2 PyProof.Rows

theorem Ext.fz2 {F H F' H' F'' : Hp} {fp : List Addr} (e : Ext F H F' H') (z : FzTo F' H' F'' fp) (hf : ∀ a ∈ fp, H a = none) : Ext F H F'' H' :=
  ⟨e.h, e.f.trans z.1, z.2.1, fun a h => by
    rcases z.2.2 a h with x | x
    · exact e.n a x
    · exact .inr (hf a x)⟩
/-- things held, then frozen -/
theorem PostL.frz {K : Fr} {F H : Hp} {W : XW} {ts : List T} {Q : List V → Hp → Prop} (h : ∀ vs F' H', Ext F H F' H' → RpL K F' H' (T.frz.frzL ts) vs [] → Q vs H') : PostL K F H W (.ok ts) Q := fun vs F' H' fp e r f => by
  obtain ⟨F'', z, r'⟩ := RpL.freeze ts vs fp e.s (fun a m => (f.2 a m).2) f.1 r
  exact h vs F'' H' (e.fz2 z fun a m => (f.2 a m).1) r'
theorem wipeE_length (ρ : En) : ∀ vs : List Nat, (wipeE ρ vs).length = ρ.length
  | [] => rfl
  | v :: vs => by unfold wipeE; rw [List.length_set, wipeE_length ρ vs]
theorem wipeE_get {ρ : En} {i : Nat} {t : T} : ∀ {vs : List Nat}, (wipeE ρ vs)[i]? = some (some t) → ρ[i]? = some (some t) ∧ i ∉ vs
  | [], h => ⟨h, by simp⟩
  | v :: vs, h => by
    unfold wipeE at h
    by_cases hi : v = i
    · subst hi
      by_cases hv : v < (wipeE ρ vs).length
      · rw [List.getElem?_set_self hv] at h; cases h
      · rw [List.getElem?_eq_none (by simpa using hv)] at h; cases h
    · rw [List.getElem?_set_ne hi] at h
      obtain ⟨h1, h2⟩ := wipeE_get h
      exact ⟨h1, by simp only [List.mem_cons, not_or]; exact ⟨fun e => hi e.symm, h2⟩⟩
theorem wipe_get {σ : L2.St} {i : Nat} : ∀ {vs : List Nat}, i ∉ vs → (wipe σ vs)[i]? = σ[i]?
  | [], _ => rfl
  | v :: vs, h => by
    unfold wipe
    rw [List.getElem?_set_ne (fun z => h (by rw [z]; exact List.mem_cons_self))]
    exact wipe_get fun z => h (List.mem_cons_of_mem _ z)
theorem wipe_in {σ : L2.St} {i : Nat} : ∀ {vs : List Nat}, i ∈ vs → i < σ.length → (wipe σ vs)[i]? = some none
  | v :: vs, h, hl => by
    unfold wipe
    by_cases c : v = i
    · subst c
      exact List.getElem?_set_self (by rw [wipe_length]; exact hl)
    · rw [List.getElem?_set_ne c]
      rcases List.mem_cons.mp h with x | x
      · exact absurd x.symm c
      · exact wipe_in x hl
theorem EnvOk.wipe {K : Fr} {F H : Hp} {σ : L2.St} {ρ : En} (h : EnvOk K F H σ ρ) (vs : List Nat) : EnvOk K F H (L2.wipe σ vs) (wipeE ρ vs) := by
  refine ⟨by rw [wipe_length, wipeE_length]; exact h.1, fun i t e => ?_⟩
  obtain ⟨h1, h2⟩ := wipeE_get e
  obtain ⟨v, fp, a, b⟩ := h.2 i t h1
  exact ⟨v, fp, by rw [wipe_get h2]; exact a, b⟩
theorem wipe_sets {σ σ' : L2.St} {L vs : List Nat} (s : Sets L (L2.wipe σ vs) σ') (h : ∀ i ∈ L, i ∈ vs) : L2.wipe σ' vs = L2.wipe σ vs := by
  have hl : σ'.length = σ.length := s.1.trans (wipe_length σ vs)
  apply List.ext_getElem?
  intro i
  by_cases c : i ∈ vs
  · by_cases d : i < σ.length
    · rw [wipe_in c d, wipe_in c (by rw [hl]; exact d)]
    · rw [List.getElem?_eq_none (by rw [wipe_length]; omega), List.getElem?_eq_none (by rw [wipe_length]; omega)]
  · rw [wipe_get c, s.2 i fun z => c (h i z)]

theorem mapR_cons {f : T → R (Option T)} {t : T} {ts ys : List T} (h : mapR f (t :: ts) = .ok ys) : ∃ o r, f t = .ok o ∧ mapR f ts = .ok r ∧ consO o r = ys := by
  unfold mapR at h
  cases e : f t with
  | stuck => rw [e] at h; cases h
  | exc c => rw [e] at h; cases h
  | ok o =>
    rw [e] at h
    cases e2 : mapR f ts with
    | stuck => rw [e2] at h; cases h
    | exc c => rw [e2] at h; cases h
    | ok r =>
      rw [e2] at h
      exact ⟨o, r, rfl, rfl, R.ok.inj h⟩
/-- the comprehension's loop, over anything that yields the things l -/
theorem lcOk {K : Fr} {F H : Hp} {J : It} {l : List T} {g : TG} {tt : TT} {te : TE} {vs : List Nat} {σ : L2.St} {Q : VK} {D : Addr} {f : T → R (Option T)} {ys : List T} (s : Same F H) (hD : H D = none) (yi : YI K F J l) (hl : l.length ≤ sizeLine)
    (e : mapR f l = .ok ys)
    (turn : ∀ t o, f t = .ok o → ∀ F' H' v, Ext F H F' H' → Rp K F' H' t v [] → ∀ (A : V → Hp → Prop) (B : Hp → Prop),
      (∀ u y F'' H'', o = some u → Ext F' H' F'' H'' → Rp K F'' H'' u y [] → A y H'') → (o = none → ∀ F'' H'', Ext F' H' F'' H'' → B H'') →
      g v (L2.wipe σ vs) H' fun σ2 H2 => L2.wipe σ2 vs = L2.wipe σ vs ∧ tt σ2 H2 fun b H3 => if b = true then te σ2 H3 A else B H3)
    (q : ∀ v F' H' fp, Ext F H F' H' → Rp K F' H' (.lst .own ys) v fp → Frsh H F' fp → Q v H') :
    ∃ W : Nat → Nat → Hp → Prop, (∃ m, W 0 m (upd H D (.lst []))) ∧ ∀ i m H, W i m H →
      (J.stop i H ∧ Q (.ref D) H) ∨ (J.go i H ∧ ∃ Nx : Hp → Prop, (∀ H', Nx H' → ∃ m', m' < m ∧ W (i + 1) m' H') ∧ ∀ x H', J.yld i H x H' → g x (L2.wipe σ vs) H' fun σ2 H2 => L2.wipe σ2 vs = L2.wipe σ vs ∧ tt σ2 H2 fun b H3 =>
        if b = true then te σ2 H3 fun y H4 => ∃ acc, H4 D = some (.lst acc) ∧ acc.length < sizeLine ∧ Nx (upd H4 D (.lst (acc ++ [y]))) else Nx H3) := by
  let Pv : Nat → Hp → Prop := fun i Hi => i ≤ l.length ∧ ∃ Fi acc done rest, Ext F H Fi Hi ∧ Fi D = none ∧ Hi D = some (.lst acc) ∧ RpL K Fi Hi done acc [] ∧ mapR f (l.drop i) = .ok rest ∧ done ++ rest = ys ∧ acc.length ≤ i
  refine ⟨fun i m Hi => m = l.length - i ∧ Pv i Hi, ⟨l.length, by simp, Nat.zero_le _, F, [], [], ys, Ext.lst s hD, s.free hD, upd_same, RpL.nil, by simpa using e, by simp, Nat.le_refl _⟩, ?_⟩
  rintro i m Hi ⟨rfl, hi, Fi, acc, done, rest, E, nD, hd, r, er, ed, la⟩
  by_cases hlt : i < l.length
  · refine .inr ?_
    obtain ⟨y1, _⟩ := yi i Fi Hi E.f E.s
    obtain ⟨go, yl⟩ := y1 l[i] (List.getElem?_eq_getElem hlt)
    refine ⟨go, Pv (i + 1), fun H' p => ⟨l.length - (i + 1), by omega, rfl, p⟩, fun x H' hy => ?_⟩
    obtain ⟨F1, E1, r1⟩ := yl x H' hy
    rw [List.drop_eq_getElem_cons hlt] at er
    obtain ⟨o, rr, fo, fr, eo⟩ := mapR_cons er
    have nD1 : F1 D = none := E1.out nD (by rw [hd]; simp)
    have hd1 : H' D = some (.lst acc) := E1.h _ _ hd
    refine turn l[i] o fo F1 H' x (E.trans E1) r1 _ _ (fun u z F2 H2 ho E2 rz => ?_) (fun ho F2 H2 E2 => ?_)
    · have E3 : Ext F H F2 H2 := (E.trans E1).trans E2
      have nD2 : F2 D = none := E2.out nD1 (by rw [hd1]; simp)
      have hd2 : H2 D = some (.lst acc) := E2.h _ _ hd1
      have r2 : RpL K F2 H2 done acc [] := RpL.mono0 (E1.f.trans E2.f) r
      subst ho
      refine ⟨acc, hd2, by omega, hlt, F2, acc ++ [z], done ++ [u], rr, ⟨fun b o hb => ?_, E3.f, fun b o hb => ?_, E3.n⟩, nD2, upd_same, ?_, fr, by rw [List.append_assoc, List.singleton_append, ← ed, ← eo]; rfl, by simp; omega⟩
      · rw [upd_ne (ne_of_none hb hD)]
        exact E3.h _ _ hb
      · rw [upd_ne (ne_of_none hb nD2)]
        exact E3.s _ _ hb
      · have a1 : RpL K F2 (upd H2 D (.lst (acc ++ [z]))) done acc [] := RpL.mono0 (Same.refl _) r2
        have a2 : RpL K F2 (upd H2 D (.lst (acc ++ [z]))) [u] [z] [] := ⟨z, [], [], [], rfl, rfl, Rp.mono0 (Same.refl _) rz, rfl, rfl⟩
        exact RpL.append a1 a2
    · have E3 : Ext F H F2 H2 := (E.trans E1).trans E2
      have nD2 : F2 D = none := E2.out nD1 (by rw [hd1]; simp)
      have hd2 : H2 D = some (.lst acc) := E2.h _ _ hd1
      have r2 : RpL K F2 H2 done acc [] := RpL.mono0 (E1.f.trans E2.f) r
      subst ho
      exact ⟨hlt, F2, acc, done, rr, E3, nD2, hd2, r2, fr, by rw [← ed, ← eo]; rfl, by omega⟩
  · have ei : i = l.length := by omega
    subst ei
    refine .inl ⟨(yi _ Fi Hi E.f E.s).2 (Nat.le_refl _), ?_⟩
    rw [List.drop_length] at er
    have er := R.ok.inj (show R.ok [] = R.ok rest from er)
    subst er
    rw [List.append_nil] at ed
    subst ed
    exact q (.ref D) Fi Hi [D] E ⟨D, acc, [], rfl, rfl, hd, r⟩ ⟨List.nodup_cons.mpr ⟨List.not_mem_nil, List.nodup_nil⟩, fun a m => by
      rcases List.mem_cons.mp m with x | x
      · subst x; exact ⟨hD, nD⟩
      · cases x⟩
end PV
namespace PV
open PySem L2 PyProof.Rows

theorem Post.asB {K : Fr} {F H : Hp} {W : XW} {r : R T} {f : Bool → R T} {Q : VK} {Q1 : VK} (h : Post K F H W ((PV.asB r).bind f) Q)
    (k : ∀ b, Post K F H W (f b) Q → ∀ F' H', Ext F H F' H' → Q1 (.bl b) H') : PostV K F H W r Q1 := by
  cases r with
  | exc c => exact h
  | stuck => exact h.elim
  | ok t =>
    cases t with
    | bl b => exact fun v F' H' fp e r => by rw [r.1]; exact k b h F' H' e
    | _ => exact (show False from h).elim
theorem PostB.asB {K : Fr} {F H : Hp} {W : XW} {r : R T} {Q : Bool → Hp → Prop} (h : PostB F H W (PV.asB r) Q) : PostV K F H W r (fun x H' => ∃ c, x = .bl c ∧ Q c H') := by
  cases r with
  | exc c => exact h
  | stuck => exact h.elim
  | ok t =>
    cases t with
    | bl b => exact fun v F' H' fp e r => ⟨b, r.1, h F' H' e⟩
    | _ => exact (show False from h).elim
theorem Post.ofB {K : Fr} {F H : Hp} {W : XW} {r : R T} {Q : VK} (h : Post K F H W (PV.ofB (PV.asB r)) Q) : PostV K F H W r Q := by
  cases r with
  | exc c => exact h
  | stuck => exact h.elim
  | ok t =>
    cases t with
    | bl b =>
      intro v F' H' fp e r
      rw [r.1]
      exact h _ F' H' [] e ⟨rfl, rfl⟩ Frsh.nil
    | _ => exact (show False from h).elim
theorem PostB.bind {F H : Hp} {W : XW} {r : R Bool} {f : Bool → R T} {K : Fr} {Q : VK} {Q1 : Bool → Hp → Prop} (h : Post K F H W (r.bind f) Q)
    (k : ∀ b, r = .ok b → Post K F H W (f b) Q → ∀ F' H', Ext F H F' H' → Q1 b H') : PostB F H W r Q1 := by
  cases r with
  | ok t => exact k t rfl h
  | exc c => exact h
  | stuck => exact h.elim
theorem PostB.bindB {F H : Hp} {W : XW} {r : R Bool} {f : Bool → R Bool} {Q : Bool → Hp → Prop} {Q1 : Bool → Hp → Prop} (h : PostB F H W (r.bind f) Q)
    (k : ∀ b, r = .ok b → PostB F H W (f b) Q → ∀ F' H', Ext F H F' H' → Q1 b H') : PostB F H W r Q1 := by
  cases r with
  | ok t => exact k t rfl h
  | exc c => exact h
  | stuck => exact h.elim
theorem PostL.bind {F H : Hp} {W : XW} {K : Fr} {r : R (List T)} {f : List T → R T} {Q : VK} {Q1 : List V → Hp → Prop} (h : Post K F H W (r.bind f) Q)
    (k : ∀ ts, r = .ok ts → Post K F H W (f ts) Q → ∀ vs F' H' fp, Ext F H F' H' → RpL K F' H' ts vs fp → Frsh H F' fp → Q1 vs H') : PostL K F H W r Q1 := by
  cases r with
  | ok t => exact k t rfl h
  | exc c => exact h
  | stuck => exact h.elim
theorem PostLV.bind {F H : Hp} {W : XW} {K : Fr} {r : R (List T)} {f : List T → R T} {Q : VK} {Q1 : List V → Hp → Prop} (h : Post K F H W (r.bind f) Q)
    (k : ∀ ts, r = .ok ts → Post K F H W (f ts) Q → ∀ vs F' H' fp, Ext F H F' H' → RpL K F' H' ts vs fp → Q1 vs H') : PostLV K F H W r Q1 := by
  cases r with
  | ok t => exact k t rfl h
  | exc c => exact h
  | stuck => exact h.elim
theorem PostO.bind {F H : Hp} {W : XW} {K : Fr} {r : R (Option Int)} {f : Option Int → R T} {Q : VK} {Q1 : Option Int → Hp → Prop} (h : Post K F H W (r.bind f) Q)
    (k : ∀ ts, r = .ok ts → Post K F H W (f ts) Q → ∀ F' H', Ext F H F' H' → Q1 ts H') : PostO F H W r Q1 := by
  cases r with
  | ok t => exact k t rfl h
  | exc c => exact h
  | stuck => exact h.elim
theorem RpL.cons {K : Fr} {F H : Hp} {t : T} {ts : List T} {v : V} {vs : List V} {f1 f2 : List Addr} (h : Rp K F H t v f1) (h' : RpL K F H ts vs f2) : RpL K F H (t :: ts) (v :: vs) (f1 ++ f2) := ⟨v, vs, f1, f2, rfl, rfl, h, h'⟩
theorem Frsh.app {K : Fr} {F0 H0 F1 H1 F2 H2 : Hp} {t : T} {v : V} {f1 f2 : List Addr} (e1 : Ext F0 H0 F1 H1) (a : Frsh H0 F1 f1) (r : Rp K F1 H1 t v f1) (e2 : Ext F1 H1 F2 H2) (b : Frsh H1 F2 f2) : Frsh H0 F2 (f1 ++ f2) := by
  have a' := Frsh.keep (F0 := F0) a r e2
  refine ⟨List.nodup_append.mpr ⟨a.1, b.1, fun x hx y hy z => ?_⟩, fun x hx => ?_⟩
  · subst z
    exact Rp.there t v f1 r x hx (b.2 x hy).1
  · rcases List.mem_append.mp hx with h | h
    · exact a'.2 x h
    · exact ⟨e1.h.free (b.2 x h).1, (b.2 x h).2⟩

theorem itOk {K : Fr} {F H : Hp} {k : IK} {ts l : List T} {vs : List V} {R : It → Hp → Prop} (s : Same F H) (r : RpL K F H ts vs []) (hno : ∀ t ∈ ts, ∀ l', t ≠ .lst .own l') (e : itT k ts = .ok l) (q : ∀ J, YI K F J l → R J H) : itP K k vs H R := by
  unfold itT at e
  split at e
  · rename_i lk l'
    split at e
    · rename_i c
      cases e
      obtain ⟨v, vs', f1, f2, e1, e2, h1, h2⟩ := r
      obtain ⟨n1, n2⟩ := List.append_eq_nil_iff.mp e2.symm
      subst n1 n2
      have hk : lk ≠ .own := fun z => by subst z; exact hno _ List.mem_cons_self _ rfl
      obtain ⟨a, ws, ev, q1, r1⟩ := Rp.frzL c hk h1
      rw [e1, h2.1]
      exact ⟨a, ev, .inl ⟨⟨ws, Same.sql s q1⟩, q _ (yi_list q1 r1)⟩⟩
    · cases e
  · rename_i l'
    split at e
    · rename_i c
      cases e
      obtain ⟨v, vs', f1, f2, e1, e2, h1, h2⟩ := r
      obtain ⟨n1, n2⟩ := List.append_eq_nil_iff.mp e2.symm
      subst n1 n2
      obtain ⟨a, ws, ev, q1, r1⟩ := h1
      rw [e1, h2.1]
      exact ⟨a, ev, .inr ⟨⟨ws, Same.sqt s q1⟩, q _ (yi_tup q1 r1)⟩⟩
    · cases e
  · rename_i j
    split at e
    · rename_i c
      cases e
      obtain ⟨v, f, e1, h1⟩ := RpL.one r
      rw [e1, h1.1]
      exact ⟨j, rfl, c.2, c.1, q _ yi_rng⟩
    · cases e
  · rename_i i j
    split at e
    · rename_i c
      cases e
      obtain ⟨v, w, f, g, e1, h1, h2⟩ := RpL.two r
      rw [e1, h1.1, h2.1]
      exact ⟨i, j, rfl, ⟨c.2.1, c.1, c.2.2.2, c.2.2.1⟩, q _ yi_rng⟩
    · cases e
  · rename_i lk l'
    split at e
    · rename_i c
      cases e
      obtain ⟨v, vs', f1, f2, e1, e2, h1, h2⟩ := r
      obtain ⟨n1, n2⟩ := List.append_eq_nil_iff.mp e2.symm
      subst n1 n2
      have hk : lk ≠ .own := fun z => by subst z; exact hno _ List.mem_cons_self _ rfl
      obtain ⟨a, ws, ev, q1, r1⟩ := Rp.frzL c hk h1
      rw [e1, h2.1, ev]
      exact ⟨a, ws, rfl, Same.sql s q1, q _ (yi_enum q1 r1)⟩
    · cases e
  · rename_i lk l1 lk' l2
    split at e
    · rename_i c
      rw [Bool.and_eq_true] at c
      cases e
      obtain ⟨v, vs', f1, f2, e1, e2, h1, h2⟩ := r
      obtain ⟨n1, n2⟩ := List.append_eq_nil_iff.mp e2.symm
      subst n1 n2
      obtain ⟨v2, vs2, f3, f4, e3, e4, h3, h4⟩ := h2
      obtain ⟨n1, n2⟩ := List.append_eq_nil_iff.mp e4.symm
      subst n1 n2
      have hk : lk ≠ .own := fun z => by subst z; exact hno _ List.mem_cons_self _ rfl
      have hk' : lk' ≠ .own := fun z => by subst z; exact hno _ (List.mem_cons_of_mem _ List.mem_cons_self) _ rfl
      obtain ⟨a, ws, ev, q1, r1⟩ := Rp.frzL c.1 hk h1
      obtain ⟨b, xs, ev2, q2, r2⟩ := Rp.frzL c.2 hk' h3
      rw [e1, e3, h4.1, ev, ev2]
      exact ⟨a, b, ws, xs, rfl, Same.sql s q1, Same.sql s q2, q _ (yi_zip q1 r1 q2 r2)⟩
    · cases e
  · cases e
theorem frzL_no : ∀ (ts : List T), ∀ t ∈ T.frz.frzL ts, ∀ l', t ≠ .lst .own l'
  | [], t, h, _ => by cases h
  | a :: ts, t, h, l' => by
    rcases List.mem_cons.mp (show t ∈ a.frz :: T.frz.frzL ts from h) with x | x
    · subst x
      cases a with
      | lst k l =>
        show T.lst (if k = .own then .fz else k) _ ≠ _
        split <;> simp_all
      | _ => intro z; cases z
    · exact frzL_no ts t x l'
theorem m0Ok {K : Fr} {F H : Hp} {W : XW} {m : M0} {x : T} {v : V} {fx : List Addr} {Q : VK} (s : Same F H) (rx : Rp K F H x v fx) (h : Post K F H W (m0T m x) Q) : rM0 K m v H Q := by
  unfold m0T at h
  split at h
  · exact ⟨_, rx.1, Post.int s h⟩
  · exact h.elim
theorem m1Ok {K : Fr} {F H : Hp} {W : XW} {m : M1} {x y : T} {v w : V} {fx fy : List Addr} {Q : VK} (s : Same F H) (rx : Rp K F H x v fx) (ry : Rp K F H y w fy) (h : Post K F H W (m1T m x y) Q) : rM1 K m v [w] H Q := by
  unfold m1T at h
  split at h
  · split at h
    · rename_i ys e
      split at h
      · rename_i c
        obtain ⟨a, ws, g, e2, q, r2, _⟩ := Rp.readL s ry
        rw [asStrs_eq e] at r2
        rw [RpL.strs r2] at q
        rw [rx.1, e2]
        exact ⟨_, a, ys, rfl, rfl, .inl q, c, Post.str s h⟩
      · exact h.elim
    · exact h.elim
  · exact h.elim
theorem isStrOk {K : Fr} {F H : Hp} {x : T} {v : V} {fx : List Addr} (rx : Rp K F H x v fx) (h : isStr x = true) : ∃ a, v = .str a := by
  unfold isStr at h
  split at h
  · exact ⟨_, rx.1⟩
  · cases h
end PV
namespace PV
open PySem L2 PyProof.Rows

theorem PostX.f {K : Fr} {F H : Hp} {W : XW} {r : R T} {Q : VK} (h : Post K F H W r Q) : PostX false K F H W r Q := h
theorem truT_no (t : T) (c : Str) : truT t ≠ .exc c := by
  cases t <;> intro z
  case str y =>
    have z : (if y.length ≤ sizeLine then R.ok ((y.length : Int) != 0) else .stuck) = .exc c := z
    split at z <;> cases z
  all_goals cases z
theorem Rp.scal {K : Fr} {F H F' H' : Hp} {t : T} {v : V} {fp : List Addr} (h : t.scal = true) (r : Rp K F H t v fp) : Rp K F' H' t v [] := by
  cases t with
  | non => exact ⟨r.1, rfl⟩
  | bl b => exact ⟨r.1, rfl⟩
  | int i => exact ⟨r.1, rfl⟩
  | str z => exact ⟨r.1, rfl⟩
  | tup l => cases h
  | lst k l => cases h
mutual
theorem Rp.borrow {K : Fr} {F H : Hp} (s : Same F H) : ∀ (t : T) (v : V) (fp : List Addr), Rp K F H t v fp → Rp K H H t.frz v []
  | .non, _, _, h => ⟨h.1, rfl⟩
  | .bl _, _, _, h => ⟨h.1, rfl⟩
  | .int _, _, _, h => ⟨h.1, rfl⟩
  | .str _, _, _, h => ⟨h.1, rfl⟩
  | .tup l, v, fp, h => by
    obtain ⟨a, vs, e, q, r⟩ := h
    exact ⟨a, vs, e, Same.sqt s q, RpL.borrow s l vs fp r⟩
  | .lst .own l, v, fp, h => by
    obtain ⟨a, vs, fp', e, e2, q, r⟩ := h
    exact ⟨a, vs, e, rfl, q, RpL.borrow s l vs fp' r⟩
  | .lst .fz l, v, fp, h => by
    obtain ⟨a, vs, e, e2, q, r⟩ := h
    exact ⟨a, vs, e, rfl, s _ _ q, RpL.borrow s l vs [] r⟩
  | .lst .rd l, v, fp, h => by
    obtain ⟨a, vs, e, e2, q, r⟩ := h
    exact ⟨a, vs, e, rfl, Same.sql s q, RpL.borrow s l vs [] r⟩
theorem RpL.borrow {K : Fr} {F H : Hp} (s : Same F H) : ∀ (ts : List T) (vs : List V) (fp : List Addr), RpL K F H ts vs fp → RpL K H H (T.frz.frzL ts) vs []
  | [], _, _, h => ⟨h.1, rfl⟩
  | t :: ts, vs, fp, h => by
    obtain ⟨v, vs', f1, f2, e, e2, h1, h2⟩ := h
    exact ⟨v, vs', [], [], e, rfl, Rp.borrow s t v f1 h1, RpL.borrow s ts vs' f2 h2⟩
end
theorem RpL.rev {K : Fr} {F H : Hp} : ∀ {ts : List T} {vs : List V}, RpL K F H ts vs [] → RpL K F H ts.reverse vs.reverse []
  | [], vs, h => by
    have e : vs = [] := h.1
    subst e
    exact RpL.nil
  | t :: ts, vs, h => by
    obtain ⟨v, vs', f1, f2, e, e2, h1, h2⟩ := h
    obtain ⟨n1, n2⟩ := List.append_eq_nil_iff.mp e2.symm
    subst n1 n2 e
    rw [List.reverse_cons, List.reverse_cons]
    have a2 : RpL K F H [t] [v] [] := ⟨v, [], [], [], rfl, rfl, h1, rfl, rfl⟩
    exact RpL.append (RpL.rev h2) a2
theorem revOk {K : Fr} {F H : Hp} {W : XW} {x : T} {v : V} {fp : List Addr} {Q : VK} (s : Same F H) (r : Rp K F H x v fp) (h : Post K F H W (revT x) Q) : ∃ (a : Addr) (xs : List V), v = .ref a ∧ SqL K H a xs ∧ ∀ q, H q = none → Q (.ref q) (upd H q (.lst xs.reverse)) := by
  unfold revT at h
  split at h
  · split at h
    · rename_i k l c
      obtain ⟨a, vs, f, e, q, r2, _⟩ := Rp.readL s r
      have nf := RpL.fro l vs f c r2
      subst nf
      refine ⟨a, vs, e, q, fun p hp => ?_⟩
      have E := Ext.lst (vs := vs.reverse) s hp
      refine h (.ref p) F _ [p] E ⟨p, vs.reverse, [], rfl, rfl, upd_same, RpL.mono0 (Same.refl _) (RpL.rev r2)⟩ ⟨List.nodup_cons.mpr ⟨List.not_mem_nil, List.nodup_nil⟩, fun b hb => ?_⟩
      have e := List.mem_singleton.mp hb
      subst e
      exact ⟨hp, s.free hp⟩
    · exact h.elim
  · exact h.elim
mutual
theorem sat : ∀ (ce : CE) (M : Mt) (F H : Hp) (σ : L2.St) (ρ : En) (Q : VK), MtOk M → Same F H → EnvOk M.K F H σ ρ → PostX ce.vw M.K F H (M.W σ) (ev M.Γ ce ρ) Q → rd ce M σ H Q
  | .int i, M, F, H, σ, ρ, Q, m, s, E, h => Post.int s (show Post M.K F H (M.W σ) (.ok (.int i)) Q from h)
  | .bl i, M, F, H, σ, ρ, Q, m, s, E, h => Post.bl s (show Post M.K F H (M.W σ) (.ok (.bl i)) Q from h)
  | .non, M, F, H, σ, ρ, Q, m, s, E, h => Post.non s (show Post M.K F H (M.W σ) (.ok .non) Q from h)
  | .str i, M, F, H, σ, ρ, Q, m, s, E, h => Post.str s (show Post M.K F H (M.W σ) (.ok (.str i)) Q from h)
  | .cst x t, M, F, H, σ, ρ, Q, m, s, E, h => fun hc => (show PostV M.K F H (M.W σ) (.ok t) Q from h) _ F H [] (Ext.refl s) (Rp.none (m.cst x t hc))
  | .var i, M, F, H, σ, ρ, Q, m, s, E, h => by
    have h : PostV M.K F H (M.W σ) (match ρ[i]? with | some (some t) => .ok t | _ => .stuck) Q := h
    split at h
    · rename_i t e
      obtain ⟨v, fp, e1, r⟩ := E.2 i t e
      exact ⟨v, e1, h v F H fp (Ext.refl s) r⟩
    · exact h.elim
  | .bin op a b, M, F, H, σ, ρ, Q, m, s, E, h => by
    have h : Post M.K F H (M.W σ) ((ev M.Γ a ρ).bind fun x => (ev M.Γ b ρ).bind fun y => binT op x y) Q := h
    refine sat a M F H σ ρ _ m s E (PostX.of (Post.bind h fun x _ h1 v F1 H1 fp E1 r1 => ?_))
    refine sat b M F1 H1 σ ρ _ m E1.s (E.ext E1) (PostX.of (Post.bind (Post.ext E1 h1) fun y _ h2 w F2 H2 fp2 E2 r2 => ?_))
    exact binOk op F2 H2 _ x y v w _ _ Q E2.s (Rp.ext E2 r1) r2 (Post.ext E2 h2)
  | .neg a, M, F, H, σ, ρ, Q, m, s, E, h => by
    have h : Post M.K F H (M.W σ) ((ev M.Γ a ρ).bind fun x => match x with | .int i => .ok (.int (-i)) | _ => .stuck) Q := h
    refine sat a M F H σ ρ _ m s E (PostX.of (Post.bind h fun x _ h1 v F1 H1 fp E1 r1 => ?_))
    cases x with
    | int i => exact ⟨i, r1.1, Post.int E1.s (Post.ext E1 h1)⟩
    | _ => exact (show False from h1).elim
  | .notv a, M, F, H, σ, ρ, Q, m, s, E, h => by
    have h : Post M.K F H (M.W σ) ((asB (ev M.Γ a ρ)).bind fun b => .ok (.bl (!b))) Q := h
    refine sat a M F H σ ρ _ m s E (PostX.of (Post.asB h fun b h1 F1 H1 E1 => ⟨b, rfl, Post.bl E1.s (Post.ext E1 h1)⟩))
  | .andv es, M, F, H, σ, ρ, Q, m, s, E, h => satAnd es M F H σ ρ Q m s E h
  | .orv es, M, F, H, σ, ρ, Q, m, s, E, h => satOr es M F H σ ρ Q m s E h
  | .cmp op a b, M, F, H, σ, ρ, Q, m, s, E, h => by
    have h : Post M.K F H (M.W σ) ((ev M.Γ a ρ).bind fun x => (ev M.Γ b ρ).bind fun y => cmpT op x y) Q := h
    refine sat a M F H σ ρ _ m s E (PostX.of (Post.bind h fun x _ h1 v F1 H1 fp E1 r1 => ?_))
    refine sat b M F1 H1 σ ρ _ m E1.s (E.ext E1) (PostX.of (Post.bind (Post.ext E1 h1) fun y _ h2 w F2 H2 fp2 E2 r2 => ?_))
    exact cmpOk op F2 H2 _ x y v w _ _ Q E2.s (Rp.ext E2 r1) r2 (Post.ext E2 h2)
  | .chn op op' a b c, M, F, H, σ, ρ, Q, m, s, E, h => by
    have h : Post M.K F H (M.W σ) ((ev M.Γ a ρ).bind fun x => (ev M.Γ b ρ).bind fun y => (asB (cmpT op x y)).bind fun k => if k then (ev M.Γ c ρ).bind fun z => cmpT op' y z else .ok (.bl false)) Q := h
    refine sat a M F H σ ρ _ m s E (PostX.of (Post.bind h fun x _ h1 v F1 H1 fp E1 r1 => ?_))
    refine sat b M F1 H1 σ ρ _ m E1.s (E.ext E1) (PostX.of (Post.bind (Post.ext E1 h1) fun y _ h2 w F2 H2 fp2 E2 r2 => ?_))
    have h2 := Post.ext E2 h2
    cases e : cmpB op x y with
    | none =>
      unfold cmpT at h2
      rw [e] at h2
      exact h2.elim
    | some k =>
      have e' : cmpT op x y = .ok (.bl k) := by unfold cmpT; rw [e]
      rw [e'] at h2
      have h2 : Post M.K F2 H2 (M.W σ) (if k then (ev M.Γ c ρ).bind fun z => cmpT op' y z else .ok (.bl false)) Q := h2
      refine cmpOk op F2 H2 (M.W σ) x y v w _ _ _ E2.s (Rp.ext E2 r1) r2 ?_
      rw [e']
      intro z F3 H3 fp3 E3 r3 _
      refine ⟨k, r3.1, ?_⟩
      have h3 := Post.ext E3 h2
      cases k with
      | false =>
        show Q (.bl false) H3
        exact Post.bl E3.s h3
      | true =>
        show rd c M σ H3 _
        refine sat c M F3 H3 σ ρ _ m E3.s (((E.ext E1).ext E2).ext E3) (PostX.of (Post.bind h3 fun z _ h4 u F4 H4 fp4 E4 r4 => ?_))
        exact cmpOk op' F4 H4 _ y z w u _ _ Q E4.s (Rp.ext E4 (Rp.ext E3 r2)) r4 (Post.ext E4 h4)
  | .ite c a b, M, F, H, σ, ρ, Q, m, s, E, h => by
    have h : Post M.K F H (M.W σ) ((evB M.Γ c ρ).bind fun k => if k then (ev M.Γ a ρ).bind (capT a.vw) else (ev M.Γ b ρ).bind (capT b.vw)) Q := h
    refine satB c M F H σ ρ _ m s E (PostB.bind h fun k _ h1 F1 H1 E1 => ?_)
    cases k with
    | true =>
      show rd a M σ H1 Q
      exact sat a M F1 H1 σ ρ Q m E1.s (E.ext E1) (Post.cap (Post.ext E1 h1))
    | false =>
      show rd b M σ H1 Q
      exact sat b M F1 H1 σ ρ Q m E1.s (E.ext E1) (Post.cap (Post.ext E1 h1))
  | .tup es, M, F, H, σ, ρ, Q, m, s, E, h => by
    have h : Post M.K F H (M.W σ) ((evs M.Γ es ρ).bind fun ts => if ts.length ≤ 1000 then .ok (.tup ts) else .stuck) Q := h
    refine sats es M F H σ ρ _ m s E (PostL.bind h fun ts _ h1 vs F1 H1 fp E1 r1 f1 => ?_)
    split at h1
    · rename_i c
      refine ⟨by rw [RpL.length r1, sizeLine_eq]; omega, fun p hp => ?_⟩
      have ee := Ext.tup (o' := .tup vs) E1.s hp
      exact h1 _ _ _ fp (E1.trans ee) ⟨p, vs, rfl, .inl (.inl upd_same), RpL.ext ee r1⟩ (Frsh.keepL (F0 := F) f1 r1 ee)
    · exact h1.elim
  | .lst es, M, F, H, σ, ρ, Q, m, s, E, h => by
    have h : Post M.K F H (M.W σ) ((evs M.Γ es ρ).bind fun ts => if ts.length ≤ 1000 then .ok (.lst .own (T.frz.frzL ts)) else .stuck) Q := h
    refine sats es M F H σ ρ _ m s E (PostL.bind h fun ts _ h1 vs F1 H1 fp E1 r1 f1 => ?_)
    split at h1
    · rename_i c
      obtain ⟨F2, z, r2⟩ := RpL.freeze ts vs fp E1.s (fun a ma => (f1.2 a ma).2) f1.1 r1
      have E2 := E1.fz2 z fun a ma => (f1.2 a ma).1
      exact ⟨by rw [RpL.length r1, sizeLine_eq]; omega, Post.lst E2.s (Post.ext E2 h1) r2⟩
    · exact h1.elim
  | .sub a i, M, F, H, σ, ρ, Q, m, s, E, h => by
    have h : PostV M.K F H (M.W σ) ((ev M.Γ a ρ).bind fun x => (ev M.Γ i ρ).bind fun y => ixT x y) Q := h
    refine sat a M F H σ ρ _ m s E (PostX.of (PostV.bind h fun x _ h1 v F1 H1 fp E1 r1 => ?_))
    refine sat i M F1 H1 σ ρ _ m E1.s (E.ext E1) (PostX.of (PostV.bind (PostV.ext E1 h1) fun y _ h2 w F2 H2 fp2 E2 r2 => ?_))
    exact ixOk E2.s (Rp.ext E2 r1) r2 (PostV.ext E2 h2)
  | .sl a lo hi, M, F, H, σ, ρ, Q, m, s, E, h => by
    have h : Post M.K F H (M.W σ) ((ev M.Γ a ρ).bind fun x => (evO M.Γ lo ρ).bind fun l => (evO M.Γ hi ρ).bind fun h => slT x l h) Q := h
    refine sat a M F H σ ρ _ m s E (PostX.of (Post.bind h fun x _ h1 v F1 H1 fp E1 r1 => ?_))
    refine satO lo M F1 H1 σ ρ _ m E1.s (E.ext E1) (PostO.bind (Post.ext E1 h1) fun l _ h2 F2 H2 E2 => ?_)
    refine satO hi M F2 H2 σ ρ _ m E2.s ((E.ext E1).ext E2) (PostO.bind (Post.ext E2 h2) fun l' _ h3 F3 H3 E3 => ?_)
    exact slOk E3.s (Rp.ext E3 (Rp.ext E2 r1)) (Post.ext E3 h3)
  | .call f es, M, F, H, σ, ρ, Q, m, s, E, h => by
    have h : Post M.K F H (M.W σ) ((evs M.Γ es ρ).bind fun ts => M.Γ f (T.frz.frzL ts)) Q := h
    refine sats es M F H σ ρ _ m s E (PostL.bind h fun ts _ h1 vs F1 H1 fp E1 r1 f1 => ?_)
    obtain ⟨F2, z, r2⟩ := RpL.freeze ts vs fp E1.s (fun a ma => (f1.2 a ma).2) f1.1 r1
    have E2 := E1.fz2 z fun a ma => (f1.2 a ma).1
    have h2 := Post.ext E2 h1
    refine ⟨F2, _, ?_, E2.s, r2, ?_⟩
    · rw [RpL.length r2]
      refine m.np f _ fun z => ?_
      rw [z] at h2
      exact h2.elim
    · cases e : M.Γ f (T.frz.frzL ts) with
      | ok t => rw [e] at h2; exact h2
      | stuck => rw [e] at h2; exact h2.elim
      | exc c =>
        rw [e] at h2
        exact fun F3 H3 E3 C hC => ⟨c, C, hC, rfl, rfl, h2 F3 H3 E3⟩
  | .callv f es, M, F, H, σ, ρ, Q, m, s, E, h => by
    have h : Post M.K F H (M.W σ) ((evsV M.Γ es ρ).bind fun ts => scalR (M.Γ f (T.frz.frzL ts))) Q := h
    refine satsV es M F H σ ρ _ m s E (PostLV.bind h fun ts _ h1 vs F1 H1 fp E1 r1 => ?_)
    have h2 := Post.ext E1 h1
    have r2 := RpL.borrow E1.s ts vs fp r1
    refine ⟨H1, _, ?_, Same.refl H1, r2, ?_⟩
    · rw [RpL.length r2]
      refine m.np f _ fun z => ?_
      rw [z] at h2
      exact h2.elim
    · cases e : M.Γ f (T.frz.frzL ts) with
      | ok t =>
        rw [e] at h2
        unfold scalR at h2
        dsimp only at h2
        split at h2
        · rename_i sc
          intro v F' H' fp' E' r' _
          have E3 : Ext F1 H1 F1 H' := ⟨E'.h, Same.refl _, E1.s.trans E'.h, fun a z => .inl z⟩
          exact h2 v F1 H' [] E3 (Rp.scal sc r') Frsh.nil
        · exact h2.elim
      | stuck => rw [e] at h2; exact h2.elim
      | exc c =>
        rw [e] at h2
        exact fun F3 H3 E3 C hC => ⟨c, C, hC, rfl, rfl, h2 F1 H3 ⟨E3.h, Same.refl _, E1.s.trans E3.h, fun a z => .inl z⟩⟩
  | .call0 f, M, F, H, σ, ρ, Q, m, s, E, h => by
    have h : Post M.K F H (M.W σ) (M.Γ f []) Q := h
    refine ⟨F, [], ?_, s, RpL.nil, ?_⟩
    · refine (show ([] : List V).length = ([] : List T).length from rfl).trans (m.np f [] fun z => ?_)
      rw [z] at h
      exact h.elim
    · cases e : M.Γ f [] with
      | ok t => rw [e] at h; exact h
      | stuck => rw [e] at h; exact h.elim
      | exc c =>
        rw [e] at h
        exact fun F3 H3 E3 C hC => ⟨c, C, hC, rfl, rfl, h F3 H3 E3⟩
  | .rev a, M, F, H, σ, ρ, Q, m, s, E, h => by
    have h : Post M.K F H (M.W σ) ((ev M.Γ a ρ).bind revT) Q := h
    refine sat a M F H σ ρ _ m s E (PostX.of (Post.bind h fun x _ h1 v F1 H1 fp E1 r1 => ?_))
    exact revOk E1.s r1 (Post.ext E1 h1)
  | .blt b es, M, F, H, σ, ρ, Q, m, s, E, h => by
    have h : Post M.K F H (M.W σ) ((evsV M.Γ es ρ).bind fun ts => bltT b ts) Q := h
    refine satsV es M F H σ ρ _ m s E (PostLV.bind h fun ts _ h1 vs F1 H1 fp E1 r1 => ?_)
    exact bltOk E1.s r1 (Post.ext E1 h1)
  | .gcd a b, M, F, H, σ, ρ, Q, m, s, E, h => by
    have h : Post M.K F H (M.W σ) ((ev M.Γ a ρ).bind fun x => (ev M.Γ b ρ).bind fun y => match x, y with
      | .int i, .int j => .ok (.int ((Nat.gcd i.natAbs j.natAbs : Nat) : Int))
      | _, _ => .stuck) Q := h
    refine sat a M F H σ ρ _ m s E (PostX.of (Post.bind h fun x _ h1 v F1 H1 fp E1 r1 => ?_))
    refine sat b M F1 H1 σ ρ _ m E1.s (E.ext E1) (PostX.of (Post.bind (Post.ext E1 h1) fun y _ h2 w F2 H2 fp2 E2 r2 => ?_))
    have h2 := Post.ext E2 h2
    split at h2
    · exact ⟨_, _, by rw [r1.1, r2.1], Post.int E2.s h2⟩
    · exact h2.elim
  | .isi a ty, M, F, H, σ, ρ, Q, m, s, E, h => by
    have h : Post M.K F H (M.W σ) ((ev M.Γ a ρ).bind fun x => .ok (.bl (tyIs ty x))) Q := h
    refine sat a M F H σ ρ _ m s E (PostX.of (Post.bind h fun x _ h1 v F1 H1 fp E1 r1 => ?_))
    obtain ⟨tv, t1, t2⟩ := Rp.ty E1.s ty r1
    exact ⟨v, .ty ty.name, _, _, _, rfl, .ty _, t1, t2, Post.bl E1.s (Post.ext E1 h1)⟩
  | .m0 mm o, M, F, H, σ, ρ, Q, m, s, E, h => by
    have h : Post M.K F H (M.W σ) ((ev M.Γ o ρ).bind fun x => m0T mm x) Q := h
    refine sat o M F H σ ρ _ m s E (PostX.of (Post.bind h fun x _ h1 v F1 H1 fp E1 r1 => ?_))
    exact m0Ok E1.s r1 (Post.ext E1 h1)
  | .m1 mm o e, M, F, H, σ, ρ, Q, m, s, E, h => by
    have h : Post M.K F H (M.W σ) ((ev M.Γ o ρ).bind fun x => if isStr x then (ev M.Γ e ρ).bind fun y => m1T mm x y else .stuck) Q := h
    refine sat o M F H σ ρ _ m s E (PostX.of (Post.bind h fun x _ h1 v F1 H1 fp E1 r1 => ?_))
    split at h1
    · rename_i c
      refine ⟨isStrOk r1 c, ?_⟩
      refine sat e M F1 H1 σ ρ _ m E1.s (E.ext E1) (PostX.of (Post.bind (Post.ext E1 h1) fun y _ h2 w F2 H2 fp2 E2 r2 => ?_))
      exact m1Ok E2.s (Rp.ext E2 r1) r2 (Post.ext E2 h2)
    · exact h1.elim
  | .comp elt g k es c own, M, F, H, σ, ρ, Q, m, s, E, h => by
    have h : Post M.K F H (M.W σ) ((evs M.Γ es ρ).bind fun ts => (itT k (T.frz.frzL ts)).bind fun l => if l.length ≤ sizeLine ∧ subIx g own = true then
      (mapR (fun t => match bindG g t (wipeE ρ (own.map (·.2))) with
        | some ρ' => ((evC M.Γ c ρ').calm).bind fun b => if b then (((ev M.Γ elt ρ').bind (capT elt.vw)).calm).bind fun y => .ok (some y.frz) else .ok none
        | none => .stuck) l).bind fun ys => .ok (.lst .own ys)
      else .stuck) Q := h
    refine sats es M F H σ ρ _ m s E (PostL.bind h fun ts _ h1 vs F1 H1 fp E1 r1 f1 => ?_)
    obtain ⟨F2, z, r2⟩ := RpL.freeze ts vs fp E1.s (fun a ma => (f1.2 a ma).2) f1.1 r1
    have E2 := E1.fz2 z fun a ma => (f1.2 a ma).1
    have h2 := Post.ext E2 h1
    cases ei : itT k (T.frz.frzL ts) with
    | stuck => rw [ei] at h2; exact h2.elim
    | exc c => exact absurd ei (by unfold itT; split <;> (try split) <;> (intro z; cases z))
    | ok l =>
      rw [ei] at h2
      refine itOk E2.s r2 (frzL_no ts) ei fun J yi D hD => ?_
      have h2 : Post M.K F2 H1 (M.W σ) (if l.length ≤ sizeLine ∧ subIx g own = true then
        (mapR (fun t => match bindG g t (wipeE ρ (own.map (·.2))) with
          | some ρ' => ((evC M.Γ c ρ').calm).bind fun b => if b then (((ev M.Γ elt ρ').bind (capT elt.vw)).calm).bind fun y => .ok (some y.frz) else .ok none
          | none => .stuck) l).bind fun ys => .ok (.lst .own ys)
        else .stuck) Q := h2
      split at h2
      · rename_i cc
        obtain ⟨c1, c2⟩ := cc
        have hsub : ∀ i ∈ g.ixs, i ∈ own.map (·.2) := fun i hi => by
          have := List.all_eq_true.mp c2 i hi
          simpa using this
        generalize hf : (fun t => match bindG g t (wipeE ρ (own.map (·.2))) with
          | some ρ' => ((evC M.Γ c ρ').calm).bind fun b => if b then (((ev M.Γ elt ρ').bind (capT elt.vw)).calm).bind fun y => R.ok (some y.frz) else .ok none
          | none => .stuck) = f at h2
        cases em : mapR f l with
        | stuck => rw [em] at h2; exact h2.elim
        | exc x =>
          exfalso
          have : ∀ (l : List T) x, mapR f l ≠ .exc x := by
            intro l
            induction l with
            | nil => intro x z; cases z
            | cons t ts ih =>
              intro x z
              unfold mapR at z
              have nf : ∀ x, f t ≠ .exc x := by
                intro x z
                rw [← hf] at z
                simp only at z
                split at z
                · cases e1 : (evC M.Γ c _).calm with
                  | stuck => rw [e1] at z; cases z
                  | exc y => cases q : evC M.Γ c _ <;> rw [q] at e1 <;> cases e1
                  | ok b =>
                    rw [e1] at z
                    cases b with
                    | false => cases z
                    | true =>
                      have z : (((ev M.Γ elt _).bind (capT elt.vw)).calm).bind (fun y => R.ok (some y.frz)) = .exc x := z
                      cases e2 : ((ev M.Γ elt _).bind (capT elt.vw)).calm with
                      | stuck => rw [e2] at z; cases z
                      | exc y => cases q : ((ev M.Γ elt _).bind (capT elt.vw)) <;> rw [q] at e2 <;> cases e2
                      | ok y => rw [e2] at z; cases z
                · cases z
              cases e1 : f t with
              | stuck => rw [e1] at z; cases z
              | exc y => exact nf y e1
              | ok o =>
                rw [e1] at z
                cases e2 : mapR f ts with
                | stuck => rw [e2] at z; cases z
                | exc y => exact ih y e2
                | ok r => rw [e2] at z; cases z
          exact this l x em
        | ok ys =>
          rw [em] at h2
          have h2 : Post M.K F2 H1 (M.W σ) (.ok (.lst .own ys)) Q := h2
          refine lcOk E2.s hD yi c1 em (fun t o fo F3 H3 v E3 r3 A B hA hB => ?_) h2
          rw [← hf] at fo
          simp only at fo
          split at fo
          · rename_i ρ' eb
            have E3' := ((E.ext E2).ext E3).wipe (own.map (·.2))
            refine bindOk g t v [] _ ρ' _ F3 H3 _ E3.s r3 E3' eb fun σ' Es S => ⟨wipe_sets S hsub, ?_⟩
            cases e1 : evC M.Γ c ρ' with
            | stuck => rw [e1] at fo; cases fo
            | exc y => rw [e1] at fo; cases fo
            | ok b =>
              rw [e1] at fo
              refine satC c M.calm F3 H3 σ' ρ' _ m.calm E3.s Es ?_
              show PostB F3 H3 _ (evC M.Γ c ρ') _
              rw [e1]
              intro F4 H4 E4
              cases b with
              | false =>
                rw [if_neg Bool.false_ne_true]
                have fo : R.ok (none : Option T) = R.ok o := fo
                exact hB (R.ok.inj fo).symm F4 H4 E4
              | true =>
                rw [if_pos rfl]
                have fo : (((ev M.Γ elt ρ').bind (capT elt.vw)).calm).bind (fun y => R.ok (some y.frz)) = .ok o := fo
                refine sat elt M.calm F4 H4 σ' ρ' _ m.calm E4.s (Es.ext E4) (Post.cap ?_)
                show Post M.K F4 H4 _ ((ev M.Γ elt ρ').bind (capT elt.vw)) _
                cases e2 : (ev M.Γ elt ρ').bind (capT elt.vw) with
                | stuck => rw [e2] at fo; cases fo
                | exc y => rw [e2] at fo; cases fo
                | ok y =>
                  rw [e2] at fo
                  have fo : R.ok (some y.frz) = R.ok o := fo
                  intro v5 F5 H5 fp5 E5 r5 f5
                  obtain ⟨F6, z6, r6⟩ := Rp.freeze y v5 fp5 E5.s (fun a ma => (f5.2 a ma).2) f5.1 r5
                  exact hA _ v5 F6 H5 (R.ok.inj fo).symm (E4.trans (E5.fz2 z6 fun a ma => (f5.2 a ma).1)) r6
          · cases fo
      · exact h2.elim
theorem satB : ∀ (b : CB) (M : Mt) (F H : Hp) (σ : L2.St) (ρ : En) (Q : Bool → Hp → Prop), MtOk M → Same F H → EnvOk M.K F H σ ρ → PostB F H (M.W σ) (evB M.Γ b ρ) Q → rdB b M σ H Q
  | .tru e, M, F, H, σ, ρ, Q, m, s, E, h => by
    have h : PostB F H (M.W σ) ((ev M.Γ e ρ).bind truT) Q := h
    refine sat e M F H σ ρ _ m s E (PostX.of (PostB.bindV h fun t _ h1 v F1 H1 fp E1 r1 => ?_))
    cases et : truT t with
    | stuck => rw [et] at h1; exact h1.elim
    | exc c => exact absurd et (truT_no t c)
    | ok k =>
      rw [et] at h1
      exact ⟨k, truOk E1.s r1 et, h1 F1 H1 E1⟩
  | .val e, M, F, H, σ, ρ, Q, m, s, E, h => sat e M F H σ ρ _ m s E (PostX.of (PostB.asB h))
  | .not b, M, F, H, σ, ρ, Q, m, s, E, h => by
    have h : PostB F H (M.W σ) ((evB M.Γ b ρ).bind fun k => .ok (!k)) Q := h
    exact satB b M F H σ ρ _ m s E (PostB.bindB h fun k _ h1 F1 H1 E1 => h1 F1 H1 E1)
  | .and bs, M, F, H, σ, ρ, Q, m, s, E, h => satBAnd bs M F H σ ρ Q m s E h
  | .or bs, M, F, H, σ, ρ, Q, m, s, E, h => satBOr bs M F H σ ρ Q m s E h
theorem satBAnd : ∀ (bs : List CB) (M : Mt) (F H : Hp) (σ : L2.St) (ρ : En) (Q : Bool → Hp → Prop), MtOk M → Same F H → EnvOk M.K F H σ ρ → PostB F H (M.W σ) (evBAnd M.Γ bs ρ) Q → rdBAnd bs M σ H Q
  | [], M, F, H, σ, ρ, Q, m, s, E, h => h.elim
  | [b], M, F, H, σ, ρ, Q, m, s, E, h => satB b M F H σ ρ Q m s E h
  | b :: b' :: bs, M, F, H, σ, ρ, Q, m, s, E, h => by
    have h : PostB F H (M.W σ) ((evB M.Γ b ρ).bind fun k => if k then evBAnd M.Γ (b' :: bs) ρ else .ok false) Q := h
    refine satB b M F H σ ρ _ m s E (PostB.bindB h fun k _ h1 F1 H1 E1 => ?_)
    cases k with
    | true => exact satBAnd (b' :: bs) M F1 H1 σ ρ Q m E1.s (E.ext E1) (PostB.ext E1 h1)
    | false => exact h1 F1 H1 E1
theorem satBOr : ∀ (bs : List CB) (M : Mt) (F H : Hp) (σ : L2.St) (ρ : En) (Q : Bool → Hp → Prop), MtOk M → Same F H → EnvOk M.K F H σ ρ → PostB F H (M.W σ) (evBOr M.Γ bs ρ) Q → rdBOr bs M σ H Q
  | [], M, F, H, σ, ρ, Q, m, s, E, h => h.elim
  | [b], M, F, H, σ, ρ, Q, m, s, E, h => satB b M F H σ ρ Q m s E h
  | b :: b' :: bs, M, F, H, σ, ρ, Q, m, s, E, h => by
    have h : PostB F H (M.W σ) ((evB M.Γ b ρ).bind fun k => if k then .ok true else evBOr M.Γ (b' :: bs) ρ) Q := h
    refine satB b M F H σ ρ _ m s E (PostB.bindB h fun k _ h1 F1 H1 E1 => ?_)
    cases k with
    | true => exact h1 F1 H1 E1
    | false => exact satBOr (b' :: bs) M F1 H1 σ ρ Q m E1.s (E.ext E1) (PostB.ext E1 h1)
theorem satAnd : ∀ (bs : List CE) (M : Mt) (F H : Hp) (σ : L2.St) (ρ : En) (Q : VK), MtOk M → Same F H → EnvOk M.K F H σ ρ → Post M.K F H (M.W σ) (evAnd M.Γ bs ρ) Q → rdAnd bs M σ H Q
  | [], M, F, H, σ, ρ, Q, m, s, E, h => h.elim
  | [b], M, F, H, σ, ρ, Q, m, s, E, h => sat b M F H σ ρ Q m s E (PostX.of (Post.ofB h))
  | b :: b' :: bs, M, F, H, σ, ρ, Q, m, s, E, h => by
    have h : Post M.K F H (M.W σ) ((asB (ev M.Γ b ρ)).bind fun k => if k then evAnd M.Γ (b' :: bs) ρ else .ok (.bl false)) Q := h
    refine sat b M F H σ ρ _ m s E (PostX.of (Post.asB h fun k h1 F1 H1 E1 => ⟨k, rfl, ?_⟩))
    cases k with
    | true => exact satAnd (b' :: bs) M F1 H1 σ ρ Q m E1.s (E.ext E1) (Post.ext E1 h1)
    | false => exact Post.bl E1.s (Post.ext E1 h1)
theorem satOr : ∀ (bs : List CE) (M : Mt) (F H : Hp) (σ : L2.St) (ρ : En) (Q : VK), MtOk M → Same F H → EnvOk M.K F H σ ρ → Post M.K F H (M.W σ) (evOr M.Γ bs ρ) Q → rdOr bs M σ H Q
  | [], M, F, H, σ, ρ, Q, m, s, E, h => h.elim
  | [b], M, F, H, σ, ρ, Q, m, s, E, h => sat b M F H σ ρ Q m s E (PostX.of (Post.ofB h))
  | b :: b' :: bs, M, F, H, σ, ρ, Q, m, s, E, h => by
    have h : Post M.K F H (M.W σ) ((asB (ev M.Γ b ρ)).bind fun k => if k then .ok (.bl true) else evOr M.Γ (b' :: bs) ρ) Q := h
    refine sat b M F H σ ρ _ m s E (PostX.of (Post.asB h fun k h1 F1 H1 E1 => ⟨k, rfl, ?_⟩))
    cases k with
    | true => exact Post.bl E1.s (Post.ext E1 h1)
    | false => exact satOr (b' :: bs) M F1 H1 σ ρ Q m E1.s (E.ext E1) (Post.ext E1 h1)
theorem sats : ∀ (es : List CE) (M : Mt) (F H : Hp) (σ : L2.St) (ρ : En) (Q : List V → Hp → Prop), MtOk M → Same F H → EnvOk M.K F H σ ρ → PostL M.K F H (M.W σ) (evs M.Γ es ρ) Q → rds es M σ H Q
  | [], M, F, H, σ, ρ, Q, m, s, E, h => h [] F H [] (Ext.refl s) ⟨rfl, rfl⟩ Frsh.nil
  | e :: es, M, F, H, σ, ρ, Q, m, s, E, h => by
    have h : PostL M.K F H (M.W σ) (((ev M.Γ e ρ).bind (capT e.vw)).bind fun t => (evs M.Γ es ρ).bind fun ts => .ok (t :: ts)) Q := h
    refine sat e M F H σ ρ _ m s E (Post.cap ?_)
    cases e1 : (ev M.Γ e ρ).bind (capT e.vw) with
    | stuck => rw [e1] at h; exact h.elim
    | exc c => rw [e1] at h; exact h
    | ok t =>
      rw [e1] at h
      intro v F1 H1 fp E1 r1 f1
      refine sats es M F1 H1 σ ρ _ m E1.s (E.ext E1) ?_
      have h : PostL M.K F H (M.W σ) ((evs M.Γ es ρ).bind fun ts => .ok (t :: ts)) Q := h
      cases e2 : evs M.Γ es ρ with
      | stuck => rw [e2] at h; exact h.elim
      | exc c => rw [e2] at h; exact fun F2 H2 E2 => h F2 H2 (E1.trans E2)
      | ok ts =>
        rw [e2] at h
        intro vs F2 H2 fp2 E2 r2 f2
        exact h (v :: vs) F2 H2 (fp ++ fp2) (E1.trans E2) (RpL.cons (Rp.ext E2 r1) r2) (Frsh.app E1 f1 r1 E2 f2)
theorem satsV : ∀ (es : List CE) (M : Mt) (F H : Hp) (σ : L2.St) (ρ : En) (Q : List V → Hp → Prop), MtOk M → Same F H → EnvOk M.K F H σ ρ → PostLV M.K F H (M.W σ) (evsV M.Γ es ρ) Q → rds es M σ H Q
  | [], M, F, H, σ, ρ, Q, m, s, E, h => h [] F H [] (Ext.refl s) ⟨rfl, rfl⟩
  | e :: es, M, F, H, σ, ρ, Q, m, s, E, h => by
    have h : PostLV M.K F H (M.W σ) ((ev M.Γ e ρ).bind fun t => (evsV M.Γ es ρ).bind fun ts => .ok (t :: ts)) Q := h
    refine sat e M F H σ ρ _ m s E (PostX.of ?_)
    cases e1 : ev M.Γ e ρ with
    | stuck => rw [e1] at h; exact h.elim
    | exc c => rw [e1] at h; exact h
    | ok t =>
      rw [e1] at h
      intro v F1 H1 fp E1 r1
      refine satsV es M F1 H1 σ ρ _ m E1.s (E.ext E1) ?_
      have h : PostLV M.K F H (M.W σ) ((evsV M.Γ es ρ).bind fun ts => .ok (t :: ts)) Q := h
      cases e2 : evsV M.Γ es ρ with
      | stuck => rw [e2] at h; exact h.elim
      | exc c => rw [e2] at h; exact fun F2 H2 E2 => h F2 H2 (E1.trans E2)
      | ok ts =>
        rw [e2] at h
        intro vs F2 H2 fp2 E2 r2
        exact h (v :: vs) F2 H2 (fp ++ fp2) (E1.trans E2) (RpL.cons (Rp.ext E2 r1) r2)
theorem satO : ∀ (e : Option CE) (M : Mt) (F H : Hp) (σ : L2.St) (ρ : En) (Q : Option Int → Hp → Prop), MtOk M → Same F H → EnvOk M.K F H σ ρ → PostO F H (M.W σ) (evO M.Γ e ρ) Q → rdO e M σ H Q
  | none, M, F, H, σ, ρ, Q, m, s, E, h => h F H (Ext.refl s)
  | some e, M, F, H, σ, ρ, Q, m, s, E, h => by
    have h : PostO F H (M.W σ) ((ev M.Γ e ρ).bind fun t => match t with | .int i => .ok (some i) | _ => .stuck) Q := h
    refine sat e M F H σ ρ _ m s E (PostX.of ?_)
    cases e1 : ev M.Γ e ρ with
    | stuck => rw [e1] at h; exact h.elim
    | exc c => rw [e1] at h; exact h
    | ok t =>
      rw [e1] at h
      intro v F1 H1 fp E1 r1
      cases t with
      | int i => exact ⟨i, r1.1, h F1 H1 E1⟩
      | _ => exact (show False from h).elim
theorem satC : ∀ (c : Option CB) (M : Mt) (F H : Hp) (σ : L2.St) (ρ : En) (Q : Bool → Hp → Prop), MtOk M → Same F H → EnvOk M.K F H σ ρ → PostB F H (M.W σ) (evC M.Γ c ρ) Q → rdC c M σ H Q
  | none, M, F, H, σ, ρ, Q, m, s, E, h => h F H (Ext.refl s)
  | some b, M, F, H, σ, ρ, Q, m, s, E, h => satB b M F H σ ρ Q m s E h
end
end PV
namespace PV
open PySem L2 PyProof.Rows

/-! ### the text and the small tongue -/
structure GG where
  fns : List Str
  gc : Bool
  cst : List (Str × T)
  cv : Str → V
  np : Nat → Nat
  Γ : Orc
mutual
def eqTT : T → T → Bool
  | .non, .non => true
  | .bl a, .bl b => decide (a = b)
  | .int a, .int b => decide (a = b)
  | .str a, .str b => decide (a = b)
  | .tup a, .tup b => eqTL a b
  | .lst k a, .lst k' b => decide (k = k') && eqTL a b
  | _, _ => false
def eqTL : List T → List T → Bool
  | [], [] => true
  | a :: as, b :: bs => eqTT a b && eqTL as bs
  | _, _ => false
end
mutual
theorem eqTT_ok : ∀ (a b : T), eqTT a b = true → a = b
  | .non, b, h => by cases b <;> first | rfl | cases h
  | .bl a, b, h => by cases b <;> first | (have := of_decide_eq_true h; subst this; rfl) | cases h
  | .int a, b, h => by cases b <;> first | (have := of_decide_eq_true h; subst this; rfl) | cases h
  | .str a, b, h => by cases b <;> first | (have := of_decide_eq_true h; subst this; rfl) | cases h
  | .tup a, b, h => by cases b <;> first | (rw [eqTL_ok a _ h]) | cases h
  | .lst k a, .lst k' b, h => by
    have h : (decide (k = k') && eqTL a b) = true := h
    rw [Bool.and_eq_true] at h
    rw [of_decide_eq_true h.1, eqTL_ok a b h.2]
  | .lst k a, .non, h => by cases h
  | .lst k a, .bl _, h => by cases h
  | .lst k a, .int _, h => by cases h
  | .lst k a, .str _, h => by cases h
  | .lst k a, .tup _, h => by cases h
theorem eqTL_ok : ∀ (a b : List T), eqTL a b = true → a = b
  | [], [], _ => rfl
  | [], _ :: _, h => by cases h
  | _ :: _, [], h => by cases h
  | a :: as, b :: bs, h => by
    have h : (eqTT a b && eqTL as bs) = true := h
    rw [Bool.and_eq_true] at h
    rw [eqTT_ok a b h.1, eqTL_ok as bs h.2]
end
abbrev Nms := List (Str × NameKind)
def glB (sc : Scope) (x : Str) : Bool := decide (sc.names.lookup x = some .globalImplicit) && !(x == ("__debug__" : Str))
def visB (sc : Scope) (x : Str) : Bool := (decide (sc.names.lookup x = some .local) || decide (sc.names.lookup x = some .cell) || decide (sc.names.lookup x = some .free)) && !(x == ("__debug__" : Str)) && !(x == ("__classdict__" : Str))
def locB (ln : Nms) (x : Str) : Bool := decide (ln.lookup x = some .local) || decide (ln.lookup x = some .cell)
def notStar : Expr → Bool
  | .Starred _ _ => false | _ => true
def notSl : Expr → Bool
  | .Slice _ _ _ _ => false | _ => true
def plainO : Expr → Bool
  | .Call _ _ _ _ => false | _ => true
def plainO2 (o : Expr) (env : Env) (attr : Str) : Prop := attributeBase o attr env (eval o env) = eval o env
def notSet : Expr → Bool
  | .Set _ _ _ => false | _ => true
def plainT : Expr → Bool
  | .UnaryOp .Not _ _ => false | .BoolOp _ _ _ => false | .IfExp _ _ _ _ => false | .Compare _ _ _ _ => false | _ => true
/-- a call's callee is not super -/
def attrB : Expr → Bool
  | .Call (.Name id _) [] [] _ => id != ("super" : Str)
  | _ => true
theorem attr_ok {o : Expr} {env : Env} {a : Str} (h : attrB o = true) : attributeBase o a env (eval o env) = eval o env := by
  cases o
  case Call f es ks p =>
    cases f
    case Name id pp =>
      cases es
      · cases ks
        · have h : (id != ("super" : Str)) = true := h
          show (if id != "super" || a == "__class__" || env.kindOf "super" != some .globalImplicit || env.kindOf "__class__" != some .free then _ else _) = _
          rw [h]
          rfl
        · rfl
      · rfl
    all_goals rfl
  all_goals rfl
theorem star_ok {e : Expr} {es : List Expr} {env : Env} (h : notStar e = true) : starEach (e :: es) env = (false, eval e env) :: starEach es env := by
  cases e <;> first | rfl | cases h
theorem stars_ok {env : Env} {pos : Pos} : ∀ {es : List Expr}, es.all notStar = true → (backTo pos (starEach es env)).any (·.1) = false
  | [], _ => rfl
  | e :: es, h => by
    rw [List.all_cons, Bool.and_eq_true] at h
    rw [star_ok h.1]
    show (false || _) = false
    rw [Bool.false_or]
    exact stars_ok h.2
theorem notSl_ok {e : Expr} (h : notSl e = true) : PlainIx e := by
  intro o i
  cases e <;> first | rfl | cases h
theorem notSet_ok {e : Expr} {env : Env} (h : notSet e = true) : ∀ x, foldedSetIterable e env x = pure x := by
  intro x
  cases e <;> first | rfl | cases h
theorem plainT_ok {e : Expr} {env : Env} (h : plainT e = true) : ∀ whole, isTrue e env whole = (do let v ← whole; standAt e.pos; holding [v] (truthy v)) := by
  intro whole
  cases e
  case UnaryOp op a p => cases op <;> first | rfl | cases h
  all_goals first | rfl | cases h

mutual
def ckG (N : List Str) (ln : Nms) : Tg → Expr → Bool
  | .nm i, e => match e with
    | .Name x _ => decide (N[i]? = some x) && locB ln x
    | _ => false
  | .tp l, e => match e with
    | .Tuple es _ _ => ckGs N ln l es && es.all notStar
    | _ => false
def ckGs (N : List Str) (ln : Nms) : List Tg → List Expr → Bool
  | [], es => es.isEmpty
  | g :: gs, es => match es with
    | e :: es => ckG N ln g e && ckGs N ln gs es
    | [] => false
end
def isTup : Expr → Bool
  | .Tuple _ _ _ => true | _ => false
mutual
def ck (G : GG) (N : List Str) : CE → Scope → Expr → Bool
  | .int i, _, e => match e with
    | .Constant (.int j) _ _ => decide (j = i)
    | _ => false
  | .bl i, _, e => match e with
    | .Constant (.bool j) _ _ => decide (j = i)
    | _ => false
  | .non, _, e => match e with
    | .Constant .none _ _ => true
    | _ => false
  | .str i, _, e => match e with
    | .Constant (.str j) _ _ => decide (j = i)
    | _ => false
  | .cst x t, sc, e => match e with
    | .Name y _ => decide (y = x) && glB sc x && (G.cst.any fun p => decide (p.1 = x) && eqTT p.2 t)
    | _ => false
  | .var i, sc, e => match e with
    | .Name x _ => decide (N[i]? = some x) && visB sc x
    | _ => false
  | .bin op a b, sc, e => match e with
    | .BinOp l op' r _ => decide (op' = op) && ck G N a sc l && ck G N b sc r
    | _ => false
  | .neg a, sc, e => match e with
    | .UnaryOp .USub l _ => ck G N a sc l
    | _ => false
  | .notv a, sc, e => match e with
    | .UnaryOp .Not l _ => ck G N a sc l
    | _ => false
  | .andv es, sc, e => match e with
    | .BoolOp .And l _ => cks G N es sc l && !es.isEmpty
    | _ => false
  | .orv es, sc, e => match e with
    | .BoolOp .Or l _ => cks G N es sc l && !es.isEmpty
    | _ => false
  | .cmp op a b, sc, e => match e with
    | .Compare l ops rs _ => match ops, rs with
      | [op'], [r] => decide (op' = op) && !behindInMarks op r && ck G N a sc l && ck G N b sc r
      | _, _ => false
    | _ => false
  | .chn op op2 a b c, sc, e => match e with
    | .Compare l ops rs _ => match ops, rs with
      | [op', op2'], [r, r2] => decide (op' = op) && decide (op2' = op2) && !behindInMarks op2 r2 && ck G N a sc l && ck G N b sc r && ck G N c sc r2
      | _, _ => false
    | _ => false
  | .ite c a b, sc, e => match e with
    | .IfExp t l r _ => ckB G N c sc t && ck G N a sc l && ck G N b sc r
    | _ => false
  | .tup es, sc, e => match e with
    | .Tuple l _ _ => cks G N es sc l && l.all notStar
    | _ => false
  | .lst es, sc, e => match e with
    | .List l _ => cks G N es sc l && l.all notStar
    | _ => false
  | .sub a i, sc, e => match e with
    | .Subscript l r _ => ck G N a sc l && ck G N i sc r && notSl r
    | _ => false
  | .sl a lo hi, sc, e => match e with
    | .Subscript l r _ => match r with
      | .Slice lo' hi' none _ => ck G N a sc l && ckO G N lo sc lo' && ckO G N hi sc hi'
      | _ => false
    | _ => false
  | .call f es, sc, e => match e with
    | .Call (.Name x _) (l :: ls) [] _ => decide (G.fns[f]? = some x) && glB sc x && cks G N es sc (l :: ls) && (l :: ls).all notStar
    | _ => false
  | .callv f es, sc, e => match e with
    | .Call (.Name x _) (l :: ls) [] _ => decide (G.fns[f]? = some x) && glB sc x && cks G N es sc (l :: ls) && (l :: ls).all notStar
    | _ => false
  | .call0 f, sc, e => match e with
    | .Call (.Name x _) [] [] _ => decide (G.fns[f]? = some x) && glB sc x
    | _ => false
  | .rev a, sc, e => match e with
    | .Call (.Name x _) [.Call (.Name y _) [l] [] _] [] _ => decide (x = "list") && glB sc x && decide (y = "reversed") && glB sc y && ck G N a sc l && notStar l
    | _ => false
  | .blt b es, sc, e => match e with
    | .Call (.Name x _) (l :: ls) [] _ => decide (x = b.name) && glB sc x && cks G N es sc (l :: ls) && (l :: ls).all notStar
    | _ => false
  | .gcd a b, sc, e => match e with
    | .Call (.Name x _) [l, r] [] _ => G.gc && decide (x = "gcd") && glB sc x && ck G N a sc l && ck G N b sc r && notStar l && notStar r
    | _ => false
  | .isi a ty, sc, e => match e with
    | .Call (.Name x _) [l, .Name y _] [] _ => decide (x = "isinstance") && glB sc x && decide (y = ty.name) && glB sc y && ck G N a sc l && notStar l
    | _ => false
  | .m0 m o, sc, e => match e with
    | .Call (.Attribute l a ap) [] [] p => attrB l && (ap.endLine == p.line) && ck G N o sc l && (match m with
      | .bitLength => decide (a = "bit_length"))
    | _ => false
  | .m1 m o c, sc, e => match e with
    | .Call (.Attribute l a ap) [r] [] p => attrB l && (ap.endLine == p.line) && ck G N o sc l && ck G N c sc r && notStar r && (match m with
      | .join => decide (a = "join"))
    | _ => false
  | .comp elt g k es c own, sc, e => match e with
    | .ListComp el [⟨tg, it, ifs, 0⟩] scope _ =>
      ckG N scope.names g tg && ckI G N k es sc tg it && blkC N sc scope own && ck G N elt (relS scope sc) el && ckC G N c (relS scope sc) ifs && notSet it
    | _ => false
def ckB (G : GG) (N : List Str) : CB → Scope → Expr → Bool
  | .tru c, sc, e => plainT e && ck G N c sc e
  | .val c, sc, e => ck G N c sc e && (plainT e || (match e with | .Compare _ _ _ _ => true | _ => false))
  | .not b, sc, e => match e with
    | .UnaryOp .Not l _ => ckB G N b sc l
    | _ => false
  | .and bs, sc, e => match e with
    | .BoolOp .And l _ => ckBs G N bs sc l && !bs.isEmpty
    | _ => false
  | .or bs, sc, e => match e with
    | .BoolOp .Or l _ => ckBs G N bs sc l && !bs.isEmpty
    | _ => false
def ckBs (G : GG) (N : List Str) : List CB → Scope → List Expr → Bool
  | [], _, es => es.isEmpty
  | b :: bs, sc, es => match es with
    | e :: es => ckB G N b sc e && ckBs G N bs sc es
    | [] => false
def cks (G : GG) (N : List Str) : List CE → Scope → List Expr → Bool
  | [], _, es => es.isEmpty
  | b :: bs, sc, es => match es with
    | e :: es => ck G N b sc e && cks G N bs sc es
    | [] => false
def ckO (G : GG) (N : List Str) : Option CE → Scope → Option Expr → Bool
  | none, _, e => e.isNone
  | some c, sc, e => match e with
    | some e => ck G N c sc e
    | none => false
def ckC (G : GG) (N : List Str) : Option CB → Scope → List Expr → Bool
  | none, _, es => es.isEmpty
  | some b, sc, es => match es with
    | [e] => ckB G N b sc e
    | _ => false
def ckI (G : GG) (N : List Str) : IK → List CE → Scope → Expr → Expr → Bool
  | k, es, sc, tg, it => match es with
    | [] => false
    | [c] => match k with
      | .seq => ck G N c sc it
      | .rng1 => match it with
        | .Call (.Name x _) [l] [] _ => decide (x = "range") && glB sc x && ck G N c sc l && notStar l
        | _ => false
      | .enm => match it with
        | .Call (.Name x _) [l] [] _ => decide (x = "enumerate") && glB sc x && ck G N c sc l && notStar l && isTup tg
        | _ => false
      | _ => false
    | [c, c'] => match k with
      | .rng2 => match it with
        | .Call (.Name x _) [l, r] [] _ => decide (x = "range") && glB sc x && ck G N c sc l && ck G N c' sc r && notStar l && notStar r
        | _ => false
      | .zip => match it with
        | .Call (.Name x _) [l, r] [] _ => decide (x = "zip") && glB sc x && ck G N c sc l && ck G N c' sc r && notStar l && notStar r && isTup tg
        | _ => false
      | _ => false
    | _ => false
end
end PV
namespace PV
open PySem L2 PyProof.Rows

def mt (X : Cx) (G : GG) (W : L2.St → XW) : Mt := ⟨X.K, X.mg, fun x t => ∃ p ∈ G.cst, p.1 = x ∧ p.2 = t, G.cv, G.np, G.Γ, W⟩
structure Cxt (X : Cx) (G : GG) (W : L2.St → XW) (N : List Str) (sc : Scope) (ln : Nms) (n : Nat) : Prop where
  hsc : X.env.scope = sc
  hln : ∀ x, locB ln x = true → L2.Loc sc x ∧ (X.fn x = true ∨ sc.names.lookup x = some .local)
  hN : X.N = N
  hnd : N.Nodup
  calm : X.calm = true
  room : Room n X.A
  tk : Takes X (WXof (mt X G W))
  fns : ∀ (i : Nat) (x : Str), G.fns[i]? = some x → ∃ f fd ps, X.mg x = some (.ref f) ∧ PySem.W.keepIn X.K (.ref f) = true ∧ Binds X.K fd ps [] ∧ FnOk X.prog X.w X.K X.mg X.base (L2.CX X.prog X.w) n f fd ps (spD X.K X.mg G.np G.Γ i)
  blt : ∀ b : Blt, X.mg b.name = none
  nms : ∀ x ∈ (["range", "enumerate", "zip", "isinstance", "reversed"] : List Str), X.mg x = none
  tys : ∀ t : Ty, X.mg t.name = none
  gcd : G.gc = true → X.mg "gcd" = some (.builtin "math.gcd")
  cst : ∀ p ∈ G.cst, ∃ u, X.mg p.1 = some u ∧ RelV (G.cv p.1) u
theorem PE.imp {X : Cx} {e : Expr} {t t' : TE} (h : PE X e t) (k : ∀ σ H Q, t' σ H Q → t σ H Q) : PE X e t' := ⟨fun pins s σ H Q I q => h.run pins s σ H Q I (k σ H Q q)⟩
theorem PT.imp {X : Cx} {e : Expr} {t t' : TT} (h : PT X e t) (k : ∀ σ H Q, t' σ H Q → t σ H Q) : PT X e t' := ⟨fun pins s σ H Q I q => h.run pins s σ H Q I (k σ H Q q)⟩
section
variable {X : Cx} {G : GG} {W : L2.St → XW} {N : List Str} {sc : Scope} {ln : Nms} {n : Nat}
theorem Cxt.gl (c : Cxt X G W N sc ln n) {x : Str} (h : glB sc x = true) : Gl X x ∧ (x == ("__debug__" : Str)) = false := by
  unfold glB at h
  rw [Bool.and_eq_true] at h
  refine ⟨?_, by simpa using h.2⟩
  show X.env.scope.names.lookup x = _
  rw [c.hsc]
  exact of_decide_eq_true h.1
theorem Cxt.vis (c : Cxt X G W N sc ln n) {x : Str} (h : visB sc x = true) : Vis X.env.scope x ∧ (x == ("__debug__" : Str)) = false ∧ (x == ("__classdict__" : Str)) = false := by
  unfold visB at h
  rw [Bool.and_eq_true, Bool.and_eq_true, Bool.or_eq_true, Bool.or_eq_true] at h
  refine ⟨?_, by simpa using h.1.2, by simpa using h.2⟩
  unfold Vis
  rw [c.hsc]
  rcases h.1.1 with (h | h) | h
  · exact .inl (of_decide_eq_true h)
  · exact .inr (.inl (of_decide_eq_true h))
  · exact .inr (.inr (of_decide_eq_true h))
theorem Cxt.blk (c : Cxt X G W N sc ln n) (scope : Scope) (s : Shared) (H : Hp) (C : Addr) (cl : List (Str × Addr)) (fp : List Addr) :
    Cxt (X.blk s H scope (compEnvC scope cl C X.env) fp) G (fun _ _ _ => False) N (relS scope sc) scope.names n where
  hsc := by
    show relS scope X.env.scope = _
    rw [c.hsc]
  hln := fun x h => by
    unfold locB at h
    rw [Bool.or_eq_true] at h
    rcases h with h | h
    · have h := of_decide_eq_true h
      have q : (relS scope sc).names.lookup x = some .local := lookup_relS_keep (by decide) h
      exact ⟨.inl q, .inr q⟩
    · have h := of_decide_eq_true h
      have q : (relS scope sc).names.lookup x = some .cell := lookup_relS_keep (by decide) h
      refine ⟨.inr q, .inl ?_⟩
      show (scope.names.lookup x == some .cell) = true
      rw [h]; rfl
  hN := c.hN
  hnd := c.hnd
  calm := c.calm
  room := c.room
  tk := Takes.imp takes0 fun _ _ _ _ ⟨_, _, _, _, _, z⟩ => z
  fns := c.fns
  blt := c.blt
  nms := c.nms
  tys := c.tys
  gcd := c.gcd
  cst := c.cst
mutual
theorem pgOk (c : Cxt X G W N sc ln n) : ∀ (g : Tg) (e : Expr), ckG N ln g e = true → PG X e (rdG X.K g)
  | .nm i, e, h => by
    unfold ckG at h
    split at h
    · rename_i x p
      rw [Bool.and_eq_true] at h
      obtain ⟨h1, h2⟩ := h
      obtain ⟨l1, l2⟩ := c.hln x h2
      exact pg_name (by rw [c.hN]; exact c.hnd) (by rw [c.hN]; exact of_decide_eq_true h1) (by rw [c.hsc]; exact l1) (by rw [c.hsc]; exact l2)
    · cases h
  | .tp l, e, h => by
    unfold ckG at h
    split at h
    · rename_i es k p
      rw [Bool.and_eq_true] at h
      obtain ⟨h1, h2⟩ := h
      have lens : ∀ (l : List Tg) (es : List Expr), ckGs N ln l es = true → es.length = l.length := by
        intro l
        induction l with
        | nil => intro es h; unfold ckGs at h; cases es <;> simp at h ⊢
        | cons g gs ih =>
          intro es h
          unfold ckGs at h
          split at h
          · rw [Bool.and_eq_true] at h
            rw [List.length_cons, List.length_cons, ih _ h.2]
          · cases h
      have al : ∀ (es : List Expr), es.all notStar = true → (assignEach es X.env).length = es.length ∧ (assignEach es X.env).findIdx? (·.1) = none := by
        intro es
        induction es with
        | nil => intro _; exact ⟨rfl, rfl⟩
        | cons e es ih =>
          intro h
          rw [List.all_cons, Bool.and_eq_true] at h
          obtain ⟨i1, i2⟩ := ih h.2
          have q : assignEach (e :: es) X.env = (false, assign e X.env) :: assignEach es X.env := by
            have h1 := h.1
            cases e <;> first | rfl | cases h1
          rw [q]
          refine ⟨by rw [List.length_cons, List.length_cons, i1], ?_⟩
          rw [List.findIdx?_cons]
          simp [i2]
      have a := al es h2
      exact pg_tup c.calm (pgsOk c l es h1 h2) (by rw [a.1]; exact lens l es h1) a.2
    · cases h
theorem pgsOk (c : Cxt X G W N sc ln n) : ∀ (gs : List Tg) (es : List Expr), ckGs N ln gs es = true → es.all notStar = true → PGs X es (rdGs X.K gs)
  | [], es, h, _ => by
    unfold ckGs at h
    have : es = [] := by simpa using h
    subst this
    exact pgs_nil
  | g :: gs, es, h, hs => by
    unfold ckGs at h
    split at h
    · rename_i e es
      rw [Bool.and_eq_true] at h
      rw [List.all_cons, Bool.and_eq_true] at hs
      refine pgs_cons (pgOk c g e h.1) (pgsOk c gs es h.2 hs.2) ?_
      have h1 := hs.1
      cases e <;> first | rfl | cases h1
    · cases h
end
theorem Blt.pe (c : Cxt X G W N sc ln n) (b : Blt) {x : Str} {p pos : Pos} {e : Expr} {es : List Expr} {t : TA} (hx : x = b.name) (g : glB sc x = true) (ha : PA X (e :: es) t) (hs : (e :: es).all notStar = true) : PE X (.Call (.Name x p) (e :: es) [] pos) (tCB (rBlt X.K b) t) := by
  obtain ⟨g1, g2⟩ := c.gl g
  subst hx
  rw [List.all_cons, Bool.and_eq_true] at hs
  have h1 := star_ok (es := es) (env := X.env) hs.1
  have h2 := stars_ok (env := X.env) (pos := pos) hs.2
  have cb := call_blt (X := X) c.calm b
  have m := c.blt b
  cases b with
  | len => exact pe_callB cb g1 m (by decide +kernel) ha (by decide) g2 h1 h2
  | int => exact pe_callTy cb g1 m (by decide +kernel) ha (by decide) g2 h1 h2
  | abs => exact pe_callB cb g1 m (by decide +kernel) ha (by decide) g2 h1 h2
  | max => exact pe_callB cb g1 m (by decide +kernel) ha (by decide) g2 h1 h2
  | min => exact pe_callB cb g1 m (by decide +kernel) ha (by decide) g2 h1 h2
  | sum => exact pe_callB cb g1 m (by decide +kernel) ha (by decide) g2 h1 h2
  | all => exact pe_callB cb g1 m (by decide +kernel) ha (by decide) g2 h1 h2
  | any => exact pe_callB cb g1 m (by decide +kernel) ha (by decide) g2 h1 h2
  | list => exact pe_callTy cb g1 m (by decide +kernel) ha (by decide) g2 h1 h2
  | tuple => exact pe_callTy cb g1 m (by decide +kernel) ha (by decide) g2 h1 h2
  | str => exact pe_callTy cb g1 m (by decide +kernel) ha (by decide) g2 h1 h2
theorem Ty.pe (c : Cxt X G W N sc ln n) (b : Ty) {x : Str} {p : Pos} (hx : x = b.name) (g : glB sc x = true) : PE X (.Name x p) (tC (.ty b.name)) := by
  obtain ⟨g1, g2⟩ := c.gl g
  subst hx
  have m := c.tys b
  cases b with
  | list => exact pe_bltn (u := .type "list") g1 m (by decide +kernel) rfl (by decide) g2
  | tuple => exact pe_bltn (u := .type "tuple") g1 m (by decide +kernel) rfl (by decide) g2
  | int => exact pe_bltn (u := .type "int") g1 m (by decide +kernel) rfl (by decide) g2
  | bool => exact pe_bltn (u := .type "bool") g1 m (by decide +kernel) rfl (by decide) g2
  | str => exact pe_bltn (u := .type "str") g1 m (by decide +kernel) rfl (by decide) g2
/-- a list or a tuple, walked -/
theorem pi_seq {tg e : Expr} {te : TE} (he : PE X e te) : PI X tg e (fun σ H R => te σ H fun x H1 => itP X.K .seq [x] H1 R) := by
  refine ⟨fun pins s σ H R I h => ?_⟩
  refine thn (he.run pins s σ H _ I h) fun v s1 ⟨x, H1, I1, r1, q1⟩ => ?_
  obtain ⟨a, e, q⟩ := q1
  subst e
  cases r1
  rcases q with ⟨⟨xs, hq⟩, q⟩ | ⟨⟨xs, hq⟩, q⟩
  · obtain ⟨its, rv, p, hz⟩ := I1.list hq
    refine wpAny_pyIter_list p.isList ?_
    refine ⟨s1.heap.objs.size, [s1.heap.objs.size], _, _, H1, rfl, I1.kept (t' := s1.toks) fun b o e => Heap.get?_push_of_some _ e, turn_list a _, ⟨_, Heap.get?_push_size _ rfl, rfl, rfl⟩, fun b hb => ?_, q⟩
    have e : b = s1.heap.objs.size := by simpa using hb
    subst e
    exact I1.fpOk (Nat.le_refl _) (I1.hok.fresh (Nat.le_refl _))
  · obtain ⟨its, rv, p, hz⟩ := I1.tuple hq
    refine wpAny_pyIter_tuple (show s1.heap.IsTuple a its.toArray from p) ?_
    refine ⟨s1.heap.objs.size, [s1.heap.objs.size], _, _, H1, rfl, I1.kept (t' := s1.toks) fun b o e => Heap.get?_push_of_some _ e, turn_tuple a _, ⟨_, Heap.get?_push_size _ rfl, rfl, rfl⟩, fun b hb => ?_, q⟩
    have e : b = s1.heap.objs.size := by simpa using hb
    subst e
    exact I1.fpOk (Nat.le_refl _) (I1.hok.fresh (Nat.le_refl _))
end
end PV
namespace PV
open PySem L2 PyProof.Rows

theorem bool2 {a b : Bool} (h : (a && b) = true) : a = true ∧ b = true := by rw [Bool.and_eq_true] at h; exact h
theorem tB_eq : @tTest = @tB := rfl
section
variable {G : GG} {N : List Str} {n : Nat}
theorem pe_isi {X : Cx} {W : L2.St → XW} {sc : Scope} {ln : Nms} (c : Cxt X G W N sc ln n) {l : Expr} {y x : Str} {p p2 pos : Pos} {t : TE} {ty : Ty} (hx : x = ("isinstance" : Str)) (g : glB sc x = true) (hy : y = ty.name) (g2 : glB sc y = true) (ha : PE X l t) (hs : notStar l = true) :
    PE X (.Call (.Name x p) [l, .Name y p2] [] pos) (tCB (rIsi X.K) (tCons t (tCons (tC (.ty ty.name)) tNil))) := by
  obtain ⟨g1, g3⟩ := c.gl g
  subst hx
  exact pe_callB call_isi g1 (c.nms _ (by simp)) (by decide +kernel) (pa_cons ha (pa_cons (Ty.pe c ty hy g2) pa_nil) (star_ok hs)) (by decide) g3 (star_ok hs) rfl
theorem pe_gcd {X : Cx} {W : L2.St → XW} {sc : Scope} {ln : Nms} (c : Cxt X G W N sc ln n) {l r : Expr} {x : Str} {p pos : Pos} {t u : TE} (hx : x = ("gcd" : Str)) (g : glB sc x = true) (hg : G.gc = true) (ha : PE X l t) (hb : PE X r u) (hs : notStar l = true) (hr : notStar r = true) :
    PE X (.Call (.Name x p) [l, r] [] pos) (tCB rGcd (tCons t (tCons u tNil))) := by
  obtain ⟨g1, g3⟩ := c.gl g
  subst hx
  exact pe_callBfun cr_gcd g1 (c.gcd hg) (pa_cons ha (pa_cons hb pa_nil (star_ok hr)) (star_ok hs)) g3 (star_ok hs) (stars_ok (es := [r]) (by simp [hr]))
theorem pi_rng1 {X : Cx} {W : L2.St → XW} {sc : Scope} {ln : Nms} (c : Cxt X G W N sc ln n) {tg l : Expr} {x : Str} {p pos : Pos} {t : TE} (hx : x = ("range" : Str)) (g : glB sc x = true) (ha : PE X l t) (hs : notStar l = true) : PI X tg (.Call (.Name x p) [l] [] pos) (iRng1 (tCons t tNil)) := by
  obtain ⟨g1, g3⟩ := c.gl g
  subst hx
  exact pi_range1 g1 (c.nms _ (by simp)) (pa_cons ha pa_nil (star_ok hs)) (star_ok hs)
theorem pi_rng2 {X : Cx} {W : L2.St → XW} {sc : Scope} {ln : Nms} (c : Cxt X G W N sc ln n) {tg l r : Expr} {x : Str} {p pos : Pos} {t u : TE} (hx : x = ("range" : Str)) (g : glB sc x = true) (ha : PE X l t) (hb : PE X r u) (hs : notStar l = true) (hr : notStar r = true) :
    PI X tg (.Call (.Name x p) [l, r] [] pos) (iRng2 (tCons t (tCons u tNil))) := by
  obtain ⟨g1, g3⟩ := c.gl g
  subst hx
  have s2 : starEach [r] X.env = [(false, eval r X.env)] := star_ok hr
  exact pi_range2 g1 (c.nms _ (by simp)) (pa_cons ha (pa_cons hb pa_nil s2) (star_ok hs)) (by rw [star_ok hs, s2]) s2
theorem pi_enm {X : Cx} {W : L2.St → XW} {sc : Scope} {ln : Nms} (c : Cxt X G W N sc ln n) {tg l : Expr} {x : Str} {p pos : Pos} {t : TE} (hx : x = ("enumerate" : Str)) (g : glB sc x = true) (ha : PE X l t) (hs : notStar l = true) (ht : isTup tg = true) : PI X tg (.Call (.Name x p) [l] [] pos) (iEnum X.K (tCons t tNil)) := by
  obtain ⟨g1, g3⟩ := c.gl g
  subst hx
  cases tg
  case Tuple es k tp => exact pi_enum g1 (c.nms _ (by simp)) (pa_cons ha pa_nil (star_ok hs)) (star_ok hs)
  all_goals cases ht
theorem pi_zipp {X : Cx} {W : L2.St → XW} {sc : Scope} {ln : Nms} (c : Cxt X G W N sc ln n) {tg l r : Expr} {x : Str} {p pos : Pos} {t u : TE} (hx : x = ("zip" : Str)) (g : glB sc x = true) (ha : PE X l t) (hb : PE X r u) (hs : notStar l = true) (hr : notStar r = true) (ht : isTup tg = true) :
    PI X tg (.Call (.Name x p) [l, r] [] pos) (iZip X.K (tCons t (tCons u tNil))) := by
  obtain ⟨g1, g3⟩ := c.gl g
  subst hx
  have s2 : starEach [r] X.env = [(false, eval r X.env)] := star_ok hr
  cases tg
  case Tuple es k tp => exact pi_zip g1 (c.nms _ (by simp)) (pa_cons ha (pa_cons hb pa_nil s2) (star_ok hs)) (star_ok hs) (stars_ok (es := [r]) (by simp [hr]))
  all_goals cases ht
theorem pe_callS0 {X : Cx} {CX : CXT} {k : Nat} {f : Addr} {fd : FuncData} {ps : List Str} {sp : Sp} {E : L2.St → XK} {x : Str} {p pos : Pos} (F : FnOk X.prog X.w X.K X.mg X.base CX k f fd ps sp) (hr : Room k X.A) (hg : Gl X x) (hm : X.mg x = some (.ref f)) (hk : PySem.W.keepIn X.K (.ref f) = true) (hb : Binds X.K fd ps []) (hx : ∀ σ, PassesAt CX X σ (E σ))
    (hdb : (x == ("__debug__" : Str)) = false) : PE X (.Call (.Name x p) [] [] pos) (tCallS sp E tNil) := by
  refine ⟨fun pins s σ H Q I h => ?_⟩
  refine wpAny_Call_Name_kw (ld_glob I hg hm ?_ hdb)
  exact PySem.W.callWith_K0 I.kIn hk (run_fnS (us := []) F hr hb (hx σ) I .nil h)
mutual
theorem peOk : ∀ (ce : CE) (X : Cx) (W : L2.St → XW) (sc : Scope) (ln : Nms) (e : Expr), Cxt X G W N sc ln n → ck G N ce sc e = true → PE X e (rd ce (mt X G W))
  | .int i, X, W, sc, ln, e, c, h => by
    unfold ck at h
    split at h
    · have := of_decide_eq_true h
      subst this
      exact pe_int
    · cases h
  | .bl i, X, W, sc, ln, e, c, h => by
    unfold ck at h
    split at h
    · have := of_decide_eq_true h
      subst this
      exact pe_bl
    · cases h
  | .non, X, W, sc, ln, e, c, h => by
    unfold ck at h
    split at h
    · exact pe_non
    · cases h
  | .str i, X, W, sc, ln, e, c, h => by
    unfold ck at h
    split at h
    · have := of_decide_eq_true h
      subst this
      exact pe_str
    · cases h
  | .cst x t, X, W, sc, ln, e, c, h => by
    unfold ck at h
    split at h
    · obtain ⟨h, h3⟩ := bool2 h
      obtain ⟨h1, h2⟩ := bool2 h
      have := of_decide_eq_true h1
      subst this
      obtain ⟨g1, g2⟩ := c.gl h2
      obtain ⟨p, hp, hq⟩ := List.any_eq_true.mp h3
      obtain ⟨q1, q2⟩ := bool2 hq
      obtain ⟨u, m, r⟩ := c.cst p hp
      rw [of_decide_eq_true q1] at m r
      exact PE.imp (pe_glob g1 m r g2) fun σ H Q k => k ⟨p, hp, of_decide_eq_true q1, eqTT_ok _ _ q2⟩
    · cases h
  | .var i, X, W, sc, ln, e, c, h => by
    unfold ck at h
    split at h
    · obtain ⟨h1, h2⟩ := bool2 h
      obtain ⟨v1, v2, v3⟩ := c.vis h2
      exact pe_var (by rw [c.hN]; exact of_decide_eq_true h1) v1 v2 v3
    · cases h
  | .bin op a b, X, W, sc, ln, e, c, h => by
    unfold ck at h
    split at h
    · obtain ⟨h, h3⟩ := bool2 h
      obtain ⟨h1, h2⟩ := bool2 h
      have := of_decide_eq_true h1
      subst this
      exact pe_op (op_bin _) (peOk a X W sc ln _ c h2) (peOk b X W sc ln _ c h3)
    · cases h
  | .neg a, X, W, sc, ln, e, c, h => by
    unfold ck at h
    split at h
    · exact pe_un un_neg (peOk a X W sc ln _ c h)
    · cases h
  | .notv a, X, W, sc, ln, e, c, h => by
    unfold ck at h
    split at h
    · exact pe_not (peOk a X W sc ln _ c h)
    · cases h
  | .andv es, X, W, sc, ln, e, c, h => by
    unfold ck at h
    split at h
    · obtain ⟨h1, h2⟩ := bool2 h
      exact peAnd es X W sc ln _ _ c h1 h2
    · cases h
  | .orv es, X, W, sc, ln, e, c, h => by
    unfold ck at h
    split at h
    · obtain ⟨h1, h2⟩ := bool2 h
      exact peOr es X W sc ln _ _ c h1 h2
    · cases h
  | .cmp op a b, X, W, sc, ln, e, c, h => by
    unfold ck at h
    split at h
    · split at h
      · obtain ⟨h, h4⟩ := bool2 h
        obtain ⟨h, h3⟩ := bool2 h
        obtain ⟨h1, h2⟩ := bool2 h
        have := of_decide_eq_true h1
        subst this
        exact pe_cmpR (op_cmp c.room.units _) (peOk a X W sc ln _ c h3) (peOk b X W sc ln _ c h4) (by simpa using h2)
      · cases h
    · cases h
  | .chn op op2 a b d, X, W, sc, ln, e, c, h => by
    unfold ck at h
    split at h
    · split at h
      · obtain ⟨h, h6⟩ := bool2 h
        obtain ⟨h, h5⟩ := bool2 h
        obtain ⟨h, h4⟩ := bool2 h
        obtain ⟨h, h3⟩ := bool2 h
        obtain ⟨h1, h2⟩ := bool2 h
        have := of_decide_eq_true h1
        subst this
        have := of_decide_eq_true h2
        subst this
        exact pe_chain (op_cmp c.room.units _) (op_cmp c.room.units _) (peOk a X W sc ln _ c h4) (peOk b X W sc ln _ c h5) (peOk d X W sc ln _ c h6) (by show behindInMarks _ _ = false; simpa using h3)
      · cases h
    · cases h
  | .ite d a b, X, W, sc, ln, e, c, h => by
    unfold ck at h
    split at h
    · obtain ⟨h, h3⟩ := bool2 h
      obtain ⟨h1, h2⟩ := bool2 h
      exact pe_ifExp (ptOk d X W sc ln _ c h1) (peOk a X W sc ln _ c h2) (peOk b X W sc ln _ c h3)
    · cases h
  | .tup es, X, W, sc, ln, e, c, h => by
    unfold ck at h
    split at h
    · obtain ⟨h1, h2⟩ := bool2 h
      exact pe_tup (paOk es X W sc ln _ c h1 h2)
    · cases h
  | .lst es, X, W, sc, ln, e, c, h => by
    unfold ck at h
    split at h
    · obtain ⟨h1, h2⟩ := bool2 h
      exact pe_lst (paOk es X W sc ln _ c h1 h2)
    · cases h
  | .sub a i, X, W, sc, ln, e, c, h => by
    unfold ck at h
    split at h
    · obtain ⟨h, h3⟩ := bool2 h
      obtain ⟨h1, h2⟩ := bool2 h
      exact pe_ix ix_seq (peOk a X W sc ln _ c h1) (peOk i X W sc ln _ c h2) (notSl_ok h3)
    · cases h
  | .sl a lo hi, X, W, sc, ln, e, c, h => by
    unfold ck at h
    split at h
    · split at h
      · obtain ⟨h, h3⟩ := bool2 h
        obtain ⟨h1, h2⟩ := bool2 h
        exact pe_slice sl_all (peOk a X W sc ln _ c h1) (poOk lo X W sc ln _ c h2) (poOk hi X W sc ln _ c h3)
      · cases h
    · cases h
  | .call f es, X, W, sc, ln, e, c, h => by
    unfold ck at h
    split at h
    · obtain ⟨h, h4⟩ := bool2 h
      obtain ⟨h, h3⟩ := bool2 h
      obtain ⟨h1, h2⟩ := bool2 h
      obtain ⟨g1, g2⟩ := c.gl h2
      obtain ⟨ff, fd, ps, m, k, b, F⟩ := c.fns f _ (of_decide_eq_true h1)
      have hs := h4
      rw [List.all_cons] at hs
      obtain ⟨s1, s2⟩ := bool2 hs
      exact pe_callS F c.room g1 m k b (fun σ => passAt c.tk σ) (paOk es X W sc ln _ c h3 h4) g2 (star_ok s1) (stars_ok s2)
    · cases h
  | .callv f es, X, W, sc, ln, e, c, h => by
    unfold ck at h
    split at h
    · obtain ⟨h, h4⟩ := bool2 h
      obtain ⟨h, h3⟩ := bool2 h
      obtain ⟨h1, h2⟩ := bool2 h
      obtain ⟨g1, g2⟩ := c.gl h2
      obtain ⟨ff, fd, ps, m, k, b, F⟩ := c.fns f _ (of_decide_eq_true h1)
      have hs := h4
      rw [List.all_cons] at hs
      obtain ⟨s1, s2⟩ := bool2 hs
      exact pe_callS F c.room g1 m k b (fun σ => passAt c.tk σ) (paOk es X W sc ln _ c h3 h4) g2 (star_ok s1) (stars_ok s2)
    · cases h
  | .call0 f, X, W, sc, ln, e, c, h => by
    unfold ck at h
    split at h
    · obtain ⟨h1, h2⟩ := bool2 h
      obtain ⟨g1, g2⟩ := c.gl h2
      obtain ⟨ff, fd, ps, m, k, b, F⟩ := c.fns f _ (of_decide_eq_true h1)
      exact pe_callS0 F c.room g1 m k b (fun σ => passAt c.tk σ) g2
    · cases h
  | .rev a, X, W, sc, ln, e, c, h => by
    unfold ck at h
    split at h
    · obtain ⟨h, h6⟩ := bool2 h
      obtain ⟨h, h5⟩ := bool2 h
      obtain ⟨h, h4⟩ := bool2 h
      obtain ⟨h, h3⟩ := bool2 h
      obtain ⟨h1, h2⟩ := bool2 h
      have e1 := of_decide_eq_true h1
      have e2 := of_decide_eq_true h3
      subst e1 e2
      obtain ⟨g1, _⟩ := c.gl h2
      obtain ⟨g2, _⟩ := c.gl h4
      exact pe_lstRev c.calm g1 (c.tys .list) g2 (c.nms _ (by simp)) (peOk a X W sc ln _ c h5) (star_ok h6)
    · cases h
  | .blt b es, X, W, sc, ln, e, c, h => by
    unfold ck at h
    split at h
    · obtain ⟨h, h4⟩ := bool2 h
      obtain ⟨h, h3⟩ := bool2 h
      obtain ⟨h1, h2⟩ := bool2 h
      exact Blt.pe c b (of_decide_eq_true h1) h2 (paOk es X W sc ln _ c h3 h4) h4
    · cases h
  | .gcd a b, X, W, sc, ln, e, c, h => by
    unfold ck at h
    split at h
    · obtain ⟨h, h7⟩ := bool2 h
      obtain ⟨h, h6⟩ := bool2 h
      obtain ⟨h, h5⟩ := bool2 h
      obtain ⟨h, h4⟩ := bool2 h
      obtain ⟨h, h3⟩ := bool2 h
      obtain ⟨h1, h2⟩ := bool2 h
      exact pe_gcd c (of_decide_eq_true h2) h3 h1 (peOk a X W sc ln _ c h4) (peOk b X W sc ln _ c h5) h6 h7
    · cases h
  | .isi a ty, X, W, sc, ln, e, c, h => by
    unfold ck at h
    split at h
    · obtain ⟨h, h6⟩ := bool2 h
      obtain ⟨h, h5⟩ := bool2 h
      obtain ⟨h, h4⟩ := bool2 h
      obtain ⟨h, h3⟩ := bool2 h
      obtain ⟨h1, h2⟩ := bool2 h
      exact pe_isi c (of_decide_eq_true h1) h2 (of_decide_eq_true h3) h4 (peOk a X W sc ln _ c h5) h6
    · cases h
  | .m0 .bitLength o, X, W, sc, ln, e, c, h => by
    unfold ck at h
    split at h
    · obtain ⟨h, h4⟩ := bool2 h
      obtain ⟨h, h3⟩ := bool2 h
      obtain ⟨h1, h2⟩ := bool2 h
      have e1 := of_decide_eq_true h4
      subst e1
      exact pe_bits (peOk o X W sc ln _ c h3) (attr_ok h1) h2
    · cases h
  | .m1 .join o a, X, W, sc, ln, e, c, h => by
    unfold ck at h
    split at h
    · obtain ⟨h, h6⟩ := bool2 h
      obtain ⟨h, h5⟩ := bool2 h
      obtain ⟨h, h4⟩ := bool2 h
      obtain ⟨h, h3⟩ := bool2 h
      obtain ⟨h1, h2⟩ := bool2 h
      have e1 := of_decide_eq_true h6
      subst e1
      exact pe_join (peOk o X W sc ln _ c h3) (peOk a X W sc ln _ c h4) (star_ok h5) (attr_ok h1) h2
    · cases h
  | .comp elt g k es d own, X, W, sc, ln, e, c, h => by
    unfold ck at h
    split at h
    · obtain ⟨h, h6⟩ := bool2 h
      obtain ⟨h, h5⟩ := bool2 h
      obtain ⟨h, h4⟩ := bool2 h
      obtain ⟨h, h3⟩ := bool2 h
      obtain ⟨h1, h2⟩ := bool2 h
      exact pe_lc c.calm (by rw [c.hN]; exact c.hnd) (piOk k es X W sc ln _ _ c h2) (blkOk_by (by rw [c.hN, c.hsc]; exact h3))
        (fun s H C cl fp => pgOk (c.blk _ s H C cl fp) g _ h1)
        (fun s H C cl fp => ptsOk d _ _ _ _ _ (c.blk _ s H C cl fp) h5)
        (fun s H C cl fp => peOk elt _ _ _ _ _ (c.blk _ s H C cl fp) h4) (notSet_ok h6)
    · cases h
theorem ptOk : ∀ (b : CB) (X : Cx) (W : L2.St → XW) (sc : Scope) (ln : Nms) (e : Expr), Cxt X G W N sc ln n → ckB G N b sc e = true → PT X e (rdB b (mt X G W))
  | .tru a, X, W, sc, ln, e, c, h => by
    unfold ckB at h
    obtain ⟨h1, h2⟩ := bool2 h
    exact pt_truth (peOk a X W sc ln _ c h2) (plainT_ok h1)
  | .val (.cmp op a b), X, W, sc, ln, e, c, h => by
    unfold ckB at h
    obtain ⟨h, _⟩ := bool2 h
    unfold ck at h
    split at h
    · split at h
      · obtain ⟨h, h4⟩ := bool2 h
        obtain ⟨h, h3⟩ := bool2 h
        obtain ⟨h1, h2⟩ := bool2 h
        have := of_decide_eq_true h1
        subst this
        exact pt_cmpR (op_cmp c.room.units _) (peOk a X W sc ln _ c h3) (peOk b X W sc ln _ c h4) (by simpa using h2)
      · cases h
    · cases h
  | .val (.chn op op2 a b d), X, W, sc, ln, e, c, h => by
    unfold ckB at h
    obtain ⟨h, _⟩ := bool2 h
    unfold ck at h
    split at h
    · split at h
      · obtain ⟨h, h6⟩ := bool2 h
        obtain ⟨h, h5⟩ := bool2 h
        obtain ⟨h, h4⟩ := bool2 h
        obtain ⟨h, h3⟩ := bool2 h
        obtain ⟨h1, h2⟩ := bool2 h
        have := of_decide_eq_true h1
        subst this
        have := of_decide_eq_true h2
        subst this
        exact pt_chain (op_cmp c.room.units _) (op_cmp c.room.units _) (peOk a X W sc ln _ c h4) (peOk b X W sc ln _ c h5) (peOk d X W sc ln _ c h6) (by simpa [lastMarks] using h3)
      · cases h
    · cases h
  | .val (.int a0), X, W, sc, ln, e, c, h => by
    unfold ckB at h
    obtain ⟨h1, h2⟩ := bool2 h
    refine pt_val (peOk (.int a0) X W sc ln _ c h1) (plainT_ok ?_)
    rw [Bool.or_eq_true] at h2
    rcases h2 with h2 | h2
    · exact h2
    · cases e <;> first | (cases h2; done) | (unfold ck at h1; cases h1)
  | .val (.bl a0), X, W, sc, ln, e, c, h => by
    unfold ckB at h
    obtain ⟨h1, h2⟩ := bool2 h
    refine pt_val (peOk (.bl a0) X W sc ln _ c h1) (plainT_ok ?_)
    rw [Bool.or_eq_true] at h2
    rcases h2 with h2 | h2
    · exact h2
    · cases e <;> first | (cases h2; done) | (unfold ck at h1; cases h1)
  | .val .non, X, W, sc, ln, e, c, h => by
    unfold ckB at h
    obtain ⟨h1, h2⟩ := bool2 h
    refine pt_val (peOk .non X W sc ln _ c h1) (plainT_ok ?_)
    rw [Bool.or_eq_true] at h2
    rcases h2 with h2 | h2
    · exact h2
    · cases e <;> first | (cases h2; done) | (unfold ck at h1; cases h1)
  | .val (.str a0), X, W, sc, ln, e, c, h => by
    unfold ckB at h
    obtain ⟨h1, h2⟩ := bool2 h
    refine pt_val (peOk (.str a0) X W sc ln _ c h1) (plainT_ok ?_)
    rw [Bool.or_eq_true] at h2
    rcases h2 with h2 | h2
    · exact h2
    · cases e <;> first | (cases h2; done) | (unfold ck at h1; cases h1)
  | .val (.cst a0 a1), X, W, sc, ln, e, c, h => by
    unfold ckB at h
    obtain ⟨h1, h2⟩ := bool2 h
    refine pt_val (peOk (.cst a0 a1) X W sc ln _ c h1) (plainT_ok ?_)
    rw [Bool.or_eq_true] at h2
    rcases h2 with h2 | h2
    · exact h2
    · cases e <;> first | (cases h2; done) | (unfold ck at h1; cases h1)
  | .val (.var a0), X, W, sc, ln, e, c, h => by
    unfold ckB at h
    obtain ⟨h1, h2⟩ := bool2 h
    refine pt_val (peOk (.var a0) X W sc ln _ c h1) (plainT_ok ?_)
    rw [Bool.or_eq_true] at h2
    rcases h2 with h2 | h2
    · exact h2
    · cases e <;> first | (cases h2; done) | (unfold ck at h1; cases h1)
  | .val (.bin a0 a1 a2), X, W, sc, ln, e, c, h => by
    unfold ckB at h
    obtain ⟨h1, h2⟩ := bool2 h
    refine pt_val (peOk (.bin a0 a1 a2) X W sc ln _ c h1) (plainT_ok ?_)
    rw [Bool.or_eq_true] at h2
    rcases h2 with h2 | h2
    · exact h2
    · cases e <;> first | (cases h2; done) | (unfold ck at h1; cases h1)
  | .val (.neg a0), X, W, sc, ln, e, c, h => by
    unfold ckB at h
    obtain ⟨h1, h2⟩ := bool2 h
    refine pt_val (peOk (.neg a0) X W sc ln _ c h1) (plainT_ok ?_)
    rw [Bool.or_eq_true] at h2
    rcases h2 with h2 | h2
    · exact h2
    · cases e <;> first | (cases h2; done) | (unfold ck at h1; cases h1)
  | .val (.notv a0), X, W, sc, ln, e, c, h => by
    unfold ckB at h
    obtain ⟨h1, h2⟩ := bool2 h
    refine pt_val (peOk (.notv a0) X W sc ln _ c h1) (plainT_ok ?_)
    rw [Bool.or_eq_true] at h2
    rcases h2 with h2 | h2
    · exact h2
    · cases e <;> first | (cases h2; done) | (unfold ck at h1; cases h1)
  | .val (.andv a0), X, W, sc, ln, e, c, h => by
    unfold ckB at h
    obtain ⟨h1, h2⟩ := bool2 h
    refine pt_val (peOk (.andv a0) X W sc ln _ c h1) (plainT_ok ?_)
    rw [Bool.or_eq_true] at h2
    rcases h2 with h2 | h2
    · exact h2
    · cases e <;> first | (cases h2; done) | (unfold ck at h1; cases h1)
  | .val (.orv a0), X, W, sc, ln, e, c, h => by
    unfold ckB at h
    obtain ⟨h1, h2⟩ := bool2 h
    refine pt_val (peOk (.orv a0) X W sc ln _ c h1) (plainT_ok ?_)
    rw [Bool.or_eq_true] at h2
    rcases h2 with h2 | h2
    · exact h2
    · cases e <;> first | (cases h2; done) | (unfold ck at h1; cases h1)
  | .val (.ite a0 a1 a2), X, W, sc, ln, e, c, h => by
    unfold ckB at h
    obtain ⟨h1, h2⟩ := bool2 h
    refine pt_val (peOk (.ite a0 a1 a2) X W sc ln _ c h1) (plainT_ok ?_)
    rw [Bool.or_eq_true] at h2
    rcases h2 with h2 | h2
    · exact h2
    · cases e <;> first | (cases h2; done) | (unfold ck at h1; cases h1)
  | .val (.tup a0), X, W, sc, ln, e, c, h => by
    unfold ckB at h
    obtain ⟨h1, h2⟩ := bool2 h
    refine pt_val (peOk (.tup a0) X W sc ln _ c h1) (plainT_ok ?_)
    rw [Bool.or_eq_true] at h2
    rcases h2 with h2 | h2
    · exact h2
    · cases e <;> first | (cases h2; done) | (unfold ck at h1; cases h1)
  | .val (.lst a0), X, W, sc, ln, e, c, h => by
    unfold ckB at h
    obtain ⟨h1, h2⟩ := bool2 h
    refine pt_val (peOk (.lst a0) X W sc ln _ c h1) (plainT_ok ?_)
    rw [Bool.or_eq_true] at h2
    rcases h2 with h2 | h2
    · exact h2
    · cases e <;> first | (cases h2; done) | (unfold ck at h1; cases h1)
  | .val (.sub a0 a1), X, W, sc, ln, e, c, h => by
    unfold ckB at h
    obtain ⟨h1, h2⟩ := bool2 h
    refine pt_val (peOk (.sub a0 a1) X W sc ln _ c h1) (plainT_ok ?_)
    rw [Bool.or_eq_true] at h2
    rcases h2 with h2 | h2
    · exact h2
    · cases e <;> first | (cases h2; done) | (unfold ck at h1; cases h1)
  | .val (.sl a0 a1 a2), X, W, sc, ln, e, c, h => by
    unfold ckB at h
    obtain ⟨h1, h2⟩ := bool2 h
    refine pt_val (peOk (.sl a0 a1 a2) X W sc ln _ c h1) (plainT_ok ?_)
    rw [Bool.or_eq_true] at h2
    rcases h2 with h2 | h2
    · exact h2
    · cases e <;> first | (cases h2; done) | (unfold ck at h1; cases h1)
  | .val (.call a0 a1), X, W, sc, ln, e, c, h => by
    unfold ckB at h
    obtain ⟨h1, h2⟩ := bool2 h
    refine pt_val (peOk (.call a0 a1) X W sc ln _ c h1) (plainT_ok ?_)
    rw [Bool.or_eq_true] at h2
    rcases h2 with h2 | h2
    · exact h2
    · cases e <;> first | (cases h2; done) | (unfold ck at h1; cases h1)
  | .val (.callv a0 a1), X, W, sc, ln, e, c, h => by
    unfold ckB at h
    obtain ⟨h1, h2⟩ := bool2 h
    refine pt_val (peOk (.callv a0 a1) X W sc ln _ c h1) (plainT_ok ?_)
    rw [Bool.or_eq_true] at h2
    rcases h2 with h2 | h2
    · exact h2
    · cases e <;> first | (cases h2; done) | (unfold ck at h1; cases h1)
  | .val (.call0 a0), X, W, sc, ln, e, c, h => by
    unfold ckB at h
    obtain ⟨h1, h2⟩ := bool2 h
    refine pt_val (peOk (.call0 a0) X W sc ln _ c h1) (plainT_ok ?_)
    rw [Bool.or_eq_true] at h2
    rcases h2 with h2 | h2
    · exact h2
    · cases e <;> first | (cases h2; done) | (unfold ck at h1; cases h1)
  | .val (.rev a0), X, W, sc, ln, e, c, h => by
    unfold ckB at h
    obtain ⟨h1, h2⟩ := bool2 h
    refine pt_val (peOk (.rev a0) X W sc ln _ c h1) (plainT_ok ?_)
    rw [Bool.or_eq_true] at h2
    rcases h2 with h2 | h2
    · exact h2
    · cases e <;> first | (cases h2; done) | (unfold ck at h1; cases h1)
  | .val (.blt a0 a1), X, W, sc, ln, e, c, h => by
    unfold ckB at h
    obtain ⟨h1, h2⟩ := bool2 h
    refine pt_val (peOk (.blt a0 a1) X W sc ln _ c h1) (plainT_ok ?_)
    rw [Bool.or_eq_true] at h2
    rcases h2 with h2 | h2
    · exact h2
    · cases e <;> first | (cases h2; done) | (unfold ck at h1; cases h1)
  | .val (.gcd a0 a1), X, W, sc, ln, e, c, h => by
    unfold ckB at h
    obtain ⟨h1, h2⟩ := bool2 h
    refine pt_val (peOk (.gcd a0 a1) X W sc ln _ c h1) (plainT_ok ?_)
    rw [Bool.or_eq_true] at h2
    rcases h2 with h2 | h2
    · exact h2
    · cases e <;> first | (cases h2; done) | (unfold ck at h1; cases h1)
  | .val (.isi a0 a1), X, W, sc, ln, e, c, h => by
    unfold ckB at h
    obtain ⟨h1, h2⟩ := bool2 h
    refine pt_val (peOk (.isi a0 a1) X W sc ln _ c h1) (plainT_ok ?_)
    rw [Bool.or_eq_true] at h2
    rcases h2 with h2 | h2
    · exact h2
    · cases e <;> first | (cases h2; done) | (unfold ck at h1; cases h1)
  | .val (.m0 a0 a1), X, W, sc, ln, e, c, h => by
    unfold ckB at h
    obtain ⟨h1, h2⟩ := bool2 h
    refine pt_val (peOk (.m0 a0 a1) X W sc ln _ c h1) (plainT_ok ?_)
    rw [Bool.or_eq_true] at h2
    rcases h2 with h2 | h2
    · exact h2
    · cases e <;> first | (cases h2; done) | (unfold ck at h1; cases h1)
  | .val (.m1 a0 a1 a2), X, W, sc, ln, e, c, h => by
    unfold ckB at h
    obtain ⟨h1, h2⟩ := bool2 h
    refine pt_val (peOk (.m1 a0 a1 a2) X W sc ln _ c h1) (plainT_ok ?_)
    rw [Bool.or_eq_true] at h2
    rcases h2 with h2 | h2
    · exact h2
    · cases e <;> first | (cases h2; done) | (unfold ck at h1; cases h1)
  | .val (.comp a0 a1 a2 a3 a4 a5), X, W, sc, ln, e, c, h => by
    unfold ckB at h
    obtain ⟨h1, h2⟩ := bool2 h
    refine pt_val (peOk (.comp a0 a1 a2 a3 a4 a5) X W sc ln _ c h1) (plainT_ok ?_)
    rw [Bool.or_eq_true] at h2
    rcases h2 with h2 | h2
    · exact h2
    · cases e <;> first | (cases h2; done) | (unfold ck at h1; cases h1)
  | .not b, X, W, sc, ln, e, c, h => by
    unfold ckB at h
    split at h
    · exact pt_not (ptOk b X W sc ln _ c h)
    · cases h
  | .and bs, X, W, sc, ln, e, c, h => by
    unfold ckB at h
    split at h
    · obtain ⟨h1, h2⟩ := bool2 h
      exact (pwAnd bs X W sc ln _ _ c h1 h2).pt
    · cases h
  | .or bs, X, W, sc, ln, e, c, h => by
    unfold ckB at h
    split at h
    · obtain ⟨h1, h2⟩ := bool2 h
      exact (pwOr bs X W sc ln _ _ c h1 h2).pt
    · cases h
theorem pwAnd : ∀ (bs : List CB) (X : Cx) (W : L2.St → XW) (sc : Scope) (ln : Nms) (es : List Expr) (pos : Pos), Cxt X G W N sc ln n → ckBs G N bs sc es = true → (!bs.isEmpty) = true → PW X (.BoolOp .And es pos) (rdBAnd bs (mt X G W))
  | [], X, W, sc, ln, es, pos, c, h, hn => by cases hn
  | [b], X, W, sc, ln, es, pos, c, h, hn => by
    unfold ckBs at h
    split at h
    · obtain ⟨h1, h2⟩ := bool2 h
      unfold ckBs at h2
      have := List.isEmpty_iff.mp h2
      subst this
      exact pw_and1 (ptOk b X W sc ln _ c h1)
    · cases h
  | b :: b' :: bs, X, W, sc, ln, es, pos, c, h, hn => by
    unfold ckBs at h
    split at h
    · obtain ⟨h1, h2⟩ := bool2 h
      rename_i e es
      cases es with
      | nil => unfold ckBs at h2; cases h2
      | cons e' es => exact pw_and (ptOk b X W sc ln _ c h1) (pwAnd (b' :: bs) X W sc ln _ pos c h2 rfl)
    · cases h
theorem pwOr : ∀ (bs : List CB) (X : Cx) (W : L2.St → XW) (sc : Scope) (ln : Nms) (es : List Expr) (pos : Pos), Cxt X G W N sc ln n → ckBs G N bs sc es = true → (!bs.isEmpty) = true → PW X (.BoolOp .Or es pos) (rdBOr bs (mt X G W))
  | [], X, W, sc, ln, es, pos, c, h, hn => by cases hn
  | [b], X, W, sc, ln, es, pos, c, h, hn => by
    unfold ckBs at h
    split at h
    · obtain ⟨h1, h2⟩ := bool2 h
      unfold ckBs at h2
      have := List.isEmpty_iff.mp h2
      subst this
      exact pw_or1 (ptOk b X W sc ln _ c h1)
    · cases h
  | b :: b' :: bs, X, W, sc, ln, es, pos, c, h, hn => by
    unfold ckBs at h
    split at h
    · obtain ⟨h1, h2⟩ := bool2 h
      rename_i e es
      cases es with
      | nil => unfold ckBs at h2; cases h2
      | cons e' es => exact pw_or (ptOk b X W sc ln _ c h1) (pwOr (b' :: bs) X W sc ln _ pos c h2 rfl)
    · cases h
theorem peAnd : ∀ (bs : List CE) (X : Cx) (W : L2.St → XW) (sc : Scope) (ln : Nms) (es : List Expr) (pos : Pos), Cxt X G W N sc ln n → cks G N bs sc es = true → (!bs.isEmpty) = true → PE X (.BoolOp .And es pos) (rdAnd bs (mt X G W))
  | [], X, W, sc, ln, es, pos, c, h, hn => by cases hn
  | [b], X, W, sc, ln, es, pos, c, h, hn => by
    unfold cks at h
    split at h
    · obtain ⟨h1, h2⟩ := bool2 h
      unfold cks at h2
      have := List.isEmpty_iff.mp h2
      subst this
      exact pe_one (peOk b X W sc ln _ c h1)
    · cases h
  | b :: b' :: bs, X, W, sc, ln, es, pos, c, h, hn => by
    unfold cks at h
    split at h
    · obtain ⟨h1, h2⟩ := bool2 h
      rename_i e es
      cases es with
      | nil => unfold cks at h2; cases h2
      | cons e' es => exact pe_and (peOk b X W sc ln _ c h1) (peAnd (b' :: bs) X W sc ln _ pos c h2 rfl)
    · cases h
theorem peOr : ∀ (bs : List CE) (X : Cx) (W : L2.St → XW) (sc : Scope) (ln : Nms) (es : List Expr) (pos : Pos), Cxt X G W N sc ln n → cks G N bs sc es = true → (!bs.isEmpty) = true → PE X (.BoolOp .Or es pos) (rdOr bs (mt X G W))
  | [], X, W, sc, ln, es, pos, c, h, hn => by cases hn
  | [b], X, W, sc, ln, es, pos, c, h, hn => by
    unfold cks at h
    split at h
    · obtain ⟨h1, h2⟩ := bool2 h
      unfold cks at h2
      have := List.isEmpty_iff.mp h2
      subst this
      exact pe_one (peOk b X W sc ln _ c h1)
    · cases h
  | b :: b' :: bs, X, W, sc, ln, es, pos, c, h, hn => by
    unfold cks at h
    split at h
    · obtain ⟨h1, h2⟩ := bool2 h
      rename_i e es
      cases es with
      | nil => unfold cks at h2; cases h2
      | cons e' es => exact pe_or (peOk b X W sc ln _ c h1) (peOr (b' :: bs) X W sc ln _ pos c h2 rfl)
    · cases h
theorem paOk : ∀ (cs : List CE) (X : Cx) (W : L2.St → XW) (sc : Scope) (ln : Nms) (es : List Expr), Cxt X G W N sc ln n → cks G N cs sc es = true → es.all notStar = true → PA X es (rds cs (mt X G W))
  | [], X, W, sc, ln, es, c, h, hs => by
    unfold cks at h
    have := List.isEmpty_iff.mp h
    subst this
    exact pa_nil
  | b :: bs, X, W, sc, ln, es, c, h, hs => by
    unfold cks at h
    split at h
    · obtain ⟨h1, h2⟩ := bool2 h
      rw [List.all_cons] at hs
      obtain ⟨s1, s2⟩ := bool2 hs
      exact pa_cons (peOk b X W sc ln _ c h1) (paOk bs X W sc ln _ c h2 s2) (star_ok s1)
    · cases h
theorem poOk : ∀ (o : Option CE) (X : Cx) (W : L2.St → XW) (sc : Scope) (ln : Nms) (e : Option Expr), Cxt X G W N sc ln n → ckO G N o sc e = true → PO X e (rdO o (mt X G W))
  | none, X, W, sc, ln, e, c, h => by
    unfold ckO at h
    have := Option.isNone_iff_eq_none.mp h
    subst this
    exact po_none
  | some a, X, W, sc, ln, e, c, h => by
    unfold ckO at h
    split at h
    · exact po_some (peOk a X W sc ln _ c h)
    · cases h
theorem ptsOk : ∀ (o : Option CB) (X : Cx) (W : L2.St → XW) (sc : Scope) (ln : Nms) (es : List Expr), Cxt X G W N sc ln n → ckC G N o sc es = true → PTs X es (rdC o (mt X G W))
  | none, X, W, sc, ln, es, c, h => by
    unfold ckC at h
    have := List.isEmpty_iff.mp h
    subst this
    exact pts_nil
  | some a, X, W, sc, ln, es, c, h => by
    unfold ckC at h
    split at h
    · exact pts_one (ptOk a X W sc ln _ c h)
    · cases h
theorem piOk : ∀ (k : IK) (cs : List CE) (X : Cx) (W : L2.St → XW) (sc : Scope) (ln : Nms) (tg it : Expr), Cxt X G W N sc ln n → ckI G N k cs sc tg it = true → PI X tg it (rdI k cs (mt X G W))
  | k, [], X, W, sc, ln, tg, it, c, h => by unfold ckI at h; cases h
  | k, [a], X, W, sc, ln, tg, it, c, h => by
    unfold ckI at h
    cases k with
    | seq => exact pi_seq (peOk a X W sc ln _ c h)
    | rng1 =>
      simp only at h
      split at h
      · obtain ⟨h, h4⟩ := bool2 h
        obtain ⟨h, h3⟩ := bool2 h
        obtain ⟨h1, h2⟩ := bool2 h
        exact pi_rng1 c (of_decide_eq_true h1) h2 (peOk a X W sc ln _ c h3) h4
      · cases h
    | rng2 => cases h
    | enm =>
      simp only at h
      split at h
      · obtain ⟨h, h5⟩ := bool2 h
        obtain ⟨h, h4⟩ := bool2 h
        obtain ⟨h, h3⟩ := bool2 h
        obtain ⟨h1, h2⟩ := bool2 h
        exact pi_enm c (of_decide_eq_true h1) h2 (peOk a X W sc ln _ c h3) h4 h5
      · cases h
    | zip => cases h
  | k, [a, b], X, W, sc, ln, tg, it, c, h => by
    unfold ckI at h
    cases k with
    | seq => cases h
    | rng1 => cases h
    | rng2 =>
      simp only at h
      split at h
      · obtain ⟨h, h6⟩ := bool2 h
        obtain ⟨h, h5⟩ := bool2 h
        obtain ⟨h, h4⟩ := bool2 h
        obtain ⟨h, h3⟩ := bool2 h
        obtain ⟨h1, h2⟩ := bool2 h
        exact pi_rng2 c (of_decide_eq_true h1) h2 (peOk a X W sc ln _ c h3) (peOk b X W sc ln _ c h4) h5 h6
      · cases h
    | enm => cases h
    | zip =>
      simp only at h
      split at h
      · obtain ⟨h, h7⟩ := bool2 h
        obtain ⟨h, h6⟩ := bool2 h
        obtain ⟨h, h5⟩ := bool2 h
        obtain ⟨h, h4⟩ := bool2 h
        obtain ⟨h, h3⟩ := bool2 h
        obtain ⟨h1, h2⟩ := bool2 h
        exact pi_zipp c (of_decide_eq_true h1) h2 (peOk a X W sc ln _ c h3) (peOk b X W sc ln _ c h4) h5 h6 h7
      · cases h
  | k, a :: b :: d :: cs, X, W, sc, ln, tg, it, c, h => by unfold ckI at h; cases h
end
end
end PV
namespace PV
open PySem L2 PyProof.Rows

/-! ### statements of the small tongue -/
inductive CS where
  | pas
  | asg (g : Tg) (e : CE)
  | ret (e : CE)
  | retv (i : Nat)
  | retn
  | ife (c : CB) (a b : List CS)
  | whl (c : CB) (b : List CS)
  | fr (g : Tg) (k : IK) (es : List CE) (b : List CS)
  | brk | cnt
  | exp (e : CE)
  | app (i : Nat) (e : CE)
  | sti (i : Nat) (x e : CE)
  | aug (i : Nat) (plus : Bool) (e : CE)
  | par (i j : Nat) (a b : CE)
  | frz (i : Nat)
inductive Out where
  | nx (ρ : En) | rt (t : T) | bk (ρ : En) | ct (ρ : En)
/-- n turns of a while at most -/
def whlR (c : En → R Bool) (b : En → R Out) : Nat → En → Option (R Out)
  | 0, _ => none
  | n + 1, ρ => match c ρ with
    | .ok true => match b ρ with
      | .ok (.nx ρ') => whlR c b n ρ'
      | .ok (.ct ρ') => whlR c b n ρ'
      | .ok (.bk ρ') => some (.ok (.nx ρ'))
      | .ok (.rt t) => some (.ok (.rt t))
      | .exc e => some (.exc e)
      | .stuck => some .stuck
    | .ok false => some (.ok (.nx ρ))
    | .exc e => some (.exc e)
    | .stuck => some .stuck
open Classical in
noncomputable def whlX (c : En → R Bool) (b : En → R Out) (ρ : En) : R Out := if h : ∃ n r, whlR c b n ρ = some r then choose (choose_spec h) else .stuck
theorem whlR_mono {c : En → R Bool} {b : En → R Out} : ∀ {n : Nat} {ρ : En} {r : R Out}, whlR c b n ρ = some r → ∀ m, n ≤ m → whlR c b m ρ = some r
  | 0, _, _, h, _, _ => nomatch h
  | n + 1, ρ, r, h, 0, hm => by omega
  | n + 1, ρ, r, h, m + 1, hm => by
    unfold whlR at h ⊢
    split at h
    · split at h
      · exact whlR_mono h m (by omega)
      · exact whlR_mono h m (by omega)
      all_goals exact h
    all_goals exact h
theorem whlX_of {c : En → R Bool} {b : En → R Out} {n : Nat} {ρ : En} {r : R Out} (h : whlR c b n ρ = some r) : whlX c b ρ = r := by
  have e : ∃ n r, whlR c b n ρ = some r := ⟨n, r, h⟩
  unfold whlX
  rw [dif_pos e]
  have k := Classical.choose_spec (Classical.choose_spec e)
  have k1 := whlR_mono k (max n (Classical.choose e)) (Nat.le_max_right _ _)
  have k2 := whlR_mono h (max n (Classical.choose e)) (Nat.le_max_left _ _)
  rw [k1] at k2
  exact Option.some.inj k2
theorem whlX_some {c : En → R Bool} {b : En → R Out} {ρ : En} {r : R Out} (h : whlX c b ρ = r) (hr : r ≠ .stuck) : ∃ n, whlR c b n ρ = some r := by
  unfold whlX at h
  split at h
  · rename_i e
    have k := Classical.choose_spec (Classical.choose_spec e)
    rw [h] at k
    exact ⟨_, k⟩
  · exact absurd h.symm hr
/-- one turn -/
theorem whlX_eq {c : En → R Bool} {b : En → R Out} {ρ : En} : whlX c b ρ = match c ρ with
    | .ok true => match b ρ with
      | .ok (.nx ρ') => whlX c b ρ'
      | .ok (.ct ρ') => whlX c b ρ'
      | .ok (.bk ρ') => .ok (.nx ρ')
      | .ok (.rt t) => .ok (.rt t)
      | .exc e => .exc e
      | .stuck => .stuck
    | .ok false => .ok (.nx ρ)
    | .exc e => .exc e
    | .stuck => .stuck := by
  have back : ∀ ρ', (∀ n, whlR c b (n + 1) ρ = whlR c b n ρ') → whlX c b ρ = whlX c b ρ' := by
    intro ρ' h
    by_cases e : ∃ n r, whlR c b n ρ' = some r
    · obtain ⟨n, r, e⟩ := e
      rw [whlX_of e, whlX_of ((h n).trans e)]
    · have e2 : ¬ ∃ n r, whlR c b n ρ = some r := by
        rintro ⟨n, r, q⟩
        cases n with
        | zero => cases q
        | succ n => exact e ⟨n, r, (h n).symm.trans q⟩
      unfold whlX
      rw [dif_neg e, dif_neg e2]
  cases hc : c ρ with
  | ok k =>
    cases k with
    | true =>
      cases hb : b ρ with
      | ok o =>
        cases o with
        | nx ρ' => exact back ρ' fun n => by rw [whlR]; simp only [hc, hb]
        | ct ρ' => exact back ρ' fun n => by rw [whlR]; simp only [hc, hb]
        | bk ρ' => exact whlX_of (n := 1) (by rw [whlR]; simp only [hc, hb])
        | rt t => exact whlX_of (n := 1) (by rw [whlR]; simp only [hc, hb])
      | exc e => exact whlX_of (n := 1) (by rw [whlR]; simp only [hc, hb])
      | stuck => exact whlX_of (n := 1) (by rw [whlR]; simp only [hc, hb])
    | false => exact whlX_of (n := 1) (by rw [whlR]; simp only [hc])
  | exc e => exact whlX_of (n := 1) (by rw [whlR]; simp only [hc])
  | stuck => exact whlX_of (n := 1) (by rw [whlR]; simp only [hc])
/-- the turns of a for -/
def forX (g : Tg) (b : En → R Out) : List T → En → R Out
  | [], ρ => .ok (.nx ρ)
  | t :: ts, ρ => match bindG g t ρ with
    | none => .stuck
    | some ρ1 => match b ρ1 with
      | .ok (.nx ρ') => forX g b ts ρ'
      | .ok (.ct ρ') => forX g b ts ρ'
      | .ok (.bk ρ') => .ok (.nx ρ')
      | .ok (.rt t) => .ok (.rt t)
      | .exc e => .exc e
      | .stuck => .stuck
def slotT (ρ : En) (i : Nat) : R T := match ρ[i]? with
  | some (some t) => .ok t
  | _ => .stuck
def frzE (ρ : En) (i : Nat) : En := match ρ[i]? with
  | some (some t) => ρ.set i (some t.frz)
  | _ => ρ
def isOwn : T → Bool
  | .lst .own _ => true
  | _ => false
def appT (x t : T) : R T := match x with
  | .lst .own l => if l.length < sizeLine then .ok (.lst .own (l ++ [t.frz])) else .stuck
  | _ => .stuck
def stiT (x i t : T) : R T := match x, i with
  | .lst .own l, .int k => if T.fro.froL l = true then (match ixN l.length k with
    | some j => .ok (.lst .own (l.set j t.frz))
    | none => .stuck) else .stuck
  | _, _ => .stuck
def augT (plus : Bool) (x y : T) : R T := match x, y with
  | .int i, .int j => .ok (.int (if plus then i + j else i - j))
  | _, _ => .stuck
def setS (ρ : En) (i : Nat) (t : T) : R Out := if i < ρ.length then .ok (.nx (ρ.set i (some t))) else .stuck
mutual
noncomputable def exS (Γ : Orc) : CS → En → R Out
  | .pas, ρ => .ok (.nx ρ)
  | .asg g e, ρ => ((ev Γ e ρ).bind (capT e.vw)).bind fun t => match bindG g t ρ with
    | some ρ' => .ok (.nx ρ')
    | none => .stuck
  | .ret e, ρ => ((ev Γ e ρ).bind (capT e.vw)).bind fun t => .ok (.rt t)
  | .retv i, ρ => (slotT ρ i).bind fun t => .ok (.rt t)
  | .retn, _ => .ok (.rt .non)
  | .ife c a b, ρ => (evB Γ c ρ).bind fun k => if k then exSs Γ a ρ else exSs Γ b ρ
  | .whl c b, ρ => whlX (fun ρ => evB Γ c ρ) (fun ρ => exSs Γ b ρ) ρ
  | .fr g k es b, ρ => (evs Γ es ρ).bind fun ts => (itT k (T.frz.frzL ts)).bind fun l => forX g (fun ρ => exSs Γ b ρ) l ρ
  | .brk, ρ => .ok (.bk ρ)
  | .cnt, ρ => .ok (.ct ρ)
  | .exp e, ρ => (ev Γ e ρ).bind fun _ => .ok (.nx ρ)
  | .app i e, ρ => (slotT ρ i).bind fun x => if isOwn x then ((ev Γ e ρ).bind (capT e.vw)).bind fun t => (appT x t).bind fun y => setS ρ i y else .stuck
  | .sti i x e, ρ => ((ev Γ e ρ).bind (capT e.vw)).bind fun t => (slotT ρ i).bind fun o => (ev Γ x ρ).bind fun k => (stiT o k t).bind fun y => setS ρ i y
  | .aug i p e, ρ => (slotT ρ i).bind fun x => (ev Γ e ρ).bind fun y => (augT p x y).bind fun z => setS ρ i z
  | .par i j a b, ρ => ((ev Γ a ρ).bind (capT a.vw)).bind fun x => ((ev Γ b ρ).bind (capT b.vw)).bind fun y => if i < ρ.length ∧ j < ρ.length ∧ i ≠ j then .ok (.nx ((ρ.set i (some x)).set j (some y))) else .stuck
  | .frz i, ρ => .ok (.nx (frzE ρ i))
noncomputable def exSs (Γ : Orc) : List CS → En → R Out
  | [], ρ => .ok (.nx ρ)
  | s :: ss, ρ => match exS Γ s ρ with
    | .ok (.nx ρ') => exSs Γ ss ρ'
    | .ok o => .ok o
    | .exc e => .exc e
    | .stuck => .stuck
end

/-! ### their readings -/
def rAug (plus : Bool) : R2 := if plus then rI0 (fun i j => .int (i + j)) else rI0 (fun i j => .int (i - j))
def tAppend (i : Nat) (K : Fr) (te : TE) : TS := tDrop (tBM K "list" rAppend (tVar i) (tCons te tNil))
mutual
def rdS : CS → Mt → TS
  | .pas, _ => tNext
  | .asg g e, M => tAsg (rd e M) (rdG M.K g)
  | .ret e, M => tRet (rd e M)
  | .retv i, _ => tRet (tVar i)
  | .retn, _ => tRetN
  | .ife c a b, M => tIfS (rdB c M) (rdSs a M) (rdSs b M)
  | .whl c b, M => tWhile (rdB c M) (rdSs b M)
  | .fr g k es b, M => tFor (rdI k es M) (rdG M.K g) (rdSs b M)
  | .brk, _ => tBreak
  | .cnt, _ => tCont
  | .exp e, M => tDrop (rd e M)
  | .app i e, M => tAppend i M.K (rd e M)
  | .sti i x e, M => tAsg (rd e M) (gSub (tVar i) (rd x M) rSetL)
  | .aug i p e, M => tAug i (rd e M) (rAug p)
  | .par i j a b, M => tPar i j (tCons (rd a M) (tCons (rd b M) tNil))
  | .frz _, _ => tNext
def rdSs : List CS → Mt → TS
  | [], _ => tNext
  | s :: ss, M => tSeq (rdS s M) (rdSs ss M)
end
end PV
namespace PV
open PySem L2 PyProof.Rows

/-! ### the state at a statement -/
structure Slots (K : Fr) (H0 F H : Hp) (σ : L2.St) (ρ : En) (fps : Nat → List Addr) : Prop where
  len : σ.length = ρ.length
  rp : ∀ (i : Nat) (t : T), ρ[i]? = some (some t) → ∃ v, σ[i]? = some (some v) ∧ Rp K F H t v (fps i)
  nd : ∀ i, (fps i).Nodup
  dj : ∀ i j, i ≠ j → ∀ a ∈ fps i, a ∉ fps j
  ow : ∀ i, ∀ a ∈ fps i, H0 a = none ∧ F a = none ∧ H a ≠ none
def Stt (K : Fr) (F0 H0 F H : Hp) (σ : L2.St) (ρ : En) : Prop := Ext F0 H0 F H ∧ ∃ fps, Slots K H0 F H σ ρ fps
theorem Stt.env {K : Fr} {F0 H0 F H : Hp} {σ : L2.St} {ρ : En} (s : Stt K F0 H0 F H σ ρ) : EnvOk K F H σ ρ := by
  obtain ⟨_, fps, s⟩ := s
  exact ⟨s.len, fun i t e => by
    obtain ⟨v, a, b⟩ := s.rp i t e
    exact ⟨v, _, a, b⟩⟩
theorem Stt.s {K : Fr} {F0 H0 F H : Hp} {σ : L2.St} {ρ : En} (s : Stt K F0 H0 F H σ ρ) : Same F H := s.1.s
theorem Slots.ext {K : Fr} {H0 F H F' H' : Hp} {σ : L2.St} {ρ : En} {fps : Nat → List Addr} (e : Ext F H F' H') (s : Slots K H0 F H σ ρ fps) : Slots K H0 F' H' σ ρ fps :=
  ⟨s.len, fun i t q => by
    obtain ⟨v, a, b⟩ := s.rp i t q
    exact ⟨v, a, Rp.ext e b⟩, s.nd, s.dj, fun i a m => by
    obtain ⟨h1, h2, h3⟩ := s.ow i a m
    refine ⟨h1, e.out h2 h3, fun z => ?_⟩
    cases q : H a with
    | none => exact h3 q
    | some o => rw [e.h a o q] at z; cases z⟩
theorem Stt.ext {K : Fr} {F0 H0 F H F' H' : Hp} {σ : L2.St} {ρ : En} (e : Ext F H F' H') (s : Stt K F0 H0 F H σ ρ) : Stt K F0 H0 F' H' σ ρ := by
  obtain ⟨e0, fps, s⟩ := s
  exact ⟨e0.trans e, fps, s.ext e⟩
/-- a slot is set -/
theorem Slots.set {K : Fr} {H0 F H : Hp} {σ : L2.St} {ρ : En} {fps : Nat → List Addr} {i : Nat} {t : T} {v : V} {fp : List Addr} (s : Slots K H0 F H σ ρ fps) (r : Rp K F H t v fp) (hi : i < ρ.length) (nd : fp.Nodup)
    (ow : ∀ a ∈ fp, H0 a = none ∧ F a = none) (dj : ∀ j, j ≠ i → ∀ a ∈ fps j, a ∉ fp) : Slots K H0 F H (σ.set i (some v)) (ρ.set i (some t)) (fun j => if j = i then fp else fps j) := by
  refine ⟨by rw [List.length_set, List.length_set]; exact s.len, fun j u e => ?_, fun j => ?_, fun j k hjk a ha => ?_, fun j a ha => ?_⟩
  · by_cases c : i = j
    · subst c
      rw [List.getElem?_set_self hi] at e
      cases e
      exact ⟨v, List.getElem?_set_self (by rw [s.len]; exact hi), by simpa using r⟩
    · rw [List.getElem?_set_ne c] at e
      rw [List.getElem?_set_ne c]
      have : ¬ j = i := fun z => c z.symm
      simp only [if_neg this]
      exact s.rp j u e
  · try dsimp only
    split
    · exact nd
    · exact s.nd j
  · try dsimp only at ha ⊢
    split at ha
    · rename_i c
      split
      · rename_i d
        exact absurd (c.trans d.symm) hjk
      · rename_i d
        exact fun z => dj k d a z ha
    · rename_i c
      split
      · exact dj j c a ha
      · exact s.dj j k hjk a ha
  · try dsimp only at ha
    split at ha
    · exact ⟨(ow a ha).1, (ow a ha).2, Rp.there t v fp r a ha⟩
    · exact s.ow j a ha
mutual
theorem bindSt {K : Fr} : ∀ (g : Tg) (t : T) (v : V) (fp : List Addr) (ρ ρ' : En) (σ : L2.St) (H0 F H : Hp) (fps : Nat → List Addr) (Q : L2.St → Hp → Prop), Same F H → Rp K F H t v fp → Slots K H0 F H σ ρ fps → fp.Nodup →
    (∀ a ∈ fp, H0 a = none ∧ F a = none) → (∀ j, ∀ a ∈ fps j, a ∉ fp) → bindG g t ρ = some ρ' →
    (∀ σ' fps', Slots K H0 F H σ' ρ' fps' → (∀ j, ∀ a ∈ fps' j, (∃ k, a ∈ fps k) ∨ a ∈ fp) → Q σ' H) → rdG K g v σ H Q
  | .nm i, t, v, fp, ρ, ρ', σ, H0, F, H, fps, Q, s, r, E, nd, ow, dj, e, k => by
    have e : (if i < ρ.length then some (ρ.set i (some t)) else none) = some ρ' := e
    split at e
    · rename_i c
      cases e
      refine k _ _ (E.set r c nd ow fun j _ => dj j) fun j a ha => ?_
      try dsimp only at ha
      split at ha
      · exact .inr ha
      · exact .inl ⟨j, ha⟩
    · cases e
  | .tp l, .tup ts, v, fp, ρ, ρ', σ, H0, F, H, fps, Q, s, r, E, nd, ow, dj, e, k => by
    have e : (if l.length = ts.length then bindGs l ts ρ else none) = some ρ' := e
    split at e
    · rename_i c
      obtain ⟨a, vs, ev, q, r⟩ := Rp.readT s r
      exact ⟨a, vs, ev, q, by rw [RpL.length r, c], bindsSt l ts vs fp ρ ρ' σ H0 F H fps Q s r E nd ow dj e k c⟩
    · cases e
  | .tp l, .non, _, _, _, _, _, _, _, _, _, _, _, _, _, _, _, _, e, _ => nomatch e
  | .tp l, .bl _, _, _, _, _, _, _, _, _, _, _, _, _, _, _, _, _, e, _ => nomatch e
  | .tp l, .int _, _, _, _, _, _, _, _, _, _, _, _, _, _, _, _, _, e, _ => nomatch e
  | .tp l, .str _, _, _, _, _, _, _, _, _, _, _, _, _, _, _, _, _, e, _ => nomatch e
  | .tp l, .lst _ _, _, _, _, _, _, _, _, _, _, _, _, _, _, _, _, _, e, _ => nomatch e
theorem bindsSt {K : Fr} : ∀ (gs : List Tg) (ts : List T) (vs : List V) (fp : List Addr) (ρ ρ' : En) (σ : L2.St) (H0 F H : Hp) (fps : Nat → List Addr) (Q : L2.St → Hp → Prop), Same F H → RpL K F H ts vs fp → Slots K H0 F H σ ρ fps → fp.Nodup →
    (∀ a ∈ fp, H0 a = none ∧ F a = none) → (∀ j, ∀ a ∈ fps j, a ∉ fp) → bindGs gs ts ρ = some ρ' →
    (∀ σ' fps', Slots K H0 F H σ' ρ' fps' → (∀ j, ∀ a ∈ fps' j, (∃ k, a ∈ fps k) ∨ a ∈ fp) → Q σ' H) → gs.length = ts.length → rdGs K gs vs σ H Q
  | [], ts, vs, fp, ρ, ρ', σ, H0, F, H, fps, Q, s, r, E, nd, ow, dj, e, k, hl => by
    have : ts = [] := List.eq_nil_of_length_eq_zero hl.symm
    subst this
    cases e
    exact ⟨r.1, k σ fps E fun j a ha => .inl ⟨j, ha⟩⟩
  | g :: gs, [], _, _, _, _, _, _, _, _, _, _, _, _, _, _, _, _, e, _, _ => nomatch e
  | g :: gs, t :: ts, vs, fp, ρ, ρ', σ, H0, F, H, fps, Q, s, r, E, nd, ow, dj, e, k, hl => by
    obtain ⟨v, vs', f1, f2, e1, e2, h1, h2⟩ := r
    subst e2
    obtain ⟨n1, n2, n3⟩ := List.nodup_append.mp nd
    have e : (match bindG g t ρ with | some ρ' => bindGs gs ts ρ' | none => none) = some ρ' := e
    split at e
    · rename_i ρ1 e3
      refine ⟨v, vs', e1, bindSt g t v f1 ρ ρ1 σ H0 F H fps _ s h1 E n1 (fun a ha => ow a (List.mem_append_left _ ha)) (fun j a ha z => dj j a ha (List.mem_append_left _ z)) e3 fun σ1 fps1 E1 B1 => ?_⟩
      refine bindsSt gs ts vs' f2 ρ1 ρ' σ1 H0 F H fps1 Q s h2 E1 n2 (fun a ha => ow a (List.mem_append_right _ ha)) (fun j a ha z => ?_) e (fun σ2 fps2 E2 B2 => k σ2 fps2 E2 fun j a ha => ?_) (by simpa using hl)
      · rcases B1 j a ha with ⟨k', w⟩ | w
        · exact dj k' a w (List.mem_append_right _ z)
        · exact n3 a w a z rfl
      · rcases B2 j a ha with ⟨k', w⟩ | w
        · rcases B1 k' a w with y | y
          · exact .inl y
          · exact .inr (List.mem_append_left _ y)
        · exact .inr (List.mem_append_right _ w)
    · cases e
end
/-- a target takes what is held -/
theorem Stt.bind {K : Fr} {F0 H0 F H F' H' : Hp} {g : Tg} {t : T} {v : V} {fp : List Addr} {ρ ρ' : En} {σ : L2.St} {Q : L2.St → Hp → Prop} (S : Stt K F0 H0 F H σ ρ) (e : Ext F H F' H') (r : Rp K F' H' t v fp) (f : Frsh H F' fp) (b : bindG g t ρ = some ρ')
    (k : ∀ σ', Stt K F0 H0 F' H' σ' ρ' → Q σ' H') : rdG K g v σ H' Q := by
  obtain ⟨e0, fps, S⟩ := S
  refine bindSt g t v fp ρ ρ' σ H0 F' H' fps Q e.s r (S.ext e) f.1 (fun a ha => ⟨e0.h.free (f.2 a ha).1, (f.2 a ha).2⟩) (fun j a ha z => ?_) b fun σ' fps' S' _ => k σ' ⟨e0.trans e, fps', S'⟩
  exact (S.ow j a ha).2.2 (f.2 a z).1
/-- a slot is frozen -/
theorem Stt.frz {K : Fr} {F0 H0 F H : Hp} {σ : L2.St} {ρ : En} (i : Nat) (S : Stt K F0 H0 F H σ ρ) : ∃ F', Same F F' ∧ Stt K F0 H0 F' H σ (frzE ρ i) := by
  obtain ⟨e0, fps, S⟩ := S
  unfold frzE
  split
  · rename_i t et
    obtain ⟨v, e1, r⟩ := S.rp i t et
    obtain ⟨F', z, r'⟩ := Rp.freeze t v (fps i) e0.s (fun a m => (S.ow i a m).2.1) (S.nd i) r
    have hi : i < ρ.length := by
      by_cases c : i < ρ.length
      · exact c
      · rw [List.getElem?_eq_none (by omega)] at et; cases et
    have nf : ∀ j, j ≠ i → ∀ a ∈ fps j, F' a = none := fun j hj a ha => by
      cases q : F' a with
      | none => rfl
      | some o =>
        rcases z.2.2 a (by rw [q]; simp) with x | x
        · exact absurd (S.ow j a ha).2.1 x
        · exact absurd x (S.dj j i hj a ha)
    refine ⟨F', z.1, ⟨e0.h, e0.f.trans z.1, z.2.1, fun a h => ?_⟩, fun j => if j = i then [] else fps j, ⟨?_, fun j u e => ?_, fun j => ?_, fun j k hjk a ha => ?_, fun j a ha => ?_⟩⟩
    · rcases z.2.2 a h with x | x
      · exact e0.n a x
      · exact .inr (S.ow i a x).1
    · rw [List.length_set]; exact S.len
    · by_cases c : i = j
      · subst c
        rw [List.getElem?_set_self hi] at e
        cases e
        exact ⟨v, e1, by simpa using r'⟩
      · rw [List.getElem?_set_ne c] at e
        have : ¬ j = i := fun z => c z.symm
        simp only [if_neg this]
        obtain ⟨w, a1, a2⟩ := S.rp j u e
        exact ⟨w, a1, Rp.mono z.1 _ _ _ (fun _ _ _ q => q) a2⟩
    · try dsimp only
      split
      · exact List.nodup_nil
      · exact S.nd j
    · try dsimp only at ha ⊢
      split at ha
      · cases ha
      · split
        · exact List.not_mem_nil
        · exact S.dj j k hjk a ha
    · try dsimp only at ha
      split at ha
      · cases ha
      · rename_i c
        exact ⟨(S.ow j a ha).1, nf j c a ha, (S.ow j a ha).2.2⟩
  · exact ⟨F, Same.refl F, e0, fps, S⟩
/-- the owned list of a slot is changed -/
theorem Stt.upd {K : Fr} {F0 H0 F H : Hp} {σ : L2.St} {ρ : En} {i : Nat} {l l' : List T} (S : Stt K F0 H0 F H σ ρ) (e : ρ[i]? = some (some (.lst .own l))) :
    ∃ a vs fp, σ[i]? = some (some (.ref a)) ∧ H a = some (.lst vs) ∧ RpL K F H l vs fp ∧
      (∀ F' H' vs', Ext F H F' H' → RpL K F' H' l' vs' fp → Stt K F0 H0 F' (upd H' a (.lst vs')) σ (ρ.set i (some (.lst .own l')))) := by
  obtain ⟨e0, fps, S⟩ := S
  obtain ⟨v, e1, a, vs, fp, e2, e3, q, r⟩ := S.rp i _ e
  subst e2
  refine ⟨a, vs, fp, e1, q, r, fun F' H' ws E r' => ?_⟩
  have S1 := S.ext E
  have ma : a ∈ fps i := by rw [e3]; exact List.mem_cons_self
  obtain ⟨w1, w2, w3⟩ := S1.ow i a ma
  have hi : i < ρ.length := by
    by_cases c : i < ρ.length
    · exact c
    · rw [List.getElem?_eq_none (by omega)] at e; cases e
  have nofp : a ∉ fp := by
    have := S.nd i
    rw [e3] at this
    exact (List.nodup_cons.mp this).1
  have E1 := e0.trans E
  refine ⟨⟨fun b o hb => ?_, E1.f, fun b o hb => ?_, E1.n⟩, fps, ⟨by rw [List.length_set]; exact S.len, fun j u ej => ?_, S.nd, S.dj, fun j b hb => ?_⟩⟩
  · rw [upd_ne (ne_of_none hb w1)]; exact E1.h b o hb
  · rw [upd_ne (ne_of_none hb w2)]; exact E1.s b o hb
  · by_cases c : i = j
    · subst c
      rw [List.getElem?_set_self hi] at ej
      cases ej
      refine ⟨_, e1, a, ws, fp, rfl, e3, upd_same, RpL.mono (Same.refl _) _ _ _ (fun b mb o hb => ?_) r'⟩
      rw [upd_ne (fun z => nofp (by rw [← z]; exact mb))]
      exact hb
    · rw [List.getElem?_set_ne c] at ej
      obtain ⟨w, a1, a2⟩ := S1.rp j u ej
      refine ⟨w, a1, Rp.mono (Same.refl _) _ _ _ (fun b mb o hb => ?_) a2⟩
      rw [upd_ne (fun z => S.dj i j c a ma (by rw [← z]; exact mb))]
      exact hb
  · obtain ⟨x1, x2, x3⟩ := S1.ow j b hb
    refine ⟨x1, x2, fun z => ?_⟩
    by_cases c : b = a
    · subst c
      rw [upd_same] at z; cases z
    · rw [upd_ne c] at z
      exact x3 z

/-! ### what is wanted behind a statement -/
def PostS (M : Mt) (F0 H0 Fi : Hp) : R Out → Ends → Prop
  | .ok (.nx ρ), D => ∀ σ F H, Stt M.K F0 H0 F H σ ρ → Same Fi F → D.nx σ H
  | .ok (.bk ρ), D => ∀ σ F H, Stt M.K F0 H0 F H σ ρ → Same Fi F → D.bk σ H
  | .ok (.ct ρ), D => ∀ σ F H, Stt M.K F0 H0 F H σ ρ → Same Fi F → D.ct σ H
  | .ok (.rt t), D => ∀ v F H fp, Ext F0 H0 F H → Rp M.K F H t v fp → Frsh H0 F fp → D.rt v H
  | .exc c, _ => ∀ σ F H, Ext F0 H0 F H → M.W σ c H
  | .stuck, _ => False
theorem PostS.mono {M : Mt} {F0 H0 Fi Fj : Hp} {r : R Out} {D : Ends} (s : Same Fi Fj) (h : PostS M F0 H0 Fi r D) : PostS M F0 H0 Fj r D := by
  cases r with
  | ok o => cases o with
    | nx ρ => exact fun σ F H S z => h σ F H S (s.trans z)
    | bk ρ => exact fun σ F H S z => h σ F H S (s.trans z)
    | ct ρ => exact fun σ F H S z => h σ F H S (s.trans z)
    | rt t => exact h
  | exc c => exact h
  | stuck => exact h
theorem PostS.bindC {M : Mt} {F0 H0 Fi F H : Hp} {D : Ends} {σ : L2.St} {ρ : En} {r : R T} {f : T → R Out} {Q : VK} (S : Stt M.K F0 H0 F H σ ρ) (h : PostS M F0 H0 Fi (r.bind f) D)
    (k : ∀ t, PostS M F0 H0 Fi (f t) D → ∀ v F' H' fp, Ext F H F' H' → Rp M.K F' H' t v fp → Frsh H F' fp → Q v H') : Post M.K F H (M.W σ) r Q := by
  cases r with
  | ok t => exact fun v F' H' fp e r f => k t h v F' H' fp e r f
  | exc c => exact fun F' H' e => h σ F' H' (S.1.trans e)
  | stuck => exact h.elim
theorem PostS.bindV {M : Mt} {F0 H0 Fi F H : Hp} {D : Ends} {σ : L2.St} {ρ : En} {r : R T} {f : T → R Out} {Q : VK} (S : Stt M.K F0 H0 F H σ ρ) (h : PostS M F0 H0 Fi (r.bind f) D)
    (k : ∀ t, PostS M F0 H0 Fi (f t) D → ∀ v F' H' fp, Ext F H F' H' → Rp M.K F' H' t v fp → Q v H') : PostV M.K F H (M.W σ) r Q := by
  cases r with
  | ok t => exact fun v F' H' fp e r => k t h v F' H' fp e r
  | exc c => exact fun F' H' e => h σ F' H' (S.1.trans e)
  | stuck => exact h.elim
theorem PostS.bindB {M : Mt} {F0 H0 Fi F H : Hp} {D : Ends} {σ : L2.St} {ρ : En} {r : R Bool} {f : Bool → R Out} {Q : Bool → Hp → Prop} (S : Stt M.K F0 H0 F H σ ρ) (h : PostS M F0 H0 Fi (r.bind f) D)
    (k : ∀ t, PostS M F0 H0 Fi (f t) D → ∀ F' H', Ext F H F' H' → Q t H') : PostB F H (M.W σ) r Q := by
  cases r with
  | ok t => exact fun F' H' e => k t h F' H' e
  | exc c => exact fun F' H' e => h σ F' H' (S.1.trans e)
  | stuck => exact h.elim
theorem PostS.bindL {M : Mt} {F0 H0 Fi F H : Hp} {D : Ends} {σ : L2.St} {ρ : En} {r : R (List T)} {f : List T → R Out} {Q : List V → Hp → Prop} (S : Stt M.K F0 H0 F H σ ρ) (h : PostS M F0 H0 Fi (r.bind f) D)
    (k : ∀ t, PostS M F0 H0 Fi (f t) D → ∀ v F' H' fp, Ext F H F' H' → RpL M.K F' H' t v fp → Frsh H F' fp → Q v H') : PostL M.K F H (M.W σ) r Q := by
  cases r with
  | ok t => exact fun v F' H' fp e r f => k t h v F' H' fp e r f
  | exc c => exact fun F' H' e => h σ F' H' (S.1.trans e)
  | stuck => exact h.elim
end PV
namespace PV
open PySem L2 PyProof.Rows

theorem RpL.set0 {K : Fr} {F H : Hp} {t : T} {v : V} (r : Rp K F H t v []) : ∀ (l : List T) (vs : List V) (j : Nat), RpL K F H l vs [] → RpL K F H (l.set j t) (vs.set j v) []
  | [], vs, j, h => by
    have e : vs = [] := h.1
    subst e
    exact h
  | a :: l, vs, j, h => by
    obtain ⟨w, vs', f1, f2, e1, e2, h1, h2⟩ := h
    obtain ⟨n1, n2⟩ := List.append_eq_nil_iff.mp e2.symm
    subst n1 n2 e1
    cases j with
    | zero => exact ⟨v, vs', [], [], rfl, rfl, r, h2⟩
    | succ j => exact ⟨w, _, [], [], rfl, rfl, h1, RpL.set0 r l vs' j h2⟩
theorem slot_ok {ρ : En} {i : Nat} {t : T} (h : slotT ρ i = .ok t) : ρ[i]? = some (some t) := by
  unfold slotT at h
  split at h
  · rename_i u e
    cases h
    exact e
  · cases h
theorem appT_ok {x t y : T} (h : appT x t = .ok y) : ∃ l, x = .lst .own l ∧ l.length < sizeLine ∧ y = .lst .own (l ++ [t.frz]) := by
  unfold appT at h
  split at h
  · split at h
    · rename_i c
      cases h
      exact ⟨_, rfl, c, rfl⟩
    · cases h
  · cases h
theorem stiT_ok {x i t y : T} (h : stiT x i t = .ok y) : ∃ l k j, x = .lst .own l ∧ i = .int k ∧ T.fro.froL l = true ∧ ixN l.length k = some j ∧ y = .lst .own (l.set j t.frz) := by
  unfold stiT at h
  split at h
  · split at h
    · rename_i c
      split at h
      · rename_i j e
        cases h
        exact ⟨_, _, j, rfl, rfl, c, e, rfl⟩
      · cases h
    · cases h
  · cases h
theorem slotT_no {ρ : En} {i : Nat} {c : Str} : slotT ρ i ≠ .exc c := by
  unfold slotT; split <;> (intro z; cases z)
theorem appT_no {x y : T} {c : Str} : appT x y ≠ .exc c := by
  unfold appT; split <;> (try split) <;> (intro z; cases z)
theorem stiT_no {x y w : T} {c : Str} : stiT x y w ≠ .exc c := by
  unfold stiT; split <;> (try split) <;> (try split) <;> (intro z; cases z)
theorem augT_no {p : Bool} {x y : T} {c : Str} : augT p x y ≠ .exc c := by
  unfold augT; split <;> (intro z; cases z)
theorem PostS.got {M : Mt} {F0 H0 Fi : Hp} {D : Ends} {α : Type} {r : R α} {f : α → R Out} (h : PostS M F0 H0 Fi (r.bind f) D) (hn : ∀ c, r ≠ .exc c) : ∃ t, r = .ok t ∧ PostS M F0 H0 Fi (f t) D := by
  cases r with
  | ok t => exact ⟨t, rfl, h⟩
  | exc c => exact absurd rfl (hn c)
  | stuck => exact h.elim
theorem PostS.setS {M : Mt} {F0 H0 Fi : Hp} {D : Ends} {ρ : En} {i : Nat} {t : T} (h : PostS M F0 H0 Fi (setS ρ i t) D) : i < ρ.length ∧ ∀ σ F H, Stt M.K F0 H0 F H σ (ρ.set i (some t)) → Same Fi F → D.nx σ H := by
  unfold PV.setS at h
  split at h
  · rename_i c
    exact ⟨c, h⟩
  · exact h.elim
mutual
theorem satS : ∀ (s : CS) (M : Mt) (F0 H0 F H : Hp) (σ : L2.St) (ρ : En) (D : Ends), MtOk M → Stt M.K F0 H0 F H σ ρ → PostS M F0 H0 F (exS M.Γ s ρ) D → rdS s M D σ H
  | .pas, M, F0, H0, F, H, σ, ρ, D, m, S, h => h σ F H S (Same.refl F)
  | .asg g e, M, F0, H0, F, H, σ, ρ, D, m, S, h => by
    have h : PostS M F0 H0 F (((ev M.Γ e ρ).bind (capT e.vw)).bind fun t => match bindG g t ρ with | some ρ' => .ok (.nx ρ') | none => .stuck) D := h
    refine sat e M F H σ ρ _ m S.s S.env (Post.cap (PostS.bindC S h fun t h1 v F1 H1 fp E r f => ?_))
    split at h1
    · rename_i ρ' b
      exact Stt.bind S E r f b fun σ' S' => h1 σ' F1 H1 S' E.f
    · exact h1.elim
  | .ret e, M, F0, H0, F, H, σ, ρ, D, m, S, h => by
    have h : PostS M F0 H0 F (((ev M.Γ e ρ).bind (capT e.vw)).bind fun t => .ok (.rt t)) D := h
    refine sat e M F H σ ρ _ m S.s S.env (Post.cap (PostS.bindC S h fun t h1 v F1 H1 fp E r f => ?_))
    exact h1 v F1 H1 fp (S.1.trans E) r (f.back S.1)
  | .retv i, M, F0, H0, F, H, σ, ρ, D, m, S, h => by
    have h : PostS M F0 H0 F ((slotT ρ i).bind fun t => .ok (.rt t)) D := h
    obtain ⟨t, e, h1⟩ := PostS.got h fun c => slotT_no
    obtain ⟨e0, fps, S⟩ := S
    obtain ⟨v, e1, r⟩ := S.rp i t (slot_ok e)
    exact ⟨v, e1, h1 v F H (fps i) e0 r ⟨S.nd i, fun a ha => ⟨(S.ow i a ha).1, (S.ow i a ha).2.1⟩⟩⟩
  | .retn, M, F0, H0, F, H, σ, ρ, D, m, S, h => h .non F H [] S.1 ⟨rfl, rfl⟩ Frsh.nil
  | .ife c a b, M, F0, H0, F, H, σ, ρ, D, m, S, h => by
    have h : PostS M F0 H0 F ((evB M.Γ c ρ).bind fun k => if k then exSs M.Γ a ρ else exSs M.Γ b ρ) D := h
    refine satB c M F H σ ρ _ m S.s S.env (PostS.bindB S h fun k h1 F1 H1 E => ?_)
    cases k with
    | true => exact iteT (satSs a M F0 H0 F1 H1 σ ρ D m (S.ext E) (PostS.mono E.f h1))
    | false => exact iteF (satSs b M F0 H0 F1 H1 σ ρ D m (S.ext E) (PostS.mono E.f h1))
  | .whl c b, M, F0, H0, F, H, σ, ρ, D, m, S, h => by
    have h : PostS M F0 H0 F (whlX (fun ρ => evB M.Γ c ρ) (fun ρ => exSs M.Γ b ρ) ρ) D := h
    generalize hr : whlX (fun ρ => evB M.Γ c ρ) (fun ρ => exSs M.Γ b ρ) ρ = r at h
    have nr : r ≠ .stuck := fun z => by rw [z] at h; exact h
    obtain ⟨n, hn⟩ := whlX_some hr nr
    refine ⟨fun m σ' H' => ∃ ρ' F', Stt M.K F0 H0 F' H' σ' ρ' ∧ Same F F' ∧ whlR (fun ρ => evB M.Γ c ρ) (fun ρ => exSs M.Γ b ρ) m ρ' = some r, ⟨n, ρ, F, S, Same.refl F, hn⟩, ?_⟩
    rintro k σ1 H1 ⟨ρ1, F1, S1, z1, w1⟩
    cases k with
    | zero => cases w1
    | succ k =>
      unfold whlR at w1
      refine satB c M F1 H1 σ1 ρ1 _ m S1.s S1.env ?_
      cases hc : evB M.Γ c ρ1 with
      | exc e =>
        rw [hc] at w1
        have : r = .exc e := (Option.some.inj w1).symm
        subst this
        exact fun F2 H2 E => h σ1 F2 H2 (S1.1.trans E)
      | stuck =>
        rw [hc] at w1
        exact absurd (Option.some.inj w1).symm nr
      | ok kb =>
        rw [hc] at w1
        intro F2 H2 E
        cases kb with
        | false =>
          have : r = .ok (.nx ρ1) := (Option.some.inj w1).symm
          subst this
          exact iteF (h σ1 F2 H2 (S1.ext E) (z1.trans E.f))
        | true =>
          refine iteT ⟨fun σ' H' => ∃ ρ' F', Stt M.K F0 H0 F' H' σ' ρ' ∧ Same F F' ∧ whlR (fun ρ => evB M.Γ c ρ) (fun ρ => exSs M.Γ b ρ) k ρ' = some r, fun σ' H' q => ⟨k, Nat.lt_succ_self k, q⟩, ?_⟩
          refine satSs b M F0 H0 F2 H2 σ1 ρ1 _ m (S1.ext E) ?_
          have zz : Same F F2 := z1.trans E.f
          cases hb : exSs M.Γ b ρ1 with
          | ok o =>
            simp only [hb] at w1
            cases o with
            | nx ρ' => exact fun σ F3 H3 S3 z3 => ⟨ρ', F3, S3, zz.trans z3, w1⟩
            | ct ρ' => exact fun σ F3 H3 S3 z3 => ⟨ρ', F3, S3, zz.trans z3, w1⟩
            | bk ρ' =>
              have : r = .ok (.nx ρ') := (Option.some.inj w1).symm
              subst this
              exact fun σ F3 H3 S3 z3 => h σ F3 H3 S3 (zz.trans z3)
            | rt t =>
              have : r = .ok (.rt t) := (Option.some.inj w1).symm
              subst this
              exact h
          | exc e =>
            simp only [hb] at w1
            have : r = .exc e := (Option.some.inj w1).symm
            subst this
            exact h
          | stuck =>
            simp only [hb] at w1
            exact absurd (Option.some.inj w1).symm nr
  | .fr g k es b, M, F0, H0, F, H, σ, ρ, D, m, S, h => by
    have h : PostS M F0 H0 F ((evs M.Γ es ρ).bind fun ts => (itT k (T.frz.frzL ts)).bind fun l => forX g (fun ρ => exSs M.Γ b ρ) l ρ) D := h
    refine sats es M F H σ ρ _ m S.s S.env (PostS.bindL S h fun ts h1 vs F1 H1 fp E1 r1 f1 => ?_)
    obtain ⟨F2, z, r2⟩ := RpL.freeze ts vs fp E1.s (fun a ma => (f1.2 a ma).2) f1.1 r1
    have E2 := E1.fz2 z fun a ma => (f1.2 a ma).1
    obtain ⟨l, ei, h2⟩ := PostS.got h1 (fun c => by unfold itT; split <;> (try split) <;> (intro z; cases z))
    refine itOk E2.s r2 (frzL_no ts) ei fun J yi => ?_
    generalize hr : forX g (fun ρ => exSs M.Γ b ρ) l ρ = r at h2
    have nr : r ≠ .stuck := fun z => by rw [z] at h2; exact h2
    refine ⟨fun i m σ' H' => m = l.length - i ∧ i ≤ l.length ∧ ∃ ρ' F', Stt M.K F0 H0 F' H' σ' ρ' ∧ Same F2 F' ∧ forX g (fun ρ => exSs M.Γ b ρ) (l.drop i) ρ' = r, ⟨l.length, by simp, Nat.zero_le _, ρ, F2, S.ext E2, Same.refl F2, by simpa using hr⟩, ?_⟩
    rintro i m' σ1 Hi ⟨rfl, hi, ρ1, Fi, S1, z1, w1⟩
    have zz : Same F Fi := E2.f.trans z1
    by_cases hlt : i < l.length
    · refine .inr ?_
      obtain ⟨y1, _⟩ := yi i Fi Hi z1 S1.s
      obtain ⟨go, yl⟩ := y1 l[i] (List.getElem?_eq_getElem hlt)
      refine ⟨go, fun σ' H' => i + 1 ≤ l.length ∧ ∃ ρ' F', Stt M.K F0 H0 F' H' σ' ρ' ∧ Same F2 F' ∧ forX g (fun ρ => exSs M.Γ b ρ) (l.drop (i + 1)) ρ' = r, fun σ' H' p => ⟨l.length - (i + 1), by omega, rfl, p⟩, fun x H' hy => ?_⟩
      obtain ⟨F3, E3, r3⟩ := yl x H' hy
      rw [List.drop_eq_getElem_cons hlt] at w1
      unfold forX at w1
      cases hb : bindG g l[i] ρ1 with
      | none => rw [hb] at w1; exact absurd w1.symm nr
      | some ρ2 =>
        simp only [hb] at w1
        refine Stt.bind S1 E3 r3 Frsh.nil hb fun σ2 S2 => ?_
        refine satSs b M F0 H0 F3 H' σ2 ρ2 _ m S2 ?_
        cases hx : exSs M.Γ b ρ2 with
        | ok o =>
          simp only [hx] at w1
          cases o with
          | nx ρ' => exact fun σ F4 H4 S4 z4 => ⟨hlt, ρ', F4, S4, (z1.trans E3.f).trans z4, w1⟩
          | ct ρ' => exact fun σ F4 H4 S4 z4 => ⟨hlt, ρ', F4, S4, (z1.trans E3.f).trans z4, w1⟩
          | bk ρ' =>
            subst w1
            exact fun σ F4 H4 S4 z4 => h2 σ F4 H4 S4 ((zz.trans E3.f).trans z4)
          | rt t =>
            subst w1
            exact h2
        | exc e =>
          simp only [hx] at w1
          subst w1
          exact h2
        | stuck =>
          simp only [hx] at w1
          exact absurd w1.symm nr
    · have e : i = l.length := by omega
      subst e
      rw [List.drop_length] at w1
      have : r = .ok (.nx ρ1) := w1.symm
      subst this
      exact .inl ⟨(yi _ Fi Hi z1 S1.s).2 (Nat.le_refl _), h2 σ1 Fi Hi S1 zz⟩
  | .brk, M, F0, H0, F, H, σ, ρ, D, m, S, h => h σ F H S (Same.refl F)
  | .cnt, M, F0, H0, F, H, σ, ρ, D, m, S, h => h σ F H S (Same.refl F)
  | .exp e, M, F0, H0, F, H, σ, ρ, D, m, S, h => by
    have h : PostS M F0 H0 F ((ev M.Γ e ρ).bind fun _ => .ok (.nx ρ)) D := h
    exact sat e M F H σ ρ _ m S.s S.env (PostX.of (PostS.bindV S h fun t h1 v F1 H1 fp E r => h1 σ F1 H1 (S.ext E) E.f))
  | .app i e, M, F0, H0, F, H, σ, ρ, D, m, S, h => by
    have h : PostS M F0 H0 F ((slotT ρ i).bind fun x => if isOwn x then ((ev M.Γ e ρ).bind (capT e.vw)).bind fun t => (appT x t).bind fun y => setS ρ i y else .stuck) D := h
    obtain ⟨x, ex, h1⟩ := PostS.got h fun c => slotT_no
    obtain ⟨e0, fps, Sl⟩ := id S
    obtain ⟨v, e1, r⟩ := Sl.rp i x (slot_ok ex)
    split at h1
    case isFalse => exact h1.elim
    rename_i io
    refine ⟨v, e1, ?ty, ?_⟩
    case ty =>
      unfold isOwn at io
      split at io
      · obtain ⟨a, vs, fp, e3, e4, q, _⟩ := r
        subst e3
        exact .inl ⟨rfl, vs, .inl (.inl q)⟩
      · cases io
    refine sat e M F H σ ρ _ m S.s S.env (Post.cap (PostS.bindC S h1 fun t h2 w F1 H1 fp E r1 f1 => ?_))
    obtain ⟨y, ey, h3⟩ := PostS.got h2 fun c => appT_no
    obtain ⟨l, e2, hl, e3⟩ := appT_ok ey
    subst e2 e3
    obtain ⟨hi, h3⟩ := PostS.setS h3
    obtain ⟨F2, z, r2⟩ := Rp.freeze t w fp E.s (fun a ma => (f1.2 a ma).2) f1.1 r1
    have E2 := E.fz2 z fun a ma => (f1.2 a ma).1
    obtain ⟨a, vs, fp2, e4, q, r3, up⟩ := Stt.upd (l' := l ++ [t.frz]) S (slot_ok ex)
    have : v = .ref a := by rw [e1] at e4; cases e4; rfl
    subst this
    refine ⟨a, vs, w, rfl, rfl, E2.h _ _ q, by rw [RpL.length r3]; exact hl, ?_⟩
    refine h3 σ F2 _ (up F2 H1 (vs ++ [w]) E2 ?_) E2.f
    have a2 : RpL M.K F2 H1 [t.frz] [w] [] := ⟨w, [], [], [], rfl, rfl, r2, rfl, rfl⟩
    have := RpL.append (RpL.ext E2 r3) a2
    rw [List.append_nil] at this
    exact this
  | .sti i x e, M, F0, H0, F, H, σ, ρ, D, m, S, h => by
    have h : PostS M F0 H0 F (((ev M.Γ e ρ).bind (capT e.vw)).bind fun t => (slotT ρ i).bind fun o => (ev M.Γ x ρ).bind fun k => (stiT o k t).bind fun y => setS ρ i y) D := h
    refine sat e M F H σ ρ _ m S.s S.env (Post.cap (PostS.bindC S h fun t h1 w F1 H1 fp E r1 f1 => ?_))
    obtain ⟨o, eo, h2⟩ := PostS.got h1 fun c => slotT_no
    obtain ⟨F2, z, r2⟩ := Rp.freeze t w fp E.s (fun a ma => (f1.2 a ma).2) f1.1 r1
    have E2 := E.fz2 z fun a ma => (f1.2 a ma).1
    have S2 := S.ext E2
    obtain ⟨e0, fps, Sl⟩ := id S2
    obtain ⟨v, e1, r⟩ := Sl.rp i o (slot_ok eo)
    refine ⟨v, e1, ?_⟩
    refine sat x M F2 H1 σ ρ _ m S2.s S2.env (PostX.of (PostS.bindV S2 h2 fun k h3 u F3 H3 fp3 E3 r3 => ?_))
    obtain ⟨y, ey, h4⟩ := PostS.got h3 fun c => stiT_no
    obtain ⟨l, kk, j, e2, e3, fl, hj, e5⟩ := stiT_ok ey
    subst e2 e3 e5
    obtain ⟨hi, h4⟩ := PostS.setS h4
    obtain ⟨a, vs, fp2, e4, q, r4, up⟩ := Stt.upd (l' := l.set j t.frz) S2 (slot_ok eo)
    have : v = .ref a := by rw [e1] at e4; cases e4; rfl
    subst this
    have nf := RpL.fro l vs fp2 fl r4
    subst nf
    refine ⟨a, vs, kk, j, rfl, r3.1, E3.h _ _ q, by rw [RpL.length r4]; exact hj, ?_⟩
    exact h4 σ F3 _ (up F3 H3 _ E3 (RpL.set0 (Rp.mono0 E3.f r2) l vs j (RpL.mono0 E3.f r4))) (E2.f.trans E3.f)
  | .aug i p e, M, F0, H0, F, H, σ, ρ, D, m, S, h => by
    have h : PostS M F0 H0 F ((slotT ρ i).bind fun x => (ev M.Γ e ρ).bind fun y => (augT p x y).bind fun z => setS ρ i z) D := h
    obtain ⟨x, ex, h1⟩ := PostS.got h fun c => slotT_no
    obtain ⟨e0, fps, Sl⟩ := id S
    obtain ⟨v, e1, r⟩ := Sl.rp i x (slot_ok ex)
    refine ⟨v, e1, ?_⟩
    refine sat e M F H σ ρ _ m S.s S.env (PostX.of (PostS.bindV S h1 fun y h2 w F1 H1 fp E r1 => ?_))
    obtain ⟨z, ez, h3⟩ := PostS.got h2 fun c => augT_no
    unfold augT at ez
    split at ez
    · rename_i a b
      cases ez
      obtain ⟨hi, h3⟩ := PostS.setS h3
      have fin : ∀ k : Int, (∀ σ F H', Stt M.K F0 H0 F H' σ (ρ.set i (some (.int k))) → Same F F → D.nx σ H') → True := fun _ _ => trivial
      have S' : Stt M.K F0 H0 F1 H1 (σ.set i (some (.int (if p then a + b else a - b)))) (ρ.set i (some (.int (if p then a + b else a - b)))) := by
        obtain ⟨e2, fps2, Sl2⟩ := S.ext E
        exact ⟨e2, _, Sl2.set (fp := []) ⟨rfl, rfl⟩ hi List.nodup_nil (fun _ z => nomatch z) (fun _ _ _ _ z => nomatch z)⟩
      have q := h3 _ F1 H1 S' E.f
      cases p with
      | true => exact ⟨a, b, r.1, r1.1, q⟩
      | false => exact ⟨a, b, r.1, r1.1, q⟩
    · cases ez
  | .par i j a b, M, F0, H0, F, H, σ, ρ, D, m, S, h => by
    have h : PostS M F0 H0 F (((ev M.Γ a ρ).bind (capT a.vw)).bind fun x => ((ev M.Γ b ρ).bind (capT b.vw)).bind fun y => if i < ρ.length ∧ j < ρ.length ∧ i ≠ j then .ok (.nx ((ρ.set i (some x)).set j (some y))) else .stuck) D := h
    refine sat a M F H σ ρ _ m S.s S.env (Post.cap (PostS.bindC S h fun t h1 v F1 H1 fp E r f => ?_))
    refine sat b M F1 H1 σ ρ _ m E.s (S.ext E).env (Post.cap (PostS.bindC (S.ext E) h1 fun u h2 w F2 H2 fp2 E2 r2 f2 => ?_))
    split at h2
    · rename_i c
      obtain ⟨c1, c2, c3⟩ := c
      have b1 : bindG (.nm i) t ρ = some (ρ.set i (some t)) := if_pos c1
      have b2 : bindG (.nm j) u (ρ.set i (some t)) = some ((ρ.set i (some t)).set j (some u)) := if_pos (by rw [List.length_set]; exact c2)
      refine ⟨v, w, rfl, ?_⟩
      have g1 : rdG M.K (.nm i) v σ H1 fun σ1 _ => Stt M.K F0 H0 F1 H1 σ1 (ρ.set i (some t)) := Stt.bind S E r f b1 fun σ' S' => S'
      have g2 : rdG M.K (.nm j) w (σ.set i (some v)) H2 D.nx := Stt.bind (show Stt M.K F0 H0 F1 H1 (σ.set i (some v)) (ρ.set i (some t)) from g1) E2 r2 f2 b2 fun σ' S' => h2 σ' F2 H2 S' (E.f.trans E2.f)
      exact g2
    · exact h2.elim
  | .frz i, M, F0, H0, F, H, σ, ρ, D, m, S, h => by
    obtain ⟨F', z, S'⟩ := S.frz i
    exact h σ F' H S' z
theorem satSs : ∀ (ss : List CS) (M : Mt) (F0 H0 F H : Hp) (σ : L2.St) (ρ : En) (D : Ends), MtOk M → Stt M.K F0 H0 F H σ ρ → PostS M F0 H0 F (exSs M.Γ ss ρ) D → rdSs ss M D σ H
  | [], M, F0, H0, F, H, σ, ρ, D, m, S, h => h σ F H S (Same.refl F)
  | s :: ss, M, F0, H0, F, H, σ, ρ, D, m, S, h => by
    have h : PostS M F0 H0 F (match exS M.Γ s ρ with
      | .ok (.nx ρ') => exSs M.Γ ss ρ'
      | .ok o => .ok o
      | .exc e => .exc e
      | .stuck => .stuck) D := h
    refine satS s M F0 H0 F H σ ρ { D with nx := rdSs ss M D } m S ?_
    cases e : exS M.Γ s ρ with
    | ok o =>
      rw [e] at h
      cases o with
      | nx ρ' => exact fun σ' F' H' S' z => satSs ss M F0 H0 F' H' σ' ρ' D m S' (PostS.mono z h)
      | rt t => exact h
      | bk ρ' => exact h
      | ct ρ' => exact h
    | exc c => rw [e] at h; exact h
    | stuck => rw [e] at h; exact h
end
end PV
namespace PV
open PySem L2 PyProof.Rows

def notComp : Expr → Bool
  | .ListComp _ _ _ _ => false | .SetComp _ _ _ _ => false | .DictComp _ _ _ _ _ => false | _ => true
theorem sw_no {e : Expr} {t : Option Expr} {l : Nat} {env : Env} (h : notComp e = true) : swapsWith e t l env = pure false := by
  cases e <;> first | rfl | cases h
theorem sw_false {elt : Expr} {gs : List Comprehension} {scope : Scope} {pos py : Pos} {y : Str} {l : Nat} {env : Env}
    (h : ((py.line == pos.line) && !(scope.names.any fun (n, k) => n == y && (k == .local || k == .cell))) = false) : swapsWith (.ListComp elt gs scope pos) (some (.Name y py)) l env = pure false := by
  unfold swapsWith
  show (pure (env.blockKind == .function && env.kindOf y == some .local && py.line == pos.line && !(scope.names.any fun (n, k) => n == y && (k == .local || k == .cell))) : Sem Bool) = pure false
  congr 1
  rw [Bool.and_assoc, h]
  simp
def swTup (ts vs : List Expr) : Bool := !(ts.length == 2 || ts.length == 3) || vs.length != ts.length || vs.all (foldedForSure 8)
theorem sws_none {ts vs : List Expr} {k k2 p p2} {env : Env} (h : swTup ts vs = true) : swappedStores [.Tuple ts k p] (.Tuple vs k2 p2) env = pure none := by
  unfold swTup at h
  unfold swappedStores
  dsimp only
  split
  · rfl
  split
  · rfl
  split
  · rfl
  split
  · rfl
  · rename_i c1 c2 c3 c4
    exfalso
    simp only [Bool.or_eq_true] at h c1
    rcases h with (h | h) | h
    · exact c1 (.inl (.inl h))
    · exact c1 (.inl (.inr h))
    · exact c4 h
def notTup : Expr → Bool
  | .Tuple _ _ _ => false | _ => true
def isNameE : Expr → Bool
  | .Name _ _ => true | _ => false
/-- which assignments are plain -/
def asgB (tg e : Expr) : Bool := match tg with
  | .Name _ _ => true
  | .Tuple ts _ _ => match e with
    | .Tuple vs _ _ => swTup ts vs
    | _ => true
  | _ => false
theorem asg_ok {tg e : Expr} {env : Env} (h : asgB tg e = true) : swappedStores [tg] e env = pure none ∧ (assignEach [tg] env).map (·.2) = [assign tg env] := by
  cases tg
  case Name x p => exact ⟨rfl, rfl⟩
  case Tuple ts k p =>
    refine ⟨?_, rfl⟩
    cases e
    case Tuple vs k2 p2 => exact sws_none h
    all_goals rfl
  all_goals cases h
def parB (x y : Str) (px py : Pos) (a b : Expr) (sc : Scope) : Bool :=
  decide (sc.names.lookup x = some .local) && decide (sc.names.lookup y = some .local) && (px.line == py.line) && !(x == y) && notStar a && notStar b && !([a, b].all (foldedForSure 8)) && !([a, b].all (constantsAlone 8))
def anyB (scope : Scope) (y : Str) : Bool := scope.names.any fun (n, k) => n == y && (k == .local || k == .cell)
/-- a name, a comprehension: in place or not -/
def exchB (tg e : Expr) (sc : Scope) : Bool := match tg with
  | .Name y py => match e with
    | .ListComp _ _ scope pos => !((py.line == pos.line) && !anyB scope y) || ((py.line == pos.line) && !anyB scope y && decide (sc.names.lookup y = some .local))
    | _ => false
  | _ => false
mutual
def ckS (G : GG) (N : List Str) : CS → Scope → Stmt → Bool
  | .pas, _, st => match st with
    | .Pass _ => true
    | .Expr (.Constant (.str _) _ _) _ => true
    | _ => false
  | .asg g c, sc, st => match st with
    | .Assign [tg] e _ => ckG N sc.names g tg && ck G N c sc e && asgB tg e && (notComp e || exchB tg e sc)
    | _ => false
  | .ret c, sc, st => match st with
    | .Return (some e) _ => ck G N c sc e
    | _ => false
  | .retv i, sc, st => match st with
    | .Return (some (.Name x _)) _ => decide (N[i]? = some x) && visB sc x
    | _ => false
  | .retn, _, st => match st with
    | .Return none _ => true
    | _ => false
  | .ife c a b, sc, st => match st with
    | .If t p q _ => ckB G N c sc t && ckSs G N a sc p && ckSs G N b sc q
    | _ => false
  | .whl c b, sc, st => match st with
    | .While t p [] _ => ckB G N c sc t && ckSs G N b sc p
    | _ => false
  | .fr g k es b, sc, st => match st with
    | .For tg it p [] _ => ckG N sc.names g tg && ckI G N k es sc tg it && ckSs G N b sc p && notSet it
    | _ => false
  | .brk, _, st => match st with
    | .Break _ => true
    | _ => false
  | .cnt, _, st => match st with
    | .Continue _ => true
    | _ => false
  | .exp c, sc, st => match st with
    | .Expr e _ => ck G N c sc e && notComp e
    | _ => false
  | .app i c, sc, st => match st with
    | .Expr (.Call (.Attribute (.Name x _) a ap) [r] [] cp) _ => decide (N[i]? = some x) && visB sc x && decide (a = "append") && (ap.endLine == cp.line) && ck G N c sc r && notStar r
    | _ => false
  | .sti i x c, sc, st => match st with
    | .Assign [.Subscript (.Name y _) r _] e _ => decide (N[i]? = some y) && visB sc y && notSl r && ck G N x sc r && ck G N c sc e && notComp e
    | _ => false
  | .aug i p c, sc, st => match st with
    | .AugAssign (.Name x _) op e _ => decide (N[i]? = some x) && locB sc.names x && decide (op = if p then .Add else .Sub) && ck G N c sc e
    | _ => false
  | .par i j c d, sc, st => match st with
    | .Assign [.Tuple [.Name x px, .Name y py] _ _] (.Tuple [a, b] _ _) _ => decide (N[i]? = some x) && decide (N[j]? = some y) && parB x y px py a b sc && ck G N c sc a && ck G N d sc b
    | _ => false
  | .frz _, _, _ => false
def ckSs (G : GG) (N : List Str) : List CS → Scope → List Stmt → Bool
  | [], _, sts => sts.isEmpty
  | .frz _ :: ss, sc, sts => ckSs G N ss sc sts
  | s :: ss, sc, sts => match sts with
    | st :: sts => ckS G N s sc st && ckSs G N ss sc sts
    | [] => false
end
end PV
namespace PV
open PySem L2 PyProof.Rows

/-- the context of a def's body -/
structure Cxs (X : Cx) (G : GG) (W : L2.St → XW) (N : List Str) (sc : Scope) (n : Nat) : Prop where
  c : Cxt X G W N sc sc.names n
  pass : PassesOwn (model X.prog X.w) X.A X.env X.xe
  kind : sc.kind = .function
section
variable {X : Cx} {G : GG} {W : L2.St → XW} {N : List Str} {sc : Scope} {n : Nat}
theorem pss_ghost {sts : List Stmt} {t : TS} (h : PSs X sts t) : PSs X sts (tSeq tNext t) := h
theorem ip_aug {p : Bool} : PIp X (if p then .Add else .Sub) (rAug p) := by
  cases p with
  | true => exact iop_add
  | false => exact iop_sub
theorem setlc_ok (c : Cxs X G W N sc n) {g : Tg} {ce : CE} {y : Str} {py : Pos} {el : Expr} {gs : List Comprehension} {scope : Scope} {pos spos : Pos} (h1 : ckG N sc.names g (.Name y py) = true) (h2 : ck G N ce sc (.ListComp el gs scope pos) = true)
    (h3 : ((py.line == pos.line) && !anyB scope y && decide (sc.names.lookup y = some .local)) = true) : PS X (.Assign [.Name y py] (.ListComp el gs scope pos) spos) (tAsg (rd ce (mt X G W)) (rdG X.K g)) := by
  obtain ⟨h3, hy⟩ := bool2 h3
  obtain ⟨hl, ha⟩ := bool2 h3
  have hy := of_decide_eq_true hy
  cases g
  case tp l => unfold ckG at h1; cases h1
  case nm i =>
    unfold ckG at h1
    obtain ⟨q1, q2⟩ := bool2 h1
    cases ce
    case comp elt g k es d own =>
      unfold ck at h2
      split at h2
      · rename_i e0 el' tg it ifs scope' p' he
        cases he
        obtain ⟨h, h6⟩ := bool2 h2
        obtain ⟨h, h5⟩ := bool2 h
        obtain ⟨h, h4⟩ := bool2 h
        obtain ⟨h, h3⟩ := bool2 h
        obtain ⟨h1, h2⟩ := bool2 h
        have cc := c.c
        exact ps_setLc cc.calm (by rw [cc.hN]; exact cc.hnd) (by rw [cc.hN]; exact of_decide_eq_true q1) (by rw [cc.hsc]; exact hy)
          (sw_true (by rw [cc.hsc]; exact c.kind) (by rw [cc.hsc]; exact hy) hl (by simpa [anyB] using ha)) (piOk k es X W sc sc.names _ _ cc h2) (blkOk_by (by rw [cc.hN, cc.hsc]; exact h3))
          (fun s H C cl fp => pgOk (cc.blk _ s H C cl fp) g _ h1)
          (fun s H C cl fp => ptsOk d _ _ _ _ _ (cc.blk _ s H C cl fp) h5)
          (fun s H C cl fp => peOk elt _ _ _ _ _ (cc.blk _ s H C cl fp) h4) (notSet_ok h6)
      · cases h2
    all_goals (unfold ck at h2; cases h2)
theorem nostar2 {a b : Expr} (h : notStar a = true) (h' : notStar b = true) (f : Expr → Bool) (hf : ∀ e, notStar e = true → f e = false) : [a, b].any f = false := by
  rw [List.any_cons, List.any_cons, List.any_nil, hf a h, hf b h']
  rfl
theorem par_ok (c : Cxs X G W N sc n) {i j : Nat} {x y : Str} {px py pt : Pos} {kt kt2 pt2} {a b : Expr} {ta : TA} {pos : Pos} (hi : N[i]? = some x) (hj : N[j]? = some y) (h : parB x y px py a b sc = true) (ha : PA X [a, b] ta) :
    PS X (.Assign [.Tuple [.Name x px, .Name y py] kt pt] (.Tuple [a, b] kt2 pt2) pos) (tPar i j ta) := by
  unfold parB at h
  obtain ⟨h, h8⟩ := bool2 h
  obtain ⟨h, h7⟩ := bool2 h
  obtain ⟨h, h6⟩ := bool2 h
  obtain ⟨h, h5⟩ := bool2 h
  obtain ⟨h, h4⟩ := bool2 h
  obtain ⟨h, h3⟩ := bool2 h
  obtain ⟨h1, h2⟩ := bool2 h
  have h1 := of_decide_eq_true h1
  have h2 := of_decide_eq_true h2
  have cc := c.c
  have hxy : x ≠ y := fun z => by subst z; simp at h4
  refine ps_par cc.calm (by rw [cc.hN]; exact cc.hnd) (by rw [cc.hN]; exact hi) (by rw [cc.hN]; exact hj) (fun z => ?_) (by rw [cc.hsc]; exact h1) (by rw [cc.hsc]; exact h2) ha ?_
  · subst z
    rw [hi] at hj
    exact hxy (Option.some.inj hj)
  · have k1 : X.env.kindOf x = some .local := by show X.env.scope.names.lookup x = _; rw [cc.hsc]; exact h1
    have k2 : X.env.kindOf y = some .local := by show X.env.scope.names.lookup y = _; rw [cc.hsc]; exact h2
    have bk : X.env.blockKind = .function := by unfold Env.blockKind; rw [cc.hsc, c.kind]; rfl
    have pl : (py.line == px.line) = true := by rw [beq_iff_eq] at h3 ⊢; exact h3.symm
    unfold swappedStores
    dsimp only
    have nx : (x == y) = false := by simpa using hxy
    have ny : (y == x) = false := by simpa using hxy.symm
    rw [if_neg (by simp [bk])]
    rw [if_neg (ne_true_of_eq_false (nostar2 h5 h6 _ (fun e h => by cases e <;> first | rfl | cases h)))]
    simp only [List.filterMap_cons, List.filterMap_nil, k1, k2, Expr.pos, List.head?_cons, Option.map_some, Option.getD_some, beq_self_eq_true, Bool.and_self, if_true, pl]
    rw [if_neg (by simp [List.eraseDups_cons, ny, nx])]
    rw [if_neg (fun z => by rw [z] at h7; cases h7)]
    rw [if_neg (fun z => by rw [z] at h8; cases h8)]
theorem sws_no {tg e : Expr} {l : Nat} {env : Env} (h : notComp e = true) : swapsWithSole [tg] e l env = pure false := sw_no h
theorem asgOk (c : Cxs X G W N sc n) {g : Tg} {ce : CE} {tg e : Expr} {p : Pos} (h1 : ckG N sc.names g tg = true) (h2 : ck G N ce sc e = true) (h3 : asgB tg e = true) (h4 : (notComp e || exchB tg e sc) = true) :
    PS X (.Assign [tg] e p) (tAsg (rd ce (mt X G W)) (rdG X.K g)) := by
  obtain ⟨a1, a2⟩ := asg_ok (env := X.env) h3
  rw [Bool.or_eq_true] at h4
  rcases h4 with h4 | h4
  · exact ps_asg (peOk ce X W sc sc.names _ c.c h2) (pgOk c.c g _ h1) (sws_no h4) a1 a2
  · cases tg
    case Name y py =>
      cases e
      case ListComp el gs scope pos =>
        have h4 : (!((py.line == pos.line) && !anyB scope y) || ((py.line == pos.line) && !anyB scope y && decide (sc.names.lookup y = some .local))) = true := h4
        rw [Bool.or_eq_true] at h4
        rcases h4 with h4 | h4
        · have sw : swapsWithSole [.Name y py] (.ListComp el gs scope pos) p.line X.env = pure false := sw_false (l := p.line) (show ((py.line == pos.line) && !anyB scope y) = false by simpa only [Bool.not_eq_true'] using h4)
          exact ps_asg (peOk ce X W sc sc.names _ c.c h2) (pgOk c.c g _ h1) sw a1 a2
        · exact setlc_ok c h1 h2 h4
      all_goals cases h4
    all_goals cases h4
mutual
theorem psOk : ∀ (s : CS) (st : Stmt), Cxs X G W N sc n → ckS G N s sc st = true → PS X st (rdS s (mt X G W))
  | .pas, st, c, h => by
    unfold ckS at h
    split at h
    · exact ps_pass
    · exact ps_doc
    · cases h
  | .asg g ce, st, c, h => by
    unfold ckS at h
    split at h
    · rename_i tg e p
      obtain ⟨h, h4⟩ := bool2 h
      obtain ⟨h, h3⟩ := bool2 h
      obtain ⟨h1, h2⟩ := bool2 h
      exact asgOk c h1 h2 h3 h4
    · cases h
  | .ret ce, st, c, h => by
    unfold ckS at h
    split at h
    · exact ps_ret (peOk ce X W sc sc.names _ c.c h)
    · cases h
  | .retv i, st, c, h => by
    unfold ckS at h
    split at h
    · obtain ⟨h1, h2⟩ := bool2 h
      obtain ⟨v1, v2, v3⟩ := c.c.vis h2
      exact ps_ret (pe_var (by rw [c.c.hN]; exact of_decide_eq_true h1) v1 v2 v3)
    · cases h
  | .retn, st, c, h => by
    unfold ckS at h
    split at h
    · exact ps_retN
    · cases h
  | .ife ce a b, st, c, h => by
    unfold ckS at h
    split at h
    · obtain ⟨h, h3⟩ := bool2 h
      obtain ⟨h1, h2⟩ := bool2 h
      exact ps_if (ptOk ce X W sc sc.names _ c.c h1) (pssOk a _ c h2) (pssOk b _ c h3)
    · cases h
  | .whl ce b, st, c, h => by
    unfold ckS at h
    split at h
    · obtain ⟨h1, h2⟩ := bool2 h
      exact ps_while c.pass (ptOk ce X W sc sc.names _ c.c h1) (pssOk b _ c h2)
    · cases h
  | .fr g k es b, st, c, h => by
    unfold ckS at h
    split at h
    · obtain ⟨h, h4⟩ := bool2 h
      obtain ⟨h, h3⟩ := bool2 h
      obtain ⟨h1, h2⟩ := bool2 h
      exact ps_for c.pass c.c.calm (piOk k es X W sc sc.names _ _ c.c h2) (pgOk c.c g _ h1) (pssOk b _ c h3) (notSet_ok h4)
    · cases h
  | .brk, st, c, h => by
    unfold ckS at h
    split at h
    · exact ps_break
    · cases h
  | .cnt, st, c, h => by
    unfold ckS at h
    split at h
    · exact ps_continue
    · cases h
  | .exp ce, st, c, h => by
    unfold ckS at h
    split at h
    · obtain ⟨h1, h2⟩ := bool2 h
      exact ps_expr (peOk ce X W sc sc.names _ c.c h1) (sw_no h2)
    · cases h
  | .app i ce, st, c, h => by
    unfold ckS at h
    split at h
    · obtain ⟨h, h6⟩ := bool2 h
      obtain ⟨h, h5⟩ := bool2 h
      obtain ⟨h, h4⟩ := bool2 h
      obtain ⟨h, h3⟩ := bool2 h
      obtain ⟨h1, h2⟩ := bool2 h
      obtain ⟨v1, v2, v3⟩ := c.c.vis h2
      have h3 := of_decide_eq_true h3
      subst h3
      refine ps_expr ?_ rfl
      exact pe_bm PySem.F.plainAttrs_list PySem.F.slot_list_append PySem.F.type_list_append mt_append (pe_var (by rw [c.c.hN]; exact of_decide_eq_true h1) v1 v2 v3) (pa_cons (peOk ce X W sc sc.names _ c.c h5) pa_nil (star_ok h6)) rfl (by rw [star_ok h6]; rfl) h4 (star_ok h6) rfl
    · cases h
  | .sti i x ce, st, c, h => by
    unfold ckS at h
    split at h
    · rename_i y p r p2 e p3
      obtain ⟨h, h6⟩ := bool2 h
      obtain ⟨h, h5⟩ := bool2 h
      obtain ⟨h, h4⟩ := bool2 h
      obtain ⟨h, h3⟩ := bool2 h
      obtain ⟨h1, h2⟩ := bool2 h
      obtain ⟨v1, v2, v3⟩ := c.c.vis h2
      have pl : PlainIx r := notSl_ok h3
      refine ps_asg (peOk ce X W sc sc.names _ c.c h5) (pg_sub (pe_var (by rw [c.c.hN]; exact of_decide_eq_true h1) v1 v2 v3) (peOk x X W sc sc.names _ c.c h4) set_list ?_) (sws_no h6) ?_ rfl
      · intro v
        cases r <;> first | rfl | cases h3
      · rfl
    · cases h
  | .aug i p ce, st, c, h => by
    unfold ckS at h
    split at h
    · obtain ⟨h, h4⟩ := bool2 h
      obtain ⟨h, h3⟩ := bool2 h
      obtain ⟨h1, h2⟩ := bool2 h
      have h3 := of_decide_eq_true h3
      subst h3
      obtain ⟨l1, l2⟩ := c.c.hln _ h2
      exact ps_aug (by rw [c.c.hN]; exact c.c.hnd) (by rw [c.c.hN]; exact of_decide_eq_true h1) (by rw [c.c.hsc]; exact l1) (peOk ce X W sc sc.names _ c.c h4) ip_aug (by rw [c.c.hsc]; exact l2)
    · cases h
  | .par i j d f, st, c, h => by
    unfold ckS at h
    split at h
    · rename_i x px y py kt pt a b k2 pt2 pos
      obtain ⟨h, h5⟩ := bool2 h
      obtain ⟨h, h4⟩ := bool2 h
      obtain ⟨h, h3⟩ := bool2 h
      obtain ⟨h1, h2⟩ := bool2 h
      have na : notStar a = true ∧ notStar b = true := by
        unfold parB at h3
        simp only [Bool.and_eq_true] at h3
        exact ⟨h3.1.1.1.2, h3.1.1.2⟩
      exact par_ok c (of_decide_eq_true h1) (of_decide_eq_true h2) h3 (pa_cons (peOk d X W sc sc.names _ c.c h4) (pa_cons (peOk f X W sc sc.names _ c.c h5) pa_nil (star_ok na.2)) (star_ok na.1))
    · cases h
  | .frz i, st, c, h => by unfold ckS at h; cases h
theorem pssOk : ∀ (ss : List CS) (sts : List Stmt), Cxs X G W N sc n → ckSs G N ss sc sts = true → PSs X sts (rdSs ss (mt X G W))
  | [], sts, c, h => by
    unfold ckSs at h
    have := List.isEmpty_iff.mp h
    subst this
    exact pss_nil
  | s :: ss, sts, c, h => by
    by_cases f : ∃ i, s = .frz i
    · obtain ⟨i, f⟩ := f
      subst f
      unfold ckSs at h
      exact pss_ghost (pssOk ss sts c h)
    · cases sts with
      | nil =>
        exfalso
        cases s
        case frz i => exact f ⟨i, rfl⟩
        all_goals (unfold ckSs at h; cases h)
      | cons st sts =>
        have h : (ckS G N s sc st && ckSs G N ss sc sts) = true := by
          cases s
          case frz i => exact absurd ⟨i, rfl⟩ f
          all_goals (unfold ckSs at h; exact h)
        obtain ⟨h1, h2⟩ := bool2 h
        exact pss_cons (psOk s _ c h1) (pssOk ss _ c h2)
end
end
end PV
namespace PV
open PySem L2 PyProof.Rows

/-! ### defs -/
structure Df where
  nm : Str
  ps : List Str
  N : List Str
  args : Arguments
  body : List Stmt
  sc : Scope
  cs : List CS
def envOf (d : Df) (ts : List T) : En := ts.map some ++ List.replicate (d.N.length - ts.length) none
def retO : R Out → R T
  | .ok (.nx _) => .ok .non
  | .ok (.rt t) => .ok t
  | .exc c => .exc c
  | _ => .stuck
noncomputable def runD (Γ : Orc) (d : Df) (ts : List T) : R T := if ts.length = d.ps.length then retO (exSs Γ d.cs (envOf d ts)) else .stuck
/-- n calls deep -/
noncomputable def callD (tb : List Df) : Nat → Orc
  | 0 => fun _ _ => .stuck
  | n + 1 => fun f ts => match tb[f]? with
    | some d => runD (callD tb n) d ts
    | none => .stuck
def npOf (tb : List Df) (f : Nat) : Nat := match tb[f]? with
  | some d => d.ps.length
  | none => 0
def ggOf (tb : List Df) (gc : Bool) (cst : List (Str × T)) (cv : Str → V) (Γ : Orc) : GG := ⟨tb.map (·.nm), gc, cst, cv, npOf tb, Γ⟩
structure DfOk (tb : List Df) (gc : Bool) (cst : List (Str × T)) (d : Df) : Prop where
  scope : FnScope d.N d.ps d.sc
  bind : ∀ (kV doc pm : Value) (an : Option Addr) (cdv ct : Value) (us : List Value), us.length = d.ps.length → bindArgs (PySem.W.fnOf d.nm d.nm d.args d.body d.sc .none kV doc pm an cdv ct) ⟨us, []⟩ = pure (d.ps.zip us)
  ck : ∀ cv Γ, ckSs (ggOf tb gc cst cv Γ) d.N d.cs d.sc d.body = true
/-- the globals as the table wants them -/
structure Glob (K : Fr) (mg : Str → Option Value) (tb : List Df) (gc : Bool) (cst : List (Str × T)) (cv : Str → V) : Prop where
  fns : ∀ d ∈ tb, ∃ fa fd, mg d.nm = some (.ref fa) ∧ FunD K d.nm d.nm d.args d.body d.sc [] [] fa fd
  blt : ∀ b : Blt, mg b.name = none
  nms : ∀ x ∈ (["range", "enumerate", "zip", "isinstance", "reversed"] : List Str), mg x = none
  tys : ∀ t : Ty, mg t.name = none
  gcd : gc = true → mg "gcd" = some (.builtin "math.gcd")
  cvr : ∀ p ∈ cst, Rp K (fun _ => none) (fun _ => none) p.2 (cv p.1) []
  cst : ∀ p ∈ cst, ∃ u, mg p.1 = some u ∧ RelV (cv p.1) u
theorem start_env {K : Fr} {F H : Hp} {d : Df} {ts : List T} {vs : List V} (s : Same F H) (r : RpL K F H ts vs []) : Stt K F H F H (L2.start d.N vs) (envOf d ts) := by
  have hl := RpL.length r
  refine ⟨Ext.refl s, fun _ => [], ⟨?_, fun i t e => ?_, fun _ => List.nodup_nil, fun _ _ _ _ z => (nomatch z), fun _ _ z => (nomatch z)⟩⟩
  · unfold L2.start envOf
    rw [List.length_append, List.length_append, List.length_map, List.length_map, List.length_replicate, List.length_replicate, hl]
  · unfold envOf at e
    unfold L2.start
    by_cases c : i < ts.length
    · rw [List.getElem?_append_left (by simpa using c), List.getElem?_map] at e
      cases q : ts[i]? with
      | none => rw [q] at e; cases e
      | some u =>
        rw [q] at e
        cases e
        obtain ⟨v, e1, r1⟩ := RpL.get0 r q
        refine ⟨v, ?_, r1⟩
        rw [List.getElem?_append_left (by simp [hl]; exact c), List.getElem?_map, e1]
        rfl
    · rw [List.getElem?_append_right (by simpa using c), List.getElem?_replicate] at e
      split at e <;> cases e
section
variable {P : Program} {w : World} {K : Fr} {mg : Str → Option Value} {base : Heap} {tb : List Df} {gc : Bool} {cst : List (Str × T)} {cv : Str → V}
theorem callD_np (n : Nat) : ∀ f ts, callD tb n f ts ≠ .stuck → ts.length = npOf tb f := by
  intro f ts h
  cases n with
  | zero => exact absurd rfl h
  | succ n =>
    unfold callD at h
    unfold npOf
    split at h
    · rename_i d e
      unfold runD at h
      split at h
      · rename_i c
        exact c
      · exact absurd rfl h
    · exact absurd rfl h
theorem fnLevel (g : Glob K mg tb gc cst cv) (ok : ∀ d ∈ tb, DfOk tb gc cst d) : ∀ (n f : Nat) (d : Df) (fa : Addr) (fd : FuncData), tb[f]? = some d → mg d.nm = some (.ref fa) → FunD K d.nm d.nm d.args d.body d.sc [] [] fa fd →
    FnOk P w K mg base (L2.CX P w) n fa fd d.ps (spD K mg (npOf tb) (callD tb n) f)
  | 0, f, d, fa, fd, ed, em, F => ⟨fun vs H Q E ⟨_, _, _, _, _, z⟩ => z.elim, fun A outer s H args us vs Q E _ _ _ _ ⟨_, _, _, _, _, z⟩ => z.elim⟩
  | n + 1, f, d, fa, fd, ed, em, F => by
    have od := ok d (List.mem_of_getElem? ed)
    have hnp : npOf tb f = d.ps.length := by unfold npOf; rw [ed]
    refine FunD.ok F od.scope (fun vs H Q E ⟨_, _, l, _⟩ => l.trans hnp) fun cdv A outer s H vs Q E hr ⟨F0, ts, hl, sm, r, h⟩ => ?_
    let X : Cx := cxOf (L2.CX P w) P w K mg base d.N d.nm d.sc fa cdv A outer s H E
    let W : L2.St → XW := fun _ c H' => ∀ C, mg c = some (.ref C) → E (.ref C) none H'
    let G := ggOf tb gc cst cv (callD tb n)
    have tk0 : Takes X (fun cls d _ H => E cls d H) := takes_of rfl rfl rfl rfl
    have cx : Cxt X G W d.N d.sc d.sc.names n :=
      { hsc := rfl
        hln := fun x h => by
          unfold locB at h
          rw [Bool.or_eq_true] at h
          rcases h with h | h
          · exact ⟨.inl (of_decide_eq_true h), .inl rfl⟩
          · exact ⟨.inr (of_decide_eq_true h), .inl rfl⟩
        hN := rfl
        hnd := od.scope.nd
        calm := rfl
        room := hr
        tk := Takes.imp tk0 fun cls d σ H' ⟨c, C, e1, e2, e3, z⟩ => by subst e2 e3; exact z C e1
        fns := fun i x hi => by
          have hi : (tb.map (·.nm))[i]? = some x := hi
          rw [List.getElem?_map] at hi
          cases q : tb[i]? with
          | none => rw [q] at hi; cases hi
          | some d' =>
            rw [q] at hi
            cases hi
            obtain ⟨fa', fd', m', F'⟩ := g.fns d' (List.mem_of_getElem? q)
            exact ⟨fa', fd', d'.ps, m', F'.kp, FunD.bindsN F' (ok d' (List.mem_of_getElem? q)).bind, fnLevel g ok n i d' fa' fd' q m' F'⟩
        blt := g.blt
        nms := g.nms
        tys := g.tys
        gcd := g.gcd
        cst := g.cst }
    have cxs : Cxs X G W d.N d.sc n := ⟨cx, passes_of rfl, od.scope.kind⟩
    refine ⟨_, pssOk d.cs d.body cxs (od.ck cv _), ?_⟩
    refine satSs d.cs (mt X G W) F0 H F0 H _ (envOf d ts) _ ⟨fun x t ⟨p, hp, e1, e2⟩ => by subst e1 e2; exact g.cvr p hp, callD_np n⟩ (start_env sm r) ?_
    have h : Post K F0 H (W []) (match tb[f]? with | some d => runD (callD tb n) d ts | none => .stuck) Q := h
    rw [ed] at h
    have h : Post K F0 H (W []) (runD (callD tb n) d ts) Q := h
    have lt : ts.length = d.ps.length := by rw [← RpL.length r, hl, hnp]
    unfold runD at h
    rw [if_pos lt] at h
    show PostS (mt X G W) F0 H F0 (exSs (callD tb n) d.cs (envOf d ts)) _
    cases e : exSs (callD tb n) d.cs (envOf d ts) with
    | ok o =>
      rw [e] at h
      cases o with
      | nx ρ => exact fun σ F H' S z => h .non F H' [] S.1 ⟨rfl, rfl⟩ Frsh.nil
      | rt t => exact h
      | bk ρ => exact h.elim
      | ct ρ => exact h.elim
    | exc c => rw [e] at h; exact fun σ F H' E' => h F H' E'
    | stuck => rw [e] at h; exact h.elim
end
theorem RpL.intsOf {K : Fr} {F H : Hp} : ∀ ns : List Int, RpL K F H (ns.map T.int) (ns.map V.int) []
  | [] => RpL.nil
  | n :: ns => ⟨_, _, [], [], rfl, rfl, ⟨rfl, rfl⟩, RpL.intsOf ns⟩
/-- the law answers True -/
theorem law_sp {K : Fr} {mg : Str → Option Value} {tb : List Df} {n f : Nat} {H : Hp} {a : Addr} {ns : List Int} {E : XK} (hS : SqL K H a (ns.map V.int)) (hn : npOf tb f = 1) (h : callD tb n f [.lst .rd (ns.map T.int)] = .ok (.bl true)) :
    spD K mg (npOf tb) (callD tb n) f [.ref a] H (fun v _ => v = .bl true) E := by
  refine ⟨H, [.lst .rd (ns.map T.int)], hn.symm, Same.refl H, ⟨_, _, [], [], rfl, rfl, ⟨a, _, rfl, rfl, hS, RpL.intsOf ns⟩, rfl, rfl⟩, ?_⟩
  rw [h]
  exact fun v F' H' fp e r _ => r.1
end PV
namespace PV
open PySem PySem.Spec L2 PyProof.Rows

/-! ### constants of the module -/
mutual
def chkT (K : Fr) : T → Value → Bool
  | .non, u => (match u with | .none => true | _ => false)
  | .bl b, u => (match u with | .bool c => b == c | _ => false)
  | .int i, u => (match u with | .int j _ => decide (i = j) | _ => false)
  | .str x, u => (match u with | .str y _ => decide (x = y) | _ => false)
  | .tup l, u => (match u with
    | .ref a => (match K.lookup a with
      | some ⟨.type c, _, .seq its _, _⟩ => decide (c = "tuple") && (decide (its.size ≤ sizeLine) && chkL K l its.toList)
      | _ => false)
    | _ => false)
  | .lst k l, u => decide (k = .rd) && (match u with
    | .ref a => (match K.lookup a with
      | some ⟨.type c, none, .seq its _, _⟩ => decide (c = "list") && (decide (its.size ≤ sizeLine) && chkL K l its.toList)
      | _ => false)
    | _ => false)
def chkL (K : Fr) : List T → List Value → Bool
  | [], us => us.isEmpty
  | t :: ts, us => (match us with
    | u :: us => chkT K t u && chkL K ts us
    | [] => false)
end
abbrev Hp0 : Hp := fun _ => none
mutual
theorem chkT_ok {K : Fr} : ∀ (t : T) (u : Value), chkT K t u = true → ∃ v, RelV v u ∧ Rp K Hp0 Hp0 t v []
  | .non, u, h => by
    cases u <;> first | exact ⟨.non, rfl, rfl, rfl⟩ | cases h
  | .bl b, u, h => by
    cases u
    case bool c =>
      have h : (b == c) = true := h
      rw [beq_iff_eq] at h
      subst h
      exact ⟨.bl b, rfl, rfl, rfl⟩
    all_goals cases h
  | .int i, u, h => by
    cases u
    case int j t =>
      have := of_decide_eq_true (show decide (i = j) = true from h)
      subst this
      exact ⟨.int i, ⟨t, rfl⟩, rfl, rfl⟩
    all_goals cases h
  | .str x, u, h => by
    cases u
    case str y t =>
      have := of_decide_eq_true (show decide (x = y) = true from h)
      subst this
      exact ⟨.str x, ⟨t, rfl⟩, rfl, rfl⟩
    all_goals cases h
  | .tup l, u, h => by
    unfold chkT at h
    split at h
    · rename_i a
      split at h
      · rename_i c od its n sl q
        obtain ⟨h1, h2⟩ := bool2 h
        obtain ⟨h2, h3⟩ := bool2 h2
        obtain ⟨vs, rv, r⟩ := chkL_ok l _ h3
        exact ⟨.ref a, rfl, a, vs, rfl, .inr ⟨_, its, n, q, congrArg Value.type (of_decide_eq_true h1), rfl, of_decide_eq_true h2, rv⟩, r⟩
      · cases h
    · cases h
  | .lst k l, u, h => by
    unfold chkT at h
    obtain ⟨hk, h0⟩ := bool2 h
    clear h
    have hk := of_decide_eq_true hk
    subst hk
    split at h0
    · rename_i a
      split at h0
      · rename_i c its n sl q
        obtain ⟨h1, h2⟩ := bool2 h0
        obtain ⟨h2, h3⟩ := bool2 h2
        obtain ⟨vs, rv, r⟩ := chkL_ok l _ h3
        exact ⟨.ref a, rfl, a, vs, rfl, rfl, .inr ⟨_, its, n, q, congrArg Value.type (of_decide_eq_true h1), rfl, rfl, of_decide_eq_true h2, rv⟩, r⟩
      · cases h0
    · cases h0
theorem chkL_ok {K : Fr} : ∀ (ts : List T) (us : List Value), chkL K ts us = true → ∃ vs, Vals vs us ∧ RpL K Hp0 Hp0 ts vs []
  | [], us, h => by
    unfold chkL at h
    have := List.isEmpty_iff.mp h
    subst this
    exact ⟨[], .nil, rfl, rfl⟩
  | t :: ts, us, h => by
    unfold chkL at h
    split at h
    · rename_i u us
      obtain ⟨h1, h2⟩ := bool2 h
      obtain ⟨v, r, p⟩ := chkT_ok t u h1
      obtain ⟨vs, rs, ps⟩ := chkL_ok ts us h2
      exact ⟨v :: vs, .cons r rs, v, vs, [], [], rfl, rfl, p, ps⟩
    · cases h
end
/-- the facts beyond the defs -/
def exB (gc : Bool) (cst : List (Str × T)) (K : Fr) : Bool :=
  (!gc || (match PySem.W.nsIn K mainGlobals "gcd" with | some (some (.builtin n)) => decide (n = "math.gcd") | _ => false)) &&
  cst.all fun p => (match PySem.W.nsIn K mainGlobals p.1 with | some (some u) => chkT K p.2 u | _ => false)
def dfD (d : Df) : He.DefD := ⟨(d.nm, none), d.nm, d.nm, d.args, d.body, d.sc, [], []⟩
def frees (gc : Bool) : List Str := ["len", "int", "abs", "max", "min", "sum", "all", "any", "list", "tuple", "str", "bool", "range", "enumerate", "zip", "isinstance", "reversed"]
def faOf (tb : List Df) : List He.Fa := tb.map (fun d => He.Fa.glo d.nm) ++ (frees false).map He.Fa.free
def obsK (tb : List Df) (gc : Bool) (cst : List (Str × T)) (K : Fr) : He.AlD := ((He.obsD (faOf tb) (tb.map dfD) K).1 && exB gc cst K, (He.obsD (faOf tb) (tb.map dfD) K).2)
def SaysP (tb : List Df) (gc : Bool) (cst : List (Str × T)) (K : Fr) : Prop := He.SaysD (faOf tb) (tb.map dfD) K ∧ exB gc cst K = true
def obP (n : Nat) (tb : List Df) (gc : Bool) (cst : List (Str × T)) (g : Addr → Option Obj) : He.AlD := obsK tb gc cst (He.frG g (He.asD g n))
def hookP (n : Nat) (tb : List Df) (gc : Bool) (cst : List (Str × T)) : PySem.W.Hook where
  α := He.AlD
  obs := fun s => obP n tb gc cst s.heap.get?
  val := fun _ => He.valD (tb.map dfD)
  says := fun _ h => ∃ K : Fr, K.In h ∧ SaysP tb gc cst K
  of := fun _ s e => by
    have e1 := congrArg Prod.fst e
    have e2 := congrArg Prod.snd e
    obtain ⟨a, b⟩ := bool2 e1
    exact ⟨_, He.frG_in, Prod.ext a e2, b⟩
  keeps := fun _ _ _ ⟨K, hK, c⟩ k => ⟨K, PySem.W.Frag.In.keeps hK k, c⟩
theorem obP_eq {n : Nat} {tb : List Df} {gc : Bool} {cst : List (Str × T)} {g : Addr → Option Obj} {s : Shared} (h : ∀ a, g a = s.heap.get? a) : obP n tb gc cst g = (hookP n tb gc cst).obs s := by
  rw [show g = s.heap.get? from funext h]
  rfl
noncomputable def cvOf (K : Fr) (mg : Str → Option Value) (x : Str) : V := match mg x with
  | some .none => .non
  | some (.bool b) => .bl b
  | some (.int i _) => .int i
  | some (.str z _) => .str z
  | some (.ref a) => .ref a
  | _ => .non
theorem relV_det {v : V} {K : Fr} {mg : Str → Option Value} {x : Str} {u : Value} {t : T} (e : mg x = some u) (h : RelV v u) (r : Rp K Hp0 Hp0 t v []) : cvOf K mg x = v := by
  unfold cvOf
  rw [e]
  have nf : (match t with | _ => True) := trivial
  cases t with
  | non => obtain rfl := r.1; cases u <;> first | rfl | cases h
  | bl b =>
    obtain rfl := r.1
    cases (show u = .bool b from h)
    rfl
  | int i =>
    obtain rfl := r.1
    obtain ⟨t, rfl⟩ := (show ∃ t, u = .int i t from h)
    rfl
  | str z =>
    obtain rfl := r.1
    obtain ⟨t, rfl⟩ := (show ∃ t, u = .str z t from h)
    rfl
  | tup l =>
    obtain ⟨a, vs, rfl, _⟩ := r
    cases (show u = .ref a from h)
    rfl
  | lst k l =>
    cases k with
    | own => obtain ⟨a, vs, fp, rfl, e2, _⟩ := r; cases e2
    | fz =>
      obtain ⟨a, vs, rfl, _⟩ := r
      cases (show u = .ref a from h)
      rfl
    | rd =>
      obtain ⟨a, vs, rfl, _⟩ := r
      cases (show u = .ref a from h)
      rfl
theorem glob_of {K : Fr} {h : Heap} {mg : Str → Option Value} {tb : List Df} {gc : Bool} {cst : List (Str × T)} (X : K.In h) (G : h.Ns mainGlobals mg) (c : SaysP tb gc cst K) : Glob K mg tb gc cst (cvOf K mg) := by
  obtain ⟨c, ex⟩ := c
  obtain ⟨x1, x2⟩ := bool2 ex
  have fa : ∀ f ∈ faOf tb, f.ok K = true := fun f hf => by
    obtain ⟨i, hi⟩ := List.mem_iff_getElem?.mp hf
    exact He.SaysD.fact c i hi
  have fr : ∀ x ∈ frees false, mg x = none := fun x hx => He.free_ok X G (fa _ (List.mem_append_right _ (List.mem_map_of_mem hx)))
  have cs : ∀ p ∈ cst, ∃ u v, mg p.1 = some u ∧ RelV v u ∧ Rp K Hp0 Hp0 p.2 v [] := fun p hp => by
    have h1 := List.all_eq_true.mp x2 p hp
    cases e : PySem.W.nsIn K mainGlobals p.1 with
    | none => rw [e] at h1; cases h1
    | some o =>
      rw [e] at h1
      cases o with
      | none => cases h1
      | some u =>
        obtain ⟨v, r, z⟩ := chkT_ok p.2 u h1
        exact ⟨u, v, PySem.W.mg_of X G e, r, z⟩
  exact
  { fns := fun d hd => by
      obtain ⟨i, hi⟩ := List.mem_iff_getElem?.mp hd
      have hi2 : (tb.map dfD)[i]? = some (dfD d) := by rw [List.getElem?_map, hi]; rfl
      obtain ⟨fd, F⟩ := He.SaysD.def_ c i hi2
      exact ⟨He.ga K d.nm, fd, He.glo_ok X G (fa _ (List.mem_append_left _ (List.mem_map_of_mem hd))), F⟩
    blt := fun b => by cases b <;> exact fr _ (by decide +kernel)
    nms := fun x hx => fr x (by
      have : (["range", "enumerate", "zip", "isinstance", "reversed"] : List Str) ⊆ frees false := by decide +kernel
      exact this hx)
    tys := fun b => by cases b <;> exact fr _ (by decide +kernel)
    gcd := fun hg => by
      rw [hg] at x1
      have x1 : (match PySem.W.nsIn K mainGlobals "gcd" with | some (some (.builtin n)) => decide (n = "math.gcd") | _ => false) = true := by simpa using x1
      cases e : PySem.W.nsIn K mainGlobals "gcd" with
      | none => rw [e] at x1; cases x1
      | some o =>
        rw [e] at x1
        cases o with
        | none => cases x1
        | some u =>
          cases u
          case builtin n =>
            have := of_decide_eq_true (show decide (n = "math.gcd") = true from x1)
            subst this
            exact PySem.W.mg_of X G e
          all_goals cases x1
    cvr := fun p hp => by
      obtain ⟨u, v, e, r, z⟩ := cs p hp
      rw [relV_det e r z]
      exact z
    cst := fun p hp => by
      obtain ⟨u, v, e, r, z⟩ := cs p hp
      exact ⟨u, e, by rw [relV_det e r z]; exact r⟩ }
/-- the law's end -/
theorem lawEnd {l : PySem.W.OpenLaw} {m : Nat} {q : Program} {loose : List Str} {XP : (Str → Option Value) → Heap → Prop} {dr : DefRec} {tb : List Df} {gc : Bool} {cst : List (Str × T)} {j n f : Nat} {d : Df} {x : Str}
    (hn : l.most = some m) (hm : m ≤ sizeLine) (hdf : dr.params.defaults = []) (hr : Room n callerA) (ok : ∀ d ∈ tb, DfOk tb gc cst d) (hf : tb[f]? = some d) (hps : d.ps = [x]) (hnm : dr.name = d.nm)
    (main : ∀ ns : List Int, ns.length ≤ m → (∀ z ∈ ns, Builtin.Int.intBits z ≤ 1048576) → callD tb n f [.lst .rd (ns.map T.int)] = .ok (.bl true)) :
    PySem.W.WalkO q loose XP (hookP j tb gc cst).says l.row.toRowW dr [] (fun f vs => PySem.call f vs) := by
  refine Att.attach_callB hn hdf fun w s₀ s₁ mg mb fa o pm cd doc a vs ns G Y ho hd hcd hmg hobj hints hlen hbits hg => ?_
  obtain ⟨K, KX, c⟩ := Y
  have g := glob_of KX G.T.g c
  obtain ⟨fa', fd, e1, F⟩ := g.fns d (List.mem_of_getElem? hf)
  rw [hnm] at hmg
  have e2 := hmg.symm.trans e1
  cases e2
  have hnp : npOf tb f = 1 := by unfold npOf; rw [hf]; show d.ps.length = 1; rw [hps]; rfl
  have bd := FunD.bindsA F (ok d (List.mem_of_getElem? hf)).bind
  refine law_call (fd := fd) (CX := L2.CX l.prog w) (x := x) (sp := spD K mg (npOf tb) (callD tb n) f) KX G.T.g G.T.b G.T.builtins G.T.nolimit hg hobj hints (Nat.le_trans hlen hm) hr (fun base KB GB => ?_) (fun s u => ?_) (fun H hO hS => law_sp hS hnp (main ns hlen hbits)) fun H e s' z => ?_
  · rw [← hps]
    exact fnLevel (glob_of KB GB c) ok n f d fa fd hf e1 F
  · have := bd s [u] (by rw [hps]; rfl)
    rw [hps] at this
    exact this
  · obtain ⟨_, _, _, _, _, _, _, _, _, _, _, _, z⟩ := z
    exact z
end PV
namespace PV
open PySem L2 PyProof.Rows

theorem callD_eq {tb : List Df} {n f : Nat} {d : Df} {ts : List T} (h : tb[f]? = some d) (hl : ts.length = d.ps.length) : callD tb (n + 1) f ts = retO (exSs (callD tb n) d.cs (envOf d ts)) := by
  show (match tb[f]? with | some d => runD (callD tb n) d ts | none => .stuck) = _
  rw [h]
  show runD (callD tb n) d ts = _
  unfold runD
  rw [if_pos hl]
/-- a walk by an invariant -/
def OutIs (Qn : En → Prop) (Qr : T → Prop) : R Out → Prop
  | .ok (.nx ρ) => Qn ρ
  | .ok (.rt t) => Qr t
  | _ => False
def OutB (Qn Qb : En → Prop) (Qr : T → Prop) : R Out → Prop
  | .ok (.nx ρ) => Qn ρ
  | .ok (.ct ρ) => Qn ρ
  | .ok (.bk ρ) => Qb ρ
  | .ok (.rt t) => Qr t
  | _ => False
theorem forX_wp {g : Tg} {b : En → R Out} {Qn : En → Prop} {Qr : T → Prop} : ∀ (l : List T) (I : Nat → En → Prop) (ρ : En), I 0 ρ → (∀ i t ρ, l[i]? = some t → I i ρ → ∃ ρ1, bindG g t ρ = some ρ1 ∧ OutB (I (i + 1)) Qn Qr (b ρ1)) → (∀ ρ, I l.length ρ → Qn ρ) → OutIs Qn Qr (forX g b l ρ)
  | [], I, ρ, h0, hs, he => he ρ h0
  | t :: ts, I, ρ, h0, hs, he => by
    obtain ⟨ρ1, e1, o⟩ := hs 0 t ρ (by simp) h0
    have again := forX_wp (g := g) (b := b) (Qn := Qn) (Qr := Qr) ts (fun i => I (i + 1))
    unfold forX
    simp only [e1]
    cases q : b ρ1 with
    | ok x =>
      rw [q] at o
      cases x with
      | nx ρ' => exact again ρ' o (fun i t ρ h => hs (i + 1) t ρ (by simpa using h)) he
      | ct ρ' => exact again ρ' o (fun i t ρ h => hs (i + 1) t ρ (by simpa using h)) he
      | bk ρ' => exact o
      | rt t => exact o
    | exc c => rw [q] at o; exact o.elim
    | stuck => rw [q] at o; exact o.elim
theorem whlX_wp {c : En → R Bool} {b : En → R Out} {Qn : En → Prop} {Qr : T → Prop} (I : Nat → En → Prop)
    (hs : ∀ m ρ, I m ρ → ∃ k, c ρ = .ok k ∧ (if k = true then OutB (fun ρ' => ∃ m', m' < m ∧ I m' ρ') Qn Qr (b ρ) else Qn ρ)) : ∀ (m : Nat) (ρ : En), I m ρ → OutIs Qn Qr (whlX c b ρ) := by
  intro m
  induction m using Nat.strongRecOn with
  | ind m ih =>
    intro ρ h
    obtain ⟨k, e, o⟩ := hs m ρ h
    rw [whlX_eq, e]
    cases k with
    | false => simpa [OutIs] using o
    | true =>
      rw [if_pos rfl] at o
      show OutIs Qn Qr (match b ρ with
        | .ok (.nx ρ') => whlX c b ρ'
        | .ok (.ct ρ') => whlX c b ρ'
        | .ok (.bk ρ') => .ok (.nx ρ')
        | .ok (.rt t) => .ok (.rt t)
        | .exc e => .exc e
        | .stuck => .stuck)
      cases q : b ρ with
      | ok x =>
        rw [q] at o
        cases x with
        | nx ρ' => obtain ⟨m', hm, o⟩ := o; exact ih m' hm ρ' o
        | ct ρ' => obtain ⟨m', hm, o⟩ := o; exact ih m' hm ρ' o
        | bk ρ' => exact o
        | rt t => exact o
      | exc c => rw [q] at o; exact o.elim
      | stuck => rw [q] at o; exact o.elim
theorem OutIs.nx {Qn : En → Prop} {Qr : T → Prop} {r : R Out} (h : OutIs Qn Qr r) (hr : ∀ t, ¬ Qr t) : ∃ ρ, r = .ok (.nx ρ) ∧ Qn ρ := by
  cases r with
  | ok o => cases o with
    | nx ρ => exact ⟨ρ, rfl, h⟩
    | rt t => exact absurd h (hr t)
    | bk ρ => exact h.elim
    | ct ρ => exact h.elim
  | exc c => exact h.elim
  | stuck => exact h.elim
theorem OutIs.rt {Qn : En → Prop} {Qr : T → Prop} {r : R Out} (h : OutIs Qn Qr r) (hr : ∀ t, ¬ Qn t) : ∃ t, r = .ok (.rt t) ∧ Qr t := by
  cases r with
  | ok o => cases o with
    | nx ρ => exact absurd h (hr ρ)
    | rt t => exact ⟨t, rfl, h⟩
    | bk ρ => exact h.elim
    | ct ρ => exact h.elim
  | exc c => exact h.elim
  | stuck => exact h.elim

theorem exSs_nx {Γ : Orc} {s : CS} {ss : List CS} {ρ ρ' : En} (h : exS Γ s ρ = .ok (.nx ρ')) : exSs Γ (s :: ss) ρ = exSs Γ ss ρ' := by
  show (match exS Γ s ρ with | .ok (.nx ρ') => exSs Γ ss ρ' | .ok o => .ok o | .exc e => .exc e | .stuck => .stuck) = _
  rw [h]
theorem exSs_rt {Γ : Orc} {s : CS} {ss : List CS} {ρ : En} {t : T} (h : exS Γ s ρ = .ok (.rt t)) : exSs Γ (s :: ss) ρ = .ok (.rt t) := by
  show (match exS Γ s ρ with | .ok (.nx ρ') => exSs Γ ss ρ' | .ok o => .ok o | .exc e => .exc e | .stuck => .stuck) = _
  rw [h]
theorem exS_if {Γ : Orc} {c : CB} {a b : List CS} {ρ : En} {k : Bool} (h : evB Γ c ρ = .ok k) : exS Γ (.ife c a b) ρ = if k then exSs Γ a ρ else exSs Γ b ρ := by
  show (evB Γ c ρ).bind _ = _
  rw [h]
  rfl
theorem whl_wp {Γ : Orc} {c : CB} {B : List CS} (I : Nat → En → Prop) {Qn : En → Prop} {Qr : T → Prop} {m : Nat} {ρ : En} (h : I m ρ)
    (hs : ∀ m ρ, I m ρ → ∃ k, evB Γ c ρ = .ok k ∧ (if k = true then OutB (fun ρ' => ∃ m', m' < m ∧ I m' ρ') Qn Qr (exSs Γ B ρ) else Qn ρ)) : OutIs Qn Qr (exS Γ (.whl c B) ρ) := whlX_wp I hs m ρ h
theorem whl_nx {Γ : Orc} {c : CB} {B : List CS} (I : Nat → En → Prop) {Qn : En → Prop} {m : Nat} {ρ : En} (h : I m ρ)
    (hs : ∀ m ρ, I m ρ → ∃ k, evB Γ c ρ = .ok k ∧ (if k = true then OutB (fun ρ' => ∃ m', m' < m ∧ I m' ρ') Qn (fun _ => False) (exSs Γ B ρ) else Qn ρ)) : ∃ ρ', exS Γ (.whl c B) ρ = .ok (.nx ρ') ∧ Qn ρ' := (whl_wp I h hs).nx fun _ z => z
theorem fr_wp {Γ : Orc} {g : Tg} {k : IK} {es : List CE} {B : List CS} {ts l : List T} {ρ : En} (he : evs Γ es ρ = .ok ts) (hi : itT k (T.frz.frzL ts) = .ok l) (I : Nat → En → Prop) {Qn : En → Prop} {Qr : T → Prop} (h : I 0 ρ)
    (hs : ∀ i t ρ, l[i]? = some t → I i ρ → ∃ ρ1, bindG g t ρ = some ρ1 ∧ OutB (I (i + 1)) Qn Qr (exSs Γ B ρ1)) (hn : ∀ ρ, I l.length ρ → Qn ρ) : OutIs Qn Qr (exS Γ (.fr g k es B) ρ) := by
  show OutIs Qn Qr ((evs Γ es ρ).bind fun ts => (itT k (T.frz.frzL ts)).bind fun l => forX g (fun ρ => exSs Γ B ρ) l ρ)
  rw [he]
  show OutIs Qn Qr ((itT k (T.frz.frzL ts)).bind fun l => forX g (fun ρ => exSs Γ B ρ) l ρ)
  rw [hi]
  exact forX_wp l I ρ h hs hn
/-- a for over a range -/
theorem fr_rng {Γ : Orc} {g : Nat} {e : CE} {B : List CS} {j : Int} {ρ : En} (he : ev Γ e ρ = .ok (.int j)) (h1 : j < 2 ^ 62) (h2 : -(2 ^ 62) ≤ j) (I : Nat → En → Prop) {Qn : En → Prop} {Qr : T → Prop} (h : I 0 ρ)
    (hg : ∀ i ρ, I i ρ → g < ρ.length)
    (hs : ∀ i ρ, i < j.toNat → I i ρ → OutB (I (i + 1)) Qn Qr (exSs Γ B (ρ.set g (some (.int i))))) (hn : ∀ ρ, I j.toNat ρ → Qn ρ) : OutIs Qn Qr (exS Γ (.fr (.nm g) .rng1 [e] B) ρ) := by
  have hev : evs Γ [e] ρ = .ok [.int j] := by
    show ((ev Γ e ρ).bind (capT e.vw)).bind _ = _
    rw [he]
    show (R.bind (capT e.vw (.int j)) _) = _
    have : capT e.vw (.int j) = .ok (.int j) := by
      unfold capT
      rw [if_neg]
      simp [T.fro]
    rw [this]
    rfl
  refine fr_wp hev (show itT .rng1 [.int j] = _ from if_pos ⟨h1, h2⟩) I h (fun i t ρ ht hi => ?_) (fun ρ hi => hn ρ (by rw [rngL_length] at hi; exact hi))
  obtain ⟨q1, q2⟩ := rngL_get ht
  subst q2
  refine ⟨ρ.set g (some (.int i)), ?_, hs i ρ q1 hi⟩
  show (if g < ρ.length then some (ρ.set g (some (.int (0 + (i : Int))))) else none) = _
  rw [if_pos (hg i ρ hi), Int.zero_add]

/-! ### arithmetic -/
theorem natAbs_lt_two {i : Int} {m : Nat} (h : i.natAbs < 2 ^ m) : Builtin.Int.intBits i ≤ m := PyProof.Rows.intBits_le h
theorem mulOk_bits {i j : Int} {m n : Nat} (hi : i.natAbs < 2 ^ m) (hj : j.natAbs < 2 ^ n) (h : m + n ≤ 134217728) : MulOk i j := by
  refine .inr ?_
  have h1 := natAbs_lt_two hi
  have h2 := natAbs_lt_two hj
  show (Builtin.Int.intBits i : Int) + (Builtin.Int.intBits j : Int) ≤ 134217728
  omega
theorem mulOk_r {i j : Int} (h1 : -(2 ^ 64) < j) (h2 : j < 2 ^ 64) : MulOk i j := .inl (.inr ⟨h1, h2⟩)
theorem mulOk_l {i j : Int} (h1 : -(2 ^ 64) < i) (h2 : i < 2 ^ 64) : MulOk i j := .inl (.inl ⟨h1, h2⟩)
theorem divOk_lt {i j : Int} (h0 : 0 < j) (h1 : j.natAbs < 2 ^ 8000) : DivOk i j := by
  refine ⟨h0, ?_⟩
  unfold Builtin.divisionGoesByPylong
  have : ¬ ((if j == 0 then 0 else j.natAbs.log2 / 30 + 1) > 300) := by
    split
    · omega
    · have := (Nat.log2_lt (n := j.natAbs) (k := 8000) (by omega)).mpr h1
      omega
  simp only [this, decide_false, Bool.false_and]
theorem divOk_small {i j : Int} (h0 : 0 < j) (h1 : j < 2 ^ 64) : DivOk i j := by
  refine divOk_lt h0 ?_
  have : j.natAbs < 2 ^ 64 := by omega
  exact Nat.lt_of_lt_of_le this (Nat.pow_le_pow_right (by decide) (by decide))
theorem mulT_int {i j : Int} (h : MulOk i j) : mulT (.int i) (.int j) = .ok (.int (i * j)) := if_pos h
theorem fdivT_int {i j : Int} (h : DivOk i j) : fdivT (.int i) (.int j) = .ok (.int (i / j)) := if_pos h
theorem modT_int {i j : Int} (h : 0 < j) : modT (.int i) (.int j) = .ok (.int (i % j)) := if_pos h
theorem powT_int {i j : Int} (h : CPow i j) : powT (.int i) (.int j) = .ok (.int (i ^ j.toNat)) := if_pos h
theorem itT_rng1 {j : Int} (h1 : j < 2 ^ 62) (h2 : -(2 ^ 62) ≤ j) : itT .rng1 [.int j] = .ok (rngL 0 j.toNat) := if_pos ⟨h1, h2⟩
theorem atI_nat {α : Type} {xs : List α} {i : Int} (h0 : 0 ≤ i) (h1 : i < xs.length) : ∃ x, xs[i.toNat]? = some x ∧ atI xs i = some x := by
  have h2 : i.toNat < xs.length := by omega
  refine ⟨xs[i.toNat], List.getElem?_eq_getElem h2, ?_⟩
  unfold atI ixN
  rw [if_pos h0, if_pos h1]
  exact List.getElem?_eq_getElem h2
theorem frzL_ints : ∀ ns : List Int, T.frz.frzL (ns.map T.int) = ns.map T.int
  | [] => rfl
  | n :: ns => by
    show T.int n :: T.frz.frzL (ns.map T.int) = _
    rw [frzL_ints ns]
    rfl
theorem froL_ints : ∀ ns : List Int, T.fro.froL (ns.map T.int) = true
  | [] => rfl
  | n :: ns => by
    show (true && T.fro.froL (ns.map T.int)) = true
    rw [froL_ints ns]
    rfl
end PV
namespace PV
open PySem

/-! ### texts, by their length -/
theorem ixT_str {z : Str} {i : Int} (h0 : 0 ≤ i) (h1 : i < z.length) (h2 : z.length ≤ sizeLine) : ∃ s : Str, s.length = 1 ∧ ixT (.str z) (.int i) = .ok (.str s) := by
  have hl : (z.cps.toList).length = z.length := by rw [Array.length_toList]; rfl
  obtain ⟨x, _, e⟩ := atI_nat (xs := z.cps.toList) h0 (by rw [hl]; exact h1)
  refine ⟨⟨#[x]⟩, rfl, ?_⟩
  show (if z.length ≤ sizeLine then (match L2.atI z.cps.toList i with | some c => R.ok (T.str ⟨#[c]⟩) | none => .stuck) else .stuck) = _
  rw [if_pos h2, e]
theorem emp_len : ("" : Str).length = 0 := by decide +kernel
theorem sjoin_len (y : Str) (hy : y.length = 0) : ∀ ys : List Str, (Str.join y ys).length = (ys.map (·.length)).sum
  | [] => rfl
  | [x] => by
    show x.length = (x.length + 0)
    omega
  | x :: z :: r => by
    show (x ++ y ++ Str.join y (z :: r)).length = x.length + ((z :: r).map (·.length)).sum
    rw [Str.length_append, Str.length_append, sjoin_len y hy (z :: r), hy]
    omega
theorem join_len (ys : List Str) : (Txt.join "" ys).length = (ys.map (·.length)).sum := by
  rw [TL.join_eq]
  exact sjoin_len _ emp_len ys
theorem froL_strs : ∀ ys : List Str, T.fro.froL (ys.map T.str) = true
  | [] => rfl
  | y :: ys => by
    show (true && T.fro.froL (ys.map T.str)) = true
    rw [froL_strs ys]
    rfl
theorem frzL_strs : ∀ ys : List Str, T.frz.frzL (ys.map T.str) = ys.map T.str
  | [] => rfl
  | y :: ys => by
    show T.str y :: T.frz.frzL (ys.map T.str) = _
    rw [frzL_strs ys]
    rfl
theorem sum_ones : ∀ (ys : List Str), (∀ y ∈ ys, y.length = 1) → (ys.map (·.length)).sum = ys.length
  | [], _ => rfl
  | y :: ys, h => by
    show y.length + (ys.map (·.length)).sum = ys.length + 1
    rw [h y List.mem_cons_self, sum_ones ys fun z hz => h z (List.mem_cons_of_mem _ hz)]
    omega
theorem str0 {s : Str} (h : s.length = 0) : s = "" := by
  have e : ("" : Str) = ⟨#[]⟩ := by decide +kernel
  rw [e]
  obtain ⟨c⟩ := s
  have : c = #[] := Array.eq_empty_of_size_eq_zero h
  rw [this]
/-! ### the number of digits -/
def ndig (b n : Nat) : Nat := if h : 2 ≤ b ∧ b ≤ n then ndig b (n / b) + 1 else 1
termination_by n
decreasing_by exact Nat.div_lt_self (by omega) (by omega)
theorem ndig_big {b n : Nat} (h1 : 2 ≤ b) (h2 : b ≤ n) : ndig b n = ndig b (n / b) + 1 := by
  rw [ndig, dif_pos ⟨h1, h2⟩]
theorem ndig_small {b n : Nat} (h : n < b) : ndig b n = 1 := by
  rw [ndig, dif_neg (by omega)]
theorem ndig_pos {b n : Nat} : 1 ≤ ndig b n := by
  rw [ndig]
  split <;> omega
theorem ndig_le {b : Nat} (hb : 2 ≤ b) : ∀ (m n : Nat), n < b ^ (m + 1) → ndig b n ≤ m + 1
  | 0, n, h => by
    rw [ndig_small (by simpa using h)]
    omega
  | m + 1, n, h => by
    by_cases c : b ≤ n
    · rw [ndig_big hb c]
      have : n / b < b ^ (m + 1) := by
        rw [Nat.div_lt_iff_lt_mul (by omega)]
        rw [Nat.pow_succ] at h
        exact h
      have := ndig_le hb m (n / b) this
      omega
    · rw [ndig_small (by omega)]
      omega
/-- the digits that a loop writes which stops at zero -/
def nd0 (b n : Nat) : Nat := if n = 0 then 0 else ndig b n
theorem nd0_step {b n : Nat} (hb : 2 ≤ b) (h : n ≠ 0) : nd0 b n = nd0 b (n / b) + 1 := by
  unfold nd0
  rw [if_neg h]
  by_cases c : b ≤ n
  · have : n / b ≠ 0 := by
      have := (Nat.one_le_div_iff (by omega : 0 < b)).mpr c
      omega
    rw [if_neg this, ndig_big hb c]
  · rw [ndig_small (by omega), Nat.div_eq_of_lt (by omega)]
    rfl
end PV
namespace K76
open PySem PySem.Spec L2 PyProof.Rows PV
def top (i : Nat) : Stmt := PySem.Challenge.pw_fewestfigures_k76_kept_digits_of_any_for.main.body.getD i (.Pass ⟨0, 0, 0, 0⟩)
abbrev c_SIGNS : T := .str "0123456789abcdef"
abbrev f_raised : Nat := 0
abbrev f_bias_of : Nat := 1
abbrev f_digits_of : Nat := 2
abbrev f_kept_digits : Nat := 3
abbrev f__law_cell : Nat := 4
abbrev f__law_numbers : Nat := 5
abbrev f__law_same : Nat := 6
abbrev f__law_power : Nat := 7
abbrev f__law_bias : Nat := 8
abbrev f__law_digits : Nat := 9
abbrev f__law_kept : Nat := 10
abbrev f_law : Nat := 11
abbrev w_raised_0 : CB := .val (.cmp .Gt (.var 1) (.int 0))
abbrev x_raised_0 : List CS := [.ife (.val (.cmp .Eq (.bin .Mod (.var 1) (.int 2)) (.int 1))) [.asg (.nm 2) (.bin .Mult (.var 2) (.var 0))] [], .asg (.nm 0) (.bin .Mult (.var 0) (.var 0)), .asg (.nm 1) (.bin .FloorDiv (.var 1) (.int 2))]
abbrev b_raised : List CS := [.asg (.nm 2) (.int 1),
  .whl w_raised_0 x_raised_0,
  .ret (.var 2)]
def d_raised : Df := ⟨"raised", ["base", "k"], ["base", "k", "found"], defArgs (top 1), defBody (top 1), defScope (top 1), b_raised⟩
abbrev b_bias_of : List CS := [.ret (.bin .Sub (.call f_raised [.int 2, .bin .Sub (.sub (.var 0) (.int 1)) (.int 1)]) (.int 1))]
def d_bias_of : Df := ⟨"bias_of", ["form"], ["form"], defArgs (top 3), defBody (top 3), defScope (top 3), b_bias_of⟩
abbrev w_digits_of_0 : CB := .val (.cmp .GtE (.var 1) (.var 0))
abbrev x_digits_of_0 : List CS := [.app 2 (.sub (.cst "SIGNS" c_SIGNS) (.bin .Mod (.var 1) (.var 0))), .asg (.nm 1) (.bin .FloorDiv (.var 1) (.var 0))]
abbrev b_digits_of : List CS := [.asg (.nm 2) (.lst []),
  .whl w_digits_of_0 x_digits_of_0,
  .ret (.m1 .join (.str "") (.bin .Add (.lst [.sub (.cst "SIGNS" c_SIGNS) (.var 1)]) (.rev (.var 2))))]
def d_digits_of : Df := ⟨"digits_of", ["base", "number"], ["base", "number", "found"], defArgs (top 6), defBody (top 6), defScope (top 6), b_digits_of⟩
abbrev b_kept_digits : List CS := [.asg (.tp [.nm 3, .nm 4, .nm 5]) (.var 0),
  .asg (.nm 2) (.bin .Mult (.call f_raised [.int 2, .bin .Add (.var 5) (.int 2)]) (.call f_raised [.bin .FloorDiv (.var 1) (.int 2), .bin .Add (.call f_bias_of [.var 0]) (.var 5)])),
  .ret (.blt .len [.call f_digits_of [.var 1, .blt .max [.var 2, .call f_raised [.int 2, .bin .Sub (.call f_raised [.int 2, .var 4]) (.call f_bias_of [.var 0])]]]])]
def d_kept_digits : Df := ⟨"kept_digits", ["form", "base"], ["form", "base", "deep", "_", "w", "p"], defArgs (top 8), defBody (top 8), defScope (top 8), b_kept_digits⟩
abbrev b__law_cell : List CS := [.ife (.val (.cmp .Lt (.var 1) (.blt .len [.var 0]))) [.ret (.blt .int [.sub (.var 0) (.var 1)])] [],
  .ret (.int 0)]
def d__law_cell : Df := ⟨"_law_cell", ["script", "k"], ["script", "k"], defArgs (top 10), defBody (top 10), defScope (top 10), b__law_cell⟩
abbrev x__law_numbers_0 : List CS := [.app 3 (.bin .Mod (.blt .int [.var 0]) (.var 2)), .asg (.nm 0) (.bin .FloorDiv (.blt .int [.var 0]) (.var 2))]
abbrev x__law_numbers_1 : List CS := [.asg (.nm 5) (.bin .Mod (.blt .int [.bin .Add (.bin .Add (.bin .Mult (.var 0) (.int 48271)) (.bin .Mult (.var 4) (.int 69621))) (.int 7)]) (.int 2147483647)), .asg (.nm 5) (.bin .Mod (.blt .int [.bin .Add (.bin .Add (.bin .Add (.bin .Mult (.var 5) (.var 5)) (.bin .Mult (.var 5) (.int 40692))) (.bin .Mult (.var 4) (.int 16807))) (.int 11)]) (.int 2147483399)), .app 3 (.bin .Mod (.blt .int [.bin .FloorDiv (.var 5) (.int 32)]) (.var 2))]
abbrev b__law_numbers : List CS := [.asg (.nm 3) (.lst []),
  .ife (.val (.cmp .GtE (.var 0) (.bin .Pow (.int 10) (.int 18)))) [.fr (.nm 4) .rng1 [.var 1] x__law_numbers_0, .retv 3] [],
  .fr (.nm 4) .rng1 [.var 1] x__law_numbers_1,
  .retv 3]
def d__law_numbers : Df := ⟨"_law_numbers", ["cell", "count", "limit"], ["cell", "count", "limit", "found", "k", "mixed"], defArgs (top 11), defBody (top 11), defScope (top 11), b__law_numbers⟩
abbrev x__law_same_0 : List CS := [.ife (.not (.tru (.call f__law_same [.sub (.var 0) (.var 2), .sub (.var 1) (.var 2)]))) [.ret (.bl false)] []]
abbrev b__law_same : List CS := [.ife (.tru (.isi (.var 1) .list)) [.ife (.or [.not (.tru (.isi (.var 0) .list)), .val (.cmp .NotEq (.blt .len [.var 0]) (.blt .len [.var 1]))]) [.ret (.bl false)] []] [.ife (.tru (.isi (.var 1) .tuple)) [.ife (.or [.not (.tru (.isi (.var 0) .tuple)), .val (.cmp .NotEq (.blt .len [.var 0]) (.blt .len [.var 1]))]) [.ret (.bl false)] []] [.ife (.val (.cmp .Is (.var 1) .non)) [.ret (.cmp .Is (.var 0) .non)] [.ife (.tru (.isi (.var 1) .bool)) [.ret (.andv [.isi (.var 0) .bool, .cmp .Eq (.var 0) (.var 1)])] [.ife (.tru (.isi (.var 1) .int)) [.ret (.andv [.isi (.var 0) .int, .notv (.isi (.var 0) .bool), .cmp .Eq (.var 0) (.var 1)])] [.ret (.andv [.isi (.var 0) .str, .cmp .Eq (.var 0) (.var 1)])]]]]],
  .fr (.nm 2) .rng1 [.blt .len [.var 1]] x__law_same_0,
  .ret (.bl true)]
def d__law_same : Df := ⟨"_law_same", ["told", "due"], ["told", "due", "k"], defArgs (top 12), defBody (top 12), defScope (top 12), b__law_same⟩
abbrev x__law_power_0 : List CS := [.ife (.val (.cmp .Eq (.var 1) (.int 0))) [.ret (.var 2)] [], .ife (.val (.cmp .Eq (.bin .Mod (.var 1) (.int 2)) (.int 1))) [.asg (.nm 2) (.bin .Mult (.var 2) (.var 0))] [], .asg (.nm 1) (.bin .FloorDiv (.var 1) (.int 2)), .ife (.val (.cmp .Gt (.var 1) (.int 0))) [.asg (.nm 0) (.bin .Mult (.var 0) (.var 0))] []]
abbrev b__law_power : List CS := [.asg (.nm 2) (.int 1),
  .fr (.nm 3) .rng1 [.int 40] x__law_power_0,
  .ret (.var 2)]
def d__law_power : Df := ⟨"_law_power", ["base", "k"], ["base", "k", "found", "turn"], defArgs (top 13), defBody (top 13), defScope (top 13), b__law_power⟩
abbrev b__law_bias : List CS := [.ret (.bin .Sub (.call f__law_power [.int 2, .bin .Sub (.sub (.var 0) (.int 1)) (.int 1)]) (.int 1))]
def d__law_bias : Df := ⟨"_law_bias", ["form"], ["form"], defArgs (top 14), defBody (top 14), defScope (top 14), b__law_bias⟩
abbrev x__law_digits_0 : List CS := [.ife (.val (.cmp .Eq (.var 1) (.int 0))) [.ret (.sub (.lst [.var 2, .str "0"]) (.blt .int [.cmp .Eq (.var 2) (.str "")]))] [], .asg (.nm 2) (.bin .Add (.sub (.str "0123456789abcdef") (.bin .Mod (.var 1) (.var 0))) (.var 2)), .asg (.nm 1) (.bin .FloorDiv (.var 1) (.var 0))]
abbrev b__law_digits : List CS := [.asg (.nm 2) (.str ""),
  .fr (.nm 3) .rng1 [.int 2500] x__law_digits_0,
  .ret (.var 2)]
def d__law_digits : Df := ⟨"_law_digits", ["base", "number"], ["base", "number", "found", "turn"], defArgs (top 15), defBody (top 15), defScope (top 15), b__law_digits⟩
abbrev b__law_kept : List CS := [.asg (.nm 2) (.bin .Mult (.call f__law_power [.int 2, .bin .Add (.sub (.var 0) (.int 2)) (.int 2)]) (.call f__law_power [.bin .FloorDiv (.var 1) (.int 2), .bin .Add (.call f__law_bias [.var 0]) (.sub (.var 0) (.int 2))])),
  .ret (.blt .len [.call f__law_digits [.var 1, .blt .max [.var 2, .call f__law_power [.int 2, .bin .Sub (.call f__law_power [.int 2, .sub (.var 0) (.int 1)]) (.call f__law_bias [.var 0])]]]])]
def d__law_kept : Df := ⟨"_law_kept", ["form", "base"], ["form", "base", "deep"], defArgs (top 16), defBody (top 16), defScope (top 16), b__law_kept⟩
abbrev x_law_1 : List CS := [.ife (.not (.tru (.call f__law_same [.call f_kept_digits [.var 3, .var 4], .call f__law_kept [.var 3, .var 4]]))) [.ret (.bl false)] []]
abbrev x_law_0 : List CS := [.asg (.nm 3) (.tup [.sub (.lst [.str "ieee", .str "full"]) (.bin .Mod (.sub (.var 1) (.var 2)) (.int 2)), .sub (.lst [.int 2, .int 3, .int 4, .int 5, .int 8, .int 9, .int 10, .int 11, .int 6, .int 7]) (.bin .Mod (.bin .FloorDiv (.sub (.var 1) (.var 2)) (.int 2)) (.int 10)), .bin .Add (.int 1) (.bin .Mod (.sub (.var 1) (.bin .Add (.int 6) (.var 2))) (.int 60))]), .fr (.nm 4) .seq [.lst [.int 2, .int 4, .int 6, .int 8, .int 10, .int 12, .int 14, .int 16]] x_law_1]
abbrev b_law : List CS := [.asg (.nm 1) (.call f__law_numbers [.call f__law_cell [.var 0, .int 0], .int 12, .int 5040]),
  .fr (.nm 2) .rng1 [.int 6] x_law_0,
  .ret (.cmp .Eq (.call f_kept_digits [.tup [.str "ieee", .int 3, .int 2], .int 10]) (.int 5))]
def d_law : Df := ⟨"law", ["script"], ["script", "draws", "k", "form", "base"], defArgs (top 17), defBody (top 17), defScope (top 17), b_law⟩
abbrev tb : List Df := [d_raised, d_bias_of, d_digits_of, d_kept_digits, d__law_cell, d__law_numbers, d__law_same, d__law_power, d__law_bias, d__law_digits, d__law_kept, d_law]
abbrev cs0 : List (Str × T) := [("SIGNS", c_SIGNS)]
theorem ok_raised : DfOk tb false cs0 d_raised := ⟨⟨rfl, rfl, rfl, by decide +kernel, rfl, by decide +kernel, by decide +kernel⟩, fun _ _ _ _ _ _ us hl => (match us, hl with | [_, _], _ => rfl), fun _ _ => by kernel_rfl⟩
theorem ok_bias_of : DfOk tb false cs0 d_bias_of := ⟨⟨rfl, rfl, rfl, by decide +kernel, rfl, by decide +kernel, by decide +kernel⟩, fun _ _ _ _ _ _ us hl => (match us, hl with | [_], _ => rfl), fun _ _ => by kernel_rfl⟩
theorem ok_digits_of : DfOk tb false cs0 d_digits_of := ⟨⟨rfl, rfl, rfl, by decide +kernel, rfl, by decide +kernel, by decide +kernel⟩, fun _ _ _ _ _ _ us hl => (match us, hl with | [_, _], _ => rfl), fun _ _ => by kernel_rfl⟩
theorem ok_kept_digits : DfOk tb false cs0 d_kept_digits := ⟨⟨rfl, rfl, rfl, by decide +kernel, rfl, by decide +kernel, by decide +kernel⟩, fun _ _ _ _ _ _ us hl => (match us, hl with | [_, _], _ => rfl), fun _ _ => by kernel_rfl⟩
theorem ok__law_cell : DfOk tb false cs0 d__law_cell := ⟨⟨rfl, rfl, rfl, by decide +kernel, rfl, by decide +kernel, by decide +kernel⟩, fun _ _ _ _ _ _ us hl => (match us, hl with | [_, _], _ => rfl), fun _ _ => by kernel_rfl⟩
theorem ok__law_numbers : DfOk tb false cs0 d__law_numbers := ⟨⟨rfl, rfl, rfl, by decide +kernel, rfl, by decide +kernel, by decide +kernel⟩, fun _ _ _ _ _ _ us hl => (match us, hl with | [_, _, _], _ => rfl), fun _ _ => by kernel_rfl⟩
theorem ok__law_same : DfOk tb false cs0 d__law_same := ⟨⟨rfl, rfl, rfl, by decide +kernel, rfl, by decide +kernel, by decide +kernel⟩, fun _ _ _ _ _ _ us hl => (match us, hl with | [_, _], _ => rfl), fun _ _ => by kernel_rfl⟩
theorem ok__law_power : DfOk tb false cs0 d__law_power := ⟨⟨rfl, rfl, rfl, by decide +kernel, rfl, by decide +kernel, by decide +kernel⟩, fun _ _ _ _ _ _ us hl => (match us, hl with | [_, _], _ => rfl), fun _ _ => by kernel_rfl⟩
theorem ok__law_bias : DfOk tb false cs0 d__law_bias := ⟨⟨rfl, rfl, rfl, by decide +kernel, rfl, by decide +kernel, by decide +kernel⟩, fun _ _ _ _ _ _ us hl => (match us, hl with | [_], _ => rfl), fun _ _ => by kernel_rfl⟩
theorem ok__law_digits : DfOk tb false cs0 d__law_digits := ⟨⟨rfl, rfl, rfl, by decide +kernel, rfl, by decide +kernel, by decide +kernel⟩, fun _ _ _ _ _ _ us hl => (match us, hl with | [_, _], _ => rfl), fun _ _ => by kernel_rfl⟩
theorem ok__law_kept : DfOk tb false cs0 d__law_kept := ⟨⟨rfl, rfl, rfl, by decide +kernel, rfl, by decide +kernel, by decide +kernel⟩, fun _ _ _ _ _ _ us hl => (match us, hl with | [_, _], _ => rfl), fun _ _ => by kernel_rfl⟩
theorem ok_law : DfOk tb false cs0 d_law := ⟨⟨rfl, rfl, rfl, by decide +kernel, rfl, by decide +kernel, by decide +kernel⟩, fun _ _ _ _ _ _ us hl => (match us, hl with | [_], _ => rfl), fun _ _ => by kernel_rfl⟩
theorem ok : ∀ d ∈ tb, DfOk tb false cs0 d := by
  intro d h
  rcases List.mem_cons.mp h with e | h
  · rw [e]; exact ok_raised
  rcases List.mem_cons.mp h with e | h
  · rw [e]; exact ok_bias_of
  rcases List.mem_cons.mp h with e | h
  · rw [e]; exact ok_digits_of
  rcases List.mem_cons.mp h with e | h
  · rw [e]; exact ok_kept_digits
  rcases List.mem_cons.mp h with e | h
  · rw [e]; exact ok__law_cell
  rcases List.mem_cons.mp h with e | h
  · rw [e]; exact ok__law_numbers
  rcases List.mem_cons.mp h with e | h
  · rw [e]; exact ok__law_same
  rcases List.mem_cons.mp h with e | h
  · rw [e]; exact ok__law_power
  rcases List.mem_cons.mp h with e | h
  · rw [e]; exact ok__law_bias
  rcases List.mem_cons.mp h with e | h
  · rw [e]; exact ok__law_digits
  rcases List.mem_cons.mp h with e | h
  · rw [e]; exact ok__law_kept
  rcases List.mem_cons.mp h with e | h
  · rw [e]; exact ok_law
  cases h
def nm0 : List Str := ["raised", "bias_of", "SIGNS", "digits_of", "kept_digits", "_law_cell", "_law_numbers", "_law_same", "_law_power", "_law_bias", "_law_digits", "_law_kept"]
abbrev nms : List Str := nm0
abbrev RR : PySem.W.OpenRow := PySem.W.OpenLaw.row PySem.Challenge.rw_fewestfigures_k76_kept_digits_of_any_for
abbrev hk : PySem.W.Hook := hookP 4 tb false cs0
def ob (s : PySem.W.SharedT) : He.AlD := obP 4 tb false cs0 (HandSHeadRun.getT s)
theorem ob_ok (s : PySem.W.SharedT) : ob s = hk.obs s.abs := obP_eq (HandSHeadRun.getT_eq s)
theorem run (w : World) : HandSHeadRun.RunEq RR (PySem.W.view RR.prog [17]) hk ob 3000 nms w := by
  intro os
  kernel_rfl
end K76
namespace K76
open PySem PV
theorem pow_pos' {b : Int} (h : 1 ≤ b) (k : Nat) : 1 ≤ b ^ k := by
  induction k with
  | zero => simp
  | succ k ih =>
    rw [Int.pow_succ]
    have : 1 * 1 ≤ b ^ k * b := Int.mul_le_mul ih h (by omega) (by omega)
    omega
theorem le_mul_pow {a b : Int} (ha : 1 ≤ a) (hb : 1 ≤ b) (k : Nat) : a ≤ a * b ^ k := by
  have := Int.mul_le_mul_of_nonneg_left (pow_pos' hb k) (show 0 ≤ a by omega)
  omega
theorem le_pow_mul {a b : Int} (ha : 1 ≤ a) (hb : 1 ≤ b) (k : Nat) : b ≤ a * b ^ (k + 1) := by
  have h1 := pow_pos' hb k
  have h2 : 1 * 1 ≤ a * b ^ k := Int.mul_le_mul ha h1 (by omega) (by omega)
  rw [Int.pow_succ, ← Int.mul_assoc]
  have := Int.mul_le_mul_of_nonneg_right (show 1 ≤ a * b ^ k by omega) (show 0 ≤ b by omega)
  omega
theorem one_le_mul {a b : Int} (ha : 1 ≤ a) (hb : 1 ≤ b) : 1 ≤ a * b := by
  have : 1 * 1 ≤ a * b := Int.mul_le_mul ha hb (by omega) (by omega)
  omega
def BIG : Nat := 60000000
theorem big_cast : ((2 ^ BIG : Nat) : Int) = 2 ^ BIG := by rw [Int.natCast_pow]; rfl
theorem mulOk_big {i j : Int} (hi : 1 ≤ i) (hj : 1 ≤ j) (h1 : i < 2 ^ BIG) (h2 : j < 2 ^ BIG) : MulOk i j := by
  have := big_cast
  exact mulOk_bits (m := BIG) (n := BIG) (by omega) (by omega) (by decide)
/-- one turn of the powers by squaring -/
theorem sq_eq (b : Int) : b ^ 2 = b * b := by rw [Int.pow_succ, Int.pow_succ, Int.pow_zero, Int.one_mul]
theorem pow_turn {b a : Int} {k : Nat} : (k % 2 = 1 → a * b * (b * b) ^ (k / 2) = a * b ^ k) ∧ (k % 2 = 0 → a * (b * b) ^ (k / 2) = a * b ^ k) := by
  refine ⟨fun h => ?_, fun h => ?_⟩
  · have e : k = 2 * (k / 2) + 1 := by omega
    rw [show b ^ k = b ^ (2 * (k / 2) + 1) by rw [← e], Int.pow_succ, Int.pow_mul, sq_eq, Int.mul_assoc, Int.mul_comm b]
  · have e : k = 2 * (k / 2) := by omega
    rw [show b ^ k = b ^ (2 * (k / 2)) by rw [← e], Int.pow_mul, sq_eq]
theorem s_raised (n : Nat) (b k : Int) (hb : 1 ≤ b) (hk : 0 ≤ k) (hbig : b ^ k.toNat < 2 ^ BIG) : callD tb (n + 1) f_raised [.int b, .int k] = .ok (.int (b ^ k.toNat)) := by
  rw [callD_eq (d := d_raised) rfl rfl]
  show retO (exSs (callD tb n) b_raised [some (.int b), some (.int k), none]) = _
  unfold b_raised
  rw [exSs_nx (ρ' := [some (.int b), some (.int k), some (.int 1)]) rfl]
  have loop : ∃ ρ', exS (callD tb n) (.whl w_raised_0 x_raised_0) [some (.int b), some (.int k), some (.int 1)] = .ok (.nx ρ') ∧ ∃ b' : Int, ρ' = [some (.int b'), some (.int 0), some (.int (b ^ k.toNat))] := by
    refine whl_nx (fun m ρ => ∃ (b' k' a : Int), 1 ≤ b' ∧ 0 ≤ k' ∧ 1 ≤ a ∧ k'.toNat = m ∧ a * b' ^ k'.toNat = b ^ k.toNat ∧ ρ = [some (.int b'), some (.int k'), some (.int a)]) (m := k.toNat) ⟨b, k, 1, hb, hk, by omega, rfl, by omega, rfl⟩ ?_
    rintro m ρ ⟨b', k', a, h1, h2, h3, h4, h5, rfl⟩
    refine ⟨decide (0 < k'), by simp only [exSs, exS, ev, evB, evs, evsV, evO, evC, evAnd, evOr, evBAnd, evBOr, R.bind, capT, CE.vw, T.fro, T.fro.froL, T.frz, T.frz.frzL, truT, tyIs, asB, ofB, bindG, bindGs, setS, slotT, frzE, appT, isOwn, augT, retO, binT, addT, subT, cmpT, cmpB, eqT, isT, bltT, m0T, isStr, List.getElem?_cons_zero, List.getElem?_cons_succ, List.set_cons_zero, List.set_cons_succ, List.length_cons, List.length_nil, List.length_set, if_true, if_false, ite_true, ite_false, Bool.false_eq_true, Bool.true_and, Bool.and_true, Bool.false_and, Bool.and_false, Bool.not_true, Bool.not_false, decide_true, decide_false, Option.map_some, Option.map_none, reduceCtorEq, ne_eq, not_true_eq_false, not_false_eq_true], ?_⟩
    by_cases c : 0 < k'
    · rw [if_pos (decide_eq_true c)]
      obtain ⟨j, hj⟩ : ∃ j, k'.toNat = j + 1 := ⟨k'.toNat - 1, by omega⟩
      have q1 : a ≤ a * b' ^ k'.toNat := le_mul_pow h3 h1 _
      have q2 : b' ≤ a * b' ^ k'.toNat := by rw [hj]; exact le_pow_mul h3 h1 j
      have m1 : MulOk a b' := mulOk_big h3 h1 (by omega) (by omega)
      have m2 : MulOk b' b' := mulOk_big h1 h1 (by omega) (by omega)
      have pb := one_le_mul h1 h1
      have ht : (k' / 2).toNat = k'.toNat / 2 := by omega
      by_cases od : k' % 2 = 1
      · have he : exSs (callD tb n) x_raised_0 [some (.int b'), some (.int k'), some (.int a)] = .ok (.nx [some (.int (b' * b')), some (.int (k' / 2)), some (.int (a * b'))]) := by
          simp [exSs, exS, ev, evB, evs, evsV, evO, evC, evAnd, evOr, evBAnd, evBOr, R.bind, capT, CE.vw, T.fro, T.fro.froL, T.frz, T.frz.frzL, truT, tyIs, asB, ofB, bindG, bindGs, setS, slotT, frzE, appT, isOwn, augT, retO, binT, addT, subT, cmpT, cmpB, eqT, isT, bltT, m0T, isStr, List.getElem?_cons_zero, List.getElem?_cons_succ, List.set_cons_zero, List.set_cons_succ, List.length_cons, List.length_nil, List.length_set, if_true, if_false, ite_true, ite_false, Bool.false_eq_true, Bool.true_and, Bool.and_true, Bool.false_and, Bool.and_false, Bool.not_true, Bool.not_false, decide_true, decide_false, Option.map_some, Option.map_none, reduceCtorEq, ne_eq, not_true_eq_false, not_false_eq_true, modT_int, fdivT_int (divOk_small (i := k') (j := 2) (by decide) (by decide)), od, mulT_int m1, mulT_int m2]
        rw [he]
        exact ⟨(k' / 2).toNat, by omega, b' * b', k' / 2, a * b', pb, by omega, one_le_mul h3 h1, rfl, by rw [← h5, ht]; exact pow_turn.1 (by omega), rfl⟩
      · have he : exSs (callD tb n) x_raised_0 [some (.int b'), some (.int k'), some (.int a)] = .ok (.nx [some (.int (b' * b')), some (.int (k' / 2)), some (.int a)]) := by
          simp [exSs, exS, ev, evB, evs, evsV, evO, evC, evAnd, evOr, evBAnd, evBOr, R.bind, capT, CE.vw, T.fro, T.fro.froL, T.frz, T.frz.frzL, truT, tyIs, asB, ofB, bindG, bindGs, setS, slotT, frzE, appT, isOwn, augT, retO, binT, addT, subT, cmpT, cmpB, eqT, isT, bltT, m0T, isStr, List.getElem?_cons_zero, List.getElem?_cons_succ, List.set_cons_zero, List.set_cons_succ, List.length_cons, List.length_nil, List.length_set, if_true, if_false, ite_true, ite_false, Bool.false_eq_true, Bool.true_and, Bool.and_true, Bool.false_and, Bool.and_false, Bool.not_true, Bool.not_false, decide_true, decide_false, Option.map_some, Option.map_none, reduceCtorEq, ne_eq, not_true_eq_false, not_false_eq_true, modT_int, fdivT_int (divOk_small (i := k') (j := 2) (by decide) (by decide)), od, mulT_int m2]
        rw [he]
        exact ⟨(k' / 2).toNat, by omega, b' * b', k' / 2, a, pb, by omega, h3, rfl, by rw [← h5, ht]; exact pow_turn.2 (by omega), rfl⟩
    · rw [if_neg (by simp [c])]
      have : k' = 0 := by omega
      subst this
      exact ⟨b', by rw [← h5]; simp⟩
  obtain ⟨ρ, e, b', hρ⟩ := loop
  rw [exSs_nx e, hρ]
  rfl
end K76
namespace K76
open PySem PV
theorem s_bias_of (n : Nat) (s : Str) (w p : Int) (h1 : 1 ≤ w) (h2 : w ≤ 64) : callD tb (n + 2) f_bias_of [.tup [.str s, .int w, .int p]] = .ok (.int (2 ^ (w - 1).toNat - 1)) := by
  have r := s_raised n 2 (w - 1) (by decide) (by omega) (by
    have : (w - 1).toNat < BIG := by unfold BIG; omega
    exact Int.pow_lt_pow_of_lt (by decide) this)
  rw [callD_eq (d := d_bias_of) rfl rfl]
  show retO (exSs (callD tb (n + 1)) b_bias_of [some (.tup [.str s, .int w, .int p])]) = _
  simp [exSs, exS, ev, evB, evs, evsV, evO, evC, evAnd, evOr, evBAnd, evBOr, R.bind, capT, CE.vw, T.fro, T.fro.froL, T.frz, T.frz.frzL, truT, tyIs, asB, ofB, bindG, bindGs, setS, slotT, frzE, appT, isOwn, augT, retO, binT, addT, subT, cmpT, cmpB, eqT, isT, bltT, m0T, isStr, List.getElem?_cons_zero, List.getElem?_cons_succ, List.set_cons_zero, List.set_cons_succ, List.length_cons, List.length_nil, List.length_set, if_true, if_false, ite_true, ite_false, Bool.false_eq_true, Bool.true_and, Bool.and_true, Bool.false_and, Bool.and_false, Bool.not_true, Bool.not_false, decide_true, decide_false, Option.map_some, Option.map_none, reduceCtorEq, ne_eq, not_true_eq_false, not_false_eq_true, ixT, L2.atI, L2.ixN, r]
theorem signs_len : ("0123456789abcdef" : Str).length = 16 := by decide +kernel
theorem s_digits_of (n b N : Nat) (hb : 2 ≤ b) (hb2 : b ≤ 16) (hN : ndig b N ≤ 16000000) : ∃ s : Str, s.length = ndig b N ∧ callD tb (n + 1) f_digits_of [.int b, .int N] = .ok (.str s) := by
  have line : (16777216 : Nat) = sizeLine := by decide
  have sg : ∀ M : Nat, ∃ s : Str, s.length = 1 ∧ ixT (.str "0123456789abcdef") (.int ((M : Int) % (b : Int))) = .ok (.str s) := fun M => by
    have h1 : (M : Int) % (b : Int) < b := Int.emod_lt_of_pos _ (by omega)
    exact ixT_str (Int.emod_nonneg _ (by omega)) (by rw [signs_len]; omega) (by rw [signs_len]; decide)
  have loop : ∃ ρ', exS (callD tb n) (.whl w_digits_of_0 x_digits_of_0) [some (.int b), some (.int N), some (.lst .own [])] = .ok (.nx ρ') ∧ ∃ (M : Nat) (cs : List Str), M < b ∧ (∀ c ∈ cs, c.length = 1) ∧ cs.length + 1 = ndig b N ∧ ρ' = [some (.int b), some (.int M), some (.lst .own (cs.map T.str))] := by
    refine whl_nx (fun m ρ => ∃ (M : Nat) (cs : List Str), M = m ∧ (∀ c ∈ cs, c.length = 1) ∧ cs.length + ndig b M = ndig b N ∧ ρ = [some (.int b), some (.int M), some (.lst .own (cs.map T.str))]) (m := N) ⟨N, [], rfl, fun _ h => (nomatch h), by simp, rfl⟩ ?_
    rintro m ρ ⟨M, cs, h1, h2, h3, rfl⟩
    refine ⟨decide ((b : Int) ≤ M), by simp [exSs, exS, ev, evB, evs, evsV, evO, evC, evAnd, evOr, evBAnd, evBOr, R.bind, capT, CE.vw, T.fro, T.fro.froL, T.frz, T.frz.frzL, truT, tyIs, asB, ofB, bindG, bindGs, setS, slotT, frzE, appT, isOwn, augT, retO, binT, addT, subT, cmpT, cmpB, eqT, isT, bltT, m0T, isStr, List.getElem?_cons_zero, List.getElem?_cons_succ, List.set_cons_zero, List.set_cons_succ, List.length_cons, List.length_nil, List.length_set, if_true, if_false, ite_true, ite_false, Bool.false_eq_true, Bool.true_and, Bool.and_true, Bool.false_and, Bool.and_false, Bool.not_true, Bool.not_false, decide_true, decide_false, Option.map_some, Option.map_none, reduceCtorEq, ne_eq, not_true_eq_false, not_false_eq_true], ?_⟩
    by_cases c : b ≤ M
    · rw [if_pos (by simpa using c)]
      obtain ⟨s1, l1, e1⟩ := sg M
      have hl : cs.length < sizeLine := by rw [← line]; have := ndig_pos (b := b) (n := M); omega
      have st : exSs (callD tb n) x_digits_of_0 [some (.int b), some (.int M), some (.lst .own (cs.map T.str))] = .ok (.nx [some (.int b), some (.int ((M / b : Nat) : Int)), some (.lst .own ((cs ++ [s1]).map T.str))]) := by
        simp [exSs, exS, ev, evB, evs, evsV, evO, evC, evAnd, evOr, evBAnd, evBOr, R.bind, capT, CE.vw, T.fro, T.fro.froL, T.frz, T.frz.frzL, truT, tyIs, asB, ofB, bindG, bindGs, setS, slotT, frzE, appT, isOwn, augT, retO, binT, addT, subT, cmpT, cmpB, eqT, isT, bltT, m0T, isStr, List.getElem?_cons_zero, List.getElem?_cons_succ, List.set_cons_zero, List.set_cons_succ, List.length_cons, List.length_nil, List.length_set, if_true, if_false, ite_true, ite_false, Bool.false_eq_true, Bool.true_and, Bool.and_true, Bool.false_and, Bool.and_false, Bool.not_true, Bool.not_false, decide_true, decide_false, Option.map_some, Option.map_none, reduceCtorEq, ne_eq, not_true_eq_false, not_false_eq_true, modT_int (show (0 : Int) < b by omega), fdivT_int (divOk_small (i := M) (j := b) (by omega) (by omega)), e1, hl]
      rw [st]
      refine ⟨M / b, by rw [← h1]; exact Nat.div_lt_self (by omega) (by omega), M / b, cs ++ [s1], rfl, fun x hx => ?_, ?_, rfl⟩
      · rcases List.mem_append.mp hx with hx | hx
        · exact h2 x hx
        · rw [List.mem_singleton.mp hx]; exact l1
      · rw [ndig_big hb c] at h3
        rw [List.length_append, List.length_singleton]
        omega
    · rw [if_neg (by simpa using c)]
      rw [ndig_small (by omega)] at h3
      exact ⟨M, cs, by omega, h2, h3, rfl⟩
  obtain ⟨ρ', e, M, cs, hM, hc, hl, rfl⟩ := loop
  obtain ⟨s1, l1, e1⟩ := sg M
  have hm : (M : Int) % (b : Int) = M := Int.emod_eq_of_lt (by omega) (by omega)
  rw [hm] at e1
  have ones : ∀ c ∈ s1 :: cs.reverse, c.length = 1 := fun c hc' => by
    rcases List.mem_cons.mp hc' with h | h
    · rw [h]; exact l1
    · exact hc c (List.mem_reverse.mp h)
  have tot : ((s1 :: cs.reverse).map (·.length)).sum = ndig b N := by
    rw [sum_ones _ ones, List.length_cons, List.length_reverse]
    exact hl
  refine ⟨Txt.join "" (s1 :: cs.reverse), by rw [join_len, tot], ?_⟩
  rw [callD_eq (d := d_digits_of) rfl rfl]
  show retO (exSs (callD tb n) b_digits_of [some (.int b), some (.int N), none]) = _
  rw [exSs_nx (ρ' := [some (.int b), some (.int N), some (.lst .own [])]) (by rfl), exSs_nx e]
  have j : m1T .join (.str "") (.lst .own ((s1 :: cs.reverse).map T.str)) = .ok (.str (Txt.join "" (s1 :: cs.reverse))) := by
    show (match asStrs ((s1 :: cs.reverse).map T.str) with | some ys => _ | none => _) = _
    rw [asStrs_map]
    show (if _ then _ else _) = _
    rw [if_pos]
    rw [tot, emp_len]
    omega
  have ad : addT (.lst .own [T.str s1]) (.lst .own (cs.reverse.map T.str)) = .ok (.lst .own ((s1 :: cs.reverse).map T.str)) := by
    show (if _ then _ else _) = _
    rw [if_pos]
    · rfl
    · refine ⟨by decide, by decide, rfl, froL_strs _, ?_⟩
      rw [List.length_map, List.length_reverse, List.length_singleton, ← line]
      omega
  have rv : revT (.lst .own (cs.map T.str)) = .ok (.lst .own (cs.reverse.map T.str)) := by
    show (if _ then _ else _) = _
    rw [if_pos (froL_strs _), List.map_reverse]
  rw [List.map_cons] at j ad
  simp [exSs, exS, ev, evB, evs, evsV, evO, evC, evAnd, evOr, evBAnd, evBOr, R.bind, capT, CE.vw, T.fro, T.fro.froL, T.frz, T.frz.frzL, truT, tyIs, asB, ofB, bindG, bindGs, setS, slotT, frzE, appT, isOwn, augT, retO, binT, subT, cmpT, cmpB, eqT, isT, bltT, m0T, isStr, List.getElem?_cons_zero, List.getElem?_cons_succ, List.set_cons_zero, List.set_cons_succ, List.length_cons, List.length_nil, List.length_set, if_true, if_false, ite_true, ite_false, Bool.false_eq_true, Bool.true_and, Bool.and_true, Bool.false_and, Bool.and_false, Bool.not_true, Bool.not_false, decide_true, decide_false, Option.map_some, Option.map_none, reduceCtorEq, ne_eq, not_true_eq_false, not_false_eq_true, -List.map_reverse, e1, rv, ad, j]
end K76
namespace K76
open PySem PV
theorem s_law_power (n : Nat) (b k : Int) (hb : 1 ≤ b) (hk : 0 ≤ k) (hk2 : k < 2 ^ 39) (hbig : b ^ k.toNat < 2 ^ BIG) : callD tb (n + 1) f__law_power [.int b, .int k] = .ok (.int (b ^ k.toNat)) := by
  rw [callD_eq (d := d__law_power) rfl rfl]
  show retO (exSs (callD tb n) b__law_power [some (.int b), some (.int k), none, none]) = _
  rw [exSs_nx (ρ' := [some (.int b), some (.int k), some (.int 1), none]) rfl]
  have loop : OutIs (fun _ => False) (fun t => t = .int (b ^ k.toNat)) (exS (callD tb n) (.fr (.nm 3) .rng1 [.int 40] x__law_power_0) [some (.int b), some (.int k), some (.int 1), none]) := by
    refine fr_rng (j := 40) rfl (by decide) (by decide) (fun i ρ => i ≤ 39 ∧ ∃ (b' k' a : Int) (u : Option T), 1 ≤ b' ∧ 0 ≤ k' ∧ 1 ≤ a ∧ k' < 2 ^ (39 - i) ∧ a * b' ^ k'.toNat = b ^ k.toNat ∧ ρ = [some (.int b'), some (.int k'), some (.int a), u])
      ⟨by decide, b, k, 1, none, hb, hk, by omega, hk2, by omega, rfl⟩ (fun i ρ ⟨_, _, _, _, _, _, _, _, _, _, h⟩ => by rw [h]; exact Nat.lt_succ_self 3) (fun i ρ hi => ?_) (fun ρ hi => ?_)
    · rintro ⟨hi9, b', k', a, u, h1, h2, h3, h4, h5, rfl⟩
      have hi : i < 40 := hi
      by_cases c : k' = 0
      · subst c
        have st : exSs (callD tb n) x__law_power_0 ([some (.int b'), some (.int 0), some (.int a), u].set 3 (some (.int i))) = .ok (.rt (.int a)) := by
          simp [exSs, exS, ev, evB, evs, evsV, evO, evC, evAnd, evOr, evBAnd, evBOr, R.bind, capT, CE.vw, T.fro, T.fro.froL, T.frz, T.frz.frzL, truT, tyIs, asB, ofB, bindG, bindGs, setS, slotT, frzE, appT, isOwn, augT, retO, binT, addT, subT, cmpT, cmpB, eqT, isT, bltT, m0T, isStr, List.getElem?_cons_zero, List.getElem?_cons_succ, List.set_cons_zero, List.set_cons_succ, List.length_cons, List.length_nil, List.length_set, if_true, if_false, ite_true, ite_false, Bool.false_eq_true, Bool.true_and, Bool.and_true, Bool.false_and, Bool.and_false, Bool.not_true, Bool.not_false, decide_true, decide_false, Option.map_some, Option.map_none, reduceCtorEq, ne_eq, not_true_eq_false, not_false_eq_true]
        rw [st]
        show T.int a = _
        rw [← h5]
        simp
      · have hi2 : i < 39 := by
          by_cases d : i < 39
          · exact d
          · have : 39 - i = 0 := by omega
            rw [this] at h4
            omega
        obtain ⟨j, hj⟩ : ∃ j, k'.toNat = j + 1 := ⟨k'.toNat - 1, by omega⟩
        have q1 : a ≤ a * b' ^ k'.toNat := le_mul_pow h3 h1 _
        have q2 : b' ≤ a * b' ^ k'.toNat := by rw [hj]; exact le_pow_mul h3 h1 j
        have m1 : MulOk a b' := mulOk_big h3 h1 (by omega) (by omega)
        have m2 : MulOk b' b' := mulOk_big h1 h1 (by omega) (by omega)
        have pb := one_le_mul h1 h1
        have ht : (k' / 2).toNat = k'.toNat / 2 := by omega
        have h4' : k' / 2 < 2 ^ (39 - (i + 1)) := by
          have : (2 : Int) ^ (39 - i) = 2 ^ (39 - (i + 1)) * 2 := by
            rw [← Int.pow_succ]
            congr 1
            omega
          omega
        have nn : ∀ x : Int, 0 < k' / 2 ∨ k' / 2 = 0 := fun _ => by omega
        by_cases od : k' % 2 = 1
        · by_cases z : 0 < k' / 2
          · have st : exSs (callD tb n) x__law_power_0 ([some (.int b'), some (.int k'), some (.int a), u].set 3 (some (.int i))) = .ok (.nx [some (.int (b' * b')), some (.int (k' / 2)), some (.int (a * b')), some (.int i)]) := by
              simp [exSs, exS, ev, evB, evs, evsV, evO, evC, evAnd, evOr, evBAnd, evBOr, R.bind, capT, CE.vw, T.fro, T.fro.froL, T.frz, T.frz.frzL, truT, tyIs, asB, ofB, bindG, bindGs, setS, slotT, frzE, appT, isOwn, augT, retO, binT, addT, subT, cmpT, cmpB, eqT, isT, bltT, m0T, isStr, List.getElem?_cons_zero, List.getElem?_cons_succ, List.set_cons_zero, List.set_cons_succ, List.length_cons, List.length_nil, List.length_set, if_true, if_false, ite_true, ite_false, Bool.false_eq_true, Bool.true_and, Bool.and_true, Bool.false_and, Bool.and_false, Bool.not_true, Bool.not_false, decide_true, decide_false, Option.map_some, Option.map_none, reduceCtorEq, ne_eq, not_true_eq_false, not_false_eq_true, c, z, modT_int, fdivT_int (divOk_small (i := k') (j := 2) (by decide) (by decide)), od, mulT_int m1, mulT_int m2]
            rw [st]
            exact ⟨hi2, b' * b', k' / 2, a * b', _, pb, by omega, one_le_mul h3 h1, h4', by rw [← h5, ht]; exact pow_turn.1 (by omega), rfl⟩
          · have st : exSs (callD tb n) x__law_power_0 ([some (.int b'), some (.int k'), some (.int a), u].set 3 (some (.int i))) = .ok (.nx [some (.int b'), some (.int (k' / 2)), some (.int (a * b')), some (.int i)]) := by
              simp [exSs, exS, ev, evB, evs, evsV, evO, evC, evAnd, evOr, evBAnd, evBOr, R.bind, capT, CE.vw, T.fro, T.fro.froL, T.frz, T.frz.frzL, truT, tyIs, asB, ofB, bindG, bindGs, setS, slotT, frzE, appT, isOwn, augT, retO, binT, addT, subT, cmpT, cmpB, eqT, isT, bltT, m0T, isStr, List.getElem?_cons_zero, List.getElem?_cons_succ, List.set_cons_zero, List.set_cons_succ, List.length_cons, List.length_nil, List.length_set, if_true, if_false, ite_true, ite_false, Bool.false_eq_true, Bool.true_and, Bool.and_true, Bool.false_and, Bool.and_false, Bool.not_true, Bool.not_false, decide_true, decide_false, Option.map_some, Option.map_none, reduceCtorEq, ne_eq, not_true_eq_false, not_false_eq_true, c, z, modT_int, fdivT_int (divOk_small (i := k') (j := 2) (by decide) (by decide)), od, mulT_int m1, mulT_int m2]
            rw [st]
            have k1 : k' = 1 := by omega
            refine ⟨hi2, b', k' / 2, a * b', _, h1, by omega, one_le_mul h3 h1, h4', ?_, rfl⟩
            rw [← h5, k1]
            simp [Int.pow_succ]
        · have z : 0 < k' / 2 := by omega
          have st : exSs (callD tb n) x__law_power_0 ([some (.int b'), some (.int k'), some (.int a), u].set 3 (some (.int i))) = .ok (.nx [some (.int (b' * b')), some (.int (k' / 2)), some (.int a), some (.int i)]) := by
            simp [exSs, exS, ev, evB, evs, evsV, evO, evC, evAnd, evOr, evBAnd, evBOr, R.bind, capT, CE.vw, T.fro, T.fro.froL, T.frz, T.frz.frzL, truT, tyIs, asB, ofB, bindG, bindGs, setS, slotT, frzE, appT, isOwn, augT, retO, binT, addT, subT, cmpT, cmpB, eqT, isT, bltT, m0T, isStr, List.getElem?_cons_zero, List.getElem?_cons_succ, List.set_cons_zero, List.set_cons_succ, List.length_cons, List.length_nil, List.length_set, if_true, if_false, ite_true, ite_false, Bool.false_eq_true, Bool.true_and, Bool.and_true, Bool.false_and, Bool.and_false, Bool.not_true, Bool.not_false, decide_true, decide_false, Option.map_some, Option.map_none, reduceCtorEq, ne_eq, not_true_eq_false, not_false_eq_true, c, z, modT_int, fdivT_int (divOk_small (i := k') (j := 2) (by decide) (by decide)), od, mulT_int m2]
          rw [st]
          exact ⟨hi2, b' * b', k' / 2, a, _, pb, by omega, h3, h4', by rw [← h5, ht]; exact pow_turn.2 (by omega), rfl⟩
    · obtain ⟨hi, _⟩ := hi
      exact absurd (show 40 ≤ 39 from hi) (by decide)
  obtain ⟨t, e, rfl⟩ := loop.rt fun _ z => z
  rw [exSs_rt e]
  rfl
end K76
namespace K76
open PySem PV
theorem s_law_bias (n : Nat) (s : Str) (w p : Int) (h1 : 1 ≤ w) (h2 : w ≤ 64) : callD tb (n + 2) f__law_bias [.tup [.str s, .int w, .int p]] = .ok (.int (2 ^ (w - 1).toNat - 1)) := by
  have r := s_law_power n 2 (w - 1) (by decide) (by omega) (by omega) (by
    have : (w - 1).toNat < BIG := by unfold BIG; omega
    exact Int.pow_lt_pow_of_lt (by decide) this)
  rw [callD_eq (d := d__law_bias) rfl rfl]
  show retO (exSs (callD tb (n + 1)) b__law_bias [some (.tup [.str s, .int w, .int p])]) = _
  simp [exSs, exS, ev, evB, evs, evsV, evO, evC, evAnd, evOr, evBAnd, evBOr, R.bind, capT, CE.vw, T.fro, T.fro.froL, T.frz, T.frz.frzL, truT, tyIs, asB, ofB, bindG, bindGs, setS, slotT, frzE, appT, isOwn, augT, retO, binT, addT, subT, cmpT, cmpB, eqT, isT, bltT, m0T, isStr, List.getElem?_cons_zero, List.getElem?_cons_succ, List.set_cons_zero, List.set_cons_succ, List.length_cons, List.length_nil, List.length_set, if_true, if_false, ite_true, ite_false, Bool.false_eq_true, Bool.true_and, Bool.and_true, Bool.false_and, Bool.and_false, Bool.not_true, Bool.not_false, decide_true, decide_false, Option.map_some, Option.map_none, reduceCtorEq, ne_eq, not_true_eq_false, not_false_eq_true, ixT, L2.atI, L2.ixN, r]
theorem eqS {a b : Str} : (PV.eqT (.str a) (.str b)) = some (decide (a = b)) := rfl
theorem s_law_digits (n b N : Nat) (hb : 2 ≤ b) (hb2 : b ≤ 16) (hN : ndig b N < 2500) : ∃ s : Str, s.length = ndig b N ∧ callD tb (n + 1) f__law_digits [.int b, .int N] = .ok (.str s) := by
  have line : (16777216 : Nat) = sizeLine := by decide
  have zero_len : ("0" : Str).length = 1 := by decide +kernel
  have sg : ∀ M : Nat, ∃ s : Str, s.length = 1 ∧ ixT (.str "0123456789abcdef") (.int ((M : Int) % (b : Int))) = .ok (.str s) := fun M => by
    have h1 : (M : Int) % (b : Int) < b := Int.emod_lt_of_pos _ (by omega)
    exact ixT_str (Int.emod_nonneg _ (by omega)) (by rw [signs_len]; omega) (by rw [signs_len]; decide)
  have n0 : nd0 b N ≤ ndig b N := by unfold nd0; split <;> omega
  have loop : OutIs (fun _ => False) (fun t => ∃ s : Str, t = .str s ∧ s.length = ndig b N) (exS (callD tb n) (.fr (.nm 3) .rng1 [.int 2500] x__law_digits_0) [some (.int b), some (.int N), some (.str ""), none]) := by
    refine fr_rng (j := 2500) rfl (by decide) (by decide) (fun i ρ => ∃ (M : Nat) (f : Str) (u : Option T), f.length = i ∧ i + nd0 b M = nd0 b N ∧ ρ = [some (.int b), some (.int M), some (.str f), u])
      ⟨N, "", none, emp_len, by omega, rfl⟩ (fun i ρ ⟨_, _, _, _, _, h⟩ => by rw [h]; exact Nat.lt_succ_self 3) (fun i ρ hi => ?_) (fun ρ hi => ?_)
    · rintro ⟨M, f, u, h1, h2, rfl⟩
      have hi : i < 2500 := hi
      by_cases c : M = 0
      · subst c
        by_cases z : f = ""
        · have st : exSs (callD tb n) x__law_digits_0 ([some (.int b), some (.int (0 : Nat)), some (.str f), u].set 3 (some (.int i))) = .ok (.rt (.str "0")) := by
            simp [exSs, exS, ev, evB, evs, evsV, evO, evC, evAnd, evOr, evBAnd, evBOr, R.bind, capT, CE.vw, T.fro, T.fro.froL, T.frz, T.frz.frzL, truT, tyIs, asB, ofB, bindG, bindGs, setS, slotT, frzE, appT, isOwn, augT, retO, binT, addT, subT, cmpT, cmpB, eqT, isT, bltT, m0T, isStr, List.getElem?_cons_zero, List.getElem?_cons_succ, List.set_cons_zero, List.set_cons_succ, List.length_cons, List.length_nil, List.length_set, if_true, if_false, ite_true, ite_false, Bool.false_eq_true, Bool.true_and, Bool.and_true, Bool.false_and, Bool.and_false, Bool.not_true, Bool.not_false, decide_true, decide_false, Option.map_some, Option.map_none, reduceCtorEq, ne_eq, not_true_eq_false, not_false_eq_true, z, ixT, L2.atI, L2.ixN]
          rw [st]
          refine ⟨"0", rfl, ?_⟩
          rw [z, emp_len] at h1
          have hN0 : nd0 b N = 0 := by rw [← h2, ← h1]; rfl
          have : N = 0 := by
            unfold nd0 at hN0
            split at hN0
            · assumption
            · have := ndig_pos (b := b) (n := N)
              omega
          rw [zero_len, this, ndig_small (by omega)]
        · have st : exSs (callD tb n) x__law_digits_0 ([some (.int b), some (.int (0 : Nat)), some (.str f), u].set 3 (some (.int i))) = .ok (.rt (.str f)) := by
            simp [exSs, exS, ev, evB, evs, evsV, evO, evC, evAnd, evOr, evBAnd, evBOr, R.bind, capT, CE.vw, T.fro, T.fro.froL, T.frz, T.frz.frzL, truT, tyIs, asB, ofB, bindG, bindGs, setS, slotT, frzE, appT, isOwn, augT, retO, binT, addT, subT, cmpT, cmpB, eqT, isT, bltT, m0T, isStr, List.getElem?_cons_zero, List.getElem?_cons_succ, List.set_cons_zero, List.set_cons_succ, List.length_cons, List.length_nil, List.length_set, if_true, if_false, ite_true, ite_false, Bool.false_eq_true, Bool.true_and, Bool.and_true, Bool.false_and, Bool.and_false, Bool.not_true, Bool.not_false, decide_true, decide_false, Option.map_some, Option.map_none, reduceCtorEq, ne_eq, not_true_eq_false, not_false_eq_true, z, ixT, L2.atI, L2.ixN]
          rw [st]
          refine ⟨f, rfl, ?_⟩
          have h0 : nd0 b 0 = 0 := rfl
          rw [h0] at h2
          have hp : f.length ≠ 0 := fun q => z (str0 q)
          unfold nd0 at h2
          split at h2
          · omega
          · omega
      · obtain ⟨s1, l1, e1⟩ := sg M
        have hs := nd0_step hb c
        have st : exSs (callD tb n) x__law_digits_0 ([some (.int b), some (.int (M : Nat)), some (.str f), u].set 3 (some (.int i))) = .ok (.nx [some (.int b), some (.int ((M / b : Nat) : Int)), some (.str (s1 ++ f)), some (.int i)]) := by
          have ad : addT (.str s1) (.str f) = .ok (.str (s1 ++ f)) := by
            show (if _ then _ else _) = _
            rw [if_pos (by rw [← line]; omega)]
          simp [exSs, exS, ev, evB, evs, evsV, evO, evC, evAnd, evOr, evBAnd, evBOr, R.bind, capT, CE.vw, T.fro, T.fro.froL, T.frz, T.frz.frzL, truT, tyIs, asB, ofB, bindG, bindGs, setS, slotT, frzE, appT, isOwn, augT, retO, binT, subT, cmpT, cmpB, eqT, isT, bltT, m0T, isStr, List.getElem?_cons_zero, List.getElem?_cons_succ, List.set_cons_zero, List.set_cons_succ, List.length_cons, List.length_nil, List.length_set, if_true, if_false, ite_true, ite_false, Bool.false_eq_true, Bool.true_and, Bool.and_true, Bool.false_and, Bool.and_false, Bool.not_true, Bool.not_false, decide_true, decide_false, Option.map_some, Option.map_none, reduceCtorEq, ne_eq, not_true_eq_false, not_false_eq_true, c, modT_int (show (0 : Int) < b by omega), fdivT_int (divOk_small (i := M) (j := b) (by omega) (by omega)), e1, ad]
        rw [st]
        exact ⟨M / b, s1 ++ f, _, by rw [Str.length_append]; omega, by omega, rfl⟩
    · obtain ⟨M, f, u, h1, h2, _⟩ := hi
      have : (Int.toNat 2500) = 2500 := rfl
      omega
  obtain ⟨t, e, s, rfl, hs⟩ := loop.rt fun _ z => z
  refine ⟨s, hs, ?_⟩
  rw [callD_eq (d := d__law_digits) rfl rfl]
  show retO (exSs (callD tb n) b__law_digits [some (.int b), some (.int N), none, none]) = _
  rw [exSs_nx (ρ' := [some (.int b), some (.int N), some (.str ""), none]) rfl, exSs_rt e]
  rfl
theorem s_law_cell (n : Nat) (ns : List Int) (k : Nat) : ∃ c : Int, callD tb (n + 1) f__law_cell [.lst .rd (ns.map T.int), .int k] = .ok (.int c) := by
  by_cases c : k < ns.length
  · refine ⟨ns[k], ?_⟩
    rw [callD_eq (d := d__law_cell) rfl rfl]
    show retO (exSs (callD tb n) b__law_cell [some (.lst .rd (ns.map T.int)), some (.int k)]) = _
    have e1 : ixT (.lst .rd (ns.map T.int)) (.int k) = .ok (.int ns[k]) := by
      have : L2.atI (ns.map T.int) (k : Int) = some (.int ns[k]) := by
        unfold L2.atI L2.ixN
        rw [if_pos (by omega), if_pos (by rw [List.length_map]; omega)]
        simp [c]
      show (match L2.atI (ns.map T.int) (k : Int) with | some t => R.ok t | none => .stuck) = _
      rw [this]
    simp [exSs, exS, ev, evB, evs, evsV, evO, evC, evAnd, evOr, evBAnd, evBOr, R.bind, capT, CE.vw, T.fro, T.fro.froL, T.frz, T.frz.frzL, truT, tyIs, asB, ofB, bindG, bindGs, setS, slotT, frzE, appT, isOwn, augT, retO, binT, addT, subT, cmpT, cmpB, eqT, isT, bltT, m0T, isStr, List.getElem?_cons_zero, List.getElem?_cons_succ, List.set_cons_zero, List.set_cons_succ, List.length_cons, List.length_nil, List.length_set, if_true, if_false, ite_true, ite_false, Bool.false_eq_true, Bool.true_and, Bool.and_true, Bool.false_and, Bool.and_false, Bool.not_true, Bool.not_false, decide_true, decide_false, Option.map_some, Option.map_none, reduceCtorEq, ne_eq, not_true_eq_false, not_false_eq_true, c, e1]
  · refine ⟨0, ?_⟩
    rw [callD_eq (d := d__law_cell) rfl rfl]
    show retO (exSs (callD tb n) b__law_cell [some (.lst .rd (ns.map T.int)), some (.int k)]) = _
    simp [exSs, exS, ev, evB, evs, evsV, evO, evC, evAnd, evOr, evBAnd, evBOr, R.bind, capT, CE.vw, T.fro, T.fro.froL, T.frz, T.frz.frzL, truT, tyIs, asB, ofB, bindG, bindGs, setS, slotT, frzE, appT, isOwn, augT, retO, binT, addT, subT, cmpT, cmpB, eqT, isT, bltT, m0T, isStr, List.getElem?_cons_zero, List.getElem?_cons_succ, List.set_cons_zero, List.set_cons_succ, List.length_cons, List.length_nil, List.length_set, if_true, if_false, ite_true, ite_false, Bool.false_eq_true, Bool.true_and, Bool.and_true, Bool.false_and, Bool.and_false, Bool.not_true, Bool.not_false, decide_true, decide_false, Option.map_some, Option.map_none, reduceCtorEq, ne_eq, not_true_eq_false, not_false_eq_true, c]
end K76
namespace K76
open PySem PV
theorem s_law_numbers (n : Nat) (cell limit : Int) (count : Nat) (h1 : count ≤ 1000) (h2 : 0 < limit) (h3 : limit < 2 ^ 62) : ∃ ds : List Int, ds.length = count ∧ (∀ d ∈ ds, 0 ≤ d ∧ d < limit) ∧ callD tb (n + 1) f__law_numbers [.int cell, .int count, .int limit] = .ok (.lst .own (ds.map T.int)) := by
  have line : (16777216 : Nat) = sizeLine := by decide
  have cp : L2.CPow 10 18 := ⟨by decide, by decide, by decide⟩
  have pw : powT (.int 10) (.int 18) = .ok (.int (10 ^ 18)) := powT_int cp
  have ext : ∀ (ds : List Int) (d : Int), (∀ d ∈ ds, 0 ≤ d ∧ d < limit) → 0 ≤ d ∧ d < limit → ∀ x ∈ ds ++ [d], 0 ≤ x ∧ x < limit := fun ds d h hd x hx => by
    rcases List.mem_append.mp hx with hx | hx
    · exact h x hx
    · rw [List.mem_singleton.mp hx]; exact hd
  have md : ∀ c : Int, 0 ≤ c % limit ∧ c % limit < limit := fun c => ⟨Int.emod_nonneg _ (by omega), Int.emod_lt_of_pos _ h2⟩
  have app : ∀ (ds : List Int) (d : Int), ds.length < sizeLine → appT (.lst .own (ds.map T.int)) (.int d) = .ok (.lst .own ((ds ++ [d]).map T.int)) := fun ds d h => by
    show (if _ then _ else _) = _
    rw [if_pos (by rw [List.length_map]; exact h), List.map_append]
    rfl
  have fin : ∀ (c : Int) (ds : List Int) (u v : Option T), retO (exSs (callD tb n) [.retv 3] [some (.int c), some (.int count), some (.int limit), some (.lst .own (ds.map T.int)), u, v]) = .ok (.lst .own (ds.map T.int)) := fun _ _ _ _ => rfl
  by_cases c : cell ≥ 10 ^ 18
  · have loop : OutIs (fun ρ => ∃ (c' : Int) (ds : List Int) (u v : Option T), ds.length = count ∧ (∀ d ∈ ds, 0 ≤ d ∧ d < limit) ∧ ρ = [some (.int c'), some (.int count), some (.int limit), some (.lst .own (ds.map T.int)), u, v]) (fun _ => False)
        (exS (callD tb n) (.fr (.nm 4) .rng1 [.var 1] x__law_numbers_0) [some (.int cell), some (.int count), some (.int limit), some (.lst .own []), none, none]) := by
      generalize hρ0 : [some (T.int cell), some (.int count), some (.int limit), some (.lst .own []), none, none] = ρ0
      refine fr_rng (j := (count : Int)) (by rw [← hρ0]; rfl) (by omega) (by omega) (fun i ρ => ∃ (c' : Int) (ds : List Int) (u v : Option T), ds.length = i ∧ (∀ d ∈ ds, 0 ≤ d ∧ d < limit) ∧ ρ = [some (.int c'), some (.int count), some (.int limit), some (.lst .own (ds.map T.int)), u, v])
        ⟨cell, [], none, none, rfl, fun _ h => (nomatch h), hρ0.symm⟩ (fun i ρ ⟨_, _, _, _, _, _, h⟩ => by rw [h]; show 4 < 6; omega) (fun i ρ hi => ?_) (fun ρ ⟨c', ds, u, v, q, r⟩ => ⟨c', ds, u, v, by omega, r⟩)
      rintro ⟨c', ds, u, v, q1, q2, rfl⟩
      have st : exSs (callD tb n) x__law_numbers_0 ([some (.int c'), some (.int count), some (.int limit), some (.lst .own (ds.map T.int)), u, v].set 4 (some (.int i))) = .ok (.nx [some (.int (c' / limit)), some (.int count), some (.int limit), some (.lst .own ((ds ++ [c' % limit]).map T.int)), some (.int i), v]) := by
        have a := app ds (c' % limit) (by rw [← line]; omega)
        simp [exSs, exS, ev, evB, evs, evsV, evO, evC, evAnd, evOr, evBAnd, evBOr, R.bind, capT, CE.vw, T.fro, T.fro.froL, T.frz, T.frz.frzL, truT, tyIs, asB, ofB, bindG, bindGs, setS, slotT, frzE, isOwn, augT, retO, binT, addT, subT, cmpT, cmpB, eqT, isT, bltT, m0T, isStr, List.getElem?_cons_zero, List.getElem?_cons_succ, List.set_cons_zero, List.set_cons_succ, List.length_cons, List.length_nil, List.length_set, if_true, if_false, ite_true, ite_false, Bool.false_eq_true, Bool.true_and, Bool.and_true, Bool.false_and, Bool.and_false, Bool.not_true, Bool.not_false, decide_true, decide_false, Option.map_some, Option.map_none, reduceCtorEq, ne_eq, not_true_eq_false, not_false_eq_true, modT_int h2, fdivT_int (divOk_small (i := c') h2 (by omega)), a]
      rw [st]
      exact ⟨c' / limit, ds ++ [c' % limit], _, _, by rw [List.length_append, q1]; rfl, ext ds _ q2 (md c'), rfl⟩
    obtain ⟨ρ', e, c', ds, u, v, q1, q2, rfl⟩ := loop.nx fun _ z => z
    refine ⟨ds, q1, q2, ?_⟩
    rw [callD_eq (d := d__law_numbers) rfl rfl]
    show retO (exSs (callD tb n) b__law_numbers [some (.int cell), some (.int count), some (.int limit), none, none, none]) = _
    rw [exSs_nx (ρ' := [some (.int cell), some (.int count), some (.int limit), some (.lst .own []), none, none]) rfl]
    have br : exS (callD tb n) (.ife (.val (.cmp .GtE (.var 0) (.bin .Pow (.int 10) (.int 18)))) [.fr (.nm 4) .rng1 [.var 1] x__law_numbers_0, .retv 3] []) [some (.int cell), some (.int count), some (.int limit), some (.lst .own []), none, none] = .ok (.rt (.lst .own (ds.map T.int))) := by
      rw [exS_if (k := true) (by
        have c' : (1000000000000000000 : Int) ≤ cell := c
        simp [exSs, exS, ev, evB, evs, evsV, evO, evC, evAnd, evOr, evBAnd, evBOr, R.bind, capT, CE.vw, T.fro, T.fro.froL, T.frz, T.frz.frzL, truT, tyIs, asB, ofB, bindG, bindGs, setS, slotT, frzE, isOwn, augT, retO, binT, addT, subT, cmpT, cmpB, eqT, isT, bltT, m0T, isStr, List.getElem?_cons_zero, List.getElem?_cons_succ, List.set_cons_zero, List.set_cons_succ, List.length_cons, List.length_nil, List.length_set, if_true, if_false, ite_true, ite_false, Bool.false_eq_true, Bool.true_and, Bool.and_true, Bool.false_and, Bool.and_false, Bool.not_true, Bool.not_false, decide_true, decide_false, Option.map_some, Option.map_none, reduceCtorEq, ne_eq, not_true_eq_false, not_false_eq_true, pw, c'])]
      rw [if_pos rfl, exSs_nx e]
      rfl
    rw [exSs_rt br]
    rfl
  · have loop : OutIs (fun ρ => ∃ (ds : List Int) (u v : Option T), ds.length = count ∧ (∀ d ∈ ds, 0 ≤ d ∧ d < limit) ∧ ρ = [some (.int cell), some (.int count), some (.int limit), some (.lst .own (ds.map T.int)), u, v]) (fun _ => False)
        (exS (callD tb n) (.fr (.nm 4) .rng1 [.var 1] x__law_numbers_1) [some (.int cell), some (.int count), some (.int limit), some (.lst .own []), none, none]) := by
      generalize hρ0 : [some (T.int cell), some (.int count), some (.int limit), some (.lst .own []), none, none] = ρ0
      refine fr_rng (j := (count : Int)) (by rw [← hρ0]; rfl) (by omega) (by omega) (fun i ρ => ∃ (ds : List Int) (u v : Option T), ds.length = i ∧ (∀ d ∈ ds, 0 ≤ d ∧ d < limit) ∧ ρ = [some (.int cell), some (.int count), some (.int limit), some (.lst .own (ds.map T.int)), u, v])
        ⟨[], none, none, rfl, fun _ h => (nomatch h), hρ0.symm⟩ (fun i ρ ⟨_, _, _, _, _, h⟩ => by rw [h]; show 4 < 6; omega) (fun i ρ hi => ?_) (fun ρ ⟨ds, u, v, q, r⟩ => ⟨ds, u, v, by omega, r⟩)
      rintro ⟨ds, u, v, q1, q2, rfl⟩
      have m1 : MulOk cell 48271 := mulOk_r (by decide) (by decide)
      have m2 : MulOk (i : Int) 69621 := mulOk_r (by decide) (by decide)
      have m3 : MulOk (i : Int) 16807 := mulOk_r (by decide) (by decide)
      generalize hx : (cell * 48271 + (i : Int) * 69621 + 7) % 2147483647 = x
      have x1 : 0 ≤ x := by rw [← hx]; exact Int.emod_nonneg _ (by decide)
      have x2 : x < 2147483647 := by rw [← hx]; exact Int.emod_lt_of_pos _ (by decide)
      have m4 : MulOk x x := mulOk_r (by omega) (by omega)
      have m5 : MulOk x 40692 := mulOk_r (by decide) (by decide)
      generalize hy : (x * x + x * 40692 + (i : Int) * 16807 + 11) % 2147483399 = y
      have st : exSs (callD tb n) x__law_numbers_1 ([some (.int cell), some (.int count), some (.int limit), some (.lst .own (ds.map T.int)), u, v].set 4 (some (.int i))) = .ok (.nx [some (.int cell), some (.int count), some (.int limit), some (.lst .own ((ds ++ [y / 32 % limit]).map T.int)), some (.int i), some (.int y)]) := by
        have a := app ds (y / 32 % limit) (by rw [← line]; omega)
        simp [exSs, exS, ev, evB, evs, evsV, evO, evC, evAnd, evOr, evBAnd, evBOr, R.bind, capT, CE.vw, T.fro, T.fro.froL, T.frz, T.frz.frzL, truT, tyIs, asB, ofB, bindG, bindGs, setS, slotT, frzE, isOwn, augT, retO, binT, addT, subT, cmpT, cmpB, eqT, isT, bltT, m0T, isStr, List.getElem?_cons_zero, List.getElem?_cons_succ, List.set_cons_zero, List.set_cons_succ, List.length_cons, List.length_nil, List.length_set, if_true, if_false, ite_true, ite_false, Bool.false_eq_true, Bool.true_and, Bool.and_true, Bool.false_and, Bool.and_false, Bool.not_true, Bool.not_false, decide_true, decide_false, Option.map_some, Option.map_none, reduceCtorEq, ne_eq, not_true_eq_false, not_false_eq_true, modT_int h2, modT_int (show (0 : Int) < 2147483647 by decide), modT_int (show (0 : Int) < 2147483399 by decide), fdivT_int (divOk_small (i := y) (j := 32) (by decide) (by decide)), a, mulT_int m1, mulT_int m2, mulT_int m3, hx, mulT_int m4, mulT_int m5, hy]
      rw [st]
      exact ⟨ds ++ [y / 32 % limit], _, _, by rw [List.length_append, q1]; rfl, ext ds _ q2 (md _), rfl⟩
    obtain ⟨ρ', e, ds, u, v, q1, q2, rfl⟩ := loop.nx fun _ z => z
    refine ⟨ds, q1, q2, ?_⟩
    rw [callD_eq (d := d__law_numbers) rfl rfl]
    show retO (exSs (callD tb n) b__law_numbers [some (.int cell), some (.int count), some (.int limit), none, none, none]) = _
    rw [exSs_nx (ρ' := [some (.int cell), some (.int count), some (.int limit), some (.lst .own []), none, none]) rfl]
    have br : exS (callD tb n) (.ife (.val (.cmp .GtE (.var 0) (.bin .Pow (.int 10) (.int 18)))) [.fr (.nm 4) .rng1 [.var 1] x__law_numbers_0, .retv 3] []) [some (.int cell), some (.int count), some (.int limit), some (.lst .own []), none, none] = .ok (.nx [some (.int cell), some (.int count), some (.int limit), some (.lst .own []), none, none]) := by
      rw [exS_if (k := false) (by
        have c' : ¬ (1000000000000000000 : Int) ≤ cell := c
        simp [exSs, exS, ev, evB, evs, evsV, evO, evC, evAnd, evOr, evBAnd, evBOr, R.bind, capT, CE.vw, T.fro, T.fro.froL, T.frz, T.frz.frzL, truT, tyIs, asB, ofB, bindG, bindGs, setS, slotT, frzE, isOwn, augT, retO, binT, addT, subT, cmpT, cmpB, eqT, isT, bltT, m0T, isStr, List.getElem?_cons_zero, List.getElem?_cons_succ, List.set_cons_zero, List.set_cons_succ, List.length_cons, List.length_nil, List.length_set, if_true, if_false, ite_true, ite_false, Bool.false_eq_true, Bool.true_and, Bool.and_true, Bool.false_and, Bool.and_false, Bool.not_true, Bool.not_false, decide_true, decide_false, Option.map_some, Option.map_none, reduceCtorEq, ne_eq, not_true_eq_false, not_false_eq_true, pw, c'])]
      rfl
    rw [exSs_nx br, exSs_nx e]
    exact fin cell ds u v
theorem s_same_int (n : Nat) (i : Int) : callD tb (n + 1) f__law_same [.int i, .int i] = .ok (.bl true) := by
  rw [callD_eq (d := d__law_same) rfl rfl]
  show retO (exSs (callD tb n) b__law_same [some (.int i), some (.int i), none]) = _
  simp [exSs, exS, ev, evB, evs, evsV, evO, evC, evAnd, evOr, evBAnd, evBOr, R.bind, capT, CE.vw, T.fro, T.fro.froL, T.frz, T.frz.frzL, truT, tyIs, asB, ofB, bindG, bindGs, setS, slotT, frzE, appT, isOwn, augT, retO, binT, addT, subT, cmpT, cmpB, eqT, isT, bltT, m0T, isStr, List.getElem?_cons_zero, List.getElem?_cons_succ, List.set_cons_zero, List.set_cons_succ, List.length_cons, List.length_nil, List.length_set, if_true, if_false, ite_true, ite_false, Bool.false_eq_true, Bool.true_and, Bool.and_true, Bool.false_and, Bool.and_false, Bool.not_true, Bool.not_false, decide_true, decide_false, Option.map_some, Option.map_none, reduceCtorEq, ne_eq, not_true_eq_false, not_false_eq_true]
end K76
namespace K76
open PySem PV
theorem two_big {k : Nat} (h : k < BIG) : (2 : Int) ^ k < 2 ^ BIG := Int.pow_lt_pow_of_lt (by decide) h
theorem castPow (b k : Nat) : ((b : Int) ^ k) = ((b ^ k : Nat) : Int) := (Int.natCast_pow b k).symm
theorem s_raisedN (n b k : Nat) (hb : 1 ≤ b) (hbig : b ^ k < 2 ^ BIG) : callD tb (n + 1) f_raised [.int b, .int k] = .ok (.int ((b ^ k : Nat) : Int)) := by
  have := s_raised n b k (by omega) (by omega) (by
    rw [Int.toNat_natCast, castPow, ← big_cast]
    exact Int.ofNat_lt.mpr hbig)
  rw [Int.toNat_natCast, castPow] at this
  exact this
theorem s_law_powerN (n b k : Nat) (hb : 1 ≤ b) (hk : k < 2 ^ 39) (hbig : b ^ k < 2 ^ BIG) : callD tb (n + 1) f__law_power [.int b, .int k] = .ok (.int ((b ^ k : Nat) : Int)) := by
  have := s_law_power n b k (by omega) (by omega) (by omega) (by
    rw [Int.toNat_natCast, castPow, ← big_cast]
    exact Int.ofNat_lt.mpr hbig)
  rw [Int.toNat_natCast, castPow] at this
  exact this
def biasN (w : Nat) : Nat := 2 ^ (w - 1) - 1
theorem biasN_eq (w : Nat) (h : 1 ≤ w) : (2 : Int) ^ ((w : Int) - 1).toNat - 1 = (biasN w : Int) := by
  have e : ((w : Int) - 1).toNat = w - 1 := by omega
  have p : 1 ≤ 2 ^ (w - 1) := Nat.one_le_two_pow
  unfold biasN
  rw [e, Int.ofNat_sub p, Int.natCast_pow]
  rfl
def deepN (w p b : Nat) : Nat := 2 ^ (p + 2) * (b / 2) ^ (biasN w + p)
def topN (w : Nat) : Nat := 2 ^ (2 ^ w - biasN w)
def keptN (w p b : Nat) : Nat := max (deepN w p b) (topN w)
theorem bias_bound {w : Nat} (h : w ≤ 11) : biasN w ≤ 1023 := by
  have : 2 ^ (w - 1) ≤ 2 ^ 10 := Nat.pow_le_pow_right (by decide) (by omega)
  unfold biasN
  omega
theorem bias_le {w : Nat} : biasN w ≤ 2 ^ w := by
  have : 2 ^ (w - 1) ≤ 2 ^ w := Nat.pow_le_pow_right (by decide) (by omega)
  exact Nat.le_trans (Nat.sub_le _ _) this
theorem keptN_lt {w p b : Nat} (hw : w ≤ 11) (hp : p ≤ 60) (hb : 2 ≤ b) : keptN w p b < b ^ 2400 := by
  have h1 := bias_bound hw
  have h2 : 2 ^ w ≤ 2 ^ 11 := Nat.pow_le_pow_right (by decide) hw
  have a1 : topN w ≤ b ^ 2048 := Nat.le_trans (Nat.pow_le_pow_right (by decide) (show 2 ^ w - biasN w ≤ 2048 by omega)) (Nat.pow_le_pow_left hb 2048)
  have a2 : deepN w p b ≤ b ^ 1145 := by
    have q1 : 2 ^ (p + 2) ≤ b ^ 62 := Nat.le_trans (Nat.pow_le_pow_right (by decide) (show p + 2 ≤ 62 by omega)) (Nat.pow_le_pow_left hb 62)
    have q2 : (b / 2) ^ (biasN w + p) ≤ b ^ 1083 := Nat.le_trans (Nat.pow_le_pow_left (Nat.div_le_self b 2) _) (Nat.pow_le_pow_right (by omega) (by omega))
    rw [show (1145 : Nat) = 62 + 1083 from rfl, Nat.pow_add]
    exact Nat.mul_le_mul q1 q2
  have b1 : b ^ 2048 < b ^ 2400 := Nat.pow_lt_pow_right (by omega) (by decide)
  have b2 : b ^ 1145 < b ^ 2400 := Nat.pow_lt_pow_right (by omega) (by decide)
  unfold keptN
  rw [Nat.max_lt]
  omega
theorem pow_big {b k : Nat} (hb : b ≤ 16) (hk : k ≤ 3000) : b ^ k < 2 ^ BIG := by
  have h1 : b ^ k ≤ 16 ^ k := Nat.pow_le_pow_left hb k
  have h2 : (16 : Nat) ^ k = 2 ^ (4 * k) := by rw [Nat.pow_mul]
  have h3 : (2 : Nat) ^ (4 * k) < 2 ^ BIG := Nat.pow_lt_pow_right (by decide) (by unfold BIG; omega)
  omega
theorem max_ok (x y : Nat) : bltT .max [.int ((x : Nat) : Int), .int ((y : Nat) : Int)] = .ok (.int ((max x y : Nat) : Int)) := by
  show R.ok (T.int (if (y : Int) > x then y else x)) = _
  congr 2
  omega
section
variable (n : Nat) (s : Str) (w p b : Nat) (hw1 : 2 ≤ w) (hw2 : w ≤ 11) (hp : p ≤ 60) (hb1 : 2 ≤ b) (hb2 : b ≤ 16)
include hw1 hw2 hp hb1 hb2
theorem s_kept : callD tb (n + 4) f_kept_digits [.tup [.str s, .int w, .int p], .int b] = .ok (.int (ndig b (keptN w p b))) := by
  have line : (16777216 : Nat) = sizeLine := by decide
  have hlt := keptN_lt hw2 hp hb1
  have hnd : ndig b (keptN w p b) ≤ 2400 := ndig_le hb1 2399 _ hlt
  obtain ⟨t, l1, e1⟩ := s_digits_of (n + 2) b (keptN w p b) hb1 hb2 (by omega)
  have bb := bias_bound hw2
  have r1 : callD tb (n + 3) f_raised [.int 2, .int ((p : Int) + 2)] = .ok (.int ((2 ^ (p + 2) : Nat) : Int)) := s_raisedN (n + 2) 2 (p + 2) (by decide) (pow_big (by decide) (by omega))
  have r2 : callD tb (n + 3) f_bias_of [.tup [.str s, .int w, .int p]] = .ok (.int (biasN w : Int)) := by
    rw [← biasN_eq w (by omega)]
    exact s_bias_of (n + 1) s w p (by omega) (by omega)
  have r3 : callD tb (n + 3) f_raised [.int ((b : Int) / 2), .int ((biasN w : Int) + (p : Int))] = .ok (.int (((b / 2) ^ (biasN w + p) : Nat) : Int)) := s_raisedN (n + 2) (b / 2) (biasN w + p) (by omega) (pow_big (by omega) (by omega))
  have r4 : callD tb (n + 3) f_raised [.int 2, .int (w : Int)] = .ok (.int ((2 ^ w : Nat) : Int)) := s_raisedN (n + 2) 2 w (by decide) (pow_big (by decide) (by omega))
  have hw : 2 ^ w ≤ 2 ^ 11 := Nat.pow_le_pow_right (by decide) hw2
  have r5 : callD tb (n + 3) f_raised [.int 2, .int (((2 ^ w : Nat) : Int) - (biasN w : Int))] = .ok (.int ((topN w : Nat) : Int)) := by
    rw [← Int.ofNat_sub bias_le]
    exact s_raisedN (n + 2) 2 (2 ^ w - biasN w) (by decide) (pow_big (by decide) (by omega))
  have m1 : mulT (.int ((2 ^ (p + 2) : Nat) : Int)) (.int (((b / 2) ^ (biasN w + p) : Nat) : Int)) = .ok (.int (deepN w p b : Int)) := by
    have : 2 ^ (p + 2) ≤ 2 ^ 62 := Nat.pow_le_pow_right (by decide) (by omega)
    rw [mulT_int (mulOk_l (by generalize 2 ^ (p + 2) = y at this ⊢; omega) (by generalize 2 ^ (p + 2) = y at this ⊢; omega))]
    unfold deepN
    rw [Int.natCast_mul]
  have m2 := max_ok (deepN w p b) (topN w)
  have m3 : bltT .len [.str t] = .ok (.int (t.length : Int)) := if_pos (by rw [← line]; omega)
  rw [callD_eq (d := d_kept_digits) rfl rfl]
  show retO (exSs (callD tb (n + 3)) b_kept_digits [some (.tup [.str s, .int w, .int p]), some (.int b), none, none, none, none]) = _
  generalize h1 : ((2 ^ (p + 2) : Nat) : Int) = x1 at *
  generalize h2 : (((b / 2) ^ (biasN w + p) : Nat) : Int) = x2 at *
  generalize h3 : ((2 ^ w : Nat) : Int) = x3 at *
  generalize h4 : ((biasN w : Nat) : Int) = x4 at *
  generalize h5 : ((deepN w p b : Nat) : Int) = x5 at *
  generalize h6 : ((topN w : Nat) : Int) = x6 at *
  have e1 : callD tb (n + 3) f_digits_of [.int (b : Int), .int ((max (deepN w p b) (topN w) : Nat) : Int)] = .ok (.str t) := e1
  generalize h7 : ((max (deepN w p b) (topN w) : Nat) : Int) = x7 at *
  have d2 := fdivT_int (divOk_small (i := b) (j := 2) (by decide) (by decide))
  generalize h8 : (b : Int) / 2 = x8 at *
  rw [← l1]
  simp [exSs, exS, ev, evB, evs, evsV, evO, evC, evAnd, evOr, evBAnd, evBOr, R.bind, capT, CE.vw, T.fro, T.fro.froL, T.frz, T.frz.frzL, truT, tyIs, asB, ofB, bindG, bindGs, setS, slotT, frzE, appT, isOwn, augT, retO, binT, addT, subT, cmpT, cmpB, eqT, isT, m0T, isStr, List.getElem?_cons_zero, List.getElem?_cons_succ, List.set_cons_zero, List.set_cons_succ, List.length_cons, List.length_nil, List.length_set, if_true, if_false, ite_true, ite_false, Bool.false_eq_true, Bool.true_and, Bool.and_true, Bool.false_and, Bool.and_false, Bool.not_true, Bool.not_false, decide_true, decide_false, Option.map_some, Option.map_none, reduceCtorEq, ne_eq, not_true_eq_false, not_false_eq_true, r1, r2, r3, r4, r5, d2, m1, m2, e1, m3]
theorem s_law_kept : callD tb (n + 4) f__law_kept [.tup [.str s, .int w, .int p], .int b] = .ok (.int (ndig b (keptN w p b))) := by
  have line : (16777216 : Nat) = sizeLine := by decide
  have hlt := keptN_lt hw2 hp hb1
  have hnd : ndig b (keptN w p b) ≤ 2400 := ndig_le hb1 2399 _ hlt
  obtain ⟨t, l1, e1⟩ := s_law_digits (n + 2) b (keptN w p b) hb1 hb2 (by omega)
  have bb := bias_bound hw2
  have r1 : callD tb (n + 3) f__law_power [.int 2, .int ((p : Int) + 2)] = .ok (.int ((2 ^ (p + 2) : Nat) : Int)) := s_law_powerN (n + 2) 2 (p + 2) (by decide) (by omega) (pow_big (by decide) (by omega))
  have r2 : callD tb (n + 3) f__law_bias [.tup [.str s, .int w, .int p]] = .ok (.int (biasN w : Int)) := by
    rw [← biasN_eq w (by omega)]
    exact s_law_bias (n + 1) s w p (by omega) (by omega)
  have r3 : callD tb (n + 3) f__law_power [.int ((b : Int) / 2), .int ((biasN w : Int) + (p : Int))] = .ok (.int (((b / 2) ^ (biasN w + p) : Nat) : Int)) := s_law_powerN (n + 2) (b / 2) (biasN w + p) (by omega) (by omega) (pow_big (by omega) (by omega))
  have r4 : callD tb (n + 3) f__law_power [.int 2, .int (w : Int)] = .ok (.int ((2 ^ w : Nat) : Int)) := s_law_powerN (n + 2) 2 w (by decide) (by omega) (pow_big (by decide) (by omega))
  have hw : 2 ^ w ≤ 2 ^ 11 := Nat.pow_le_pow_right (by decide) hw2
  have r5 : callD tb (n + 3) f__law_power [.int 2, .int (((2 ^ w : Nat) : Int) - (biasN w : Int))] = .ok (.int ((topN w : Nat) : Int)) := by
    rw [← Int.ofNat_sub bias_le]
    exact s_law_powerN (n + 2) 2 (2 ^ w - biasN w) (by decide) (by omega) (pow_big (by decide) (by omega))
  have m1 : mulT (.int ((2 ^ (p + 2) : Nat) : Int)) (.int (((b / 2) ^ (biasN w + p) : Nat) : Int)) = .ok (.int (deepN w p b : Int)) := by
    have : 2 ^ (p + 2) ≤ 2 ^ 62 := Nat.pow_le_pow_right (by decide) (by omega)
    rw [mulT_int (mulOk_l (by generalize 2 ^ (p + 2) = y at this ⊢; omega) (by generalize 2 ^ (p + 2) = y at this ⊢; omega))]
    unfold deepN
    rw [Int.natCast_mul]
  have m2 := max_ok (deepN w p b) (topN w)
  have m3 : bltT .len [.str t] = .ok (.int (t.length : Int)) := if_pos (by rw [← line]; omega)
  rw [callD_eq (d := d__law_kept) rfl rfl]
  show retO (exSs (callD tb (n + 3)) b__law_kept [some (.tup [.str s, .int w, .int p]), some (.int b), none]) = _
  generalize h1 : ((2 ^ (p + 2) : Nat) : Int) = x1 at *
  generalize h2 : (((b / 2) ^ (biasN w + p) : Nat) : Int) = x2 at *
  generalize h3 : ((2 ^ w : Nat) : Int) = x3 at *
  generalize h4 : ((biasN w : Nat) : Int) = x4 at *
  generalize h5 : ((deepN w p b : Nat) : Int) = x5 at *
  generalize h6 : ((topN w : Nat) : Int) = x6 at *
  have e1 : callD tb (n + 3) f__law_digits [.int (b : Int), .int ((max (deepN w p b) (topN w) : Nat) : Int)] = .ok (.str t) := e1
  generalize h7 : ((max (deepN w p b) (topN w) : Nat) : Int) = x7 at *
  have d2 := fdivT_int (divOk_small (i := b) (j := 2) (by decide) (by decide))
  generalize h8 : (b : Int) / 2 = x8 at *
  rw [← l1]
  simp [exSs, exS, ev, evB, evs, evsV, evO, evC, evAnd, evOr, evBAnd, evBOr, R.bind, capT, CE.vw, T.fro, T.fro.froL, T.frz, T.frz.frzL, truT, tyIs, asB, ofB, bindG, bindGs, setS, slotT, frzE, appT, isOwn, augT, retO, binT, addT, subT, cmpT, cmpB, eqT, isT, m0T, isStr, List.getElem?_cons_zero, List.getElem?_cons_succ, List.set_cons_zero, List.set_cons_succ, List.length_cons, List.length_nil, List.length_set, if_true, if_false, ite_true, ite_false, Bool.false_eq_true, Bool.true_and, Bool.and_true, Bool.false_and, Bool.and_false, Bool.not_true, Bool.not_false, decide_true, decide_false, Option.map_some, Option.map_none, reduceCtorEq, ne_eq, not_true_eq_false, not_false_eq_true, ixT, L2.atI, L2.ixN, r1, r2, r3, r4, r5, d2, m1, m2, e1, m3]
end
end K76
namespace K76
open PySem PV
theorem ix_ints {k : LK} {ds : List Int} {i : Nat} (h : i < ds.length) : ixT (.lst k (ds.map T.int)) (.int (i : Int)) = .ok (.int ds[i]) := by
  have : L2.atI (ds.map T.int) (i : Int) = some (.int ds[i]) := by
    unfold L2.atI L2.ixN
    rw [if_pos (by omega), if_pos (by rw [List.length_map]; omega)]
    simp [h]
  show (match L2.atI (ds.map T.int) (i : Int) with | some t => R.ok t | none => .stuck) = _
  rw [this]
theorem widths (j : Int) (h0 : 0 ≤ j) (h1 : j < 10) : ∃ w : Nat, 2 ≤ w ∧ w ≤ 11 ∧ ixT (.lst .own [.int 2, .int 3, .int 4, .int 5, .int 8, .int 9, .int 10, .int 11, .int 6, .int 7]) (.int j) = .ok (.int (w : Int)) := by
  have : j = 0 ∨ j = 1 ∨ j = 2 ∨ j = 3 ∨ j = 4 ∨ j = 5 ∨ j = 6 ∨ j = 7 ∨ j = 8 ∨ j = 9 := by omega
  rcases this with h | h | h | h | h | h | h | h | h | h <;> subst h
  · exact ⟨2, by decide, by decide, rfl⟩
  · exact ⟨3, by decide, by decide, rfl⟩
  · exact ⟨4, by decide, by decide, rfl⟩
  · exact ⟨5, by decide, by decide, rfl⟩
  · exact ⟨8, by decide, by decide, rfl⟩
  · exact ⟨9, by decide, by decide, rfl⟩
  · exact ⟨10, by decide, by decide, rfl⟩
  · exact ⟨11, by decide, by decide, rfl⟩
  · exact ⟨6, by decide, by decide, rfl⟩
  · exact ⟨7, by decide, by decide, rfl⟩
theorem kinds (j : Int) : ∃ s : Str, ixT (.lst .own [.str "ieee", .str "full"]) (.int (j % 2)) = .ok (.str s) := by
  have : j % 2 = 0 ∨ j % 2 = 1 := by omega
  rcases this with h | h <;> rw [h]
  · exact ⟨_, rfl⟩
  · exact ⟨_, rfl⟩
abbrev bases : List T := [.int 2, .int 4, .int 6, .int 8, .int 10, .int 12, .int 14, .int 16]
theorem base_of {i : Nat} {t : T} (h : bases[i]? = some t) : ∃ b : Nat, t = .int (b : Int) ∧ 2 ≤ b ∧ b ≤ 16 := by
  have hi : i < 8 := by
    by_cases c : i < 8
    · exact c
    · rw [List.getElem?_eq_none (by show 8 ≤ i; omega)] at h; cases h
  have : i = 0 ∨ i = 1 ∨ i = 2 ∨ i = 3 ∨ i = 4 ∨ i = 5 ∨ i = 6 ∨ i = 7 := by omega
  rcases this with e | e | e | e | e | e | e | e <;> subst e <;> cases h
  · exact ⟨2, rfl, by decide, by decide⟩
  · exact ⟨4, rfl, by decide, by decide⟩
  · exact ⟨6, rfl, by decide, by decide⟩
  · exact ⟨8, rfl, by decide, by decide⟩
  · exact ⟨10, rfl, by decide, by decide⟩
  · exact ⟨12, rfl, by decide, by decide⟩
  · exact ⟨14, rfl, by decide, by decide⟩
  · exact ⟨16, rfl, by decide, by decide⟩
theorem five : ndig 10 (keptN 3 2 10) = 5 := by
  have : keptN 3 2 10 = 50000 := by decide
  rw [this, ndig_big (by decide) (by decide), ndig_big (by decide) (by decide), ndig_big (by decide) (by decide), ndig_big (by decide) (by decide), ndig_small (by decide)]
theorem inner (s : Str) (w p : Nat) (hw1 : 2 ≤ w) (hw2 : w ≤ 11) (hp : p ≤ 60) (sc dr k : T) (u : Option T) : ∃ v : Option T, exS (callD tb 59) (.fr (.nm 4) .seq [.lst [.int 2, .int 4, .int 6, .int 8, .int 10, .int 12, .int 14, .int 16]] x_law_1) [some sc, some dr, some k, some (.tup [.str s, .int w, .int p]), u] =
    .ok (.nx [some sc, some dr, some k, some (.tup [.str s, .int w, .int p]), v]) := by
  have loop : OutIs (fun ρ => ∃ v, ρ = [some sc, some dr, some k, some (.tup [.str s, .int w, .int p]), v]) (fun _ => False) (exS (callD tb 59) (.fr (.nm 4) .seq [.lst [.int 2, .int 4, .int 6, .int 8, .int 10, .int 12, .int 14, .int 16]] x_law_1) [some sc, some dr, some k, some (.tup [.str s, .int w, .int p]), u]) := by
    refine fr_wp (ts := [.lst .own bases]) (l := bases) rfl rfl (fun _ ρ => ∃ v, ρ = [some sc, some dr, some k, some (.tup [.str s, .int w, .int p]), v]) ⟨u, rfl⟩ (fun i t ρ ht => ?_) (fun ρ h => h)
    rintro ⟨v, rfl⟩
    obtain ⟨b, rfl, hb1, hb2⟩ := base_of ht
    refine ⟨[some sc, some dr, some k, some (.tup [.str s, .int w, .int p]), some (.int b)], rfl, ?_⟩
    have k1 : callD tb 59 f_kept_digits [.tup [.str s, .int w, .int p], .int b] = .ok (.int (ndig b (keptN w p b))) := s_kept 55 s w p b hw1 hw2 hp hb1 hb2
    have k2 : callD tb 59 f__law_kept [.tup [.str s, .int w, .int p], .int b] = .ok (.int (ndig b (keptN w p b))) := s_law_kept 55 s w p b hw1 hw2 hp hb1 hb2
    have k3 : callD tb 59 f__law_same [.int (ndig b (keptN w p b)), .int (ndig b (keptN w p b))] = .ok (.bl true) := s_same_int 58 _
    have st : exSs (callD tb 59) x_law_1 [some sc, some dr, some k, some (.tup [.str s, .int w, .int p]), some (.int b)] = .ok (.nx [some sc, some dr, some k, some (.tup [.str s, .int w, .int p]), some (.int b)]) := by
      simp [exSs, exS, ev, evB, evs, evsV, evO, evC, evAnd, evOr, evBAnd, evBOr, R.bind, capT, CE.vw, T.fro, T.fro.froL, T.frz, T.frz.frzL, truT, tyIs, asB, ofB, bindG, bindGs, setS, slotT, frzE, appT, isOwn, augT, retO, binT, addT, subT, cmpT, cmpB, eqT, isT, bltT, m0T, isStr, List.getElem?_cons_zero, List.getElem?_cons_succ, List.set_cons_zero, List.set_cons_succ, List.length_cons, List.length_nil, List.length_set, if_true, if_false, ite_true, ite_false, Bool.false_eq_true, Bool.true_and, Bool.and_true, Bool.false_and, Bool.and_false, Bool.not_true, Bool.not_false, decide_true, decide_false, Option.map_some, Option.map_none, reduceCtorEq, ne_eq, not_true_eq_false, not_false_eq_true, k1, k2, k3]
    rw [st]
    exact ⟨_, rfl⟩
  obtain ⟨ρ', e, v, rfl⟩ := loop.nx fun _ z => z
  exact ⟨v, e⟩
theorem main (ns : List Int) (hl : ns.length ≤ 63) (hb : ∀ z ∈ ns, Builtin.Int.intBits z ≤ 1048576) : callD tb 60 f_law [.lst .rd (ns.map T.int)] = .ok (.bl true) := by
  obtain ⟨c, ec⟩ := s_law_cell 58 ns 0
  obtain ⟨ds, q1, q2, en⟩ := s_law_numbers 58 c 5040 12 (by decide) (by decide) (by decide)
  rw [callD_eq (n := 59) (d := d_law) rfl rfl]
  show retO (exSs (callD tb 59) b_law [some (.lst .rd (ns.map T.int)), none, none, none, none]) = _
  have ec : callD tb 59 f__law_cell [.lst .rd (ns.map T.int), .int 0] = .ok (.int c) := ec
  have en : callD tb 59 f__law_numbers [.int c, .int 12, .int 5040] = .ok (.lst .own (ds.map T.int)) := en
  have s1 : exS (callD tb 59) (.asg (.nm 1) (.call f__law_numbers [.call f__law_cell [.var 0, .int 0], .int 12, .int 5040])) [some (.lst .rd (ns.map T.int)), none, none, none, none] = .ok (.nx [some (.lst .rd (ns.map T.int)), some (.lst .own (ds.map T.int)), none, none, none]) := by
    simp [exSs, exS, ev, evB, evs, evsV, evO, evC, evAnd, evOr, evBAnd, evBOr, R.bind, capT, CE.vw, T.fro, T.fro.froL, T.frz, T.frz.frzL, truT, tyIs, asB, ofB, bindG, bindGs, setS, slotT, frzE, appT, isOwn, augT, retO, binT, addT, subT, cmpT, cmpB, eqT, isT, bltT, m0T, isStr, List.getElem?_cons_zero, List.getElem?_cons_succ, List.set_cons_zero, List.set_cons_succ, List.length_cons, List.length_nil, List.length_set, if_true, if_false, ite_true, ite_false, Bool.false_eq_true, Bool.true_and, Bool.and_true, Bool.false_and, Bool.and_false, Bool.not_true, Bool.not_false, decide_true, decide_false, Option.map_some, Option.map_none, reduceCtorEq, ne_eq, not_true_eq_false, not_false_eq_true, froL_ints, frzL_ints, ec, en]
  rw [exSs_nx s1]
  have loop : OutIs (fun ρ => ∃ u v w, ρ = [some (.lst .rd (ns.map T.int)), some (.lst .own (ds.map T.int)), u, v, w]) (fun _ => False) (exS (callD tb 59) (.fr (.nm 2) .rng1 [.int 6] x_law_0) [some (.lst .rd (ns.map T.int)), some (.lst .own (ds.map T.int)), none, none, none]) := by
    refine fr_rng (j := 6) rfl (by decide) (by decide) (fun _ ρ => ∃ u v w, ρ = [some (.lst .rd (ns.map T.int)), some (.lst .own (ds.map T.int)), u, v, w]) ⟨none, none, none, rfl⟩ (fun i ρ ⟨_, _, _, h⟩ => by rw [h]; show 2 < 5; omega) (fun i ρ hi => ?_) (fun ρ h => h)
    rintro ⟨u, v, x, rfl⟩
    have hi : i < 6 := hi
    have d1 := ix_ints (k := .own) (ds := ds) (i := i) (by omega)
    have d2 := ix_ints (k := .own) (ds := ds) (i := 6 + i) (by omega)
    have d2 : ixT (.lst .own (ds.map T.int)) (.int (6 + (i : Int))) = .ok (.int ds[6 + i]) := d2
    generalize ds[i] = y at *
    generalize ds[6 + i] = z at *
    obtain ⟨s, es⟩ := kinds y
    obtain ⟨w, w1, w2, ew⟩ := widths (y / 2 % 10) (Int.emod_nonneg _ (by decide)) (Int.emod_lt_of_pos _ (by decide))
    obtain ⟨p, ep, p2⟩ : ∃ p : Nat, (1 + z % 60) = (p : Int) ∧ p ≤ 60 := ⟨(1 + z % 60).toNat, by omega, by omega⟩
    obtain ⟨v', ei⟩ := inner s w p w1 w2 p2 (.lst .rd (ns.map T.int)) (.lst .own (ds.map T.int)) (.int i) x
    have s2 : exS (callD tb 59) (.asg (.nm 3) (.tup [.sub (.lst [.str "ieee", .str "full"]) (.bin .Mod (.sub (.var 1) (.var 2)) (.int 2)), .sub (.lst [.int 2, .int 3, .int 4, .int 5, .int 8, .int 9, .int 10, .int 11, .int 6, .int 7]) (.bin .Mod (.bin .FloorDiv (.sub (.var 1) (.var 2)) (.int 2)) (.int 10)), .bin .Add (.int 1) (.bin .Mod (.sub (.var 1) (.bin .Add (.int 6) (.var 2))) (.int 60))]))
        [some (.lst .rd (ns.map T.int)), some (.lst .own (ds.map T.int)), some (.int i), v, x] = .ok (.nx [some (.lst .rd (ns.map T.int)), some (.lst .own (ds.map T.int)), some (.int i), some (.tup [.str s, .int w, .int p]), x]) := by
      simp [exSs, exS, ev, evB, evs, evsV, evO, evC, evAnd, evOr, evBAnd, evBOr, R.bind, capT, CE.vw, T.fro, T.fro.froL, T.frz, T.frz.frzL, truT, tyIs, asB, ofB, bindG, bindGs, setS, slotT, frzE, appT, isOwn, augT, retO, binT, addT, subT, cmpT, cmpB, eqT, isT, bltT, m0T, isStr, List.getElem?_cons_zero, List.getElem?_cons_succ, List.set_cons_zero, List.set_cons_succ, List.length_cons, List.length_nil, List.length_set, if_true, if_false, ite_true, ite_false, Bool.false_eq_true, Bool.true_and, Bool.and_true, Bool.false_and, Bool.and_false, Bool.not_true, Bool.not_false, decide_true, decide_false, Option.map_some, Option.map_none, reduceCtorEq, ne_eq, not_true_eq_false, not_false_eq_true, d1, d2, modT_int (show (0 : Int) < 2 by decide), modT_int (show (0 : Int) < 10 by decide), modT_int (show (0 : Int) < 60 by decide), fdivT_int (divOk_small (i := y) (j := 2) (by decide) (by decide)), es, ew, ep]
    show OutB _ _ _ (exSs (callD tb 59) x_law_0 [some (.lst .rd (ns.map T.int)), some (.lst .own (ds.map T.int)), some (.int i), v, x])
    rw [exSs_nx s2, exSs_nx ei]
    exact ⟨_, _, _, rfl⟩
  obtain ⟨ρ', e, u, v, w, rfl⟩ := loop.nx fun _ z => z
  rw [exSs_nx e]
  have k1 : callD tb 59 f_kept_digits [.tup [.str "ieee", .int 3, .int 2], .int 10] = .ok (.int (ndig 10 (keptN 3 2 10))) := s_kept 55 "ieee" 3 2 10 (by decide) (by decide) (by decide) (by decide) (by decide)
  rw [five] at k1
  simp [exSs, exS, ev, evB, evs, evsV, evO, evC, evAnd, evOr, evBAnd, evBOr, R.bind, capT, CE.vw, T.fro, T.fro.froL, T.frz, T.frz.frzL, truT, tyIs, asB, ofB, bindG, bindGs, setS, slotT, frzE, appT, isOwn, augT, retO, binT, addT, subT, cmpT, cmpB, eqT, isT, bltT, m0T, isStr, List.getElem?_cons_zero, List.getElem?_cons_succ, List.set_cons_zero, List.set_cons_succ, List.length_cons, List.length_nil, List.length_set, if_true, if_false, ite_true, ite_false, Bool.false_eq_true, Bool.true_and, Bool.and_true, Bool.false_and, Bool.and_false, Bool.not_true, Bool.not_false, decide_true, decide_false, Option.map_some, Option.map_none, reduceCtorEq, ne_eq, not_true_eq_false, not_false_eq_true, k1]
end K76
open PySem PySem.W PySem.Calls PyProof.Rows
set_option maxHeartbeats 0 in
theorem PySem.Challenge.cw_fewestfigures_k76_kept_digits_of_any_for_holds : PySem.Challenge.rw_fewestfigures_k76_kept_digits_of_any_for.Holds := by
  w_on; o_law
  refine HandSHeadRun.head_any (r := K76.RR) (q := view K76.RR.prog [17]) (H := K76.hk) (ob := K76.ob) (M := 3000) (loose := K76.nms)
    (d := HandSHeadRun.topDef K76.RR.prog 17) (kwd := []) K76.ob_ok (by kernel_rfl) (fun s => by kernel_rfl) K76.run (by kernel_rfl) (by kernel_rfl) (by kernel_rfl) (by rfl)
    (by first | assumption | decide +kernel) (by decide +kernel) ⟨rfl, rfl, rfl, rfl, rfl, by decide +kernel⟩ ?hw ?hc
  case hw => w_witness2
  case hc =>
    exact PV.lawEnd (l := PySem.Challenge.rw_fewestfigures_k76_kept_digits_of_any_for) (m := 63) (n := 60) (f := 11) (d := K76.d_law) (x := "script") rfl (by decide) (by kernel_rfl) ⟨rfl, by decide, by decide⟩ K76.ok rfl rfl (by kernel_rfl) K76.main
