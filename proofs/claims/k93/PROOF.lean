import PyProof.Rows.All
import Wide.All
import OpenK.AllK
import Wide.FinOn
import KE.KStateDown
import HandS.ForMost
import HandS.Exc
import HandS.WordsExc
import HandS.Defaults
import HandS.HeadHook1
import HandS.HeadHook2
import HandS.ExcOwn
import HandS.TupAny
import HandS.IsInst
import HandS.Style
import HandS.Wide
import HandS.Flow
import HandS.ExcInit
import HandS.TryMany
import HandS.ExcField
import HandS.ExcIs
import KE.KExcIs
import KE.GoesEnum
import HandS.Iter
import HandS.Strs
import HandS.TupMul
import PyProof.FactsAll.list_0
import PyProof.FactsAll.list_3
import PyProof.StrLawsIn
import PySem.Challenge.RW_whichpass_k93_whole_spoilt_programs_code
import HandS.Head0
import HandS.Head1
import HandS.Head2
import HandS.HeadEnd
set_option Elab.async false
set_option linter.all false
set_option maxRecDepth 100000
set_option maxHeartbeats 4000000
set_option autoImplicit false
namespace Sm
open PySem PySem.Spec PyProof.Rows L2

inductive D where
  | non | bl (b : Bool) | int (i : Int) | str (s : Str) | tup (xs : List D) | ref (n : Nat) | fl (xs : List D) | exc (c : Str) (ks : List Str) (xs : List D)
  deriving Inhabited
inductive C where
  | lst (xs : List D) | dict (kvs : List (Key × D)) | ins (c : Str) (fs : List (Str × D))
abbrev Hs := List C
abbrev Lo := List (Option D)
inductive Res (α : Type) where
  | ok (a : α) (h : Hs) | exc (c : Str) (fs : List (Str × D)) (h : Hs) | bad
def Res.bind {α β : Type} (r : Res α) (g : α → Hs → Res β) : Res β := match r with
  | .ok a h => g a h
  | .exc c fs h => .exc c fs h
  | .bad => .bad
@[simp] theorem Res.bind_ok {α β : Type} (a : α) (h : Hs) (g : α → Hs → Res β) : (Res.ok a h).bind g = g a h := rfl
@[simp] theorem Res.bind_exc {α β : Type} (c : Str) (fs : List (Str × D)) (h : Hs) (g : α → Hs → Res β) : (Res.exc c fs h : Res α).bind g = .exc c fs h := rfl
@[simp] theorem Res.bind_bad {α β : Type} (g : α → Hs → Res β) : (Res.bad : Res α).bind g = .bad := rfl
inductive Out where
  | nx (σ : Lo) (h : Hs) | rt (d : D) (h : Hs) | bk (σ : Lo) (h : Hs) | ct (σ : Lo) (h : Hs) | exc (c : Str) (fs : List (Str × D)) (σ : Lo) (h : Hs) | bad
abbrev ES := Lo → Hs → Res D
abbrev BS := Lo → Hs → Res Bool
abbrev AS := Lo → Hs → Res (List D)
abbrev SS := Lo → Hs → Out
abbrev FS := List D → Hs → Res D

structure Kx where
  K : PySem.W.Frag
  xo : Option (Addr × Str × Addr)
def FlOk (K : PySem.W.Frag) (H : Hp) (a : Addr) (xs : List V) : Prop := (∃ o, H a = some (.frz o (.lst xs))) ∨ SqL K (fun _ => none) a xs
mutual
def Rep (κ : Kx) (ι : List Addr) (H : Hp) : D → V → Prop
  | .non, v => v = .non
  | .bl b, v => v = .bl b
  | .int i, v => v = .int i
  | .str s, v => v = .str s
  | .tup xs, v => ∃ a vs, v = .ref a ∧ SqT κ.K H a vs ∧ RepL κ ι H xs vs
  | .ref n, v => ∃ a, ι[n]? = some a ∧ v = .ref a
  | .fl xs, v => ∃ a vs, v = .ref a ∧ FlOk κ.K H a vs ∧ RepL κ ι H xs vs
  | .exc c ks xs, v => ∃ a d vs, κ.xo = some (a, c, d) ∧ v = .ref a ∧ H d = some (.xd (ks.zip vs)) ∧ RepL κ ι H xs vs
def RepL (κ : Kx) (ι : List Addr) (H : Hp) : List D → List V → Prop
  | [], vs => vs = []
  | x :: xs, vs => ∃ v vr, vs = v :: vr ∧ Rep κ ι H x v ∧ RepL κ ι H xs vr
end
def RepF (κ : Kx) (ι : List Addr) (H : Hp) {α : Type} : List (α × D) → List (α × V) → Prop
  | [], vs => vs = []
  | (k, x) :: xs, vs => ∃ v vr, vs = (k, v) :: vr ∧ Rep κ ι H x v ∧ RepF κ ι H xs vr
def CellOk (κ : Kx) (ι : List Addr) (H : Hp) (a : Addr) : C → Prop
  | .lst xs => ∃ vs, H a = some (.lst vs) ∧ RepL κ ι H xs vs
  | .dict kvs => ∃ vs, H a = some (.dK vs) ∧ RepF κ ι H kvs vs
  | .ins c fs => ∃ dx vs, H a = some (.ins (He.ga κ.K c) dx vs) ∧ RepF κ ι H fs vs
structure RelH (κ : Kx) (ι : List Addr) (h : Hs) (H : Hp) : Prop where
  len : ι.length = h.length
  nd : ι.Nodup
  cell : ∀ (n : Nat) c, h[n]? = some c → ∃ a, ι[n]? = some a ∧ CellOk κ ι H a c
def RelS (κ : Kx) (ι : List Addr) (H : Hp) (σd : Lo) (σ : L2.St) : Prop := σd.length = σ.length ∧ ∀ (i : Nat) d, σd[i]? = some (some d) → ∃ v, σ[i]? = some (some v) ∧ Rep κ ι H d v
structure Ext (K : PySem.W.Frag) (H H' : Hp) : Prop where
  tup : ∀ a xs, SqT K H a xs → SqT K H' a xs
  fl : ∀ a xs, FlOk K H a xs → FlOk K H' a xs
  xd : ∀ a fs, H a = some (.xd fs) → H' a = some (.xd fs)
theorem Ext.refl (K : PySem.W.Frag) (H : Hp) : Ext K H H := ⟨fun _ _ h => h, fun _ _ h => h, fun _ _ h => h⟩
theorem Ext.trans {K : PySem.W.Frag} {H H1 H2 : Hp} (a : Ext K H H1) (b : Ext K H1 H2) : Ext K H H2 :=
  ⟨fun _ _ h => b.tup _ _ (a.tup _ _ h), fun _ _ h => b.fl _ _ (a.fl _ _ h), fun _ _ h => b.xd _ _ (a.xd _ _ h)⟩
def Soft : Option HO → Prop
  | some (.tup _) => False
  | some (.frz _ _) => False
  | some (.xd _) => False
  | _ => True
theorem Ext.upd {K : PySem.W.Frag} {H : Hp} {p : Addr} {o : HO} (h : Soft (H p)) : Ext K H (upd H p o) := by
  refine ⟨fun a xs q => ?_, fun a xs q => ?_, fun a fs q => ?_⟩
  · rcases q with (q | ⟨o', q⟩) | q
    · have ne : a ≠ p := fun e => by rw [e] at q; rw [q] at h; exact h
      exact .inl (.inl (by rw [upd_ne ne]; exact q))
    · have ne : a ≠ p := fun e => by rw [e] at q; rw [q] at h; exact h
      exact .inl (.inr ⟨o', by rw [upd_ne ne]; exact q⟩)
    · exact .inr q
  · rcases q with ⟨o', q⟩ | q
    · have ne : a ≠ p := fun e => by rw [e] at q; rw [q] at h; exact h
      exact .inl ⟨o', by rw [upd_ne ne]; exact q⟩
    · exact .inr q
  · have ne : a ≠ p := fun e => by rw [e] at q; rw [q] at h; exact h
    rw [upd_ne ne]; exact q
theorem soft_none {H : Hp} {p : Addr} (h : H p = none) : Soft (H p) := by rw [h]; trivial
theorem Ext.new {K : PySem.W.Frag} {H : Hp} {p : Addr} {o : HO} (h : H p = none) : Ext K H (L2.upd H p o) := Ext.upd (soft_none h)
def Kx.le (κ κ' : Kx) : Prop := κ.K = κ'.K ∧ (κ.xo = κ'.xo ∨ κ.xo = none)
theorem Kx.le_refl (κ : Kx) : κ.le κ := ⟨rfl, .inl rfl⟩
mutual
theorem Rep.mono {κ κ' : Kx} {ι ι' : List Addr} {H H' : Hp} (hk : κ.le κ') (hp : ι <+: ι') (e : Ext κ.K H H') : ∀ {d : D} {v : V}, Rep κ ι H d v → Rep κ' ι' H' d v
  | .non, _, h => by simp only [Rep] at *; exact h
  | .bl _, _, h => by simp only [Rep] at *; exact h
  | .int _, _, h => by simp only [Rep] at *; exact h
  | .str _, _, h => by simp only [Rep] at *; exact h
  | .tup xs, _, h => by
    simp only [Rep] at *
    obtain ⟨a, vs, e1, e2, e3⟩ := h
    exact ⟨a, vs, e1, by rw [← hk.1]; exact e.tup _ _ e2, RepL.mono hk hp e e3⟩
  | .ref n, _, h => by
    simp only [Rep] at *
    obtain ⟨a, e1, e2⟩ := h
    exact ⟨a, by obtain ⟨r, rfl⟩ := hp; rw [List.getElem?_append_left (List.getElem?_eq_some_iff.mp e1).1]; exact e1, e2⟩
  | .fl xs, _, h => by
    simp only [Rep] at *
    obtain ⟨a, vs, e1, e2, e3⟩ := h
    exact ⟨a, vs, e1, by rw [← hk.1]; exact e.fl _ _ e2, RepL.mono hk hp e e3⟩
  | .exc c ks xs, _, h => by
    simp only [Rep] at *
    obtain ⟨a, d, vs, e1, e2, e3, e4⟩ := h
    refine ⟨a, d, vs, ?_, e2, e.xd _ _ e3, RepL.mono hk hp e e4⟩
    rcases hk.2 with q | q
    · rw [← q]; exact e1
    · rw [q] at e1; cases e1
theorem RepL.mono {κ κ' : Kx} {ι ι' : List Addr} {H H' : Hp} (hk : κ.le κ') (hp : ι <+: ι') (e : Ext κ.K H H') : ∀ {ds : List D} {vs : List V}, RepL κ ι H ds vs → RepL κ' ι' H' ds vs
  | [], _, h => by simp only [RepL] at *; exact h
  | d :: ds, _, h => by
    simp only [RepL] at *
    obtain ⟨v, vr, e1, e2, e3⟩ := h
    exact ⟨v, vr, e1, Rep.mono hk hp e e2, RepL.mono hk hp e e3⟩
end
section
variable {κ : Kx} {ι ι' : List Addr} {H H' : Hp} {h h' : Hs} {σd : Lo} {σ : L2.St}
theorem RepF.mono {α : Type} (hp : ι <+: ι') (e : Ext κ.K H H') : ∀ {ds : List (α × D)} {vs : List (α × V)}, RepF κ ι H ds vs → RepF κ ι' H' ds vs
  | [], _, q => q
  | (k, d) :: ds, _, ⟨v, vr, e1, e2, e3⟩ => ⟨v, vr, e1, Rep.mono κ.le_refl hp e e2, RepF.mono hp e e3⟩
theorem RelS.mono (hp : ι <+: ι') (e : Ext κ.K H H') (q : RelS κ ι H σd σ) : RelS κ ι' H' σd σ :=
  ⟨q.1, fun i d hd => let ⟨v, hv, r⟩ := q.2 i d hd; ⟨v, hv, r.mono κ.le_refl hp e⟩⟩
theorem RelS.set {d : D} {v : V} (q : RelS κ ι H σd σ) (r : Rep κ ι H d v) (i : Nat) : RelS κ ι H (σd.set i (some d)) (σ.set i (some v)) := by
  refine ⟨by simp [q.1], fun j e hj => ?_⟩
  by_cases hij : i = j
  · subst hij
    by_cases hl : i < σd.length
    · rw [List.getElem?_set_self hl] at hj
      cases hj
      exact ⟨v, List.getElem?_set_self (by rw [← q.1]; exact hl), r⟩
    · rw [List.getElem?_eq_none (by simpa using hl)] at hj
      cases hj
  · rw [List.getElem?_set_ne hij] at hj ⊢
    exact q.2 j e hj
theorem RelS.forget (q : RelS κ ι H σd σ) (i : Nat) : RelS κ ι H (σd.set i none) (σ.set i none) := by
  refine ⟨by simp [q.1], fun j e hj => ?_⟩
  by_cases hij : i = j
  · subst hij
    by_cases hl : i < σd.length
    · rw [List.getElem?_set_self hl] at hj
      cases hj
    · rw [List.getElem?_eq_none (by simpa using hl)] at hj
      cases hj
  · rw [List.getElem?_set_ne hij] at hj ⊢
    exact q.2 j e hj
theorem RepL.length : ∀ {ds : List D} {vs : List V}, RepL κ ι H ds vs → ds.length = vs.length
  | [], _, q => by simp only [RepL] at q; rw [q] <;> rfl
  | d :: ds, _, q => by
    simp only [RepL] at q
    obtain ⟨v, vr, e1, _, e3⟩ := q
    rw [e1, List.length_cons, List.length_cons, RepL.length e3]
theorem RepL.get : ∀ {ds : List D} {vs : List V} {i : Nat} {d : D}, RepL κ ι H ds vs → ds[i]? = some d → ∃ v, vs[i]? = some v ∧ Rep κ ι H d v
  | [], _, _, _, _, e => by simp at e
  | d :: ds, _, i, _, q, e => by
    simp only [RepL] at q
    obtain ⟨v, vr, rfl, e2, e3⟩ := q
    cases i with
    | zero =>
      simp at e
      subst e
      exact ⟨v, rfl, e2⟩
    | succ i =>
      simp at e
      obtain ⟨w, h1, h2⟩ := RepL.get e3 e
      exact ⟨w, by simpa using h1, h2⟩
theorem RepL.nil : RepL κ ι H [] [] := by simp only [RepL]
theorem RepL.cons {d : D} {v : V} {ds : List D} {vs : List V} (a : Rep κ ι H d v) (b : RepL κ ι H ds vs) : RepL κ ι H (d :: ds) (v :: vs) := by
  simp only [RepL]
  exact ⟨v, vs, rfl, a, b⟩
theorem RepL.append : ∀ {ds es : List D} {vs us : List V}, RepL κ ι H ds vs → RepL κ ι H es us → RepL κ ι H (ds ++ es) (vs ++ us)
  | [], _, _, _, q, r => by
    simp only [RepL] at q
    subst q
    exact r
  | d :: ds, _, _, _, q, r => by
    simp only [RepL] at q
    obtain ⟨v, vr, rfl, e2, e3⟩ := q
    exact .cons e2 (RepL.append e3 r)
theorem RepL.take (n : Nat) : ∀ {ds : List D} {vs : List V} {n : Nat}, RepL κ ι H ds vs → RepL κ ι H (ds.take n) (vs.take n)
  | _, _, 0, _ => by simpa using RepL.nil
  | [], _, n + 1, q => by simp only [RepL] at q; subst q; simpa using RepL.nil
  | d :: ds, _, n + 1, q => by
    simp only [RepL] at q
    obtain ⟨v, vr, rfl, e2, e3⟩ := q
    rw [List.take_succ_cons, List.take_succ_cons]
    exact .cons e2 (RepL.take n e3)
theorem RepL.drop : ∀ {ds : List D} {vs : List V} {n : Nat}, RepL κ ι H ds vs → RepL κ ι H (ds.drop n) (vs.drop n)
  | _, _, 0, q => by simpa using q
  | [], _, n + 1, q => by simp only [RepL] at q; subst q; simpa using RepL.nil
  | d :: ds, _, n + 1, q => by
    simp only [RepL] at q
    obtain ⟨v, vr, rfl, e2, e3⟩ := q
    rw [List.drop_succ_cons, List.drop_succ_cons]
    exact RepL.drop e3
theorem RepL.set {d : D} {v : V} : ∀ {ds : List D} {vs : List V} {i : Nat}, RepL κ ι H ds vs → Rep κ ι H d v → RepL κ ι H (ds.set i d) (vs.set i v)
  | [], _, _, q, _ => by simp only [RepL] at q; subst q; simpa using RepL.nil
  | x :: ds, _, 0, q, r => by
    simp only [RepL] at q
    obtain ⟨w, vr, rfl, e2, e3⟩ := q
    exact .cons r e3
  | x :: ds, _, i + 1, q, r => by
    simp only [RepL] at q
    obtain ⟨w, vr, rfl, e2, e3⟩ := q
    exact .cons e2 (RepL.set e3 r)
theorem RepL.eraseIdx : ∀ {ds : List D} {vs : List V} {i : Nat}, RepL κ ι H ds vs → RepL κ ι H (ds.eraseIdx i) (vs.eraseIdx i)
  | [], _, _, q => by simp only [RepL] at q; subst q; simpa using RepL.nil
  | x :: ds, _, 0, q => by
    simp only [RepL] at q
    obtain ⟨w, vr, rfl, e2, e3⟩ := q
    exact e3
  | x :: ds, _, i + 1, q => by
    simp only [RepL] at q
    obtain ⟨w, vr, rfl, e2, e3⟩ := q
    exact .cons e2 (RepL.eraseIdx e3)
theorem RepL.dropLast : ∀ {ds : List D} {vs : List V}, RepL κ ι H ds vs → RepL κ ι H ds.dropLast vs.dropLast := fun {ds vs} q => by
  rw [List.dropLast_eq_take, List.dropLast_eq_take, ← q.length]
  exact q.take 0
theorem RepL.reverse : ∀ {ds : List D} {vs : List V}, RepL κ ι H ds vs → RepL κ ι H ds.reverse vs.reverse
  | [], _, q => by simp only [RepL] at q; subst q; exact RepL.nil
  | x :: ds, _, q => by
    simp only [RepL] at q
    obtain ⟨w, vr, rfl, e2, e3⟩ := q
    rw [List.reverse_cons, List.reverse_cons]
    exact (RepL.reverse e3).append (.cons e2 .nil)
theorem RepL.map {α : Type} {f : α → D} {g : α → V} (r : ∀ a, Rep κ ι H (f a) (g a)) : ∀ l : List α, RepL κ ι H (l.map f) (l.map g)
  | [] => .nil
  | a :: l => .cons (r a) (RepL.map r l)
theorem CellOk.mono {a : Addr} {c : C} (hp : ι <+: ι') (e : Ext κ.K H H') (he : H' a = H a) (q : CellOk κ ι H a c) : CellOk κ ι' H' a c := by
  cases c with
  | lst xs => obtain ⟨vs, e1, e2⟩ := q; exact ⟨vs, by rw [he]; exact e1, e2.mono κ.le_refl hp e⟩
  | dict kvs => obtain ⟨vs, e1, e2⟩ := q; exact ⟨vs, by rw [he]; exact e1, e2.mono hp e⟩
  | ins c fs => obtain ⟨dx, vs, e1, e2⟩ := q; exact ⟨dx, vs, by rw [he]; exact e1, e2.mono hp e⟩
theorem CellOk.there {a : Addr} {c : C} (q : CellOk κ ι H a c) : ∃ o, H a = some o ∧ Soft (some o) := by
  cases c with
  | lst xs => obtain ⟨vs, e1, e2⟩ := q; exact ⟨_, e1, trivial⟩
  | dict kvs => obtain ⟨vs, e1, e2⟩ := q; exact ⟨_, e1, trivial⟩
  | ins c fs => obtain ⟨dx, vs, e1, e2⟩ := q; exact ⟨_, e1, trivial⟩
theorem pre_refl (ι : List Addr) : ι <+: ι := List.prefix_refl ι
theorem RelH.alloc {p : Addr} {o : HO} {c : C} (r : RelH κ ι h H) (hp : H p = none) (hc : ∀ ι', ι <+: ι' → CellOk κ ι' (upd H p o) p c) : RelH κ (ι ++ [p]) (h ++ [c]) (upd H p o) := by
  have e : Ext κ.K H (upd H p o) := Ext.new hp
  refine ⟨by simp [r.len], ?_, fun n c' hn => ?_⟩
  · rw [List.nodup_append]
    refine ⟨r.nd, by simp, fun a ha b hb => ?_⟩
    simp at hb
    subst hb
    intro eab
    subst eab
    obtain ⟨n, hn, hna⟩ := List.getElem_of_mem ha
    have hnh : n < h.length := by rw [← r.len]; exact hn
    obtain ⟨a', ea, q⟩ := r.cell n h[n] (List.getElem?_eq_getElem hnh)
    rw [List.getElem?_eq_getElem hn] at ea
    cases ea
    obtain ⟨o', e1, _⟩ := q.there
    rw [hna, hp] at e1
    cases e1
  · by_cases hl : n < h.length
    · rw [List.getElem?_append_left hl] at hn
      obtain ⟨a, ea, q⟩ := r.cell n c' hn
      refine ⟨a, by rw [List.getElem?_append_left (by rw [r.len]; exact hl)]; exact ea, ?_⟩
      obtain ⟨o', e1, _⟩ := q.there
      have ne : a ≠ p := ne_of_none e1 hp
      exact q.mono (List.prefix_append _ _) e (upd_ne ne)
    · have hn' : n = h.length := by
        have := (List.getElem?_eq_some_iff.mp hn).1
        simp at this
        omega
      subst hn'
      rw [List.getElem?_append_right (Nat.le_refl _)] at hn
      simp at hn
      subst hn
      refine ⟨p, by rw [← r.len, List.getElem?_append_right (Nat.le_refl _)]; simp, hc _ (List.prefix_append _ _)⟩
theorem RelH.aside {p : Addr} {o : HO} (r : RelH κ ι h H) (hp : H p = none) : RelH κ ι h (upd H p o) := by
  refine ⟨r.len, r.nd, fun n c hn => ?_⟩
  obtain ⟨a, ea, q⟩ := r.cell n c hn
  obtain ⟨o', e1, _⟩ := q.there
  exact ⟨a, ea, q.mono (pre_refl ι) (Ext.new hp) (upd_ne (ne_of_none e1 hp))⟩
theorem RelH.at {n : Nat} {c : C} (r : RelH κ ι h H) (hn : h[n]? = some c) {a : Addr} (ha : ι[n]? = some a) : CellOk κ ι H a c := by
  obtain ⟨a', ea, q⟩ := r.cell n c hn
  rw [ha] at ea
  cases ea
  exact q
theorem RelH.put {n : Nat} {c c' : C} {a : Addr} {o : HO} (r : RelH κ ι h H) (hn : h[n]? = some c) (ha : ι[n]? = some a) (hc : CellOk κ ι (upd H a o) a c') : RelH κ ι (h.set n c') (upd H a o) := by
  obtain ⟨oa, ea, sa⟩ := (r.at hn ha).there
  have e : Ext κ.K H (upd H a o) := Ext.upd (by rw [ea]; exact sa)
  refine ⟨by simp [r.len], r.nd, fun m d hm => ?_⟩
  by_cases hmn : n = m
  · subst hmn
    rw [List.getElem?_set_self (List.getElem?_eq_some_iff.mp hn).1] at hm
    cases hm
    exact ⟨a, ha, hc⟩
  · rw [List.getElem?_set_ne hmn] at hm
    obtain ⟨b, eb, q⟩ := r.cell m d hm
    refine ⟨b, eb, q.mono (pre_refl ι) e (upd_ne fun z => ?_)⟩
    subst z
    have h1 := (List.getElem?_eq_some_iff.mp ha)
    have h2 := (List.getElem?_eq_some_iff.mp eb)
    obtain ⟨l1, g1⟩ := h1
    obtain ⟨l2, g2⟩ := h2
    exact hmn ((List.getElem_inj r.nd).mp (g1.trans g2.symm))
theorem RelH.ext_put {n : Nat} {c : C} {a : Addr} {o : HO} (r : RelH κ ι h H) (hn : h[n]? = some c) (ha : ι[n]? = some a) : Ext κ.K H (upd H a o) := by
  obtain ⟨oa, ea, sa⟩ := (r.at hn ha).there
  exact Ext.upd (by rw [ea]; exact sa)
end

abbrev PK (α : Type) := α → Hs → List Addr → Hp → Prop
section
variable {α β : Type} (κ : Kx) (W : WX)
def PostR (ι : List Addr) (H : Hp) (σ : L2.St) (P : PK α) : Res α → Prop
  | .ok a h => ∀ ι' H', ι <+: ι' → Ext κ.K H H' → RelH κ ι' h H' → P a h ι' H'
  | .exc c fs h => ∀ ι' H' d vs, ι <+: ι' → Ext κ.K H H' → RelH κ ι' h H' → H' d = some (.xd vs) → RepF κ ι' H' fs vs → W (.ref (He.ga κ.K c)) (some d) σ H'
  | .bad => False
abbrev PE_ (Q : VK) : PK D := fun d _ ι H => ∀ v, Rep κ ι H d v → Q v H
abbrev PB_ (Q : Bool → Hp → Prop) : PK Bool := fun b _ _ H => Q b H
abbrev PA_ (Q : List V → Hp → Prop) : PK (List D) := fun ds _ ι H => ∀ vs, RepL κ ι H ds vs → Q vs H
def rdE (f : ES) : TE := fun σ H Q => ∃ ι σd h, RelS κ ι H σd σ ∧ RelH κ ι h H ∧ PostR κ W ι H σ (PE_ κ Q) (f σd h)
def rdB (f : BS) : TT := fun σ H Q => ∃ ι σd h, RelS κ ι H σd σ ∧ RelH κ ι h H ∧ PostR κ W ι H σ (PB_ Q) (f σd h)
def rdA (f : AS) : TA := fun σ H Q => ∃ ι σd h, RelS κ ι H σd σ ∧ RelH κ ι h H ∧ PostR κ W ι H σ (PA_ κ Q) (f σd h)
def PostS (ι : List Addr) (H : Hp) (E : Ends) : Out → Prop
  | .nx σd h => ∀ ι' H' σ', ι <+: ι' → Ext κ.K H H' → RelS κ ι' H' σd σ' → RelH κ ι' h H' → E.nx σ' H'
  | .bk σd h => ∀ ι' H' σ', ι <+: ι' → Ext κ.K H H' → RelS κ ι' H' σd σ' → RelH κ ι' h H' → E.bk σ' H'
  | .ct σd h => ∀ ι' H' σ', ι <+: ι' → Ext κ.K H H' → RelS κ ι' H' σd σ' → RelH κ ι' h H' → E.ct σ' H'
  | .rt d h => ∀ ι' H' v, ι <+: ι' → Ext κ.K H H' → RelH κ ι' h H' → Rep κ ι' H' d v → E.rt v H'
  | .exc c fs σd h => ∀ ι' H' σ' d vs, ι <+: ι' → Ext κ.K H H' → RelS κ ι' H' σd σ' → RelH κ ι' h H' → H' d = some (.xd vs) → RepF κ ι' H' fs vs → W (.ref (He.ga κ.K c)) (some d) σ' H'
  | .bad => False
def rdS (f : SS) : TS := fun E σ H => ∃ ι σd h, RelS κ ι H σd σ ∧ RelH κ ι h H ∧ PostS κ W ι H E (f σd h)
end
section
variable {α β : Type} {κ : Kx} {W : WX} {ι ι' : List Addr} {H H' : Hp} {σ : L2.St}
theorem PostR.mono {P : PK α} {r : Res α} (hp : ι <+: ι') (e : Ext κ.K H H') (q : PostR κ W ι H σ P r) : PostR κ W ι' H' σ P r := by
  cases r with
  | ok a h => exact fun ι2 H2 p2 e2 r2 => q ι2 H2 (hp.trans p2) (e.trans e2) r2
  | exc c fs h => exact fun ι2 H2 d vs p2 e2 r2 => q ι2 H2 d vs (hp.trans p2) (e.trans e2) r2
  | bad => exact q
theorem PostR.imp {P P' : PK α} {r : Res α} (q : PostR κ W ι H σ P r) (f : ∀ a h ι' H', ι <+: ι' → Ext κ.K H H' → RelH κ ι' h H' → P a h ι' H' → P' a h ι' H') : PostR κ W ι H σ P' r := by
  cases r with
  | ok a h => exact fun ι2 H2 p2 e2 r2 => f _ _ _ _ p2 e2 r2 (q ι2 H2 p2 e2 r2)
  | exc c fs h => exact q
  | bad => exact q
theorem PostR.bind {P : PK β} {r : Res α} {g : α → Hs → Res β} (q : PostR κ W ι H σ P (r.bind g)) : PostR κ W ι H σ (fun a h ι1 H1 => PostR κ W ι1 H1 σ P (g a h)) r := by
  cases r with
  | ok a h => exact fun ι2 H2 p2 e2 r2 => PostR.mono p2 e2 q
  | exc c fs h => exact q
  | bad => exact q
theorem PostR.now {P : PK α} {a : α} {h : Hs} (q : PostR κ W ι H σ P (.ok a h)) (r : RelH κ ι h H) : P a h ι H := q ι H (pre_refl ι) (Ext.refl _ _) r
theorem PostS.mono {E : Ends} {r : Out} (hp : ι <+: ι') (e : Ext κ.K H H') (q : PostS κ W ι H E r) : PostS κ W ι' H' E r := by
  cases r with
  | nx σd h => exact fun ι2 H2 s2 p2 e2 => q ι2 H2 s2 (hp.trans p2) (e.trans e2)
  | bk σd h => exact fun ι2 H2 s2 p2 e2 => q ι2 H2 s2 (hp.trans p2) (e.trans e2)
  | ct σd h => exact fun ι2 H2 s2 p2 e2 => q ι2 H2 s2 (hp.trans p2) (e.trans e2)
  | rt d h => exact fun ι2 H2 v p2 e2 => q ι2 H2 v (hp.trans p2) (e.trans e2)
  | exc c fs σd h => exact fun ι2 H2 s2 d vs p2 e2 => q ι2 H2 s2 d vs (hp.trans p2) (e.trans e2)
  | bad => exact q
end

def SE (X : Cx) (κ : Kx) (W : WX) (e : Expr) (f : ES) : Prop := PE X e (rdE κ W f)
def SB (X : Cx) (κ : Kx) (W : WX) (e : Expr) (f : BS) : Prop := PT X e (rdB κ W f)
def SW (X : Cx) (κ : Kx) (W : WX) (e : Expr) (f : BS) : Prop := PW X e (rdB κ W f)
def SA (X : Cx) (κ : Kx) (W : WX) (es : List Expr) (f : AS) : Prop := PA X es (rdA κ W f)
def S1 (X : Cx) (κ : Kx) (W : WX) (s : Stmt) (f : SS) : Prop := PS X s (rdS κ W f)
def SN (X : Cx) (κ : Kx) (W : WX) (s : List Stmt) (f : SS) : Prop := PSs X s (rdS κ W f)
theorem pe_imp {X : Cx} {e : Expr} {t t' : TE} (h : PE X e t) (i : ∀ σ H Q, t' σ H Q → t σ H Q) : PE X e t' := ⟨fun pins s σ H Q I q => h.run pins s σ H Q I (i σ H Q q)⟩
theorem pt_imp {X : Cx} {e : Expr} {t t' : TT} (h : PT X e t) (i : ∀ σ H Q, t' σ H Q → t σ H Q) : PT X e t' := ⟨fun pins s σ H Q I q => h.run pins s σ H Q I (i σ H Q q)⟩
theorem pw_imp {X : Cx} {e : Expr} {t t' : TT} (h : PW X e t) (i : ∀ σ H Q, t' σ H Q → t σ H Q) : PW X e t' := ⟨fun w pins s σ H Q I q => h.run w pins s σ H Q I (i σ H Q q)⟩
theorem pa_imp {X : Cx} {e : List Expr} {t t' : TA} (h : PA X e t) (i : ∀ σ H Q, t' σ H Q → t σ H Q) : PA X e t' := ⟨fun p pins s σ H Q I q => h.run p pins s σ H Q I (i σ H Q q)⟩
theorem ps_imp {X : Cx} {e : Stmt} {t t' : TS} (h : PS X e t) (i : ∀ E σ H, t' E σ H → t E σ H) : PS X e t' := ⟨fun pins s σ H E I q => h.run pins s σ H E I (i E σ H q)⟩
theorem pss_imp {X : Cx} {e : List Stmt} {t t' : TS} (h : PSs X e t) (i : ∀ E σ H, t' E σ H → t E σ H) : PSs X e t' := ⟨fun pins s σ H E I q => h.run pins s σ H E I (i E σ H q)⟩
end Sm

set_option Elab.async false
set_option linter.all false
set_option maxRecDepth 100000
set_option maxHeartbeats 4000000
set_option autoImplicit false
namespace Sm
open PySem PySem.Spec PyProof.Rows L2

mutual
def D.low (n : Nat) : D → Bool
  | .ref m => decide (m < n)
  | .tup xs => lowL n xs
  | .fl xs => lowL n xs
  | .exc _ _ xs => lowL n xs
  | _ => true
def lowL (n : Nat) : List D → Bool
  | [] => true
  | x :: xs => x.low n && lowL n xs
end
def C.low (n : Nat) : C → Bool
  | .lst xs => lowL n xs
  | .dict kvs => lowL n (kvs.map (·.2))
  | .ins _ fs => lowL n (fs.map (·.2))
def GcOk (h : Hs) (d : D) (h' : Hs) : Prop := h.length ≤ h'.length ∧ d.low h.length = true ∧ ∀ (n : Nat) c, n < h.length → h'[n]? = some c → h[n]? = some c ∨ c.low h.length = true
open Classical in
noncomputable def gc (h : Hs) : Res D → Res D
  | .ok d h' => if GcOk h d h' then .ok d (h'.take h.length) else .ok d h'
  | r => r
mutual
theorem below_mono {κ : Kx} {ι ι' : List Addr} {H' : Hp} : ∀ {d : D} {v : V}, ι <+: ι' → d.low ι.length = true → Rep κ ι' H' d v → Rep κ ι H' d v
  | .non, _, _, _, q => by simp only [Rep] at *; exact q
  | .bl _, _, _, _, q => by simp only [Rep] at *; exact q
  | .int _, _, _, _, q => by simp only [Rep] at *; exact q
  | .str _, _, _, _, q => by simp only [Rep] at *; exact q
  | .ref n, _, p, b, q => by
    simp only [Rep, D.low, decide_eq_true_eq] at *
    obtain ⟨a, e1, e2⟩ := q
    obtain ⟨r, rfl⟩ := p
    rw [List.getElem?_append_left b] at e1
    exact ⟨a, e1, e2⟩
  | .tup xs, _, p, b, q => by
    simp only [Rep, D.low] at *
    obtain ⟨a, vs, e1, e2, e3⟩ := q
    exact ⟨a, vs, e1, e2, lowL_monoL p b e3⟩
  | .fl xs, _, p, b, q => by
    simp only [Rep, D.low] at *
    obtain ⟨a, vs, e1, e2, e3⟩ := q
    exact ⟨a, vs, e1, e2, lowL_monoL p b e3⟩
  | .exc _ _ xs, _, p, b, q => by
    simp only [Rep, D.low] at *
    obtain ⟨a, d, vs, e1, e2, e3, e4⟩ := q
    exact ⟨a, d, vs, e1, e2, e3, lowL_monoL p b e4⟩
theorem lowL_monoL {κ : Kx} {ι ι' : List Addr} {H' : Hp} : ∀ {ds : List D} {vs : List V}, ι <+: ι' → lowL ι.length ds = true → RepL κ ι' H' ds vs → RepL κ ι H' ds vs
  | [], _, _, _, q => by simp only [RepL] at *; exact q
  | d :: ds, _, p, b, q => by
    simp only [RepL, lowL, Bool.and_eq_true] at *
    obtain ⟨v, vr, e1, e2, e3⟩ := q
    exact ⟨v, vr, e1, below_mono p b.1 e2, lowL_monoL p b.2 e3⟩
end
mutual
theorem rep_below {κ : Kx} {ι : List Addr} {H : Hp} : ∀ {d : D} {v : V}, Rep κ ι H d v → d.low ι.length = true
  | .non, _, _ => rfl
  | .bl _, _, _ => rfl
  | .int _, _, _ => rfl
  | .str _, _, _ => rfl
  | .ref n, _, q => by
    simp only [Rep] at q
    obtain ⟨a, e1, e2⟩ := q
    simp only [D.low, decide_eq_true_eq]
    exact (List.getElem?_eq_some_iff.mp e1).1
  | .tup xs, _, q => by
    simp only [Rep] at q
    obtain ⟨a, vs, e1, e2, e3⟩ := q
    simp only [D.low]
    exact repL_below e3
  | .fl xs, _, q => by
    simp only [Rep] at q
    obtain ⟨a, vs, e1, e2, e3⟩ := q
    simp only [D.low]
    exact repL_below e3
  | .exc _ _ xs, _, q => by
    simp only [Rep] at q
    obtain ⟨a, d, vs, e1, e2, e3, e4⟩ := q
    simp only [D.low]
    exact repL_below e4
theorem repL_below {κ : Kx} {ι : List Addr} {H : Hp} : ∀ {ds : List D} {vs : List V}, RepL κ ι H ds vs → lowL ι.length ds = true
  | [], _, _ => rfl
  | d :: ds, _, q => by
    simp only [RepL] at q
    obtain ⟨v, vr, e1, e2, e3⟩ := q
    simp only [lowL, Bool.and_eq_true]
    exact ⟨rep_below e2, repL_below e3⟩
end
theorem repF_below {α : Type} {κ : Kx} {ι : List Addr} {H : Hp} : ∀ {ds : List (α × D)} {vs : List (α × V)}, RepF κ ι H ds vs → lowL ι.length (ds.map (·.2)) = true
  | [], _, _ => rfl
  | (k, d) :: ds, _, ⟨v, vr, e1, e2, e3⟩ => by
    simp only [List.map_cons, lowL, Bool.and_eq_true]
    exact ⟨rep_below e2, repF_below e3⟩
theorem belowF_mono {α : Type} {κ : Kx} {ι ι' : List Addr} {H' : Hp} : ∀ {ds : List (α × D)} {vs : List (α × V)}, ι <+: ι' → lowL ι.length (ds.map (·.2)) = true → RepF κ ι' H' ds vs → RepF κ ι H' ds vs
  | [], _, _, _, q => q
  | (k, d) :: ds, _, p, b, ⟨v, vr, e1, e2, e3⟩ => by
    simp only [List.map_cons, lowL, Bool.and_eq_true] at b
    exact ⟨v, vr, e1, below_mono p b.1 e2, belowF_mono p b.2 e3⟩
theorem cell_below {κ : Kx} {ι : List Addr} {H : Hp} {a : Addr} {c : C} (q : CellOk κ ι H a c) : c.low ι.length = true := by
  cases c with
  | lst xs => obtain ⟨vs, _, e⟩ := q; exact repL_below e
  | dict kvs => obtain ⟨vs, _, e⟩ := q; exact repF_below e
  | ins c fs => obtain ⟨dx, vs, _, e⟩ := q; exact repF_below e
theorem cellBelow_mono {κ : Kx} {ι ι' : List Addr} {H' : Hp} {a : Addr} {c : C} (p : ι <+: ι') (b : c.low ι.length = true) (q : CellOk κ ι' H' a c) : CellOk κ ι H' a c := by
  cases c with
  | lst xs => obtain ⟨vs, e1, e⟩ := q; exact ⟨vs, e1, lowL_monoL p b e⟩
  | dict kvs => obtain ⟨vs, e1, e⟩ := q; exact ⟨vs, e1, belowF_mono p b e⟩
  | ins c fs => obtain ⟨dx, vs, e1, e⟩ := q; exact ⟨dx, vs, e1, belowF_mono p b e⟩
theorem RelH.cut {κ : Kx} {ι ι' : List Addr} {h h' : Hs} {H H' : Hp} {d : D} (r : RelH κ ι h H) (p : ι <+: ι') (r' : RelH κ ι' h' H') (g : GcOk h d h') : RelH κ ι (h'.take h.length) H' := by
  obtain ⟨g1, g2, g3⟩ := g
  refine ⟨by rw [r.len, List.length_take, Nat.min_eq_left g1], r'.nd.sublist p.sublist, fun n c hn => ?_⟩
  have hl : n < h.length := by
    have := (List.getElem?_eq_some_iff.mp hn).1
    rw [List.length_take] at this
    omega
  rw [List.getElem?_take_of_lt hl] at hn
  obtain ⟨a, ea, q⟩ := r'.cell n c hn
  have hi : n < ι.length := by rw [r.len]; exact hl
  obtain ⟨s, rfl⟩ := p
  rw [List.getElem?_append_left hi] at ea
  refine ⟨a, ea, cellBelow_mono (List.prefix_append _ _) ?_ q⟩
  rw [r.len]
  rcases g3 n c hl hn with z | z
  · obtain ⟨a', _, q'⟩ := r.cell n c z
    rw [← r.len]
    exact cell_below q'
  · exact z
theorem PostR.gc {κ : Kx} {W : WX} {ι : List Addr} {h : Hs} {H : Hp} {σ : L2.St} {Q : VK} {r : Res D} (rh : RelH κ ι h H) (q : PostR κ W ι H σ (PE_ κ Q) (gc h r)) : PostR κ W ι H σ (PE_ κ Q) r := by
  cases r with
  | bad => exact q
  | exc c fs h' => exact q
  | ok d h' =>
    unfold Sm.gc at q
    by_cases g : GcOk h d h'
    · simp only [if_pos g] at q
      intro ι1 H1 p1 e1 r1 v hv
      refine q ι H1 (pre_refl ι) e1 (rh.cut p1 r1 g) v ?_
      exact below_mono p1 (by rw [rh.len]; exact g.2.1) hv
    · simp only [if_neg g] at q
      exact q
mutual
theorem D.low_le {n m : Nat} (h : n ≤ m) : ∀ {d : D}, d.low n = true → d.low m = true
  | .ref k, q => by simp only [D.low, decide_eq_true_eq] at *; omega
  | .tup xs, q => by simp only [D.low] at *; exact lowL_le h q
  | .fl xs, q => by simp only [D.low] at *; exact lowL_le h q
  | .exc _ _ xs, q => by simp only [D.low] at *; exact lowL_le h q
  | .non, _ => rfl
  | .bl _, _ => rfl
  | .int _, _ => rfl
  | .str _, _ => rfl
theorem lowL_le {n m : Nat} (h : n ≤ m) : ∀ {ds : List D}, lowL n ds = true → lowL m ds = true
  | [], _ => rfl
  | d :: ds, q => by
    simp only [lowL, Bool.and_eq_true] at *
    exact ⟨D.low_le h q.1, lowL_le h q.2⟩
end
theorem C.low_le {n m : Nat} (h : n ≤ m) {c : C} (q : c.low n = true) : c.low m = true := by
  cases c with
  | lst xs => exact lowL_le h q
  | dict kvs => exact lowL_le h q
  | ins c fs => exact lowL_le h q
theorem gc_app {h g : Hs} {d : D} (b : d.low h.length = true) : gc h (.ok d (h ++ g)) = .ok d h := by
  have k : GcOk h d (h ++ g) := ⟨by simp, b, fun n c hn e => .inl (by rw [List.getElem?_append_left hn] at e; exact e)⟩
  unfold gc
  simp only [if_pos k, List.take_left']
theorem gc_same {h : Hs} {d : D} (b : d.low h.length = true) : gc h (.ok d h) = .ok d h := by
  have := gc_app (h := h) (g := []) (d := d) b
  rw [List.append_nil] at this
  exact this
theorem gc_same' {h : Hs} {d : D} : gc h (.ok d h) = .ok d h := by
  unfold gc
  by_cases k : GcOk h d h
  · simp only [if_pos k, List.take_length]
  · simp only [if_neg k]
@[simp] theorem gc_exc {h h' : Hs} {c : Str} {fs : List (Str × D)} : gc h (.exc c fs h') = .exc c fs h' := rfl
@[simp] theorem gc_bad {h : Hs} : gc h .bad = .bad := rfl

def eVar (i : Nat) : ES := fun σ h => match σ[i]? with
  | some (some d) => .ok d h
  | _ => .bad
def eC (d : D) : ES := fun _ h => .ok d h
def eOp1 (g : D → Hs → Res D) (a : ES) : ES := fun σ h => (a σ h).bind g
def eOp2 (g : D → D → Hs → Res D) (a b : ES) : ES := fun σ h => (a σ h).bind fun x h1 => (b σ h1).bind fun y h2 => g x y h2
def aNil : AS := fun _ h => .ok [] h
def aCons (a : ES) (r : AS) : AS := fun σ h => (a σ h).bind fun x h1 => (r σ h1).bind fun xs h2 => .ok (x :: xs) h2
def eTup (a : AS) : ES := fun σ h => (a σ h).bind fun ds h1 => if ds.length ≤ 100000 then .ok (.tup ds) h1 else .bad
def eLst (a : AS) : ES := fun σ h => (a σ h).bind fun ds h1 => if ds.length ≤ 100000 then .ok (.ref h1.length) (h1 ++ [.lst ds]) else .bad
def eCall (g : FS) (a : AS) : ES := fun σ h => (a σ h).bind g
def eMeth (g : D → List D → Hs → Res D) (o : ES) (a : AS) : ES := fun σ h => (o σ h).bind fun x h1 => (a σ h1).bind fun xs h2 => g x xs h2
noncomputable def eTrim (e : ES) : ES := fun σ h => gc h (e σ h)
def bVal (e : ES) : BS := fun σ h => (e σ h).bind fun d h1 => match d with
  | .bl b => .ok b h1
  | _ => .bad
def bAnd (a b : BS) : BS := fun σ h => (a σ h).bind fun x h1 => if x = true then b σ h1 else .ok false h1
def bOr (a b : BS) : BS := fun σ h => (a σ h).bind fun x h1 => if x = true then .ok true h1 else b σ h1
def bNot (a : BS) : BS := fun σ h => (a σ h).bind fun x h1 => .ok (!x) h1
def truD (h : Hs) : D → Option Bool
  | .non => some false
  | .bl b => some b
  | .int i => some (i != 0)
  | .str s => if s.length ≤ 100000 then some (s.length != 0) else none
  | .tup xs => some (!xs.isEmpty)
  | .ref n => (match h[n]? with
    | some (.lst xs) => some (!xs.isEmpty)
    | some (.dict kvs) => some (!kvs.isEmpty)
    | _ => none)
  | _ => none
def bTru (e : ES) : BS := fun σ h => (e σ h).bind fun d h1 => match truD h1 d with
  | some b => .ok b h1
  | none => .bad
def eAndV (a b : ES) : ES := fun σ h => (a σ h).bind fun x h1 => match x with
  | .bl true => b σ h1
  | .bl false => .ok (.bl false) h1
  | _ => .bad
def eOrV (a b : ES) : ES := fun σ h => (a σ h).bind fun x h1 => match x with
  | .bl true => .ok (.bl true) h1
  | .bl false => b σ h1
  | _ => .bad
def eNotV (a : ES) : ES := fun σ h => (a σ h).bind fun x h1 => match x with
  | .bl b => .ok (.bl (!b)) h1
  | _ => .bad
def eIf (t : BS) (a b : ES) : ES := fun σ h => (t σ h).bind fun x h1 => if x = true then a σ h1 else b σ h1
def eChain (g g' : D → D → Hs → Res D) (a b c : ES) : ES := fun σ h => (a σ h).bind fun x h1 => (b σ h1).bind fun y h2 => (g x y h2).bind fun z h3 => match z with
  | .bl true => (c σ h3).bind fun w h4 => g' y w h4
  | .bl false => .ok (.bl false) h3
  | _ => .bad

section
variable {X : Cx} {κ : Kx} {W : WX} {e a b c : Expr} {f fa fb fc : ES} {pos : Pos}
theorem se_var (i : Nat) {x : Str} (hN : X.N[i]? = some x := by rfl) (hv : Vis X.env.scope x := by first | exact Or.inl rfl | exact Or.inr (Or.inl rfl) | exact Or.inr (Or.inr rfl)) (hd : (x == ("__debug__" : Str)) = false := by decide)
    (hcd : (x == ("__classdict__" : Str)) = false := by decide) : SE X κ W (.Name x pos) (eVar i) := by
  refine pe_imp (pe_var hN hv hd hcd) fun σ H Q ⟨ι, σd, h, rs, rh, q⟩ => ?_
  unfold eVar at q
  cases hs : σd[i]? with
  | none => rw [hs] at q; exact q.elim
  | some o =>
    rw [hs] at q
    cases o with
    | none => exact q.elim
    | some d =>
      obtain ⟨v, hv, r⟩ := rs.2 i d hs
      exact ⟨v, hv, q.now rh v r⟩
theorem se_c {d : D} {v : V} (h : PE X e (tC v)) (r : ∀ ι H, Rep κ ι H d v) : SE X κ W e (eC d) := by
  refine pe_imp h fun σ H Q ⟨ι, σd, hh, rs, rh, q⟩ => ?_
  exact q.now rh v (r ι H)
theorem se_int {i j} : SE X κ W (.Constant (.int i) j pos) (eC (.int i)) := se_c pe_int fun _ _ => by simp only [Rep]
theorem se_bl {i j} : SE X κ W (.Constant (.bool i) j pos) (eC (.bl i)) := se_c pe_bl fun _ _ => by simp only [Rep]
theorem se_str {i j} : SE X κ W (.Constant (.str i) j pos) (eC (.str i)) := se_c pe_str fun _ _ => by simp only [Rep]
theorem se_non {j} : SE X κ W (.Constant .none j pos) (eC .non) := se_c pe_non fun _ _ => by simp only [Rep]
theorem se_trim (h : SE X κ W e f) : SE X κ W e (eTrim f) := pe_imp h fun σ H Q ⟨ι, σd, hh, rs, rh, q⟩ => ⟨ι, σd, hh, rs, rh, q.gc rh⟩
theorem two {σd : Lo} {σ : L2.St} {ι : List Addr} {H : Hp} {h : Hs} {P : PK D} {g : D → D → Hs → Res D} (rs : RelS κ ι H σd σ) (rh : RelH κ ι h H) (q : PostR κ W ι H σ P (eOp2 g fa fb σd h)) {R : V → V → Hp → Prop}
    (k : ∀ x y h2 ι2 H2 v w, ι <+: ι2 → Ext κ.K H H2 → RelS κ ι2 H2 σd σ → RelH κ ι2 h2 H2 → Rep κ ι2 H2 x v → Rep κ ι2 H2 y w → PostR κ W ι2 H2 σ P (g x y h2) → R v w H2) : rdE κ W fa σ H fun v H1 => rdE κ W fb σ H1 fun w H2 => R v w H2 := by
  refine ⟨ι, σd, h, rs, rh, (PostR.bind q).imp fun x h1 ι1 H1 p1 e1 r1 q1 v hv => ?_⟩
  refine ⟨ι1, σd, h1, rs.mono p1 e1, r1, (PostR.bind q1).imp fun y h2 ι2 H2 p2 e2 r2 q2 w hw => ?_⟩
  exact k x y h2 ι2 H2 v w (p1.trans p2) (e1.trans e2) (rs.mono (p1.trans p2) (e1.trans e2)) r2 (hv.mono κ.le_refl p2 e2) hw q2
def Sim2 (κ : Kx) (W : WX) (r : R2) (g : D → D → Hs → Res D) : Prop := ∀ (ι : List Addr) (h : Hs) (H : Hp) (σ : L2.St) (x y : D) (v w : V) (Q : VK), RelH κ ι h H → Rep κ ι H x v → Rep κ ι H y w → PostR κ W ι H σ (PE_ κ Q) (g x y h) → r v w H Q
def Sim1 (κ : Kx) (W : WX) (r : V → Hp → VK → Prop) (g : D → Hs → Res D) : Prop := ∀ (ι : List Addr) (h : Hs) (H : Hp) (σ : L2.St) (x : D) (v : V) (Q : VK), RelH κ ι h H → Rep κ ι H x v → PostR κ W ι H σ (PE_ κ Q) (g x h) → r v H Q
def SimA (κ : Kx) (W : WX) (r : List V → Hp → VK → Prop) (g : FS) : Prop := ∀ (ι : List Addr) (h : Hs) (H : Hp) (σ : L2.St) (xs : List D) (vs : List V) (Q : VK), RelH κ ι h H → RepL κ ι H xs vs → PostR κ W ι H σ (PE_ κ Q) (g xs h) → r vs H Q
def SimM (κ : Kx) (W : WX) (r : V → List V → Hp → VK → Prop) (g : D → List D → Hs → Res D) : Prop := ∀ (ι : List Addr) (h : Hs) (H : Hp) (σ : L2.St) (x : D) (xs : List D) (v : V) (vs : List V) (Q : VK), RelH κ ι h H → Rep κ ι H x v → RepL κ ι H xs vs →
  PostR κ W ι H σ (PE_ κ Q) (g x xs h) → r v vs H Q
theorem se_op2 {t : R2} {g : D → D → Hs → Res D} (h : PE X e (tOp t (rdE κ W fa) (rdE κ W fb))) (s : Sim2 κ W t g) : SE X κ W e (eOp2 g fa fb) := by
  refine pe_imp h fun σ H Q ⟨ι, σd, hh, rs, rh, q⟩ => ?_
  exact two rs rh q fun x y h2 ι2 H2 v w _ _ _ r2 hv hw q2 => s ι2 h2 H2 σ x y v w Q r2 hv hw q2
theorem se_bin {op : Operator} {r : R2} {g : D → D → Hs → Res D} (ho : OpR X (binaryOp op) r) (s : Sim2 κ W r g) (ha : SE X κ W a fa) (hb : SE X κ W b fb) : SE X κ W (.BinOp a op b pos) (eOp2 g fa fb) := se_op2 (pe_op ho ha hb) s
theorem se_cmp {op : CmpOp} {r : R2} {g : D → D → Hs → Res D} (ho : OpR X (compareOp op) r) (s : Sim2 κ W r g) (ha : SE X κ W a fa) (hb : SE X κ W b fb) (hm : behindInMarks op b = false := by first | exact nomark _ | rfl) : SE X κ W (.Compare a [op] [b] pos) (eOp2 g fa fb) :=
  se_op2 (pe_cmpR ho ha hb hm) s
theorem se_ix {r : R2} {g : D → D → Hs → Res D} (hr : IxR X r) (s : Sim2 κ W r g) (ha : SE X κ W a fa) (hb : SE X κ W b fb) (hs : PlainIx b := by exact fun _ _ => rfl) : SE X κ W (.Subscript a b pos) (eOp2 g fa fb) := se_op2 (pe_ix hr ha hb hs) s
theorem se_op1 {t : V → Hp → VK → Prop} {g : D → Hs → Res D} (h : PE X e (tUn t (rdE κ W fa))) (s : Sim1 κ W t g) : SE X κ W e (eOp1 g fa) := by
  refine pe_imp h fun σ H Q ⟨ι, σd, hh, rs, rh, q⟩ => ?_
  exact ⟨ι, σd, hh, rs, rh, (PostR.bind q).imp fun x h1 ι1 H1 p1 e1 r1 q1 v hv => s ι1 h1 H1 σ x v Q r1 hv q1⟩
theorem se_un {op : UnaryOp} {r : V → Hp → VK → Prop} {g : D → Hs → Res D} (ho : UnR X (unaryOp op) r) (s : Sim1 κ W r g) (ha : SE X κ W a fa) : SE X κ W (.UnaryOp op a pos) (eOp1 g fa) := se_op1 (pe_un ho ha) s
variable {es : List Expr} {fs : AS}
theorem sa_nil : SA X κ W [] aNil := pa_imp pa_nil fun σ H Q ⟨ι, σd, hh, rs, rh, q⟩ => q.now rh [] .nil
theorem sa_cons (ha : SE X κ W e f) (hr : SA X κ W es fs) (hs : starEach (e :: es) X.env = (false, eval e X.env) :: starEach es X.env := by rfl) : SA X κ W (e :: es) (aCons f fs) := by
  refine pa_imp (pa_cons ha hr hs) fun σ H Q ⟨ι, σd, h, rs, rh, q⟩ => ?_
  refine ⟨ι, σd, h, rs, rh, (PostR.bind q).imp fun x h1 ι1 H1 p1 e1 r1 q1 v hv => ?_⟩
  refine ⟨ι1, σd, h1, rs.mono p1 e1, r1, (PostR.bind q1).imp fun xs h2 ι2 H2 p2 e2 r2 q2 vs hvs => ?_⟩
  exact q2.now r2 (v :: vs) (.cons (hv.mono κ.le_refl p2 e2) hvs)
theorem size5 {n : Nat} (h : n ≤ 100000) : n ≤ sizeLine := Nat.le_trans h (by decide)
theorem se_tup {x1} (ha : SA X κ W es fs) : SE X κ W (.Tuple es x1 pos) (eTup fs) := by
  refine pe_imp (pe_tup ha) fun σ H Q ⟨ι, σd, h, rs, rh, q⟩ => ?_
  refine ⟨ι, σd, h, rs, rh, (PostR.bind q).imp fun xs h1 ι1 H1 p1 e1 r1 q1 vs hvs => ?_⟩
  by_cases hl : xs.length ≤ 100000
  · simp only [if_pos hl] at q1
    refine ⟨by rw [← hvs.length]; exact size5 hl, fun p hp => ?_⟩
    have ex : Ext κ.K H1 (upd H1 p (.tup vs)) := Ext.new hp
    refine q1 ι1 _ (pre_refl ι1) ex (r1.aside hp) (.ref p) ?_
    simp only [Rep]
    exact ⟨p, vs, rfl, SqT.of upd_same, hvs.mono κ.le_refl (pre_refl ι1) ex⟩
  · simp only [if_neg hl] at q1
    exact q1.elim
theorem se_lst (ha : SA X κ W es fs) : SE X κ W (.List es pos) (eLst fs) := by
  refine pe_imp (pe_lst ha) fun σ H Q ⟨ι, σd, h, rs, rh, q⟩ => ?_
  refine ⟨ι, σd, h, rs, rh, (PostR.bind q).imp fun xs h1 ι1 H1 p1 e1 r1 q1 vs hvs => ?_⟩
  by_cases hl : xs.length ≤ 100000
  · simp only [if_pos hl] at q1
    refine ⟨by rw [← hvs.length]; exact size5 hl, fun p hp => ?_⟩
    have ex : Ext κ.K H1 (upd H1 p (.lst vs)) := Ext.new hp
    refine q1 (ι1 ++ [p]) _ (List.prefix_append _ _) ex (r1.alloc hp fun ι' pι => ⟨vs, upd_same, hvs.mono κ.le_refl pι ex⟩) (.ref p) ?_
    simp only [Rep]
    exact ⟨p, by rw [← r1.len, List.getElem?_append_right (Nat.le_refl _)]; simp, rfl⟩
  · simp only [if_neg hl] at q1
    exact q1.elim
variable {g ga gb gc_ : BS}
theorem sb_val (h : SE X κ W e f) (he : ∀ whole, isTrue e X.env whole = (do let v ← whole; standAt e.pos; holding [v] (truthy v)) := by intro _; rfl) : SB X κ W e (bVal f) := by
  refine pt_imp (pt_val h he) fun σ H Q ⟨ι, σd, h, rs, rh, q⟩ => ?_
  refine ⟨ι, σd, h, rs, rh, (PostR.bind q).imp fun x h1 ι1 H1 p1 e1 r1 q1 v hv => ?_⟩
  cases x with
  | bl b =>
    simp only [Rep] at hv
    exact ⟨b, hv, q1.now r1⟩
  | _ => exact q1.elim
theorem sb_not (h : SB X κ W a g) : SB X κ W (.UnaryOp .Not a pos) (bNot g) := by
  refine pt_imp (pt_not h) fun σ H Q ⟨ι, σd, h, rs, rh, q⟩ => ?_
  exact ⟨ι, σd, h, rs, rh, (PostR.bind q).imp fun x h1 ι1 H1 p1 e1 r1 q1 => q1.now r1⟩
theorem sb_w (h : SW X κ W e g) : SB X κ W e g := h.pt
variable {rest : List Expr}
theorem sw_and1 (h : SB X κ W a g) : SW X κ W (.BoolOp .And [a] pos) g := pw_and1 h
theorem sw_or1 (h : SB X κ W a g) : SW X κ W (.BoolOp .Or [a] pos) g := pw_or1 h
theorem sw_and (ha : SB X κ W a ga) (hb : SW X κ W (.BoolOp .And (b :: rest) pos) gb) : SW X κ W (.BoolOp .And (a :: b :: rest) pos) (bAnd ga gb) := by
  refine pw_imp (pw_and ha hb) fun σ H Q ⟨ι, σd, h, rs, rh, q⟩ => ?_
  refine ⟨ι, σd, h, rs, rh, (PostR.bind q).imp fun x h1 ι1 H1 p1 e1 r1 q1 => ?_⟩
  cases x with
  | true => exact iteT ⟨ι1, σd, h1, rs.mono p1 e1, r1, q1⟩
  | false => exact iteF (q1.now r1)
theorem sw_or (ha : SB X κ W a ga) (hb : SW X κ W (.BoolOp .Or (b :: rest) pos) gb) : SW X κ W (.BoolOp .Or (a :: b :: rest) pos) (bOr ga gb) := by
  refine pw_imp (pw_or ha hb) fun σ H Q ⟨ι, σd, h, rs, rh, q⟩ => ?_
  refine ⟨ι, σd, h, rs, rh, (PostR.bind q).imp fun x h1 ι1 H1 p1 e1 r1 q1 => ?_⟩
  cases x with
  | true => exact iteT (q1.now r1)
  | false => exact iteF ⟨ι1, σd, h1, rs.mono p1 e1, r1, q1⟩
theorem se_one {op} (h : SE X κ W a f) : SE X κ W (.BoolOp op [a] pos) f := pe_one h
theorem se_and (ha : SE X κ W a fa) (hb : SE X κ W (.BoolOp .And (b :: rest) pos) fb) : SE X κ W (.BoolOp .And (a :: b :: rest) pos) (eAndV fa fb) := by
  refine pe_imp (pe_and ha hb) fun σ H Q ⟨ι, σd, h, rs, rh, q⟩ => ?_
  refine ⟨ι, σd, h, rs, rh, (PostR.bind q).imp fun x h1 ι1 H1 p1 e1 r1 q1 v hv => ?_⟩
  cases x with
  | bl k =>
    simp only [Rep] at hv
    refine ⟨k, hv, ?_⟩
    cases k with
    | true => exact iteT ⟨ι1, σd, h1, rs.mono p1 e1, r1, q1⟩
    | false => exact iteF (q1.now r1 _ (by simp only [Rep]))
  | _ => exact q1.elim
theorem se_or (ha : SE X κ W a fa) (hb : SE X κ W (.BoolOp .Or (b :: rest) pos) fb) : SE X κ W (.BoolOp .Or (a :: b :: rest) pos) (eOrV fa fb) := by
  refine pe_imp (pe_or ha hb) fun σ H Q ⟨ι, σd, h, rs, rh, q⟩ => ?_
  refine ⟨ι, σd, h, rs, rh, (PostR.bind q).imp fun x h1 ι1 H1 p1 e1 r1 q1 v hv => ?_⟩
  cases x with
  | bl k =>
    simp only [Rep] at hv
    refine ⟨k, hv, ?_⟩
    cases k with
    | true => exact iteT (q1.now r1 _ (by simp only [Rep]))
    | false => exact iteF ⟨ι1, σd, h1, rs.mono p1 e1, r1, q1⟩
  | _ => exact q1.elim
theorem se_not (ha : SE X κ W a fa) : SE X κ W (.UnaryOp .Not a pos) (eNotV fa) := by
  refine pe_imp (pe_not ha) fun σ H Q ⟨ι, σd, h, rs, rh, q⟩ => ?_
  refine ⟨ι, σd, h, rs, rh, (PostR.bind q).imp fun x h1 ι1 H1 p1 e1 r1 q1 v hv => ?_⟩
  cases x with
  | bl k =>
    simp only [Rep] at hv
    exact ⟨k, hv, q1.now r1 _ (by simp only [Rep])⟩
  | _ => exact q1.elim
theorem se_if (hc : SB X κ W c g) (ha : SE X κ W a fa) (hb : SE X κ W b fb) : SE X κ W (.IfExp c a b pos) (eIf g fa fb) := by
  refine pe_imp (pe_ifExp hc ha hb) fun σ H Q ⟨ι, σd, h, rs, rh, q⟩ => ?_
  refine ⟨ι, σd, h, rs, rh, (PostR.bind q).imp fun x h1 ι1 H1 p1 e1 r1 q1 => ?_⟩
  cases x with
  | true => exact iteT ⟨ι1, σd, h1, rs.mono p1 e1, r1, q1⟩
  | false => exact iteF ⟨ι1, σd, h1, rs.mono p1 e1, r1, q1⟩
end
end Sm

set_option Elab.async false
set_option linter.all false
set_option maxRecDepth 100000
set_option maxHeartbeats 4000000
set_option autoImplicit false
namespace Sm
open PySem PySem.Spec PyProof.Rows L2

def Res.strict {α : Type} : Res α → Res α
  | .ok a h => .ok a h
  | _ => .bad
@[simp] theorem Res.strict_ok {α : Type} (a : α) (h : Hs) : (Res.ok a h).strict = .ok a h := rfl
@[simp] theorem Res.strict_exc {α : Type} (c : Str) (fs : List (Str × D)) (h : Hs) : (Res.exc c fs h : Res α).strict = .bad := rfl
@[simp] theorem Res.strict_bad {α : Type} : (Res.bad : Res α).strict = .bad := rfl
def onR {α : Type} (σ : Lo) (r : Res α) (k : α → Hs → Out) : Out := match r with
  | .ok a h => k a h
  | .exc c fs h => .exc c fs σ h
  | .bad => .bad
@[simp] theorem onR_ok {α : Type} (σ : Lo) (a : α) (h : Hs) (k : α → Hs → Out) : onR σ (.ok a h) k = k a h := rfl
@[simp] theorem onR_exc {α : Type} (σ : Lo) (c : Str) (fs : List (Str × D)) (h : Hs) (k : α → Hs → Out) : onR σ (.exc c fs h : Res α) k = .exc c fs σ h := rfl
@[simp] theorem onR_bad {α : Type} (σ : Lo) (k : α → Hs → Out) : onR σ (.bad : Res α) k = .bad := rfl
def Out.next (o : Out) (k : Lo → Hs → Out) : Out := match o with
  | .nx σ h => k σ h
  | o => o
@[simp] theorem Out.next_nx (σ : Lo) (h : Hs) (k : Lo → Hs → Out) : (Out.nx σ h).next k = k σ h := rfl
@[simp] theorem Out.next_rt (d : D) (h : Hs) (k : Lo → Hs → Out) : (Out.rt d h).next k = .rt d h := rfl
@[simp] theorem Out.next_bk (σ : Lo) (h : Hs) (k : Lo → Hs → Out) : (Out.bk σ h).next k = .bk σ h := rfl
@[simp] theorem Out.next_ct (σ : Lo) (h : Hs) (k : Lo → Hs → Out) : (Out.ct σ h).next k = .ct σ h := rfl
@[simp] theorem Out.next_exc (c : Str) (fs : List (Str × D)) (σ : Lo) (h : Hs) (k : Lo → Hs → Out) : (Out.exc c fs σ h).next k = .exc c fs σ h := rfl
@[simp] theorem Out.next_bad (k : Lo → Hs → Out) : Out.bad.next k = .bad := rfl
def Out.turn (o : Out) (k : Lo → Hs → Out) : Out := match o with
  | .nx σ h => k σ h
  | .ct σ h => k σ h
  | .bk σ h => .nx σ h
  | o => o
@[simp] theorem Out.turn_nx (σ : Lo) (h : Hs) (k : Lo → Hs → Out) : (Out.nx σ h).turn k = k σ h := rfl
@[simp] theorem Out.turn_ct (σ : Lo) (h : Hs) (k : Lo → Hs → Out) : (Out.ct σ h).turn k = k σ h := rfl
@[simp] theorem Out.turn_bk (σ : Lo) (h : Hs) (k : Lo → Hs → Out) : (Out.bk σ h).turn k = .nx σ h := rfl
@[simp] theorem Out.turn_rt (d : D) (h : Hs) (k : Lo → Hs → Out) : (Out.rt d h).turn k = .rt d h := rfl
@[simp] theorem Out.turn_exc (c : Str) (fs : List (Str × D)) (σ : Lo) (h : Hs) (k : Lo → Hs → Out) : (Out.exc c fs σ h).turn k = .exc c fs σ h := rfl
@[simp] theorem Out.turn_bad (k : Lo → Hs → Out) : Out.bad.turn k = .bad := rfl
def sNil : SS := fun σ h => .nx σ h
def sCons (f g : SS) : SS := fun σ h => (f σ h).next g
def sSet (i : Nat) (e : ES) : SS := fun σ h => onR σ (e σ h) fun d h1 => .nx (σ.set i (some d)) h1
def sExpr (e : ES) : SS := fun σ h => onR σ (e σ h) fun _ h1 => .nx σ h1
def sRet (e : ES) : SS := fun σ h => onR σ (e σ h) fun d h1 => .rt d h1
def sRetN : SS := fun _ h => .rt .non h
def sIf (t : BS) (f g : SS) : SS := fun σ h => onR σ (t σ h) fun b h1 => if b = true then f σ h1 else g σ h1
def sBreak : SS := fun σ h => .bk σ h
def sCont : SS := fun σ h => .ct σ h
def sPar (i j : Nat) (a : AS) : SS := fun σ h => onR σ (a σ h) fun ds h1 => match ds with
  | [x, y] => .nx ((σ.set i (some x)).set j (some y)) h1
  | _ => .bad
def sAug (i : Nat) (g : D → D → Hs → Res D) (e : ES) : SS := fun σ h => match σ[i]? with
  | some (some x) => onR σ (e σ h) fun y h1 => onR σ (g x y h1) fun z h2 => .nx (σ.set i (some z)) h2
  | _ => .bad
inductive Tg where
  | nm (i : Nat) | tp (is : List Nat)
def putAll : List Nat → List D → Lo → Option Lo
  | [], [], σ => some σ
  | i :: is, d :: ds, σ => putAll is ds (σ.set i (some d))
  | _, _, _ => none
def Tg.put : Tg → D → Lo → Option Lo
  | .nm i, d, σ => some (σ.set i (some d))
  | .tp is, .tup ds, σ => putAll is ds σ
  | _, _, _ => none
def Tg.slots : Tg → List Nat
  | .nm i => [i]
  | .tp is => is
abbrev IS := Lo → Hs → Res (List D × (Hs → Prop))
def iTupD (e : ES) : IS := fun σ h => (e σ h).bind fun d h1 => match d with
  | .tup xs => .ok (xs, fun _ => True) h1
  | _ => .bad
def iLstD (e : ES) : IS := fun σ h => (e σ h).bind fun d h1 => match d with
  | .ref n => (match h1[n]? with
    | some (.lst xs) => .ok (xs, fun h => h[n]? = some (.lst xs)) h1
    | _ => .bad)
  | .fl xs => .ok (xs, fun _ => True) h1
  | _ => .bad
def intsFrom (lo : Int) (n : Nat) : List D := (List.range n).map fun (k : Nat) => .int (lo + (k : Int))
def iRangeD (a : AS) : IS := fun σ h => (a σ h).bind fun ds h1 => match ds with
  | [.int j] => if -(2 ^ 62) ≤ j ∧ j < 2 ^ 62 then .ok (intsFrom 0 j.toNat, fun _ => True) h1 else .bad
  | [.int i, .int j] => if -(2 ^ 62) ≤ i ∧ i < 2 ^ 62 ∧ -(2 ^ 62) ≤ j ∧ j < 2 ^ 62 then .ok (intsFrom i (j - i).toNat, fun _ => True) h1 else .bad
  | _ => .bad
open Classical in
noncomputable def forG (t : Tg) (body : SS) (G : Hs → Prop) : List D → Lo → Hs → Out
  | [], σ, h => if G h then .nx σ h else .bad
  | d :: ds, σ, h => if G h then (match t.put d σ with
    | some σ1 => (body σ1 h).turn (forG t body G ds)
    | none => .bad) else .bad
noncomputable def sFor (src : IS) (t : Tg) (body : SS) : SS := fun σ h => onR σ (src σ h) fun p h1 => forG t body p.2 p.1 σ h1
def whileN (t : BS) (body : SS) : Nat → Lo → Hs → Out
  | 0, _, _ => .bad
  | n + 1, σ, h => onR σ (t σ h) fun b h1 => if b = true then (body σ h1).turn (whileN t body n) else .nx σ h1
def turnsMost : Nat := 1000000
def sWhile (t : BS) (body : SS) : SS := whileN t body turnsMost
def wipeD (σ : Lo) : List Nat → Lo
  | [] => σ
  | v :: vs => (wipeD σ vs).set v none
open Classical in
noncomputable def compG (t : Tg) (cond : BS) (elt : ES) (G : Hs → Prop) (n : Nat) (σ : Lo) : List D → Hs → Res Unit
  | [], h => if G h then .ok () h else .bad
  | d :: ds, h => if G h then (match t.put d σ with
    | some σ1 => (cond σ1 h).strict.bind fun b h1 => if b = true then (elt σ1 h1).strict.bind fun y h2 => (match h2[n]? with
        | some (.lst acc) => if acc.length < 100000 then compG t cond elt G n σ ds (h2.set n (.lst (acc ++ [y]))) else .bad
        | _ => .bad) else compG t cond elt G n σ ds h1
    | none => .bad) else .bad
noncomputable def eComp (src : IS) (t : Tg) (cond : BS) (elt : ES) (vs : List Nat) : ES := fun σ h => (src σ h).bind fun p h1 => (compG t cond elt p.2 h1.length (wipeD σ vs) p.1 (h1 ++ [.lst []])).bind fun _ h2 => .ok (.ref h1.length) h2
def bYes : BS := fun _ h => .ok true h

section
variable {X : Cx} {κ : Kx} {W : WX} {e a b c : Expr} {f fa fb fc : ES} {pos : Pos} {st : Stmt} {sts rest : List Stmt} {g u : SS} {t : BS}
theorem PostR.onR {α : Type} {ι : List Addr} {H : Hp} {E : Ends} {σd : Lo} {σ : L2.St} {r : Res α} {k : α → Hs → Out} (rs : RelS κ ι H σd σ) (q : PostS κ W ι H E (onR σd r k)) : PostR κ W ι H σ (fun x h1 ι1 H1 => PostS κ W ι1 H1 E (k x h1)) r := by
  cases r with
  | ok x h => exact fun ι1 H1 p1 e1 r1 => PostS.mono p1 e1 q
  | exc c fs h => exact fun ι1 H1 d vs p1 e1 r1 hd rf => q ι1 H1 σ d vs p1 e1 (rs.mono p1 e1) r1 hd rf
  | bad => exact q
theorem sn_nil : SN X κ W [] sNil := pss_imp pss_nil fun E σ H ⟨ι, σd, h, rs, rh, q⟩ => q ι H σ (pre_refl ι) (Ext.refl _ _) rs rh
theorem PostS.next {ι : List Addr} {H : Hp} {E : Ends} {o : Out} {k : SS} (q : PostS κ W ι H E (o.next k)) : PostS κ W ι H { E with nx := rdS κ W k E } o := by
  cases o with
  | nx σd h => exact fun ι1 H1 σ1 p1 e1 rs rh => ⟨ι1, σd, h, rs, rh, PostS.mono p1 e1 q⟩
  | _ => exact q
theorem sn_cons (h1 : S1 X κ W st g) (h2 : SN X κ W rest u) : SN X κ W (st :: rest) (sCons g u) := pss_imp (pss_cons h1 h2) fun E σ H ⟨ι, σd, h, rs, rh, q⟩ => ⟨ι, σd, h, rs, rh, PostS.next q⟩
theorem sn_one (h1 : S1 X κ W st g) : SN X κ W [st] g := pss_one h1
theorem s1_pass : S1 X κ W (.Pass pos) sNil := ps_imp ps_pass fun E σ H ⟨ι, σd, h, rs, rh, q⟩ => q ι H σ (pre_refl ι) (Ext.refl _ _) rs rh
theorem s1_break : S1 X κ W (.Break pos) sBreak := ps_imp ps_break fun E σ H ⟨ι, σd, h, rs, rh, q⟩ => q ι H σ (pre_refl ι) (Ext.refl _ _) rs rh
theorem s1_cont : S1 X κ W (.Continue pos) sCont := ps_imp ps_continue fun E σ H ⟨ι, σd, h, rs, rh, q⟩ => q ι H σ (pre_refl ι) (Ext.refl _ _) rs rh
theorem s1_ret (h : SE X κ W e f) : S1 X κ W (.Return (some e) pos) (sRet f) := ps_imp (ps_ret h) fun E σ H ⟨ι, σd, h, rs, rh, q⟩ =>
  ⟨ι, σd, h, rs, rh, (PostR.onR rs q).imp fun d h1 ι1 H1 p1 e1 r1 q1 v hv => q1 ι1 H1 v (pre_refl _) (Ext.refl _ _) r1 hv⟩
theorem s1_retN : S1 X κ W (.Return none pos) sRetN := ps_imp ps_retN fun E σ H ⟨ι, σd, h, rs, rh, q⟩ => q ι H .non (pre_refl ι) (Ext.refl _ _) rh (by simp only [Rep])
theorem s1_expr (h : SE X κ W e f) (hs : swapsWith e none pos.line X.env = pure false := by rfl) : S1 X κ W (.Expr e pos) (sExpr f) := ps_imp (ps_expr h hs) fun E σ H ⟨ι, σd, h, rs, rh, q⟩ =>
  ⟨ι, σd, h, rs, rh, (PostR.onR rs q).imp fun d h1 ι1 H1 p1 e1 r1 q1 v hv => q1 ι1 H1 σ (pre_refl _) (Ext.refl _ _) (rs.mono p1 e1) r1⟩
theorem s1_set {i : Nat} {x : Str} {pos' : Pos} (hN : X.N.Nodup) (hi : X.N[i]? = some x) (hx : L2.Loc X.env.scope x) (h : SE X κ W e f) (hs : swapsWith e (some (.Name x pos')) pos.line X.env = pure false := by rfl)
    (hf : X.fn x = true ∨ X.env.scope.names.lookup x = some .local := by first | exact .inl rfl | exact .inr rfl | assumption) : S1 X κ W (.Assign [.Name x pos'] e pos) (sSet i f) := ps_imp (ps_set hN hi hx h hs hf) fun E σ H ⟨ι, σd, h, rs, rh, q⟩ =>
  ⟨ι, σd, h, rs, rh, (PostR.onR rs q).imp fun d h1 ι1 H1 p1 e1 r1 q1 v hv => q1 ι1 H1 _ (pre_refl _) (Ext.refl _ _) ((rs.mono p1 e1).set hv i) r1⟩
theorem s1_if (hc : SB X κ W c t) (ha : SN X κ W sts g) (hb : SN X κ W rest u) : S1 X κ W (.If c sts rest pos) (sIf t g u) := ps_imp (ps_if hc ha hb) fun E σ H ⟨ι, σd, h, rs, rh, q⟩ =>
  ⟨ι, σd, h, rs, rh, (PostR.onR rs q).imp fun b h1 ι1 H1 p1 e1 r1 q1 => by
    cases b with
    | true => exact iteT ⟨ι1, σd, h1, rs.mono p1 e1, r1, q1⟩
    | false => exact iteF ⟨ι1, σd, h1, rs.mono p1 e1, r1, q1⟩⟩
def GSim (κ : Kx) (t : Tg) (g : TG) : Prop := ∀ (ι : List Addr) (H : Hp) (σd σd' : Lo) (σ : L2.St) (d : D) (v : V) (Q : L2.St → Hp → Prop), RelS κ ι H σd σ → Rep κ ι H d v → t.put d σd = some σd' →
  (∀ σ', RelS κ ι H σd' σ' → (∀ vs, (∀ i ∈ t.slots, i ∈ vs) → wipe σ' vs = wipe σ vs) → Q σ' H) → g v σ H Q
def gAll : List Nat → TGs
  | [] => gNil
  | i :: is => gCons (gName i) (gAll is)
def gT (K : PySem.W.Frag) : Tg → TG
  | .nm i => gName i
  | .tp is => gTup K is.length (gAll is)
def SG (X : Cx) (e : Expr) (t : Tg) : Prop := PG X e (gT X.K t)
theorem wipe_set {i : Nat} {x : Option V} : ∀ {vs : List Nat} {σ : L2.St}, i ∈ vs → wipe (σ.set i x) vs = wipe σ vs
  | [], _, h => by simp at h
  | v :: vs, σ, h => by
    show (wipe (σ.set i x) vs).set v none = (wipe σ vs).set v none
    by_cases hv : i ∈ vs
    · rw [wipe_set hv]
    · have e : i = v := by
        rcases List.mem_cons.mp h with e | e
        · exact e
        · exact absurd e hv
      subst e
      have key : ∀ (us : List Nat) (τ : L2.St), i ∉ us → wipe (τ.set i x) us = (wipe τ us).set i x := by
        intro us
        induction us with
        | nil => intro τ _; rfl
        | cons u us ih =>
          intro τ hu
          show (wipe (τ.set i x) us).set u none = ((wipe τ us).set u none).set i x
          rw [ih τ (fun z => hu (List.mem_cons_of_mem _ z)), List.set_comm]
          exact fun z => hu (z ▸ List.mem_cons_self)
      rw [key vs σ hv, List.set_set]
theorem sg_name {i : Nat} {x : Str} (hN : X.N.Nodup) (hi : X.N[i]? = some x) (hx : L2.Loc X.env.scope x) (hf : X.fn x = true ∨ X.env.scope.names.lookup x = some .local := by first | exact .inl rfl | exact .inr rfl | assumption) : SG X (.Name x pos) (.nm i) :=
  pg_name hN hi hx hf
def SGs (X : Cx) (es : List Expr) (is : List Nat) : Prop := PGs X es (gAll is)
theorem sgs_nil : SGs X [] [] := pgs_nil
theorem sgs_cons {i : Nat} {is : List Nat} {es : List Expr} (h1 : SG X e (.nm i)) (h2 : SGs X es is) (ht : (assignEach (e :: es) X.env).map (·.2) = assign e X.env :: (assignEach es X.env).map (·.2) := by rfl) : SGs X (e :: es) (i :: is) :=
  pgs_cons (t := gName i) h1 h2 ht
theorem sg_tup {es : List Expr} {k : Nat} {is : List Nat} (hc : X.calm = true) (h : SGs X es is) (hn : (assignEach es X.env).length = is.length := by rfl) (hst : (assignEach es X.env).findIdx? (·.1) = none := by rfl) : SG X (.Tuple es k pos) (.tp is) :=
  pg_tup hc h hn hst
theorem putAll_len : ∀ {is : List Nat} {ds : List D} {σ σ' : Lo}, putAll is ds σ = some σ' → ds.length = is.length
  | [], [], _, _, _ => rfl
  | [], _ :: _, _, _, h => by simp [putAll] at h
  | _ :: _, [], _, _, h => by simp [putAll] at h
  | i :: is, d :: ds, _, _, h => by
    simp only [putAll] at h
    rw [List.length_cons, List.length_cons, putAll_len h]
theorem gs_sim : ∀ {is : List Nat} {ι : List Addr} {H : Hp} {σd σd' : Lo} {σ : L2.St} {ds : List D} {vs : List V} {Q : L2.St → Hp → Prop}, RelS κ ι H σd σ → RepL κ ι H ds vs → putAll is ds σd = some σd' →
    (∀ σ', RelS κ ι H σd' σ' → (∀ ws, (∀ i ∈ is, i ∈ ws) → wipe σ' ws = wipe σ ws) → Q σ' H) → gAll is vs σ H Q
  | [], ι, H, σd, σd', σ, ds, vs, Q, rs, rv, hp, k => by
    cases ds with
    | nil =>
      simp only [RepL] at rv
      subst rv
      simp only [putAll, Option.some.injEq] at hp
      subst hp
      exact ⟨rfl, k σ rs fun _ _ => rfl⟩
    | cons d ds => simp [putAll] at hp
  | i :: is, ι, H, σd, σd', σ, ds, vs, Q, rs, rv, hp, k => by
    cases ds with
    | nil => simp [putAll] at hp
    | cons d ds =>
      simp only [RepL] at rv
      obtain ⟨v, vr, rfl, r1, r2⟩ := rv
      simp only [putAll] at hp
      refine ⟨v, vr, rfl, ?_⟩
      show gAll is vr (σ.set i (some v)) H Q
      refine gs_sim (rs.set r1 i) r2 hp fun σ2 rs2 w2 => k σ2 rs2 fun ws hw => ?_
      rw [w2 ws fun j hj => hw j (List.mem_cons_of_mem _ hj)]
      exact wipe_set (hw i List.mem_cons_self)
theorem gT_sim (t : Tg) : GSim κ t (gT κ.K t) := fun ι H σd σd' σ d v Q rs rv hp k => by
  cases t with
  | nm i =>
    simp only [Tg.put, Option.some.injEq] at hp
    subst hp
    exact k _ (rs.set rv i) fun vs hv => wipe_set (hv i (by simp [Tg.slots]))
  | tp is =>
    cases d with
    | tup ds =>
      simp only [Tg.put] at hp
      simp only [Rep] at rv
      obtain ⟨a, vs, e1, e2, e3⟩ := rv
      exact ⟨a, vs, e1, e2, by rw [← e3.length]; exact putAll_len hp, gs_sim rs e3 hp k⟩
    | _ => simp [Tg.put] at hp
def ItOk (κ : Kx) (J : It) (ι1 : List Addr) (H1 : Hp) (xs : List D) (G : Hs → Prop) : Prop := ∀ (ι : List Addr) (h : Hs) (H : Hp), ι1 <+: ι → Ext κ.K H1 H → RelH κ ι h H → G h →
  (∀ (i : Nat) d, xs[i]? = some d → J.go i H ∧ ∀ x H', J.yld i H x H' → Ext κ.K H H' ∧ RelH κ ι h H' ∧ Rep κ ι H' d x) ∧ J.stop xs.length H
abbrev PI_ (κ : Kx) (R : It → Hp → Prop) : PK (List D × (Hs → Prop)) := fun p h ι H => p.2 h ∧ ∀ J, ItOk κ J ι H p.1 p.2 → R J H
def rdI (κ : Kx) (W : WX) (f : IS) : TI := fun σ H R => ∃ ι σd h, RelS κ ι H σd σ ∧ RelH κ ι h H ∧ PostR κ W ι H σ (fun p h ι H => ∀ J, ItOk κ J ι H p.1 p.2 → R J H) (f σd h)
def SI (X : Cx) (κ : Kx) (W : WX) (tg iter : Expr) (f : IS) : Prop := PI X tg iter (rdI κ W f)
theorem pi_imp {tg : Expr} {t t' : TI} (h : PI X tg e t) (i : ∀ σ H R, t' σ H R → t σ H R) : PI X tg e t' := ⟨fun pins s σ H Q I q => h.run pins s σ H Q I (i σ H Q q)⟩
variable {tg : Expr}
theorem si_tup (hK : κ.K = X.K) (h : SE X κ W e f) : SI X κ W tg e (iTupD f) := pi_imp (pi_tup h) fun σ H R ⟨ι, σd, h, rs, rh, q⟩ => by
  refine ⟨ι, σd, h, rs, rh, (PostR.bind q).imp fun d h1 ι1 H1 p1 e1 r1 q1 v hv => ?_⟩
  cases d with
  | tup xs =>
    simp only [Rep] at hv
    obtain ⟨a, vs, e2, e3, e4⟩ := hv
    refine ⟨a, e2, ⟨vs, by rw [← hK]; exact e3⟩, q1.now r1 _ fun ι2 h2 H2 p2 ex2 r2 _ => ⟨fun i d hd => ?_, ?_⟩⟩
    · obtain ⟨x, hx, rx⟩ := RepL.get (e4.mono κ.le_refl p2 ex2) hd
      have st : SqT X.K H2 a vs := by rw [← hK]; exact ex2.tup _ _ e3
      refine ⟨⟨vs, x, st, hx⟩, fun y H' hy => ?_⟩
      obtain ⟨eH, hy⟩ := hy
      subst eH
      have : x = y := Option.some.inj (hx.symm.trans (hy vs st))
      subst this
      exact ⟨Ext.refl _ _, r2, rx⟩
    · exact ⟨vs, by rw [← hK]; exact ex2.tup _ _ e3, by rw [e4.length]; exact Nat.le_refl _⟩
  | _ => exact q1.elim
theorem fl_sq {K : PySem.W.Frag} {H : Hp} {a : Addr} {xs : List V} (h : FlOk K H a xs) : SqL K H a xs := by
  rcases h with ⟨o, h⟩ | h
  · exact .inl (.inr ⟨o, h⟩)
  · rcases h with (h | ⟨o, h⟩) | h
    · cases h
    · cases h
    · exact .inr h
theorem itl_ok {a : Addr} {vs : List V} {xs : List D} {ι : List Addr} {h : Hs} {H : Hp} (st : SqL κ.K H a vs) (rl : RepL κ ι H xs vs) (rh : RelH κ ι h H) :
    (∀ (i : Nat) d, xs[i]? = some d → (Itl κ.K a).go i H ∧ ∀ x H', (Itl κ.K a).yld i H x H' → Ext κ.K H H' ∧ RelH κ ι h H' ∧ Rep κ ι H' d x) ∧ (Itl κ.K a).stop xs.length H := by
  refine ⟨fun i d hd => ?_, ⟨vs, st, by rw [rl.length]; exact Nat.le_refl _⟩⟩
  obtain ⟨x, hx, rx⟩ := RepL.get rl hd
  refine ⟨⟨vs, x, st, hx⟩, fun y H' hy => ?_⟩
  obtain ⟨eH, hy⟩ := hy
  subst eH
  have : x = y := Option.some.inj (hx.symm.trans (hy vs st))
  subst this
  exact ⟨Ext.refl _ _, rh, rx⟩
theorem si_lst (hK : κ.K = X.K) (h : SE X κ W e f) : SI X κ W tg e (iLstD f) := pi_imp (pi_list h) fun σ H R ⟨ι, σd, h, rs, rh, q⟩ => by
  refine ⟨ι, σd, h, rs, rh, (PostR.bind q).imp fun d h1 ι1 H1 p1 e1 r1 q1 v hv => ?_⟩
  cases d with
  | ref n =>
    simp only [Rep] at hv
    obtain ⟨a, ea, ev⟩ := hv
    cases hc : h1[n]? with
    | none => simp only [hc] at q1; exact q1.elim
    | some c =>
      simp only [hc] at q1
      cases c with
      | lst xs =>
        obtain ⟨vs, ec, rl⟩ := r1.at hc ea
        refine ⟨a, ev, ⟨vs, SqL.of ec⟩, q1.now r1 _ fun ι2 h2 H2 p2 ex2 r2 g2 => ?_⟩
        have ea2 : ι2[n]? = some a := by
          obtain ⟨r, rfl⟩ := p2
          rw [List.getElem?_append_left (List.getElem?_eq_some_iff.mp ea).1]; exact ea
        obtain ⟨vs2, ec2, rl2⟩ := r2.at g2 ea2
        rw [← hK]
        exact itl_ok (SqL.of ec2) rl2 r2
      | _ => exact q1.elim
  | fl xs =>
    simp only [Rep] at hv
    obtain ⟨a, vs, e2, e3, e4⟩ := hv
    refine ⟨a, e2, ⟨vs, by rw [← hK]; exact fl_sq e3⟩, q1.now r1 _ fun ι2 h2 H2 p2 ex2 r2 _ => ?_⟩
    rw [← hK]
    exact itl_ok (fl_sq (ex2.fl _ _ e3)) (e4.mono κ.le_refl p2 ex2) r2
  | _ => exact q1.elim
theorem itr_ok {lo : Int} {n : Nat} {ι1 : List Addr} {H1 : Hp} {G : Hs → Prop} : ItOk κ (Itr lo n) ι1 H1 (intsFrom lo n) G := fun ι h H p e r _ => by
  refine ⟨fun i d hd => ?_, by simp [Itr, intsFrom]⟩
  unfold intsFrom at hd
  rw [List.getElem?_map] at hd
  have hi : i < n := by
    rcases Nat.lt_or_ge i n with z | z
    · exact z
    · rw [List.getElem?_eq_none (by simpa using z)] at hd
      cases hd
  rw [List.getElem?_range hi] at hd
  simp only [Option.map_some, Option.some.injEq] at hd
  subst hd
  refine ⟨hi, fun x H' hy => ?_⟩
  obtain ⟨eH, ex⟩ := hy
  subst eH ex
  exact ⟨Ext.refl _ _, r, by simp only [Rep]⟩
theorem repL_one {ι : List Addr} {H : Hp} {i : Int} {vs : List V} (h : RepL κ ι H [.int i] vs) : vs = [.int i] := by
  simp only [RepL, Rep] at h
  obtain ⟨v, vr, rfl, rfl, rfl⟩ := h
  rfl
theorem repL_two {ι : List Addr} {H : Hp} {i j : Int} {vs : List V} (h : RepL κ ι H [.int i, .int j] vs) : vs = [.int i, .int j] := by
  simp only [RepL, Rep] at h
  obtain ⟨v, vr, rfl, rfl, w, wr, rfl, rfl, rfl⟩ := h
  rfl
theorem si_range1 {fs : AS} {p pos : Pos} (hg : Gl X "range") (hm : X.mg "range" = none) (ha : SA X κ W [a] fs) (hl : ∀ σ h, ∀ ds h', fs σ h = .ok ds h' → ds.length = 1) (hs : starEach [a] X.env = [(false, eval a X.env)] := by rfl) :
    SI X κ W tg (.Call (.Name "range" p) [a] [] pos) (iRangeD fs) := pi_imp (pi_range1 hg hm ha hs) fun σ H R ⟨ι, σd, h, rs, rh, q⟩ => by
  refine ⟨ι, σd, h, rs, rh, ?_⟩
  have hq := PostR.bind q
  cases hf : fs σd h with
  | bad => rw [hf] at hq; exact hq
  | exc c fs' h' => rw [hf] at hq; exact hq
  | ok ds h1 =>
    have l1 := hl σd h ds h1 hf
    rw [hf] at hq
    intro ι1 H1 p1 e1 r1 vs hvs
    have q1 := hq ι1 H1 p1 e1 r1
    match ds, l1, q1, hvs with
    | [.int j], _, q1, hvs =>
      have ev := repL_one hvs
      by_cases hj : -(2 ^ 62) ≤ j ∧ j < 2 ^ 62
      · simp only [if_pos hj] at q1
        exact ⟨j, ev, hj.1, hj.2, q1.now r1 _ itr_ok⟩
      · simp only [if_neg hj] at q1
        exact q1.elim
    | [.non], _, q1, _ => exact q1.elim
    | [.bl _], _, q1, _ => exact q1.elim
    | [.str _], _, q1, _ => exact q1.elim
    | [.tup _], _, q1, _ => exact q1.elim
    | [.ref _], _, q1, _ => exact q1.elim
    | [.fl _], _, q1, _ => exact q1.elim
    | [.exc _ _ _], _, q1, _ => exact q1.elim
theorem si_range2 {fs : AS} {p pos : Pos} (hg : Gl X "range") (hm : X.mg "range" = none) (ha : SA X κ W [a, b] fs) (hl : ∀ σ h, ∀ ds h', fs σ h = .ok ds h' → ds.length = 2) (hs : starEach [a, b] X.env = [(false, eval a X.env), (false, eval b X.env)] := by rfl)
    (hs2 : starEach [b] X.env = [(false, eval b X.env)] := by rfl) : SI X κ W tg (.Call (.Name "range" p) [a, b] [] pos) (iRangeD fs) := pi_imp (pi_range2 hg hm ha hs hs2) fun σ H R ⟨ι, σd, h, rs, rh, q⟩ => by
  refine ⟨ι, σd, h, rs, rh, ?_⟩
  have hq := PostR.bind q
  cases hf : fs σd h with
  | bad => rw [hf] at hq; exact hq
  | exc c fs' h' => rw [hf] at hq; exact hq
  | ok ds h1 =>
    have l1 := hl σd h ds h1 hf
    rw [hf] at hq
    intro ι1 H1 p1 e1 r1 vs hvs
    have q1 := hq ι1 H1 p1 e1 r1
    match ds, l1, q1, hvs with
    | [x, y], _, q1, hvs =>
      cases x with
      | int i =>
        cases y with
        | int j =>
          have ev := repL_two hvs
          by_cases hj : -(2 ^ 62) ≤ i ∧ i < 2 ^ 62 ∧ -(2 ^ 62) ≤ j ∧ j < 2 ^ 62
          · simp only [if_pos hj] at q1
            exact ⟨i, j, ev, hj, q1.now r1 _ itr_ok⟩
          · simp only [if_neg hj] at q1
            exact q1.elim
        | _ => exact q1.elim
      | _ => exact q1.elim
theorem al_one {f : ES} : ∀ σ h, ∀ ds h', aCons f aNil σ h = .ok ds h' → ds.length = 1 := fun σ h ds h' e => by
  unfold aCons aNil at e
  cases hf : f σ h with
  | ok x h1 => rw [hf] at e; simp only [Res.bind_ok, Res.ok.injEq] at e; rw [← e.1]; rfl
  | exc c fs h1 => rw [hf] at e; cases e
  | bad => rw [hf] at e; cases e
theorem al_two {f f' : ES} : ∀ σ h, ∀ ds h', aCons f (aCons f' aNil) σ h = .ok ds h' → ds.length = 2 := fun σ h ds h' e => by
  unfold aCons at e
  cases hf : f σ h with
  | ok x h1 =>
    rw [hf] at e
    simp only [Res.bind_ok] at e
    cases hg : f' σ h1 with
    | ok y h2 => rw [hg] at e; simp only [Res.bind_ok, aNil, Res.ok.injEq] at e; rw [← e.1]; rfl
    | exc c fs h1 => rw [hg] at e; cases e
    | bad => rw [hg] at e; cases e
  | exc c fs h1 => rw [hf] at e; cases e
  | bad => rw [hf] at e; cases e
theorem forG_post {J : It} {G : Hs → Prop} {t : Tg} {body : SS} {gT : TG} (hgs : GSim κ t gT) {ι1 : List Addr} {H1 : Hp} {xs : List D} (ok : ItOk κ J ι1 H1 xs G) {E : Ends} {σ : L2.St} {σd : Lo} {h : Hs} (rs : RelS κ ι1 H1 σd σ) (rh : RelH κ ι1 h H1)
    (q : PostS κ W ι1 H1 E (forG t body G xs σd h)) : ∃ Wd : Nat → Nat → L2.St → Hp → Prop, (∃ m, Wd 0 m σ H1) ∧ ∀ i m σ H, Wd i m σ H →
      (J.stop i H ∧ E.nx σ H) ∨ (J.go i H ∧ ∃ N : L2.St → Hp → Prop, (∀ σ' H', N σ' H' → ∃ m', m' < m ∧ Wd (i + 1) m' σ' H') ∧ ∀ x H', J.yld i H x H' → gT x σ H' fun σ2 H2 => rdS κ W body { E with nx := N, ct := N, bk := E.nx } σ2 H2) := by
  refine ⟨fun i m σ H => m = xs.length - i ∧ i ≤ xs.length ∧ ∃ ι σd h, ι1 <+: ι ∧ Ext κ.K H1 H ∧ RelS κ ι H σd σ ∧ RelH κ ι h H ∧ PostS κ W ι H E (forG t body G (xs.drop i) σd h), ⟨xs.length, rfl, Nat.zero_le _, ι1, σd, h, pre_refl _, Ext.refl _ _, rs, rh, by simpa using q⟩, ?_⟩
  rintro i m σ H ⟨rfl, hi, ι, σd, h, p, e, rs, rh, q⟩
  rcases Nat.lt_or_ge i xs.length with hl | hl
  · right
    rw [List.drop_eq_getElem_cons hl] at q
    unfold forG at q
    by_cases hG : G h
    · simp only [if_pos hG] at q
      obtain ⟨h1, _⟩ := ok ι h H p e rh hG
      obtain ⟨go, hy⟩ := h1 i xs[i] (List.getElem?_eq_getElem hl)
      refine ⟨go, fun σ' H' => ∃ ι' σd' h', ι1 <+: ι' ∧ Ext κ.K H1 H' ∧ RelS κ ι' H' σd' σ' ∧ RelH κ ι' h' H' ∧ PostS κ W ι' H' E (forG t body G (xs.drop (i + 1)) σd' h'), fun σ' H' hN => ⟨xs.length - (i + 1), by omega, rfl, hl, hN⟩, fun x H' yx => ?_⟩
      obtain ⟨e', rh', rx⟩ := hy x H' yx
      cases hp : t.put xs[i] σd with
      | none => simp only [hp] at q; exact q.elim
      | some σ1 =>
        simp only [hp] at q
        refine hgs ι H' σd σ1 σ xs[i] x _ (rs.mono (pre_refl ι) e') rx hp fun σ2 rs2 _ => ?_
        refine ⟨ι, σ1, h, rs2, rh', ?_⟩
        have q' := PostS.mono (pre_refl ι) e' q
        have base : Ext κ.K H1 H' := e.trans e'
        revert q'
        cases body σ1 h with
        | nx σ3 h3 => exact fun q' ι3 H3 σ3' p3 e3 rs3 rh3 => ⟨ι3, σ3, h3, p.trans p3, base.trans e3, rs3, rh3, PostS.mono p3 e3 q'⟩
        | ct σ3 h3 => exact fun q' ι3 H3 σ3' p3 e3 rs3 rh3 => ⟨ι3, σ3, h3, p.trans p3, base.trans e3, rs3, rh3, PostS.mono p3 e3 q'⟩
        | bk σ3 h3 => exact fun q' => q'
        | rt d h3 => exact fun q' => q'
        | exc c fs σ3 h3 => exact fun q' => q'
        | bad => exact fun q' => q'
    · simp only [if_neg hG] at q
      exact q.elim
  · left
    have he : i = xs.length := Nat.le_antisymm hi hl
    subst he
    rw [List.drop_length] at q
    unfold forG at q
    by_cases hG : G h
    · simp only [if_pos hG] at q
      obtain ⟨_, st⟩ := ok ι h H p e rh hG
      exact ⟨st, q ι H σ (pre_refl _) (Ext.refl _ _) rs rh⟩
    · simp only [if_neg hG] at q
      exact q.elim
theorem s1_for {iter : Expr} {src : IS} {t : Tg} {body : List Stmt} (hp : PassesOwn (model X.prog X.w) X.A X.env X.xe) (hc : X.calm = true) (hi : SI X κ W tg iter src) (hK : κ.K = X.K) (hg : SG X tg t) (hb : SN X κ W body g)
    (hs : ∀ x, foldedSetIterable iter X.env x = pure x := by intro _; rfl) : S1 X κ W (.For tg iter body [] pos) (sFor src t g) := by
  refine ps_imp (ps_for hp hc hi hg hb hs) fun E σ H ⟨ι, σd, h, rs, rh, q⟩ => ?_
  exact ⟨ι, σd, h, rs, rh, (PostR.onR rs q).imp fun p h1 ι1 H1 p1 e1 r1 q1 J ok => forG_post (hK ▸ gT_sim t) ok (rs.mono p1 e1) r1 q1⟩
theorem whileN_post {body : SS} {t : BS} {E : Ends} : ∀ {n : Nat} {ι : List Addr} {H : Hp} {σd : Lo} {σ : L2.St} {h : Hs}, RelS κ ι H σd σ → RelH κ ι h H → PostS κ W ι H E (whileN t body n σd h) → tWhile (rdB κ W t) (rdS κ W body) E σ H := fun {n ι H σd σ h} rs rh q => by
  refine ⟨fun n σ H => ∃ ι σd h, RelS κ ι H σd σ ∧ RelH κ ι h H ∧ PostS κ W ι H E (whileN t body n σd h), ⟨n, ι, σd, h, rs, rh, q⟩, ?_⟩
  rintro n σ H ⟨ι, σd, h, rs, rh, q⟩
  cases n with
  | zero => exact q.elim
  | succ n =>
    unfold whileN at q
    refine ⟨ι, σd, h, rs, rh, (PostR.onR rs q).imp fun b h1 ι1 H1 p1 e1 r1 q1 => ?_⟩
    cases b with
    | false => exact iteF (q1 ι1 H1 σ (pre_refl _) (Ext.refl _ _) (rs.mono p1 e1) r1)
    | true =>
      refine iteT ⟨fun σ' H' => ∃ ι σd h, RelS κ ι H' σd σ' ∧ RelH κ ι h H' ∧ PostS κ W ι H' E (whileN t body n σd h), fun σ' H' hN => ⟨n, Nat.lt_succ_self n, hN⟩, ι1, σd, h1, rs.mono p1 e1, r1, ?_⟩
      have q2 : PostS κ W ι1 H1 E ((body σd h1).turn (whileN t body n)) := q1
      revert q2
      cases body σd h1 with
      | nx σ3 h3 => exact fun q' ι3 H3 σ3' p3 e3 rs3 rh3 => ⟨ι3, σ3, h3, rs3, rh3, PostS.mono p3 e3 q'⟩
      | ct σ3 h3 => exact fun q' ι3 H3 σ3' p3 e3 rs3 rh3 => ⟨ι3, σ3, h3, rs3, rh3, PostS.mono p3 e3 q'⟩
      | bk σ3 h3 => exact fun q' => q'
      | rt d h3 => exact fun q' => q'
      | exc c fs σ3 h3 => exact fun q' => q'
      | bad => exact fun q' => q'
theorem s1_while {body : List Stmt} (hp : PassesOwn (model X.prog X.w) X.A X.env X.xe) (hc : SB X κ W c t) (hb : SN X κ W body g) : S1 X κ W (.While c body [] pos) (sWhile t g) :=
  ps_imp (ps_while hp hc hb) fun E σ H ⟨ι, σd, h, rs, rh, q⟩ => whileN_post rs rh q
end
end Sm

set_option Elab.async false
set_option linter.all false
set_option maxRecDepth 100000
set_option maxHeartbeats 4000000
set_option autoImplicit false
namespace Sm
open PySem PySem.Spec PyProof.Rows L2
section
variable {X : Cx} {κ : Kx} {W : WX} {e a b c tg iter elt : Expr} {f fa fb fc : ES} {pos : Pos} {st : Stmt} {sts rest : List Stmt} {g u : SS} {t : BS}
theorem PostR.strict {α : Type} {W' : WX} {ι : List Addr} {H : Hp} {σ σ' : L2.St} {P : PK α} {r : Res α} (q : PostR κ W ι H σ P r.strict) : PostR κ W' ι H σ' P r := by
  cases r with
  | ok a h => exact q
  | exc c fs h => exact q.elim
  | bad => exact q.elim
theorem PostR.bindStrict {α β : Type} {W' : WX} {ι : List Addr} {H : Hp} {σ σ' : L2.St} {P : PK β} {r : Res α} {g : α → Hs → Res β} (q : PostR κ W ι H σ P (r.strict.bind g)) : PostR κ W' ι H σ' (fun a h ι1 H1 => PostR κ W ι1 H1 σ P (g a h)) r := by
  cases r with
  | ok a h => exact fun ι2 H2 p2 e2 r2 => PostR.mono p2 e2 q
  | exc c fs h => exact q.elim
  | bad => exact q.elim
theorem wipe_rel {ι : List Addr} {H : Hp} : ∀ {vs : List Nat} {σd : Lo} {σ : L2.St}, RelS κ ι H σd σ → RelS κ ι H (wipeD σd vs) (wipe σ vs)
  | [], _, _, q => q
  | v :: vs, σd, σ, q => (wipe_rel (vs := vs) q).forget v
theorem sizeLt5 {n : Nat} (h : n < 100000) : n < sizeLine := Nat.lt_of_lt_of_le h (by decide)
abbrev Blk (X : Cx) (scope : Scope) (P : Cx → Prop) : Prop := ∀ (s : Shared) (H : Hp) (C : Addr) (cl : List (Str × Addr)) (fp : List Addr), P (X.blk s H scope (compEnvC scope cl C X.env) fp)
abbrev WN : WX := fun _ _ _ _ => False
def SBs (X : Cx) (κ : Kx) (W : WX) (es : List Expr) (f : BS) : Prop := PTs X es (rdB κ W f)
theorem sbs_nil : SBs X κ W [] bYes := ⟨fun pins s σ H Q I ⟨ι, σd, h, rs, rh, q⟩ => pts_nil.run pins s σ H Q I (q.now rh)⟩
theorem sbs_one {t : BS} (h : SB X κ W c t) : SBs X κ W [c] t := pts_one h
theorem comp_lc {own : List Nat} {src : IS} {t : Tg} {cond : BS} {el : ES} {σ : L2.St} {H : Hp} {Q : VK} (hs : ∀ i ∈ t.slots, i ∈ own) (q : rdE κ W (eComp src t cond el own) σ H Q) :
    tLc (rdI κ W src) (gT κ.K t) (rdB κ WN cond) (rdE κ WN el) own σ H Q := by
  obtain ⟨ι, σd, h, rs, rh, q⟩ := q
  refine ⟨ι, σd, h, rs, rh, (PostR.bind q).imp fun p h1 ι1 H1 p1 e1 r1 q1 J ok => ?_⟩
  obtain ⟨xs, G⟩ := p
  intro Dl hD
  have ex0 : Ext κ.K H1 (upd H1 Dl (.lst [])) := Ext.new hD
  have r0 : RelH κ (ι1 ++ [Dl]) (h1 ++ [.lst []]) (upd H1 Dl (.lst [])) := r1.alloc hD fun ι' pι => ⟨[], upd_same, .nil⟩
  have eD : (ι1 ++ [Dl])[h1.length]? = some Dl := by rw [← r1.len, List.getElem?_append_right (Nat.le_refl _)]; simp
  have q0 := PostR.mono (List.prefix_append ι1 [Dl]) ex0 (PostR.bind q1)
  refine ⟨fun i m H => m = xs.length - i ∧ i ≤ xs.length ∧ ∃ ι h, (ι1 ++ [Dl]) <+: ι ∧ Ext κ.K (upd H1 Dl (.lst [])) H ∧ RelH κ ι h H ∧
      PostR κ W ι H σ (fun _ h2 ι2 H2 => PostR κ W ι2 H2 σ (PE_ κ Q) (.ok (.ref h1.length) h2)) (compG t cond el G h1.length (wipeD σd own) (xs.drop i) h),
    ⟨xs.length, rfl, Nat.zero_le _, _, _, pre_refl _, Ext.refl _ _, r0, by simpa using q0⟩, ?_⟩
  rintro i m H2 ⟨rfl, hi, ι2, h2, p2, e2, r2, q2⟩
  have base : Ext κ.K H H2 := e1.trans (ex0.trans e2)
  have pre : ι <+: ι2 := p1.trans ((List.prefix_append _ _).trans p2)
  have rs2 : RelS κ ι2 H2 (wipeD σd own) (wipe σ own) := wipe_rel (rs.mono pre base)
  have eD2 : ∀ {ι3 : List Addr}, ι2 <+: ι3 → ι3[h1.length]? = some Dl := fun {ι3} p3 => by
    obtain ⟨r, rfl⟩ := p2.trans p3
    rw [List.getElem?_append_left (List.getElem?_eq_some_iff.mp eD).1]; exact eD
  rcases Nat.lt_or_ge i xs.length with hl | hl
  · right
    rw [List.drop_eq_getElem_cons hl] at q2
    unfold compG at q2
    by_cases hG : G h2
    · simp only [if_pos hG] at q2
      obtain ⟨k1, _⟩ := ok ι2 h2 H2 ((List.prefix_append _ _).trans p2) (ex0.trans e2) r2 hG
      obtain ⟨go, hy⟩ := k1 i xs[i] (List.getElem?_eq_getElem hl)
      refine ⟨go, fun H' => ∃ ι h, (ι1 ++ [Dl]) <+: ι ∧ Ext κ.K (upd H1 Dl (.lst [])) H' ∧ RelH κ ι h H' ∧
        PostR κ W ι H' σ (fun _ h2 ι2 H2 => PostR κ W ι2 H2 σ (PE_ κ Q) (.ok (.ref h1.length) h2)) (compG t cond el G h1.length (wipeD σd own) (xs.drop (i + 1)) h), fun H' hN => ⟨xs.length - (i + 1), by omega, rfl, hl, hN⟩, fun x H3 yx => ?_⟩
      obtain ⟨e3, r3, rx⟩ := hy x H3 yx
      cases hp : t.put xs[i] (wipeD σd own) with
      | none => simp only [hp] at q2; exact q2.elim
      | some σ1 =>
        simp only [hp] at q2
        refine gT_sim t ι2 H3 (wipeD σd own) σ1 (wipe σ own) xs[i] x _ (rs2.mono (pre_refl _) e3) rx hp fun σ4 rs4 hw => ⟨?_, ?_⟩
        · rw [hw own hs]
          have key : ∀ (us : List Nat) (τ : L2.St), (∀ i ∈ us, i ∈ own) → wipe (wipe τ us) own = wipe τ own := by
            intro us
            induction us with
            | nil => intro τ _; rfl
            | cons u us ih =>
              intro τ hu
              show wipe ((wipe τ us).set u none) own = _
              rw [wipe_set (hu u List.mem_cons_self), ih τ fun i hi => hu i (List.mem_cons_of_mem _ hi)]
          exact key own σ fun i hi => hi
        · refine ⟨ι2, σ1, h2, rs4, r3, (PostR.bindStrict (PostR.mono (pre_refl _) e3 q2)).imp fun bb h5 ι5 H5 p5 e5 r5 q5 => ?_⟩
          have base5 : Ext κ.K (upd H1 Dl (.lst [])) H5 := e2.trans (e3.trans e5)
          cases bb with
          | false => exact iteF ⟨ι5, h5, p2.trans p5, base5, r5, q5⟩
          | true =>
            refine iteT ⟨ι5, σ1, h5, rs4.mono p5 e5, r5, (PostR.bindStrict q5).imp fun y h6 ι6 H6 p6 e6 r6 q6 v hv => ?_⟩
            cases hc : h6[h1.length]? with
            | none => simp only [hc] at q6; exact q6.elim
            | some cc =>
              simp only [hc] at q6
              cases cc with
              | lst acc =>
                by_cases hz : acc.length < 100000
                · simp only [if_pos hz] at q6
                  have ea : ι6[h1.length]? = some Dl := eD2 (p5.trans p6)
                  obtain ⟨vs, ev, rl⟩ := r6.at hc ea
                  have ex6 : Ext κ.K H6 (upd H6 Dl (.lst (vs ++ [v]))) := r6.ext_put hc ea
                  refine ⟨vs, ev, by rw [← rl.length]; exact sizeLt5 hz, ι6, _, p2.trans (p5.trans p6), (base5.trans e6).trans ex6, r6.put hc ea ?_, PostR.mono (pre_refl _) ex6 q6⟩
                  exact ⟨vs ++ [v], upd_same, (rl.mono κ.le_refl (pre_refl _) ex6).append (.cons (hv.mono κ.le_refl (pre_refl _) ex6) .nil)⟩
                · simp only [if_neg hz] at q6; exact q6.elim
              | _ => exact q6.elim
    · simp only [if_neg hG] at q2; exact q2.elim
  · left
    have he : i = xs.length := Nat.le_antisymm hi hl
    subst he
    rw [List.drop_length] at q2
    unfold compG at q2
    by_cases hG : G h2
    · simp only [if_pos hG] at q2
      obtain ⟨_, stp⟩ := ok ι2 h2 H2 ((List.prefix_append _ _).trans p2) (ex0.trans e2) r2 hG
      refine ⟨stp, (q2.now r2).now r2 (.ref Dl) ?_⟩
      simp only [Rep]
      exact ⟨Dl, eD2 (pre_refl _), rfl⟩
    · simp only [if_neg hG] at q2; exact q2.elim
theorem se_comp {own : List (Str × Nat)} {scope : Scope} {ifs : List Expr} {src : IS} {t : Tg} {cond : BS} {el : ES} (hK : κ.K = X.K) (hc : X.calm = true) (hN : X.N.Nodup) (hi : SI X κ W tg iter src) (ok : BlkOk X.N X.env.scope scope own)
    (hg : Blk X scope fun X => SG X tg t) (ht : Blk X scope fun X => SBs X κ WN ifs cond) (he : Blk X scope fun X => SE X κ WN elt el) (hsl : ∀ i ∈ t.slots, i ∈ own.map (·.2) := by decide) (hs : ∀ x, foldedSetIterable iter X.env x = pure x := by intro _; rfl) :
    SE X κ W (.ListComp elt [⟨tg, iter, ifs, 0⟩] scope pos) (eComp src t cond el (own.map (·.2))) :=
  pe_imp (pe_lc (g := gT κ.K t) hc hN hi ok (fun s H C cl fp => by have := hg s H C cl fp; unfold SG at this; rw [hK]; exact this) ht he hs) fun σ H Q q => comp_lc hsl q
theorem s1_comp {i : Nat} {y : Str} {py spos : Pos} {own : List (Str × Nat)} {scope : Scope} {ifs : List Expr} {src : IS} {t : Tg} {cond : BS} {el : ES} (hK : κ.K = X.K) (hc : X.calm = true) (hN : X.N.Nodup) (hy : X.N[i]? = some y) (hyl : X.env.scope.names.lookup y = some .local)
    (hsw : swapsWith (.ListComp elt [⟨tg, iter, ifs, 0⟩] scope pos) (some (.Name y py)) spos.line X.env = pure true) (hi : SI X κ W tg iter src) (ok : BlkOk X.N X.env.scope scope own)
    (hg : Blk X scope fun X => SG X tg t) (ht : Blk X scope fun X => SBs X κ WN ifs cond) (he : Blk X scope fun X => SE X κ WN elt el) (hsl : ∀ i ∈ t.slots, i ∈ own.map (·.2) := by decide) (hs : ∀ x, foldedSetIterable iter X.env x = pure x := by intro _; rfl) :
    S1 X κ W (.Assign [.Name y py] (.ListComp elt [⟨tg, iter, ifs, 0⟩] scope pos) spos) (sSet i (eComp src t cond el (own.map (·.2)))) :=
  ps_imp (ps_setLc (g := gT κ.K t) hc hN hy hyl hsw hi ok (fun s H C cl fp => by have := hg s H C cl fp; unfold SG at this; rw [hK]; exact this) ht he hs) fun E σ H ⟨ι, σd, h, rs, rh, q⟩ =>
    comp_lc hsl ⟨ι, σd, h, rs, rh, (PostR.onR rs q).imp fun d h1 ι1 H1 p1 e1 r1 q1 v hv => q1 ι1 H1 _ (pre_refl _) (Ext.refl _ _) ((rs.mono p1 e1).set hv i) r1⟩
theorem s1_par {i j : Nat} {x y : Str} {px py pt : Pos} {kt k2 pt2} {fs : AS} (hc : X.calm = true) (hN : X.N.Nodup) (hi : X.N[i]? = some x) (hj : X.N[j]? = some y) (hij : i ≠ j)
    (hx : X.env.scope.names.lookup x = some .local) (hy : X.env.scope.names.lookup y = some .local) (ha : SA X κ W [a, b] fs)
    (hw : swappedStores [.Tuple [.Name x px, .Name y py] kt pt] (.Tuple [a, b] k2 pt2) X.env = pure (some [x, y]))
    (hs : swapsWithSole [.Tuple [.Name x px, .Name y py] kt pt] (.Tuple [a, b] k2 pt2) pos.line X.env = pure false := by rfl) :
    S1 X κ W (.Assign [.Tuple [.Name x px, .Name y py] kt pt] (.Tuple [a, b] k2 pt2) pos) (sPar i j fs) := ps_imp (ps_par hc hN hi hj hij hx hy ha hw hs) fun E σ H ⟨ι, σd, h, rs, rh, q⟩ => by
  refine ⟨ι, σd, h, rs, rh, (PostR.onR rs q).imp fun ds h1 ι1 H1 p1 e1 r1 q1 vs hv => ?_⟩
  match ds, q1, hv with
  | [], q1, _ => exact q1.elim
  | [_], q1, _ => exact q1.elim
  | _ :: _ :: _ :: _, q1, _ => exact q1.elim
  | [d1, d2], q1, hv =>
    simp only [RepL] at hv
    obtain ⟨v, vr, rfl, rv, w, wr, rfl, rw_, rfl⟩ := hv
    exact ⟨v, w, rfl, q1 ι1 H1 _ (pre_refl _) (Ext.refl _ _) (((rs.mono p1 e1).set rv i).set rw_ j) r1⟩
def sTgt (t : Tg) (e : ES) : SS := fun σ h => onR σ (e σ h) fun d h1 => match t.put d σ with
  | some σ1 => .nx σ1 h1
  | none => .bad
theorem s1_tgt {t : Tg} (hK : κ.K = X.K) (h : SE X κ W e f) (hg : SG X tg t) (hs : swapsWithSole [tg] e pos.line X.env = pure false := by rfl) (hw : swappedStores [tg] e X.env = pure none := by rfl)
    (h1 : (assignEach [tg] X.env).map (·.2) = [assign tg X.env] := by rfl) : S1 X κ W (.Assign [tg] e pos) (sTgt t f) := ps_imp (ps_asg h hg hs hw h1) fun E σ H ⟨ι, σd, h, rs, rh, q⟩ => by
  refine ⟨ι, σd, h, rs, rh, (PostR.onR rs q).imp fun d h1 ι1 H1 p1 e1 r1 q1 v hv => ?_⟩
  cases hp : t.put d σd with
  | none => simp only [hp] at q1; exact q1.elim
  | some σ1 =>
    simp only [hp] at q1
    have := gT_sim (κ := κ) t ι1 H1 σd σ1 σ d v E.nx (rs.mono p1 e1) hv hp fun σ' rs' _ => q1 ι1 H1 σ' (pre_refl _) (Ext.refl _ _) rs' r1
    rw [hK] at this
    exact this
def sSub (gs : D → D → D → Hs → Res D) (o i v : ES) : SS := fun σ h => onR σ (v σ h) fun x h1 => onR σ (o σ h1) fun p h2 => onR σ (i σ h2) fun k h3 => onR σ (gs p k x h3) fun _ h4 => .nx σ h4
def SimSet (κ : Kx) (W : WX) (r : V → V → V → Hp → (Hp → Prop) → Prop) (g : D → D → D → Hs → Res D) : Prop := ∀ (ι : List Addr) (h : Hs) (H : Hp) (σ : L2.St) (p k x : D) (vp vk vx : V) (Q : Hp → Prop), RelH κ ι h H → Rep κ ι H p vp → Rep κ ι H k vk → Rep κ ι H x vx →
  PostR κ W ι H σ (fun _ _ _ H => Q H) (g p k x h) → r vp vk vx H Q
theorem s1_sub {o i : Expr} {fo fi fv : ES} {r : V → V → V → Hp → (Hp → Prop) → Prop} {gs : D → D → D → Hs → Res D} {p2 : Pos} (hset : PSet X r) (ss : SimSet κ W r gs) (hv : SE X κ W e fv) (ho : SE X κ W o fo) (hi : SE X κ W i fi)
    (hsub : PG X (.Subscript o i p2) (gSub (rdE κ W fo) (rdE κ W fi) r)) (hs : swapsWithSole [.Subscript o i p2] e pos.line X.env = pure false := by rfl) (hw : swappedStores [.Subscript o i p2] e X.env = pure none := by rfl)
    (h1 : (assignEach [.Subscript o i p2] X.env).map (·.2) = [assign (.Subscript o i p2) X.env] := by rfl) : S1 X κ W (.Assign [.Subscript o i p2] e pos) (sSub gs fo fi fv) := ps_imp (ps_asg hv hsub hs hw h1) fun E σ H ⟨ι, σd, h, rs, rh, q⟩ => by
  refine ⟨ι, σd, h, rs, rh, (PostR.onR rs q).imp fun x h1 ι1 H1 p1 e1 r1 q1 v hv => ?_⟩
  have rs1 := rs.mono p1 e1
  refine ⟨ι1, σd, h1, rs1, r1, (PostR.onR rs1 q1).imp fun p h2 ι2 H2 p2 e2 r2 q2 vp hp => ?_⟩
  have rs2 := rs1.mono p2 e2
  refine ⟨ι2, σd, h2, rs2, r2, (PostR.onR rs2 q2).imp fun k h3 ι3 H3 p3 e3 r3 q3 vk hk => ?_⟩
  have rs3 := rs2.mono p3 e3
  refine ss ι3 h3 H3 σ p k x vp vk v _ r3 (hp.mono κ.le_refl p3 e3) hk (hv.mono κ.le_refl (p2.trans p3) (e2.trans e3)) ((PostR.onR rs3 q3).imp fun _ h4 ι4 H4 p4 e4 r4 q4 => ?_)
  exact q4 ι4 H4 σ (pre_refl _) (Ext.refl _ _) (rs3.mono p4 e4) r4
theorem s1_aug {i : Nat} {x : Str} {op : Operator} {ti : TIp} {pos' : Pos} {ga : D → D → Hs → Res D} (hN : X.N.Nodup) (hi : X.N[i]? = some x) (hx : L2.Loc X.env.scope x) (h : SE X κ W e f) (ho : PIp X op ti) (s : Sim2 κ W ti ga)
    (hf : X.fn x = true ∨ X.env.scope.names.lookup x = some .local := by first | exact .inl rfl | exact .inr rfl | assumption) : S1 X κ W (.AugAssign (.Name x pos') op e pos) (sAug i ga f) := ps_imp (ps_aug hN hi hx h ho hf) fun E σ H ⟨ι, σd, h, rs, rh, q⟩ => by
  unfold sAug at q
  cases hs : σd[i]? with
  | none => rw [hs] at q; exact q.elim
  | some o =>
    rw [hs] at q
    cases o with
    | none => exact q.elim
    | some d =>
      obtain ⟨v, hv, r⟩ := rs.2 i d hs
      refine ⟨v, hv, ι, σd, h, rs, rh, (PostR.onR rs q).imp fun y h1 ι1 H1 p1 e1 r1 q1 w hw => ?_⟩
      have rs1 := rs.mono p1 e1
      refine s ι1 h1 H1 σ d y v w _ r1 (r.mono κ.le_refl p1 e1) hw ((PostR.onR rs1 q1).imp fun z h2 ι2 H2 p2 e2 r2 q2 u hu => ?_)
      exact q2 ι2 H2 _ (pre_refl _) (Ext.refl _ _) ((rs1.mono p2 e2).set hu i) r2
end
def bodyF (N : Nat) (s : SS) : FS := fun ds h => match s (ds.map some ++ List.replicate (N - ds.length) none) h with
  | .rt d h' => .ok d h'
  | .nx _ h' => .ok .non h'
  | .exc c fs _ h' => .exc c fs h'
  | _ => .bad
noncomputable def fnF (N : Nat) (s : SS) : FS := fun ds h => gc h (bodyF N s ds h)
abbrev kx (K : PySem.W.Frag) : Kx := ⟨K, none⟩
abbrev WE_ (E : XK) : WX := fun c d _ H => E c d H
def spOf (K : PySem.W.Frag) (np : Nat) (m : FS) : Sp := fun vs H Q E => ∃ ι h ds, RelH (kx K) ι h H ∧ RepL (kx K) ι H ds vs ∧ ds.length = np ∧ PostR (kx K) (WE_ E) ι H [] (PE_ (kx K) Q) (m ds h)
theorem start_rel {K : PySem.W.Frag} {ι : List Addr} {H : Hp} {ds : List D} {vs : List V} (N : List Str) (r : RepL (kx K) ι H ds vs) : RelS (kx K) ι H (ds.map some ++ List.replicate (N.length - ds.length) none) (L2.start N vs) := by
  have hl := r.length
  refine ⟨by unfold L2.start; simp [hl], fun i d hd => ?_⟩
  unfold L2.start
  rcases Nat.lt_or_ge i ds.length with h | h
  · rw [List.getElem?_append_left (by simpa using h), List.getElem?_map] at hd
    cases hi : ds[i]? with
    | none => rw [hi] at hd; cases hd
    | some d' =>
      rw [hi] at hd
      cases hd
      obtain ⟨v, hv, rv⟩ := r.get hi
      exact ⟨v, by rw [List.getElem?_append_left (by simpa [← hl] using h), List.getElem?_map, hv]; rfl, rv⟩
  · rw [List.getElem?_append_right (by simpa using h), List.getElem?_replicate] at hd
    split at hd <;> cases hd
section
variable {P : Program} {w : World} {K : PySem.W.Frag} {mg : Str → Option Value} {base : Heap} {x qual : Str} {params : Arguments} {body : List Stmt} {scope : Scope} {f : Addr} {fd : FuncData}
theorem fn_ok {N ps : List Str} {k : Nat} {s : SS} (F : FunD K x qual params body scope [] [] f fd) (S : FnScope N ps scope)
    (hb : ∀ (cdv : Value) (A : Around) (outer : List Env) (s0 : Shared) (H : Hp) (E : XK), Room k (A.deeper (envOfC qual scope s0.heap.objs.size f cdv)) →
      SN (cxOf (L2.CX P w) P w K mg base N qual scope f cdv A outer s0 H E) (kx K) (WE_ E) body s) : FnOk P w K mg base (L2.CX P w) (k + 1) f fd ps (spOf K ps.length (fnF N.length s)) := by
  refine F.ok S (fun vs H Q E ⟨ι, h, ds, _, r, l, _⟩ => by rw [← r.length]; exact l) fun cdv A outer s0 H vs Q E hr ⟨ι, h, ds, rh, r, l, q⟩ => ⟨_, hb cdv A outer s0 H E hr, ?_⟩
  have q := q.gc rh
  refine ⟨ι, _, h, start_rel N r, rh, ?_⟩
  unfold bodyF at q
  revert q
  cases s (ds.map some ++ List.replicate (N.length - ds.length) none) h with
  | rt d h' => exact fun q ι' H' v p e rh' rv => q ι' H' p e rh' v rv
  | nx σd h' => exact fun q ι' H' σ' p e _ rh' => q ι' H' p e rh' .non (by simp only [Rep])
  | exc c fs σd h' => exact fun q ι' H' σ' d vs p e _ rh' hd rf => q ι' H' d vs p e rh' hd rf
  | bk σd h' => exact fun q => q.elim
  | ct σd h' => exact fun q => q.elim
  | bad => exact fun q => q.elim
structure Fn (P : Program) (w : World) (K : PySem.W.Frag) (mg : Str → Option Value) (base : Heap) (lvl : Nat) (x : Str) (np : Nat) (m : FS) : Prop where
  ex : ∃ (f : Addr) (fd : FuncData) (ps : List Str), mg x = some (.ref f) ∧ PySem.W.keepIn K (.ref f) = true ∧ Binds K fd ps [] ∧ ps.length = np ∧ FnOk P w K mg base (L2.CX P w) lvl f fd ps (spOf K np m)
end
section
variable {X : Cx} {W : WX} {e : Expr} {es : List Expr} {fs : AS} {lvl np : Nat} {x : Str} {m : FS} {p pos : Pos} {K : PySem.W.Frag}
def eUser (np : Nat) (m : FS) (a : AS) : ES := fun σ h => (a σ h).bind fun ds h1 => if ds.length = np then m ds h1 else .bad
theorem user_post {E : L2.St → XK} {ι : List Addr} {H : Hp} {σ : L2.St} {Q : VK} {σd : Lo} {h : Hs} (rs : RelS (kx K) ι H σd σ) (rh : RelH (kx K) ι h H) (q : PostR (kx K) W ι H σ (PE_ (kx K) Q) (eUser np m fs σd h)) :
    rdA (kx K) W fs σ H fun vs H1 => spOf K np m vs H1 Q (WE W σ) := by
  refine ⟨ι, σd, h, rs, rh, (PostR.bind q).imp fun ds h1 ι1 H1 p1 e1 r1 q1 vs hv => ?_⟩
  by_cases hl : ds.length = np
  · simp only [if_pos hl] at q1
    refine ⟨ι1, h1, ds, r1, hv, hl, ?_⟩
    revert q1
    cases m ds h1 with
    | ok d h2 => exact fun q => q
    | exc c fs h2 => exact fun q => q
    | bad => exact fun q => q.elim
  · simp only [if_neg hl] at q1; exact q1.elim
theorem se_user (F : Fn X.prog X.w X.K X.mg X.base lvl x np m) (hr : Room lvl X.A) (hg : Gl X x) (tk : Takes X W) (ha : SA X (kx X.K) W (e :: es) fs) (hdb : (x == ("__debug__" : Str)) = false := by decide)
    (he : starEach (e :: es) X.env = (false, eval e X.env) :: starEach es X.env := by rfl) (hpl : (backTo pos (starEach es X.env)).any (·.1) = false := by rfl) : SE X (kx X.K) W (.Call (.Name x p) (e :: es) [] pos) (eUser np m fs) := by
  obtain ⟨f, fd, ps, hm, hk, hb, hl, F⟩ := F.ex
  exact pe_imp (pe_callS F hr hg hm hk hb (E := WE W) (fun σ => passAt tk σ) ha hdb he hpl) fun σ H Q ⟨ι, σd, h, rs, rh, q⟩ => user_post (E := WE W) rs rh q
end
end Sm

set_option Elab.async false
set_option linter.all false
set_option maxRecDepth 100000
set_option maxHeartbeats 4000000
set_option autoImplicit false
namespace Sm
open PySem PySem.Spec PyProof.Rows L2

def oAdd : D → D → Hs → Res D
  | .int i, .int j, h => .ok (.int (i + j)) h
  | .str a, .str b, h => if a.length + b.length ≤ 100000 then .ok (.str (a ++ b)) h else .bad
  | .tup a, .tup b, h => if a.length + b.length ≤ 100000 then .ok (.tup (a ++ b)) h else .bad
  | .ref m, .ref n, h => (match h[m]?, h[n]? with
    | some (.lst a), some (.lst b) => if a.length + b.length ≤ 100000 then .ok (.ref h.length) (h ++ [.lst (a ++ b)]) else .bad
    | _, _ => .bad)
  | _, _, _ => .bad
def oInts (C : Int → Int → Prop) [∀ i j, Decidable (C i j)] (f : Int → Int → Int) : D → D → Hs → Res D
  | .int i, .int j, h => if C i j then .ok (.int (f i j)) h else .bad
  | _, _, _ => .bad
def oSub : D → D → Hs → Res D
  | .int i, .int j, h => .ok (.int (i - j)) h
  | _, _, _ => .bad
instance : ∀ i j, Decidable (CMulW i j) := fun i j => by unfold CMulW; infer_instance
instance : ∀ i j, Decidable (CDivW i j) := fun i j => by unfold CDivW; infer_instance
instance : ∀ i j, Decidable (CPow i j) := fun i j => by unfold CPow; infer_instance
def oMul : D → D → Hs → Res D := oInts CMulW fun i j => i * j
def oDiv : D → D → Hs → Res D := oInts CDivW fun i j => i / j
def oMod : D → D → Hs → Res D := oInts (fun _ j => 0 < j) fun i j => i % j
def oPow : D → D → Hs → Res D := oInts CPow fun i j => i ^ j.toNat
def oShl : D → D → Hs → Res D := oInts CPow fun i j => i * 2 ^ j.toNat
def oCmp (p : Int → Int → Bool) : D → D → Hs → Res D
  | .int i, .int j, h => .ok (.bl (p i j)) h
  | _, _, _ => .bad
def oLt := oCmp fun i j => decide (i < j)
def oLe := oCmp fun i j => decide (i ≤ j)
def oGt := oCmp fun i j => decide (j < i)
def oGe := oCmp fun i j => decide (j ≤ i)
def oNeg : D → Hs → Res D
  | .int i, h => .ok (.int (-i)) h
  | _, _ => .bad
section
variable {X : Cx} {κ : Kx} {W : WX}
theorem rInt {ι : List Addr} {H : Hp} {i : Int} {v : V} (h : Rep κ ι H (.int i) v) : v = .int i := by simp only [Rep] at h; exact h
theorem rBl {ι : List Addr} {H : Hp} {i : Bool} {v : V} (h : Rep κ ι H (.bl i) v) : v = .bl i := by simp only [Rep] at h; exact h
theorem rStr {ι : List Addr} {H : Hp} {i : Str} {v : V} (h : Rep κ ι H (.str i) v) : v = .str i := by simp only [Rep] at h; exact h
theorem rNon {ι : List Addr} {H : Hp} {v : V} (h : Rep κ ι H .non v) : v = .non := by simp only [Rep] at h; exact h
theorem wInt {ι : List Addr} {H : Hp} {i : Int} : Rep κ ι H (.int i) (.int i) := by simp only [Rep]
theorem wBl {ι : List Addr} {H : Hp} {i : Bool} : Rep κ ι H (.bl i) (.bl i) := by simp only [Rep]
theorem wStr {ι : List Addr} {H : Hp} {i : Str} : Rep κ ι H (.str i) (.str i) := by simp only [Rep]
theorem wNon {ι : List Addr} {H : Hp} : Rep κ ι H .non .non := by simp only [Rep]
theorem rTup {ι : List Addr} {H : Hp} {xs : List D} {v : V} (h : Rep κ ι H (.tup xs) v) : ∃ a vs, v = .ref a ∧ SqT κ.K H a vs ∧ RepL κ ι H xs vs := by simp only [Rep] at h; exact h
theorem wTup {ι : List Addr} {H : Hp} {xs : List D} {a : Addr} {vs : List V} (h1 : SqT κ.K H a vs) (h2 : RepL κ ι H xs vs) : Rep κ ι H (.tup xs) (.ref a) := by simp only [Rep]; exact ⟨a, vs, rfl, h1, h2⟩
theorem rRef {ι : List Addr} {H : Hp} {n : Nat} {v : V} (h : Rep κ ι H (.ref n) v) : ∃ a, ι[n]? = some a ∧ v = .ref a := by simp only [Rep] at h; exact h
theorem rFl {ι : List Addr} {H : Hp} {xs : List D} {v : V} (h : Rep κ ι H (.fl xs) v) : ∃ a vs, v = .ref a ∧ FlOk κ.K H a vs ∧ RepL κ ι H xs vs := by simp only [Rep] at h; exact h
theorem new_tup {ι : List Addr} {h : Hs} {H : Hp} {σ : L2.St} {xs : List D} {vs : List V} {Q : VK} {p : Addr} (rh : RelH κ ι h H) (r : RepL κ ι H xs vs) (hp : H p = none) (q : PostR κ W ι H σ (PE_ κ Q) (.ok (.tup xs) h)) : Q (.ref p) (upd H p (.tup vs)) :=
  q ι _ (pre_refl ι) (Ext.new hp) (rh.aside hp) (.ref p) (wTup (SqT.of upd_same) (r.mono κ.le_refl (pre_refl ι) (Ext.new hp)))
theorem new_lst {ι : List Addr} {h : Hs} {H : Hp} {σ : L2.St} {xs : List D} {vs : List V} {Q : VK} {p : Addr} (rh : RelH κ ι h H) (r : RepL κ ι H xs vs) (hp : H p = none) (q : PostR κ W ι H σ (PE_ κ Q) (.ok (.ref h.length) (h ++ [.lst xs]))) : Q (.ref p) (upd H p (.lst vs)) := by
  refine q (ι ++ [p]) _ (List.prefix_append _ _) (Ext.new hp) (rh.alloc hp fun ι' pι => ⟨vs, upd_same, r.mono κ.le_refl pι (Ext.new hp)⟩) (.ref p) ?_
  simp only [Rep]
  exact ⟨p, by rw [← rh.len, List.getElem?_append_right (Nat.le_refl _)]; simp, rfl⟩
theorem sim_cmp {p : Int → Int → Bool} : Sim2 κ W (rI0 fun i j => .bl (p i j)) (oCmp p) := fun ι h H σ x y v w Q rh hv hw q => by
  unfold oCmp at q
  split at q
  · exact ⟨_, _, rInt hv, rInt hw, q.now rh _ wBl⟩
  · exact q.elim
theorem sim_ints {C : Int → Int → Prop} [∀ i j, Decidable (C i j)] {f : Int → Int → Int} : Sim2 κ W (rI C fun i j => .int (f i j)) (oInts C f) := fun ι h H σ x y v w Q rh hv hw q => by
  unfold oInts at q
  split at q
  · split at q
    · rename_i hc
      exact ⟨_, _, rInt hv, rInt hw, hc, q.now rh _ wInt⟩
    · exact q.elim
  · exact q.elim
theorem sim_sub : Sim2 κ W (rI0 fun i j => .int (i - j)) oSub := fun ι h H σ x y v w Q rh hv hw q => by
  unfold oSub at q
  split at q
  · exact ⟨_, _, rInt hv, rInt hw, q.now rh _ wInt⟩
  · exact q.elim
theorem repL_nil_iff {ι : List Addr} {H : Hp} {xs : List D} {vs : List V} (r : RepL κ ι H xs vs) : xs = [] ↔ vs = [] := by
  have := r.length
  constructor
  · intro e; subst e; exact List.eq_nil_of_length_eq_zero this.symm
  · intro e; subst e; exact List.eq_nil_of_length_eq_zero this
abbrev rAddAll (K : PySem.W.Frag) : R2 := fun x y H Q => (rI0 fun i j => .int (i + j)) x y H Q ∨ ((∃ i j, x = .str i ∧ y = .str j ∧ i.length + j.length ≤ sizeLine ∧ Q (.str (i ++ j)) H) ∨ (rCatA K x y H Q ∨ rCat x y H Q))
theorem op_addAll : OpR X (binaryOp .Add) (rAddAll X.K) := op_add.or (op_add_str.or (op_catA.or op_cat))
theorem sim_add : Sim2 κ W (rAddAll κ.K) oAdd := fun ι h H σ x y v w Q rh hv hw q => by
  unfold oAdd at q
  split at q
  · exact .inl ⟨_, _, rInt hv, rInt hw, q.now rh _ wInt⟩
  · split at q
    · rename_i hl
      exact .inr (.inl ⟨_, _, rStr hv, rStr hw, size5 hl, q.now rh _ wStr⟩)
    · exact q.elim
  · split at q
    · rename_i a b hl
      obtain ⟨p1, vs, e1, s1, r1⟩ := rTup hv
      obtain ⟨p2, ws, e2, s2, r2⟩ := rTup hw
      refine .inr (.inr (.inl ⟨p1, p2, vs, ws, e1, e2, s1, s2, by rw [← r1.length, ← r2.length]; exact size5 hl, fun e => ?_, fun _ e => ?_, fun _ _ p hp => ?_⟩))
      · have ea := (repL_nil_iff r1).mpr e
        subst ea
        exact q.now rh _ (wTup s2 r2)
      · have eb := (repL_nil_iff r2).mpr e
        subst eb
        rw [List.append_nil] at q
        exact q.now rh _ (wTup s1 r1)
      · exact new_tup rh (r1.append r2) hp q
    · exact q.elim
  · split at q
    · rename_i m n a b hm hn
      split at q
      · rename_i hl
        obtain ⟨p1, e1, rfl⟩ := rRef hv
        obtain ⟨p2, e2, rfl⟩ := rRef hw
        obtain ⟨vs, ev, r1⟩ := rh.at hm e1
        obtain ⟨ws, ew, r2⟩ := rh.at hn e2
        exact .inr (.inr (.inr ⟨p1, p2, vs, ws, rfl, rfl, ev, ew, by rw [← r1.length, ← r2.length]; exact size5 hl, fun p hp => new_lst rh (r1.append r2) hp q⟩))
      · exact q.elim
    · exact q.elim
  · exact q.elim
theorem sim_neg : Sim1 κ W (rU fun i => .int (-i)) oNeg := fun ι h H σ x v Q rh hv q => by
  unfold oNeg at q
  split at q
  · exact ⟨_, rInt hv, q.now rh _ wInt⟩
  · exact q.elim

mutual
def D.py : D → Option PyData
  | .non => some .none
  | .bl b => some (.bool b)
  | .int i => some (.int i)
  | .str s => some (.str s)
  | .tup xs => (pyL xs).map .tuple
  | _ => none
def pyL : List D → Option (List PyData)
  | [] => some []
  | x :: xs => match x.py, pyL xs with
    | some d, some ds => some (d :: ds)
    | _, _ => none
end
mutual
theorem dp_of {ι : List Addr} {H : Hp} : ∀ {d : D} {v : V} {p : PyData}, Rep κ ι H d v → d.py = some p → Dp κ.K H v p
  | .non, _, _, r, e => by rw [rNon r]; simp only [D.py, Option.some.injEq] at e; subst e; exact .non
  | .bl _, _, _, r, e => by rw [rBl r]; simp only [D.py, Option.some.injEq] at e; subst e; exact .bl _
  | .int _, _, _, r, e => by rw [rInt r]; simp only [D.py, Option.some.injEq] at e; subst e; exact .int _
  | .str _, _, _, r, e => by rw [rStr r]; simp only [D.py, Option.some.injEq] at e; subst e; exact .str _
  | .tup xs, _, _, r, e => by
    obtain ⟨a, vs, rfl, s, rl⟩ := rTup r
    simp only [D.py, Option.map_eq_some_iff] at e
    obtain ⟨ds, e1, rfl⟩ := e
    exact .tup s (dpL_of rl e1)
  | .ref _, _, _, _, e => by simp [D.py] at e
  | .fl _, _, _, _, e => by simp [D.py] at e
  | .exc _ _ _, _, _, _, e => by simp [D.py] at e
theorem dpL_of {ι : List Addr} {H : Hp} : ∀ {ds : List D} {vs : List V} {ps : List PyData}, RepL κ ι H ds vs → pyL ds = some ps → DpAll κ.K H vs ps
  | [], _, _, r, e => by simp only [RepL] at r; simp only [pyL, Option.some.injEq] at e; subst r e; exact .nil
  | d :: ds, _, _, r, e => by
    simp only [RepL] at r
    obtain ⟨v, vr, rfl, r1, r2⟩ := r
    simp only [pyL] at e
    cases h1 : d.py with
    | none => rw [h1] at e; cases e
    | some p =>
      cases h2 : pyL ds with
      | none => rw [h1, h2] at e; cases e
      | some ps' =>
        rw [h1, h2] at e
        cases e
        exact .cons (dp_of r1 h1) (dpL_of r2 h2)
end
def eqD (x y : D) : Option Bool := match x.py, y.py with
  | some p, some q => if SeqAt.shaped p = true ∧ SeqAt.shaped q = true then some (PyData.eqv p q) else none
  | _, _ => none
def oEq (neg : Bool) : D → D → Hs → Res D := fun x y h => match eqD x y with
  | some b => .ok (.bl (if neg then !b else b)) h
  | none => .bad
theorem sim_eqD : Sim2 κ W (rEqD κ.K) (oEq false) := fun ι h H σ x y v w Q rh hv hw q => by
  unfold oEq eqD at q
  cases hx : x.py with
  | none => rw [hx] at q; exact q.elim
  | some p =>
    cases hy : y.py with
    | none => rw [hx, hy] at q; exact q.elim
    | some p' =>
      rw [hx, hy] at q
      by_cases hs : SeqAt.shaped p = true ∧ SeqAt.shaped p' = true
      · simp only [if_pos hs] at q
        exact ⟨p, p', dp_of hv hx, dp_of hw hy, hs.1, hs.2, q.now rh _ wBl⟩
      · simp only [if_neg hs] at q
        exact q.elim
theorem sim_neD : Sim2 κ W (rNeD κ.K) (oEq true) := fun ι h H σ x y v w Q rh hv hw q => by
  unfold oEq eqD at q
  cases hx : x.py with
  | none => rw [hx] at q; exact q.elim
  | some p =>
    cases hy : y.py with
    | none => rw [hx, hy] at q; exact q.elim
    | some p' =>
      rw [hx, hy] at q
      by_cases hs : SeqAt.shaped p = true ∧ SeqAt.shaped p' = true
      · simp only [if_pos hs] at q
        exact ⟨p, p', dp_of hv hx, dp_of hw hy, hs.1, hs.2, q.now rh _ wBl⟩
      · simp only [if_neg hs] at q
        exact q.elim
def oIsN (neg : Bool) : D → D → Hs → Res D := fun x y h => match y with
  | .non => (match x with
    | .non => .ok (.bl (!neg)) h
    | _ => .ok (.bl neg) h)
  | _ => .bad
theorem rep_non {ι : List Addr} {H : Hp} {d : D} {v : V} (r : Rep κ ι H d v) (h : d ≠ .non) : v ≠ .non := fun e => by
  subst e
  cases d with
  | non => exact h rfl
  | bl b => cases rBl r
  | int b => cases rInt r
  | str b => cases rStr r
  | tup b => obtain ⟨a, vs, e, _⟩ := rTup r; cases e
  | ref n => obtain ⟨a, _, e⟩ := rRef r; cases e
  | fl b => obtain ⟨a, vs, e, _⟩ := rFl r; cases e
  | exc c ks xs => simp only [Rep] at r; obtain ⟨_, _, _, _, e, _⟩ := r; cases e
theorem sim_isN : Sim2 κ W (fun x y H Q => y = .non ∧ Q (.bl (decide (x = .non))) H) (oIsN false) := fun ι h H σ x y v w Q rh hv hw q => by
  unfold oIsN at q
  split at q
  · refine ⟨rNon hw, ?_⟩
    split at q
    · rw [rNon hv]; exact q.now rh _ wBl
    · rename_i hx
      rw [decide_eq_false (rep_non hv (by simpa using hx))]
      exact q.now rh _ wBl
  · exact q.elim
theorem sim_notN : Sim2 κ W (fun x y H Q => y = .non ∧ Q (.bl (!decide (x = .non))) H) (oIsN true) := fun ι h H σ x y v w Q rh hv hw q => by
  unfold oIsN at q
  split at q
  · refine ⟨rNon hw, ?_⟩
    split at q
    · rw [rNon hv]; exact q.now rh _ wBl
    · rename_i hx
      rw [decide_eq_false (rep_non hv (by simpa using hx))]
      exact q.now rh _ wBl
  · exact q.elim
def D.flat : D → Option V
  | .non => some .non
  | .bl b => some (.bl b)
  | .int i => some (.int i)
  | .str s => some (.str s)
  | _ => none
def flatL : List D → Option (List V)
  | [] => some []
  | x :: xs => match x.flat, flatL xs with
    | some v, some vs => some (v :: vs)
    | _, _ => none
theorem flat_of {ι : List Addr} {H : Hp} {d : D} {v u : V} (r : Rep κ ι H d v) (e : d.flat = some u) : v = u ∧ flatV u = true := by
  cases d with
  | non => simp only [D.flat, Option.some.injEq] at e; subst e; exact ⟨rNon r, rfl⟩
  | bl b => simp only [D.flat, Option.some.injEq] at e; subst e; exact ⟨rBl r, rfl⟩
  | int b => simp only [D.flat, Option.some.injEq] at e; subst e; exact ⟨rInt r, rfl⟩
  | str b => simp only [D.flat, Option.some.injEq] at e; subst e; exact ⟨rStr r, rfl⟩
  | _ => simp [D.flat] at e
theorem flatL_of {ι : List Addr} {H : Hp} : ∀ {ds : List D} {vs us : List V}, RepL κ ι H ds vs → flatL ds = some us → vs = us ∧ us.all flatV = true
  | [], _, _, r, e => by simp only [RepL] at r; simp only [flatL, Option.some.injEq] at e; subst r e; exact ⟨rfl, rfl⟩
  | d :: ds, _, _, r, e => by
    simp only [RepL] at r
    obtain ⟨v, vr, rfl, r1, r2⟩ := r
    simp only [flatL] at e
    cases h1 : d.flat with
    | none => rw [h1] at e; cases e
    | some p =>
      cases h2 : flatL ds with
      | none => rw [h1, h2] at e; cases e
      | some ps' =>
        rw [h1, h2] at e
        cases e
        obtain ⟨e1, f1⟩ := flat_of r1 h1
        obtain ⟨e2, f2⟩ := flatL_of r2 h2
        subst e1 e2
        exact ⟨rfl, by rw [List.all_cons, f1, f2]; rfl⟩
def seqD (h : Hs) : D → Option (List D)
  | .tup xs => some xs
  | .fl xs => some xs
  | .ref n => (match h[n]? with
    | some (.lst xs) => some xs
    | _ => none)
  | _ => none
theorem seq_of {ι : List Addr} {h : Hs} {H : Hp} {d : D} {v : V} {xs : List D} (rh : RelH κ ι h H) (r : Rep κ ι H d v) (e : seqD h d = some xs) : ∃ a vs, v = .ref a ∧ (SqL κ.K H a vs ∨ SqT κ.K H a vs) ∧ RepL κ ι H xs vs := by
  cases d with
  | tup ys =>
    simp only [seqD, Option.some.injEq] at e; subst e
    obtain ⟨a, vs, e1, s, rl⟩ := rTup r
    exact ⟨a, vs, e1, .inr s, rl⟩
  | fl ys =>
    simp only [seqD, Option.some.injEq] at e; subst e
    obtain ⟨a, vs, e1, s, rl⟩ := rFl r
    exact ⟨a, vs, e1, .inl (fl_sq s), rl⟩
  | ref n =>
    simp only [seqD] at e
    cases hn : h[n]? with
    | none => rw [hn] at e; cases e
    | some c =>
      rw [hn] at e
      cases c with
      | lst ys =>
        simp only [Option.some.injEq] at e; subst e
        obtain ⟨a, ea, e1⟩ := rRef r
        obtain ⟨vs, ev, rl⟩ := rh.at hn ea
        exact ⟨a, vs, e1, .inl (SqL.of ev), rl⟩
      | _ => cases e
  | _ => simp [seqD] at e
def oIn (neg : Bool) : D → D → Hs → Res D := fun x y h => match y with
  | .str t => (match x with
    | .str s => .ok (.bl (if neg then !(!(Builtin.Str.occurrences t s 0 t.length 1).isEmpty) else !(Builtin.Str.occurrences t s 0 t.length 1).isEmpty)) h
    | _ => .bad)
  | _ => (match x.flat, (seqD h y).bind flatL with
    | some v, some vs => .ok (.bl (if neg then !inV v vs else inV v vs)) h
    | _, _ => .bad)
abbrev rInAll (K : PySem.W.Frag) (neg : Bool) : R2 := fun x y H Q => (∃ i j, x = .str i ∧ y = .str j ∧ Q (.bl (if neg then !(!(Builtin.Str.occurrences j i 0 j.length 1).isEmpty) else !(Builtin.Str.occurrences j i 0 j.length 1).isEmpty)) H) ∨ rIn K neg x y H Q
theorem op_inAll : OpR X (compareOp .In) (rInAll X.K false) := op_in_str.or op_in_seq
theorem op_ninAll : OpR X (compareOp .NotIn) (rInAll X.K true) := op_notIn_str.or op_notIn_seq
theorem sim_in {neg : Bool} : Sim2 κ W (rInAll κ.K neg) (oIn neg) := fun ι h H σ x y v w Q rh hv hw q => by
  unfold oIn at q
  split at q
  · split at q
    · exact .inl ⟨_, _, rStr hv, rStr hw, q.now rh _ wBl⟩
    · exact q.elim
  · split at q
    · rename_i v' vs' hx hy
      rw [Option.bind_eq_some_iff] at hy
      obtain ⟨xs, hs, hf⟩ := hy
      obtain ⟨a, us, e1, s, rl⟩ := seq_of rh hw hs
      obtain ⟨e2, f2⟩ := flat_of hv hx
      obtain ⟨e3, f3⟩ := flatL_of rl hf
      subst e2 e3
      exact .inr ⟨a, us, e1, s, f2, f3, q.now rh _ wBl⟩
    · exact q.elim
def oIx : D → D → Hs → Res D := fun x y h => match y with
  | .int i => (match x with
    | .str s => if s.length ≤ 100000 then (match atI s.cps.toList i with
        | some c => .ok (.str ⟨#[c]⟩) h
        | none => .bad) else .bad
    | _ => (match seqD h x with
      | some xs => (match atI xs i with
        | some d => .ok d h
        | none => .bad)
      | none => .bad))
  | _ => .bad
theorem repL_atI {ι : List Addr} {H : Hp} {xs : List D} {vs : List V} {i : Int} {d : D} (r : RepL κ ι H xs vs) (e : atI xs i = some d) : ∃ v, atI vs i = some v ∧ Rep κ ι H d v := by
  unfold atI at e ⊢
  rw [Option.bind_eq_some_iff] at e
  obtain ⟨j, e1, e2⟩ := e
  obtain ⟨v, hv, rv⟩ := r.get e2
  exact ⟨v, by rw [← r.length, e1]; exact hv, rv⟩
theorem sim_ix : Sim2 κ W (rIx κ.K) oIx := fun ι h H σ x y v w Q rh hv hw q => by
  unfold oIx at q
  split at q
  · rename_i i
    split at q
    · rename_i s
      split at q
      · rename_i hl
        split at q
        · rename_i c hc
          exact .inr (.inr ⟨s, i, c, rStr hv, rInt hw, size5 hl, hc, q.now rh _ wStr⟩)
        · exact q.elim
      · exact q.elim
    · split at q
      · rename_i xs hs
        split at q
        · rename_i d hd
          obtain ⟨a, vs, e1, s, rl⟩ := seq_of rh hv hs
          obtain ⟨u, hu, ru⟩ := repL_atI rl hd
          rcases s with s | s
          · exact .inl ⟨a, vs, i, u, e1, rInt hw, s, hu, q.now rh _ ru⟩
          · exact .inr (.inl ⟨a, vs, i, u, e1, rInt hw, s, hu, q.now rh _ ru⟩)
        · exact q.elim
      · exact q.elim
  · exact q.elim
def keyD : D → Option Key
  | .int i => some (.inl i)
  | .str s => some (.inr s)
  | _ => none
def getK (kvs : List (Key × D)) (k : Key) : Option D := (kvs.find? fun kv => decide (kv.1 = k)).map (·.2)
def putD (kvs : List (Key × D)) (k : Key) (v : D) : List (Key × D) := if (kvs.any fun kv => decide (kv.1 = k)) = true then kvs.map (fun kv => if kv.1 = k then (kv.1, v) else kv) else kvs ++ [(k, v)]
def dictD (h : Hs) : D → Option (List (Key × D))
  | .ref n => (match h[n]? with
    | some (.dict kvs) => some kvs
    | _ => none)
  | _ => none
def oDget : D → D → Hs → Res D := fun x y h => match dictD h x, keyD y with
  | some kvs, some k => (match getK kvs k with
    | some d => .ok d h
    | none => .bad)
  | _, _ => .bad
theorem key_of {ι : List Addr} {H : Hp} {d : D} {v : V} {k : Key} (r : Rep κ ι H d v) (e : keyD d = some k) : v = kV k := by
  cases d with
  | int i => simp only [keyD, Option.some.injEq] at e; subst e; exact rInt r
  | str i => simp only [keyD, Option.some.injEq] at e; subst e; exact rStr r
  | _ => simp [keyD] at e
theorem repF_get {ι : List Addr} {H : Hp} : ∀ {kvs : List (Key × D)} {vs : List (Key × V)} {k : Key} {d : D}, RepF κ ι H kvs vs → getK kvs k = some d → ∃ v, valV vs k = some v ∧ Rep κ ι H d v
  | [], _, _, _, _, e => by simp [getK] at e
  | (j, x) :: kvs, _, k, d, ⟨v, vr, rfl, r1, r2⟩, e => by
    unfold getK at e
    rw [List.find?_cons] at e
    by_cases hj : j = k
    · simp only [hj, decide_true] at e
      simp only [Option.map_some, Option.some.injEq] at e
      subst e
      exact ⟨v, by unfold valV; rw [List.find?_cons]; simp [hj], r1⟩
    · simp only [hj, decide_false] at e
      obtain ⟨w, h1, h2⟩ := repF_get r2 (show getK kvs k = some d from e)
      refine ⟨w, ?_, h2⟩
      unfold valV at h1 ⊢
      rw [List.find?_cons]
      simp only [hj, decide_false]
      exact h1
theorem dict_of {ι : List Addr} {h : Hs} {H : Hp} {d : D} {v : V} {kvs : List (Key × D)} (rh : RelH κ ι h H) (r : Rep κ ι H d v) (e : dictD h d = some kvs) : ∃ n a vs, d = .ref n ∧ ι[n]? = some a ∧ h[n]? = some (.dict kvs) ∧ v = .ref a ∧ H a = some (.dK vs) ∧ RepF κ ι H kvs vs := by
  cases d with
  | ref n =>
    simp only [dictD] at e
    cases hn : h[n]? with
    | none => rw [hn] at e; cases e
    | some c =>
      rw [hn] at e
      cases c with
      | dict ys =>
        simp only [Option.some.injEq] at e; subst e
        obtain ⟨a, ea, e1⟩ := rRef r
        obtain ⟨vs, ev, rl⟩ := rh.at hn ea
        exact ⟨n, a, vs, rfl, ea, hn, e1, ev, rl⟩
      | _ => cases e
  | _ => simp [dictD] at e
theorem se_dget {o i : Expr} {fo fi : ES} {pos : Pos} (hu : X.A.units + 1 < cLine) (ho : SE X κ W o fo) (hi : SE X κ W i fi) (hs : NoSl i := by exact fun _ _ => rfl) : SE X κ W (.Subscript o i pos) (eOp2 oDget fo fi) := by
  refine pe_imp (pe_dget hu ho hi hs) fun σ H Q ⟨ι, σd, hh, rs, rh, q⟩ => ?_
  refine two (R := fun x y H2 => ∃ a v, x = .ref a ∧ DGet H2 a y (some v) ∧ Q v H2) rs rh q fun x y h2 ι2 H2 v w _ _ _ r2 hv hw q2 => ?_
  unfold oDget at q2
  split at q2
  · rename_i kvs k hx hk
    split at q2
    · rename_i d hd
      obtain ⟨n, a, vs, rfl, ea, hn, e1, ev, rl⟩ := dict_of r2 hv hx
      obtain ⟨u, hu, ru⟩ := repF_get rl hd
      have ew := key_of hw hk
      subst ew
      refine ⟨a, u, e1, ?_, q2.now r2 _ ru⟩
      rw [← hu]
      exact DGet.k ev
    · exact q2.elim
  · exact q2.elim
theorem repF_any {ι : List Addr} {H : Hp} {k : Key} : ∀ {kvs : List (Key × D)} {vs : List (Key × V)}, RepF κ ι H kvs vs → (kvs.any fun kv => decide (kv.1 = k)) = (vs.any fun kv => decide (kv.1 = k))
  | [], _, r => by rw [show _ = [] from r]; rfl
  | (j, x) :: kvs, _, ⟨v, vr, rfl, r1, r2⟩ => by rw [List.any_cons, List.any_cons, repF_any r2]
theorem repF_map {ι : List Addr} {H : Hp} {k : Key} {d : D} {w : V} (rw_ : Rep κ ι H d w) : ∀ {kvs : List (Key × D)} {vs : List (Key × V)}, RepF κ ι H kvs vs → RepF κ ι H (kvs.map fun kv => if kv.1 = k then (kv.1, d) else kv) (vs.map fun kv => if kv.1 = k then (kv.1, w) else kv)
  | [], _, r => by rw [show _ = [] from r]; rfl
  | (j, x) :: kvs, _, ⟨v, vr, rfl, r1, r2⟩ => by
    rw [List.map_cons, List.map_cons]
    by_cases hj : j = k
    · simp only [hj, if_true]
      exact ⟨w, _, rfl, rw_, repF_map rw_ r2⟩
    · simp only [hj, if_false]
      exact ⟨v, _, rfl, r1, repF_map rw_ r2⟩
theorem repF_app {ι : List Addr} {H : Hp} {k : Key} {d : D} {w : V} (rw_ : Rep κ ι H d w) : ∀ {kvs : List (Key × D)} {vs : List (Key × V)}, RepF κ ι H kvs vs → RepF κ ι H (kvs ++ [(k, d)]) (vs ++ [(k, w)])
  | [], _, r => by rw [show _ = [] from r]; exact ⟨w, [], rfl, rw_, rfl⟩
  | (j, x) :: kvs, _, ⟨v, vr, rfl, r1, r2⟩ => ⟨v, _, rfl, r1, repF_app rw_ r2⟩
theorem repF_put {ι : List Addr} {H : Hp} {k : Key} {d : D} {w : V} {kvs : List (Key × D)} {vs : List (Key × V)} (r : RepF κ ι H kvs vs) (rw_ : Rep κ ι H d w) : RepF κ ι H (putD kvs k d) (putK vs k w) := by
  unfold putD putK
  rw [repF_any r]
  split
  · exact repF_map rw_ r
  · exact repF_app rw_ r
theorem repF_len {α : Type} {ι : List Addr} {H : Hp} : ∀ {kvs : List (α × D)} {vs : List (α × V)}, RepF κ ι H kvs vs → kvs.length = vs.length
  | [], _, r => by rw [show _ = [] from r]; rfl
  | (j, x) :: kvs, _, ⟨v, vr, rfl, r1, r2⟩ => by rw [List.length_cons, List.length_cons, repF_len r2]
def sDput (o i v : ES) : SS := fun σ h => onR σ (v σ h) fun x h1 => onR σ (o σ h1) fun p h2 => onR σ (i σ h2) fun k h3 => match p, keyD k with
  | .ref n, some k => (match h3[n]? with
    | some (.dict kvs) => if kvs.length < 100000 then .nx σ (h3.set n (.dict (putD kvs k x))) else .bad
    | _ => .bad)
  | _, _ => .bad
theorem s1_dput {o i value : Expr} {fo fi fv : ES} {pos pos' : Pos} (hu : X.A.units + 1 < cLine) (ho : SE X κ W o fo) (hi : SE X κ W i fi) (hv : SE X κ W value fv) (hs : swapsWith value (some (.Subscript o i pos')) pos.line X.env = pure false := by rfl) :
    S1 X κ W (.Assign [.Subscript o i pos'] value pos) (sDput fo fi fv) := ps_imp (ps_dput hu ho hi hv hs) fun E σ H ⟨ι, σd, h, rs, rh, q⟩ => by
  refine ⟨ι, σd, h, rs, rh, (PostR.onR rs q).imp fun x h1 ι1 H1 p1 e1 r1 q1 v hv => ?_⟩
  have rs1 := rs.mono p1 e1
  refine ⟨ι1, σd, h1, rs1, r1, (PostR.onR rs1 q1).imp fun p h2 ι2 H2 p2 e2 r2 q2 vp hp => ?_⟩
  have rs2 := rs1.mono p2 e2
  refine ⟨ι2, σd, h2, rs2, r2, (PostR.onR rs2 q2).imp fun k h3 ι3 H3 p3 e3 r3 q3 vk hk => ?_⟩
  have rs3 := rs2.mono p3 e3
  have hp3 := hp.mono κ.le_refl p3 e3
  have hv3 := hv.mono κ.le_refl (p2.trans p3) (e2.trans e3)
  split at q3
  · rename_i n k' hkd
    split at q3
    · rename_i kvs hn
      split at q3
      · rename_i hl
        obtain ⟨a, ea, rfl⟩ := rRef hp3
        obtain ⟨vs, ev, rl⟩ := r3.at hn ea
        have ek := key_of hk hkd
        subst ek
        have ex : Ext κ.K H3 (upd H3 a (.dK (putK vs k' v))) := r3.ext_put hn ea
        refine ⟨a, _, rfl, DPut.k ev (by rw [← repF_len rl]; exact sizeLt5 hl), q3 ι3 _ σ (pre_refl _) ex (rs3.mono (pre_refl _) ex) (r3.put hn ea ⟨_, upd_same, ?_⟩)⟩
        exact (repF_put rl hv3).mono (pre_refl _) ex
      · exact q3.elim
    · exact q3.elim
  · exact q3.elim
def cutD (xs : List D) (lo hi : Option Int) : List D := (xs.drop (HT.sIx xs.length 0 lo)).take (HT.sIx xs.length xs.length hi - HT.sIx xs.length 0 lo)
theorem repL_cut {ι : List Addr} {H : Hp} {xs : List D} {vs : List V} (lo hi : Option Int) (r : RepL κ ι H xs vs) : RepL κ ι H (cutD xs lo hi) (cutV vs lo hi) := by
  unfold cutD cutV
  rw [← r.length]
  exact (r.drop).take 0
abbrev OS := Lo → Hs → Res (Option Int)
def noPart : OS := fun _ h => .ok none h
def onPart (e : ES) : OS := fun σ h => (e σ h).bind fun d h1 => match d with
  | .int i => .ok (some i) h1
  | _ => .bad
abbrev PO_ (Q : Option Int → Hp → Prop) : PK (Option Int) := fun o _ _ H => Q o H
def rdO (κ : Kx) (W : WX) (f : OS) : TO := fun σ H Q => ∃ ι σd h, RelS κ ι H σd σ ∧ RelH κ ι h H ∧ PostR κ W ι H σ (PO_ Q) (f σd h)
def SO (X : Cx) (κ : Kx) (W : WX) (e : Option Expr) (f : OS) : Prop := PO X e (rdO κ W f)
theorem po_imp {e : Option Expr} {t t' : TO} (h : PO X e t) (i : ∀ σ H Q, t' σ H Q → t σ H Q) : PO X e t' := by
  constructor
  intros
  exact h.run _ _ _ _ _ (by assumption) (i _ _ _ (by assumption))
theorem so_none : SO X κ W none noPart := po_imp po_none fun σ H Q ⟨ι, σd, h, rs, rh, q⟩ => q.now rh
theorem so_some {e : Expr} {f : ES} (h : SE X κ W e f) : SO X κ W (some e) (onPart f) := po_imp (po_some h) fun σ H Q ⟨ι, σd, h, rs, rh, q⟩ => by
  refine ⟨ι, σd, h, rs, rh, (PostR.bind q).imp fun d h1 ι1 H1 p1 e1 r1 q1 v hv => ?_⟩
  split at q1
  · exact ⟨_, rInt hv, q1.now r1⟩
  · exact q1.elim
def oSl (x : D) (lo hi : Option Int) (h : Hs) : Res D := match x with
  | .tup xs => .ok (.tup (cutD xs lo hi)) h
  | .fl xs => .ok (.ref h.length) (h ++ [.lst (cutD xs lo hi)])
  | .ref n => (match h[n]? with
    | some (.lst xs) => .ok (.ref h.length) (h ++ [.lst (cutD xs lo hi)])
    | _ => .bad)
  | _ => .bad
def eSl (e : ES) (lo hi : OS) : ES := fun σ h => (e σ h).bind fun x h1 => (lo σ h1).bind fun l h2 => (hi σ h2).bind fun u h3 => oSl x l u h3
theorem cut_whole {xs : List V} {lo hi : Option Int} (h : HT.sIx xs.length 0 lo = 0 ∧ HT.sIx xs.length xs.length hi = xs.length) : cutV xs lo hi = xs := by
  unfold cutV
  rw [h.1, h.2]
  simp
theorem se_slice {e : Expr} {lo hi : Option Expr} {f : ES} {fl fu : OS} {p2 pos : Pos} (hK : κ.K = X.K) (he : SE X κ W e f) (hl : SO X κ W lo fl) (hu : SO X κ W hi fu) : SE X κ W (.Subscript e (.Slice lo hi none p2) pos) (eSl f fl fu) := by
  refine pe_imp (pe_slice (sl_list.or sl_tupA) he hl hu) fun σ H Q ⟨ι, σd, h, rs, rh, q⟩ => ?_
  refine ⟨ι, σd, h, rs, rh, (PostR.bind q).imp fun x h1 ι1 H1 p1 e1 r1 q1 v hv => ?_⟩
  have rs1 := rs.mono p1 e1
  refine ⟨ι1, σd, h1, rs1, r1, (PostR.bind q1).imp fun l h2 ι2 H2 p2 e2 r2 q2 => ?_⟩
  have rs2 := rs1.mono p2 e2
  refine ⟨ι2, σd, h2, rs2, r2, (PostR.bind q2).imp fun u h3 ι3 H3 p3 e3 r3 q3 => ?_⟩
  have hv3 := hv.mono κ.le_refl (p2.trans p3) (e2.trans e3)
  unfold oSl at q3
  split at q3
  · obtain ⟨a, vs, e4, s, rl⟩ := rTup hv3
    have rc := repL_cut l u rl
    refine .inr ⟨a, vs, e4, by rw [← hK]; exact s, fun hw => ?_, fun _ p hp => new_tup r3 rc hp q3⟩
    rw [cut_whole hw] at rc
    exact q3.now r3 _ (wTup s rc)
  · obtain ⟨a, vs, e4, s, rl⟩ := rFl hv3
    exact .inl ⟨a, vs, e4, by rw [← hK]; exact fl_sq s, fun p hp => new_lst r3 (repL_cut l u rl) hp q3⟩
  · split at q3
    · rename_i n _ _ xs hn
      obtain ⟨a, ea, e4⟩ := rRef hv3
      obtain ⟨vs, ev, rl⟩ := r3.at hn ea
      exact .inl ⟨a, vs, e4, SqL.of ev, fun p hp => new_lst r3 (repL_cut l u rl) hp q3⟩
    · exact q3.elim
  · exact q3.elim
end
end Sm

set_option Elab.async false
set_option linter.all false
set_option maxRecDepth 100000
set_option maxHeartbeats 4000000
set_option autoImplicit false
namespace Sm
open PySem PySem.Spec PyProof.Rows L2
section
variable {X : Cx} {κ : Kx} {W : WX} {e o : Expr} {es : List Expr} {fo : ES} {fs : AS} {pos p : Pos} {x : Str} {id T : String}
theorem se_callB {r : List V → Hp → VK → Prop} {g : FS} (hc : CallR X (.builtin id) r) (s : SimA κ W r g) (hg : Gl X x) (hm : X.mg x = none) (hv : bootBuiltins x = some (.builtin id)) (ha : SA X κ W (e :: es) fs) (hn : x ≠ "__name__" := by decide) (hdb : (x == ("__debug__" : Str)) = false := by decide)
    (he : starEach (e :: es) X.env = (false, eval e X.env) :: starEach es X.env := by rfl) (hpl : (backTo pos (starEach es X.env)).any (·.1) = false := by rfl) : SE X κ W (.Call (.Name x p) (e :: es) [] pos) (eCall g fs) :=
  pe_imp (pe_callB hc hg hm hv ha hn hdb he hpl) fun σ H Q ⟨ι, σd, h, rs, rh, q⟩ => ⟨ι, σd, h, rs, rh, (PostR.bind q).imp fun ds h1 ι1 H1 p1 e1 r1 q1 vs hv => s ι1 h1 H1 σ ds vs Q r1 hv q1⟩
theorem se_callTy {r : List V → Hp → VK → Prop} {g : FS} (hc : CallR X (.type T) r) (s : SimA κ W r g) (hg : Gl X x) (hm : X.mg x = none) (hv : bootBuiltins x = some (.type T)) (ha : SA X κ W (e :: es) fs) (hn : x ≠ "__name__" := by decide) (hdb : (x == ("__debug__" : Str)) = false := by decide)
    (he : starEach (e :: es) X.env = (false, eval e X.env) :: starEach es X.env := by rfl) (hpl : (backTo pos (starEach es X.env)).any (·.1) = false := by rfl) : SE X κ W (.Call (.Name x p) (e :: es) [] pos) (eCall g fs) :=
  pe_imp (pe_callTy hc hg hm hv ha hn hdb he hpl) fun σ H Q ⟨ι, σd, h, rs, rh, q⟩ => ⟨ι, σd, h, rs, rh, (PostR.bind q).imp fun ds h1 ι1 H1 p1 e1 r1 q1 vs hv => s ι1 h1 H1 σ ds vs Q r1 hv q1⟩
def okT (T : String) (h : Hs) : D → Bool
  | .str _ => T == "str"
  | .ref n => (match h[n]? with
    | some (.lst _) => T == "list"
    | some (.dict _) => T == "dict"
    | _ => false)
  | .fl _ => T == "list"
  | _ => false
theorem okT_ty {ι : List Addr} {h : Hs} {H : Hp} {d : D} {v : V} (rh : RelH κ ι h H) (r : Rep κ ι H d v) (k : okT T h d = true) : tyV κ.K T v H := by
  cases d with
  | str s =>
    rw [rStr r]
    exact beq_iff_eq.mp k
  | ref n =>
    obtain ⟨a, ea, rfl⟩ := rRef r
    simp only [okT] at k
    cases hn : h[n]? with
    | none => rw [hn] at k; cases k
    | some c =>
      rw [hn] at k
      cases c with
      | lst xs =>
        obtain ⟨vs, ev, _⟩ := rh.at hn ea
        exact .inl ⟨beq_iff_eq.mp k, vs, SqL.of ev⟩
      | dict kvs =>
        obtain ⟨vs, ev, _⟩ := rh.at hn ea
        exact .inr (.inr (.inl ⟨beq_iff_eq.mp k, .inl ⟨vs, ev⟩⟩))
      | _ => cases k
  | fl xs =>
    obtain ⟨a, vs, rfl, s, _⟩ := rFl r
    exact .inl ⟨beq_iff_eq.mp k, vs, fl_sq s⟩
  | _ => cases k
def eBM (T : String) (g : D → List D → Hs → Res D) (fo : ES) (fs : AS) : ES := fun σ h => (fo σ h).bind fun x h1 => if okT T h1 x = true then (fs σ h1).bind fun xs h2 => g x xs h2 else .bad
theorem bm_post {r : V → List V → Hp → VK → Prop} {g : D → List D → Hs → Res D} (s : SimM κ W r g) {σ : L2.St} {H : Hp} {Q : VK} (q : rdE κ W (eBM T g fo fs) σ H Q) : tBM κ.K T r (rdE κ W fo) (rdA κ W fs) σ H Q := by
  obtain ⟨ι, σd, h, rs, rh, q⟩ := q
  refine ⟨ι, σd, h, rs, rh, (PostR.bind q).imp fun x h1 ι1 H1 p1 e1 r1 q1 v hv => ?_⟩
  by_cases hk : okT T h1 x = true
  · simp only [if_pos hk] at q1
    refine ⟨okT_ty r1 hv hk, ι1, σd, h1, rs.mono p1 e1, r1, (PostR.bind q1).imp fun xs h2 ι2 H2 p2 e2 r2 q2 vs hvs => s ι2 h2 H2 σ x xs v vs Q r2 (hv.mono κ.le_refl p2 e2) hvs q2⟩
  · simp only [if_neg hk] at q1; exact q1.elim
theorem bm0_post {r : V → List V → Hp → VK → Prop} {g : D → List D → Hs → Res D} (s : SimM κ W r g) {σ : L2.St} {H : Hp} {Q : VK} (q : rdE κ W (eBM T g fo aNil) σ H Q) : tBM0 κ.K T r (rdE κ W fo) σ H Q := by
  obtain ⟨ι, σd, h, rs, rh, q⟩ := q
  refine ⟨ι, σd, h, rs, rh, (PostR.bind q).imp fun x h1 ι1 H1 p1 e1 r1 q1 v hv => ?_⟩
  by_cases hk : okT T h1 x = true
  · simp only [if_pos hk] at q1
    exact ⟨okT_ty r1 hv hk, s ι1 h1 H1 σ x [] v [] Q r1 hv .nil q1⟩
  · simp only [if_neg hk] at q1; exact q1.elim
theorem se_bm {r : V → List V → Hp → VK → Prop} {g : D → List D → Hs → Res D} {ex : Expr} (hK : κ.K = X.K) (h : PE X ex (tBM X.K T r (rdE κ W fo) (rdA κ W fs))) (s : SimM κ W r g) : SE X κ W ex (eBM T g fo fs) := pe_imp h fun σ H Q q => by
  have := bm_post s q
  rw [hK] at this
  exact this
theorem se_bm0 {r : V → List V → Hp → VK → Prop} {g : D → List D → Hs → Res D} {ex : Expr} (hK : κ.K = X.K) (h : PE X ex (tBM0 X.K T r (rdE κ W fo))) (s : SimM κ W r g) : SE X κ W ex (eBM T g fo aNil) := pe_imp h fun σ H Q q => by
  have := bm0_post s q
  rw [hK] at this
  exact this
theorem rL1 {ι : List Addr} {H : Hp} {d : D} {vs : List V} (r : RepL κ ι H [d] vs) : ∃ v, vs = [v] ∧ Rep κ ι H d v := by
  simp only [RepL] at r
  obtain ⟨v, vr, rfl, r1, rfl⟩ := r
  exact ⟨v, rfl, r1⟩
theorem rL2 {ι : List Addr} {H : Hp} {d d' : D} {vs : List V} (r : RepL κ ι H [d, d'] vs) : ∃ v w, vs = [v, w] ∧ Rep κ ι H d v ∧ Rep κ ι H d' w := by
  simp only [RepL] at r
  obtain ⟨v, vr, rfl, r1, w, wr, rfl, r2, rfl⟩ := r
  exact ⟨v, w, rfl, r1, r2⟩
def fLen : FS := fun ds h => match ds with
  | [.str s] => if s.length ≤ 100000 then .ok (.int (s.length : Nat)) h else .bad
  | [x] => (match seqD h x with
    | some xs => .ok (.int (xs.length : Nat)) h
    | none => .bad)
  | _ => .bad
theorem sim_len : SimA κ W (fun xs H Q => ∃ x n, xs = [x] ∧ LenV κ.K x H n ∧ Q (.int n) H) fLen := fun ι h H σ ds vs Q rh hv q => by
  unfold fLen at q
  split at q
  · split at q
    · rename_i s hl
      obtain ⟨v, rfl, r⟩ := rL1 hv
      rw [rStr r]
      exact ⟨_, _, rfl, ⟨size5 hl, rfl⟩, q.now rh _ wInt⟩
    · exact q.elim
  · split at q
    · rename_i x _ xs hs
      obtain ⟨v, rfl, r⟩ := rL1 hv
      obtain ⟨a, us, rfl, s, rl⟩ := seq_of rh r hs
      refine ⟨.ref a, us.length, rfl, ?_, ?_⟩
      · rcases s with s | s
        · exact .inl ⟨us, s, rfl⟩
        · exact .inr ⟨us, s, rfl⟩
      · rw [← rl.length]
        exact q.now rh _ wInt
    · exact q.elim
  · exact q.elim
def blsD : List D → Option (List Bool)
  | [] => some []
  | .bl b :: r => (blsD r).map (b :: ·)
  | _ => none
theorem bls_of {ι : List Addr} {H : Hp} : ∀ {ds : List D} {vs : List V} {bs : List Bool}, RepL κ ι H ds vs → blsD ds = some bs → vs = bs.map V.bl
  | [], _, _, r, e => by simp only [RepL] at r; simp only [blsD, Option.some.injEq] at e; subst r e; rfl
  | d :: ds, _, _, r, e => by
    simp only [RepL] at r
    obtain ⟨v, vr, rfl, r1, r2⟩ := r
    cases d with
    | bl b =>
      simp only [blsD, Option.map_eq_some_iff] at e
      obtain ⟨bs, e1, rfl⟩ := e
      rw [rBl r1, bls_of r2 e1]
      rfl
    | _ => simp [blsD] at e
def intsD : List D → Option (List Int)
  | [] => some []
  | .int b :: r => (intsD r).map (b :: ·)
  | _ => none
theorem ints_of {ι : List Addr} {H : Hp} : ∀ {ds : List D} {vs : List V} {bs : List Int}, RepL κ ι H ds vs → intsD ds = some bs → vs = bs.map V.int
  | [], _, _, r, e => by simp only [RepL] at r; simp only [intsD, Option.some.injEq] at e; subst r e; rfl
  | d :: ds, _, _, r, e => by
    simp only [RepL] at r
    obtain ⟨v, vr, rfl, r1, r2⟩ := r
    cases d with
    | int b =>
      simp only [intsD, Option.map_eq_some_iff] at e
      obtain ⟨bs, e1, rfl⟩ := e
      rw [rInt r1, ints_of r2 e1]
      rfl
    | _ => simp [intsD] at e
def lstD (h : Hs) : D → Option (List D)
  | .fl xs => some xs
  | .ref n => (match h[n]? with
    | some (.lst xs) => some xs
    | _ => none)
  | _ => none
theorem lst_of {ι : List Addr} {h : Hs} {H : Hp} {d : D} {v : V} {xs : List D} (rh : RelH κ ι h H) (r : Rep κ ι H d v) (e : lstD h d = some xs) : ∃ a vs, v = .ref a ∧ SqL κ.K H a vs ∧ RepL κ ι H xs vs := by
  cases d with
  | fl ys =>
    simp only [lstD, Option.some.injEq] at e; subst e
    obtain ⟨a, vs, e1, s, rl⟩ := rFl r
    exact ⟨a, vs, e1, fl_sq s, rl⟩
  | ref n =>
    simp only [lstD] at e
    cases hn : h[n]? with
    | none => rw [hn] at e; cases e
    | some c =>
      rw [hn] at e
      cases c with
      | lst ys =>
        simp only [Option.some.injEq] at e; subst e
        obtain ⟨a, ea, e1⟩ := rRef r
        obtain ⟨vs, ev, rl⟩ := rh.at hn ea
        exact ⟨a, vs, e1, SqL.of ev, rl⟩
      | _ => cases e
  | _ => simp [lstD] at e
def fBools (f : List Bool → Bool) : FS := fun ds h => match ds with
  | [x] => (match (lstD h x).bind blsD with
    | some bs => .ok (.bl (f bs)) h
    | none => .bad)
  | _ => .bad
def fAll : FS := fBools fun bs => bs.all _root_.id
def fAny : FS := fBools fun bs => bs.any _root_.id
theorem sim_bools {f : List Bool → Bool} : SimA κ W (fun vs H Q => ∃ (a : Addr) (bs : List Bool), vs = [V.ref a] ∧ SqL κ.K H a (bs.map V.bl) ∧ Q (.bl (f bs)) H) (fBools f) := fun ι h H σ ds vs Q rh hv q => by
  unfold fBools at q
  split at q
  · split at q
    · rename_i x bs hs
      rw [Option.bind_eq_some_iff] at hs
      obtain ⟨xs, h1, h2⟩ := hs
      obtain ⟨v, rfl, r⟩ := rL1 hv
      obtain ⟨a, us, rfl, s, rl⟩ := lst_of rh r h1
      have e := bls_of rl h2
      subst e
      exact ⟨a, bs, rfl, s, q.now rh _ wBl⟩
    · exact q.elim
  · exact q.elim
def fSum : FS := fun ds h => match ds with
  | [x] => (match (lstD h x).bind intsD with
    | some bs => .ok (.int bs.sum) h
    | none => .bad)
  | _ => .bad
theorem sim_sum : SimA κ W (rSum κ.K) fSum := fun ι h H σ ds vs Q rh hv q => by
  unfold fSum at q
  split at q
  · split at q
    · rename_i x bs hs
      rw [Option.bind_eq_some_iff] at hs
      obtain ⟨xs, h1, h2⟩ := hs
      obtain ⟨v, rfl, r⟩ := rL1 hv
      obtain ⟨a, us, rfl, s, rl⟩ := lst_of rh r h1
      have e := ints_of rl h2
      subst e
      exact ⟨a, bs, rfl, s, q.now rh _ wInt⟩
    · exact q.elim
  · exact q.elim
def fTuple : FS := fun ds h => match ds with
  | [x] => (match seqD h x with
    | some xs => .ok (.tup xs) h
    | none => .bad)
  | _ => .bad
theorem sim_tuple : SimA κ W (fun xs H Q => ∃ p ys, xs = [.ref p] ∧ ((SqL κ.K H p ys ∧ ∀ l, H l = none → Q (.ref l) (upd H l (.tup ys))) ∨ (SqT κ.K H p ys ∧ Q (.ref p) H))) fTuple := fun ι h H σ ds vs Q rh hv q => by
  unfold fTuple at q
  split at q
  · split at q
    · rename_i x xs hs
      obtain ⟨v, rfl, r⟩ := rL1 hv
      obtain ⟨a, us, rfl, s, rl⟩ := seq_of rh r hs
      refine ⟨a, us, rfl, ?_⟩
      rcases s with s | s
      · exact .inl ⟨s, fun l hl => new_tup rh rl hl q⟩
      · exact .inr ⟨s, q.now rh _ (wTup s rl)⟩
    · exact q.elim
  · exact q.elim
def fList : FS := fun ds h => match ds with
  | [x] => (match seqD h x with
    | some xs => .ok (.ref h.length) (h ++ [.lst xs])
    | none => .bad)
  | _ => .bad
theorem sim_list : SimA κ W (fun xs H Q => ∃ p ys, xs = [.ref p] ∧ (SqL κ.K H p ys ∨ SqT κ.K H p ys) ∧ ∀ l, H l = none → Q (.ref l) (upd H l (.lst ys))) fList := fun ι h H σ ds vs Q rh hv q => by
  unfold fList at q
  split at q
  · split at q
    · rename_i x xs hs
      obtain ⟨v, rfl, r⟩ := rL1 hv
      obtain ⟨a, us, rfl, s, rl⟩ := seq_of rh r hs
      exact ⟨a, us, rfl, s, fun l hl => new_lst rh rl hl q⟩
    · exact q.elim
  · exact q.elim
def fInt : FS := fun ds h => match ds with
  | [.int i] => .ok (.int i) h
  | [.bl b] => .ok (.int (if b then 1 else 0)) h
  | _ => .bad
theorem sim_int : SimA κ W (fun xs H Q => (∃ i, xs = [.int i] ∧ Q (.int i) H) ∨ ∃ k, xs = [.bl k] ∧ Q (.int (if k then 1 else 0)) H) fInt := fun ι h H σ ds vs Q rh hv q => by
  unfold fInt at q
  split at q
  · obtain ⟨v, rfl, r⟩ := rL1 hv
    rw [rInt r]
    exact .inl ⟨_, rfl, q.now rh _ wInt⟩
  · obtain ⟨v, rfl, r⟩ := rL1 hv
    rw [rBl r]
    exact .inr ⟨_, rfl, q.now rh _ wInt⟩
  · exact q.elim
def fAbs : FS := fun ds h => match ds with
  | [.int i] => .ok (.int (if i < 0 then -i else i)) h
  | _ => .bad
theorem sim_abs : SimA κ W (fun xs H Q => ∃ i, xs = [.int i] ∧ Q (.int (if i < 0 then -i else i)) H) fAbs := fun ι h H σ ds vs Q rh hv q => by
  unfold fAbs at q
  split at q
  · obtain ⟨v, rfl, r⟩ := rL1 hv
    rw [rInt r]
    exact ⟨_, rfl, q.now rh _ wInt⟩
  · exact q.elim
def fMin2 : FS := fun ds h => match ds with
  | [.int i, .int j] => .ok (.int (if j < i then j else i)) h
  | _ => .bad
theorem sim_min2 : SimA κ W (fun xs H Q => ∃ i j, xs = [.int i, .int j] ∧ Q (.int (if j < i then j else i)) H) fMin2 := fun ι h H σ ds vs Q rh hv q => by
  unfold fMin2 at q
  split at q
  · obtain ⟨v, w, rfl, r, r'⟩ := rL2 hv
    rw [rInt r, rInt r']
    exact ⟨_, _, rfl, q.now rh _ wInt⟩
  · exact q.elim
def fMax2 : FS := fun ds h => match ds with
  | [.int i, .int j] => .ok (.int (if j > i then j else i)) h
  | _ => .bad
theorem sim_max2 : SimA κ W (fun xs H Q => ∃ i j, xs = [.int i, .int j] ∧ Q (.int (if j > i then j else i)) H) fMax2 := fun ι h H σ ds vs Q rh hv q => by
  unfold fMax2 at q
  split at q
  · obtain ⟨v, w, rfl, r, r'⟩ := rL2 hv
    rw [rInt r, rInt r']
    exact ⟨_, _, rfl, q.now rh _ wInt⟩
  · exact q.elim
def fStrI : FS := fun ds h => match ds with
  | [.int i] => if i.natAbs.log2 < 1920 then .ok (.str (toString i)) h else .bad
  | _ => .bad
theorem sim_strI : SimA κ W (fun xs H Q => ∃ i, xs = [.int i] ∧ i.natAbs.log2 < 1920 ∧ Q (.str (toString i)) H) fStrI := fun ι h H σ ds vs Q rh hv q => by
  unfold fStrI at q
  split at q
  · split at q
    · rename_i hl
      obtain ⟨v, rfl, r⟩ := rL1 hv
      rw [rInt r]
      exact ⟨_, rfl, hl, q.now rh _ wStr⟩
    · exact q.elim
  · exact q.elim
def tyD (h : Hs) : D → Option String
  | .non => some "NoneType"
  | .bl _ => some "bool"
  | .int _ => some "int"
  | .str _ => some "str"
  | .tup _ => some "tuple"
  | .fl _ => some "list"
  | .ref n => (match h[n]? with
    | some (.lst _) => some "list"
    | some (.dict _) => some "dict"
    | _ => none)
  | _ => none
theorem tyD_x {ι : List Addr} {h : Hs} {H : Hp} {d : D} {v : V} {T : String} (rh : RelH κ ι h H) (r : Rep κ ι H d v) (e : tyD h d = some T) : TyX κ.K H v (.type T) := by
  cases d with
  | non => simp only [tyD, Option.some.injEq] at e; subst e; rw [rNon r]; exact .base .non
  | bl b => simp only [tyD, Option.some.injEq] at e; subst e; rw [rBl r]; exact .base (.bl b)
  | int b => simp only [tyD, Option.some.injEq] at e; subst e; rw [rInt r]; exact .base (.int b)
  | str b => simp only [tyD, Option.some.injEq] at e; subst e; rw [rStr r]; exact .base (.str b)
  | tup xs =>
    simp only [tyD, Option.some.injEq] at e; subst e
    obtain ⟨a, vs, rfl, s, _⟩ := rTup r
    rcases s with (s | ⟨o, s⟩) | ⟨o, its, n, hk, hc, _⟩
    · exact .base (.tup s)
    · exact .fTuple s
    · exact .kTuple hk hc
  | fl xs =>
    simp only [tyD, Option.some.injEq] at e; subst e
    obtain ⟨a, vs, rfl, s, _⟩ := rFl r
    rcases s with ⟨o, s⟩ | s
    · exact .base (.frz s)
    · rcases s with (s | ⟨o, s⟩) | ⟨o, its, n, hk, hc, _⟩
      · cases s
      · cases s
      · exact .kList hk hc
  | ref n =>
    simp only [tyD] at e
    obtain ⟨a, ea, rfl⟩ := rRef r
    cases hn : h[n]? with
    | none => rw [hn] at e; cases e
    | some c =>
      rw [hn] at e
      cases c with
      | lst ys =>
        simp only [Option.some.injEq] at e; subst e
        obtain ⟨vs, ev, rl⟩ := rh.at hn ea
        exact .base (.lst ev)
      | dict ys =>
        simp only [Option.some.injEq] at e; subst e
        obtain ⟨vs, ev, rl⟩ := rh.at hn ea
        exact .base (.dK ev)
      | _ => cases e
  | _ => simp [tyD] at e
def isiTab (T S : String) : Bool := T == S || (T == "bool" && S == "int")
def isiOk (S : String) : Bool := ["NoneType", "bool", "int", "str", "tuple", "list", "dict"].all fun T => decide (kitB T S = some (isiTab T S))
theorem isi_kit {S T : String} (h : isiOk S = true) {hs : Hs} {d : D} (e : tyD hs d = some T) : kitB T S = some (isiTab T S) := by
  have mem : T ∈ ["NoneType", "bool", "int", "str", "tuple", "list", "dict"] := by
    cases d with
    | ref n =>
      simp only [tyD] at e
      split at e
      · simp only [Option.some.injEq] at e; subst e; decide
      · simp only [Option.some.injEq] at e; subst e; decide
      · cases e
    | non => simp only [tyD, Option.some.injEq] at e; subst e; decide
    | bl b => simp only [tyD, Option.some.injEq] at e; subst e; decide
    | int b => simp only [tyD, Option.some.injEq] at e; subst e; decide
    | str b => simp only [tyD, Option.some.injEq] at e; subst e; decide
    | tup b => simp only [tyD, Option.some.injEq] at e; subst e; decide
    | fl b => simp only [tyD, Option.some.injEq] at e; subst e; decide
    | exc c ks xs => simp [tyD] at e
  have := List.all_eq_true.mp h T mem
  exact of_decide_eq_true this
def oIsi (S : String) : D → Hs → Res D := fun d h => match tyD h d with
  | some T => .ok (.bl (isiTab T S)) h
  | none => .bad
theorem se_isi {f : ES} {y : Str} {S : String} {p2 : Pos} (hK : κ.K = X.K) (hg : Gl X "isinstance") (hm : X.mg "isinstance" = none) (hg2 : Gl X y) (hm2 : X.mg y = none) (hv2 : bootBuiltins y = some (.type S)) (hS : isiOk S = true) (hx : SE X κ W e f)
    (hd : (y == ("__debug__" : Str)) = false := by decide) (hn : y ≠ "__name__" := by decide)
    (he : starEach [e, .Name y p2] X.env = (false, eval e X.env) :: starEach [.Name y p2] X.env := by rfl) (he2 : starEach [.Name y p2] X.env = (false, eval (.Name y p2) X.env) :: starEach [] X.env := by rfl)
    (hpl : (backTo pos (starEach [.Name y p2] X.env)).any (·.1) = false := by rfl) : SE X κ W (.Call (.Name "isinstance" p) [e, .Name y p2] [] pos) (eOp1 (oIsi S) f) := by
  refine pe_imp (pe_callB call_isi hg hm (by decide +kernel) (pa_cons hx (pa_cons (pe_bltn (v := .ty S) hg2 hm2 hv2 rfl hn hd) pa_nil he2) he) (by decide) (by decide) he hpl) fun σ H Q ⟨ι, σd, h, rs, rh, q⟩ => ?_
  refine ⟨ι, σd, h, rs, rh, (PostR.bind q).imp fun d h1 ι1 H1 p1 e1 r1 q1 v hv => ?_⟩
  unfold oIsi at q1
  split at q1
  · rename_i T hT
    refine ⟨v, .ty S, .type T, .type S, _, rfl, .ty S, ?_, kit_ty (isi_kit hS hT), q1.now r1 _ wBl⟩
    rw [← hK]
    exact tyD_x r1 hv hT
  · exact q1.elim
def mAppend : D → List D → Hs → Res D := fun x ds h => match x, ds with
  | .ref n, [d] => (match h[n]? with
    | some (.lst xs) => if xs.length < 100000 then .ok .non (h.set n (.lst (xs ++ [d]))) else .bad
    | _ => .bad)
  | _, _ => .bad
theorem sim_append : SimM κ W rAppend mAppend := fun ι h H σ x ds v vs Q rh hv hvs q => by
  unfold mAppend at q
  split at q
  · split at q
    · split at q
      · rename_i n d _ xs hn hl
        obtain ⟨a, ea, rfl⟩ := rRef hv
        obtain ⟨u, rfl, ru⟩ := rL1 hvs
        obtain ⟨us, eu, rl⟩ := rh.at hn ea
        have ex : Ext κ.K H (upd H a (.lst (us ++ [u]))) := rh.ext_put hn ea
        refine ⟨a, us, u, rfl, rfl, eu, by rw [← rl.length]; exact sizeLt5 hl, q ι _ (pre_refl _) ex (rh.put hn ea ⟨_, upd_same, ?_⟩) _ wNon⟩
        exact (rl.append (.cons ru .nil)).mono κ.le_refl (pre_refl _) ex
      · exact q.elim
    · exact q.elim
  · exact q.elim
def mExtend : D → List D → Hs → Res D := fun x ds h => match x, ds with
  | .ref n, [.ref m] => (match h[n]?, h[m]? with
    | some (.lst xs), some (.lst ys) => if xs.length + ys.length ≤ 100000 then .ok .non (h.set n (.lst (xs ++ ys))) else .bad
    | _, _ => .bad)
  | _, _ => .bad
theorem sim_extend : SimM κ W rExtend mExtend := fun ι h H σ x ds v vs Q rh hv hvs q => by
  unfold mExtend at q
  split at q
  · split at q
    · split at q
      · rename_i n m _ _ xs ys hn hm hl
        obtain ⟨a, ea, rfl⟩ := rRef hv
        obtain ⟨u, rfl, ru⟩ := rL1 hvs
        obtain ⟨b, eb, rfl⟩ := rRef ru
        obtain ⟨us, eu, rl⟩ := rh.at hn ea
        obtain ⟨ws, ew, rm⟩ := rh.at hm eb
        have ex : Ext κ.K H (upd H a (.lst (us ++ ws))) := rh.ext_put hn ea
        refine ⟨a, b, us, ws, rfl, rfl, eu, ew, by rw [← rl.length, ← rm.length]; exact size5 hl, q ι _ (pre_refl _) ex (rh.put hn ea ⟨_, upd_same, ?_⟩) _ wNon⟩
        exact (rl.append rm).mono κ.le_refl (pre_refl _) ex
      · exact q.elim
    · exact q.elim
  · exact q.elim
def mPop : D → List D → Hs → Res D := fun x ds h => match x, ds with
  | .ref n, [] => (match h[n]? with
    | some (.lst xs) => (match xs[xs.length - 1]? with
      | some y => .ok y (h.set n (.lst xs.dropLast))
      | none => .bad)
    | _ => .bad)
  | .ref n, [.int i] => (match h[n]? with
    | some (.lst xs) => if -(2 ^ 63) ≤ i ∧ i < 2 ^ 63 then (match seqIndex? i xs.length with
      | some k => (match xs[k]? with
        | some y => .ok y (h.set n (.lst (xs.eraseIdx k)))
        | none => .bad)
      | none => .bad) else .bad
    | _ => .bad)
  | _, _ => .bad
theorem sim_pop : SimM κ W rPop (fun x ds h => if ds = [] then mPop x ds h else .bad) := fun ι h H σ x ds v vs Q rh hv hvs q => by
  by_cases hd : ds = []
  · subst hd
    simp only [if_pos] at q
    unfold mPop at q
    split at q
    · split at q
      · split at q
        · rename_i n _ xs hn _ y hy
          obtain ⟨a, ea, rfl⟩ := rRef hv
          simp only [RepL] at hvs
          subst hvs
          obtain ⟨us, eu, rl⟩ := rh.at hn ea
          obtain ⟨u, hu, ru⟩ := rl.get hy
          have ex : Ext κ.K H (upd H a (.lst us.dropLast)) := rh.ext_put hn ea
          refine ⟨a, us, u, rfl, rfl, eu, by rw [← rl.length]; exact hu, q ι _ (pre_refl _) ex (rh.put hn ea ⟨_, upd_same, ?_⟩) _ (ru.mono κ.le_refl (pre_refl _) ex)⟩
          exact rl.dropLast.mono κ.le_refl (pre_refl _) ex
        · exact q.elim
      · exact q.elim
    · rename_i h1
      cases h1
    · exact q.elim
  · simp only [if_neg hd] at q; exact q.elim
theorem sim_popAt : SimM κ W rPopAt (fun x ds h => if ds.length = 1 then mPop x ds h else .bad) := fun ι h H σ x ds v vs Q rh hv hvs q => by
  by_cases hd : ds.length = 1
  · simp only [if_pos hd] at q
    unfold mPop at q
    split at q
    · simp at hd
    · split at q
      · split at q
        · split at q
          · split at q
            · rename_i n i _ xs hn hb _ k hk _ y hy
              obtain ⟨a, ea, rfl⟩ := rRef hv
              obtain ⟨u, rfl, rk⟩ := rL1 hvs
              obtain ⟨us, eu, rl⟩ := rh.at hn ea
              obtain ⟨w, hw, rw_⟩ := rl.get hy
              have ex : Ext κ.K H (upd H a (.lst (us.eraseIdx k))) := rh.ext_put hn ea
              refine ⟨a, us, i, k, w, rfl, by rw [rInt rk], eu, hb.1, hb.2, by rw [← rl.length]; exact hk, hw, q ι _ (pre_refl _) ex (rh.put hn ea ⟨_, upd_same, ?_⟩) _ (rw_.mono κ.le_refl (pre_refl _) ex)⟩
              exact rl.eraseIdx.mono κ.le_refl (pre_refl _) ex
            · exact q.elim
          · exact q.elim
        · exact q.elim
      · exact q.elim
    · exact q.elim
  · simp only [if_neg hd] at q; exact q.elim
def idxD (xs : List V) (y : V) : Option Nat := xs.findIdx? fun z => eqV z y
def mIndex : D → List D → Hs → Res D := fun x ds h => match ds with
  | [d] => (match lstD h x with
    | some xs => (match flatL xs, d.flat with
      | some vs, some v => (match idxD vs v with
        | some j => .ok (.int (j : Nat)) h
        | none => .bad)
      | _, _ => .bad)
    | none => .bad)
  | _ => .bad
theorem sim_index : SimM κ W (rIndex κ.K) mIndex := fun ι h H σ x ds v vs Q rh hv hvs q => by
  unfold mIndex at q
  split at q
  · split at q
    · split at q
      · split at q
        · rename_i d _ xs hs _ _ vs' v' hf hd _ j hj
          obtain ⟨u, rfl, ru⟩ := rL1 hvs
          obtain ⟨a, us, rfl, s, rl⟩ := lst_of rh hv hs
          obtain ⟨e1, f1⟩ := flat_of ru hd
          obtain ⟨e2, f2⟩ := flatL_of rl hf
          subst e1 e2
          unfold idxD at hj
          rw [List.findIdx?_eq_some_iff_getElem] at hj
          obtain ⟨hl, h1, h2⟩ := hj
          exact ⟨a, us, u, j, us[j], rfl, rfl, s, f1, f2, List.getElem?_eq_getElem hl, h1, fun m z hm hz => by
            have hml := (List.getElem?_eq_some_iff.mp hz).1
            have ez := (List.getElem?_eq_some_iff.mp hz).2
            have := h2 m hm
            rw [ez] at this
            simpa using this, q.now rh _ wInt⟩
        · exact q.elim
      · exact q.elim
    · exact q.elim
  · exact q.elim
def oRevL : D → Hs → Res D := fun x h => match lstD h x with
  | some xs => .ok (.ref h.length) (h ++ [.lst xs.reverse])
  | none => .bad
theorem se_revL {f : ES} {k : Nat} {p1 p2 p3 : Pos} (hK : κ.K = X.K) (he : SE X κ W e f) : SE X κ W (.Subscript e (.Slice none none (some (.UnaryOp .USub (.Constant (.int 1) k p1) p2)) p3) pos) (eOp1 oRevL f) := by
  refine pe_imp (pe_revL he) fun σ H Q ⟨ι, σd, h, rs, rh, q⟩ => ?_
  refine ⟨ι, σd, h, rs, rh, (PostR.bind q).imp fun d h1 ι1 H1 p1 e1 r1 q1 v hv => ?_⟩
  unfold oRevL at q1
  split at q1
  · rename_i xs hs
    obtain ⟨a, us, rfl, s, rl⟩ := lst_of r1 hv hs
    exact ⟨a, us, rfl, by rw [← hK]; exact s, fun p hp => new_lst r1 rl.reverse hp q1⟩
  · exact q1.elim
def oSetL : D → D → D → Hs → Res D := fun p k x h => match p, k with
  | .ref n, .int i => (match h[n]? with
    | some (.lst xs) => (match ixN xs.length i with
      | some j => .ok .non (h.set n (.lst (xs.set j x)))
      | none => .bad)
    | _ => .bad)
  | _, _ => .bad
theorem sim_setL : SimSet κ W rSetL oSetL := fun ι h H σ p k x vp vk vx Q rh hp hk hx q => by
  unfold oSetL at q
  split at q
  · split at q
    · split at q
      · rename_i n i _ xs hn _ j hj
        obtain ⟨a, ea, rfl⟩ := rRef hp
        obtain ⟨us, eu, rl⟩ := rh.at hn ea
        have ex : Ext κ.K H (upd H a (.lst (us.set j vx))) := rh.ext_put hn ea
        refine ⟨a, us, i, j, rfl, rInt hk, eu, by rw [← rl.length]; exact hj, q ι _ (pre_refl _) ex (rh.put hn ea ⟨_, upd_same, ?_⟩)⟩
        exact (rl.set hx).mono κ.le_refl (pre_refl _) ex
      · exact q.elim
    · exact q.elim
  · exact q.elim
def oAddA : D → D → Hs → Res D
  | .int i, .int j, h => .ok (.int (i + j)) h
  | .str a, .str b, h => if a.length + b.length ≤ 100000 then .ok (.str (a ++ b)) h else .bad
  | _, _, _ => .bad
abbrev rAugAdd : R2 := fun x y H Q => (rI0 fun i j => .int (i + j)) x y H Q ∨ ∃ i j, x = .str i ∧ y = .str j ∧ i.length + j.length ≤ sizeLine ∧ Q (.str (i ++ j)) H
theorem iop_addAll : OpR X (inplaceOp .Add) rAugAdd := iop_add.or iop_add_str
theorem pip_of {op : Operator} {r : R2} (h : OpR X (inplaceOp op) r) : PIp X op r := fun pins s σ H x y v u Q I rx ry q => h pins s σ H x y v u Q I rx ry q
theorem sim_addA : Sim2 κ W rAugAdd oAddA := fun ι h H σ x y v w Q rh hv hw q => by
  unfold oAddA at q
  split at q
  · exact .inl ⟨_, _, rInt hv, rInt hw, q.now rh _ wInt⟩
  · split at q
    · rename_i hl
      exact .inr ⟨_, _, rStr hv, rStr hw, size5 hl, q.now rh _ wStr⟩
    · exact q.elim
  · exact q.elim
end
end Sm

set_option Elab.async false
set_option linter.all false
set_option maxRecDepth 100000
set_option maxHeartbeats 4000000
set_option autoImplicit false
namespace Sm
open PySem PySem.Spec PyProof.Rows L2

inductive ClsE (X : Cx) : Expr → List Value → Prop where
  | one {x : Str} {c : Value} {p : Pos} (h : Names X x c) : ClsE X (.Name x p) [c]
  | two {x y : Str} {c d : Value} {p p' q : Pos} {kk : Nat} (h : Names X x c) (h' : Names X y d) (s1 : starEach [.Name x p, .Name y p'] X.env = (false, eval (.Name x p) X.env) :: starEach [.Name y p'] X.env) (s2 : starEach [.Name y p'] X.env = (false, eval (.Name y p') X.env) :: starEach [] X.env) :
      ClsE X (.Tuple [.Name x p, .Name y p'] kk q) [c, d]
structure Clause where
  cs : List Value
  nm : Option Nat
  ts : Addr → Value → Option Addr → TS
def gone (i : Nat) (E : Ends) : Ends := { nx := fun σ H => E.nx (σ.set i none) H, rt := E.rt, bk := fun σ H => E.bk (σ.set i none) H, ct := fun σ H => E.ct (σ.set i none) H }
def wClauses (K : PySem.W.Frag) (Wout : WX) (E : Ends) : List Clause → WX
  | [] => Wout
  | q :: r => fun cls d σ H => ∃ b, PySem.W.exmAny K cls q.cs = some b ∧ (b = true → ∀ a, H a = none → match q.nm with
      | none => q.ts a cls d E σ H
      | some i => q.ts a cls d (gone i E) (σ.set i (some (.ref a))) H) ∧ (b = false → wClauses K Wout E r cls d σ H)
inductive ClausesOk (X : Cx) : List ExceptHandler → List Clause → Prop where
  | nil : ClausesOk X [] []
  | bare {ty : Expr} {cs : List Value} {ts : Addr → Value → Option Addr → TS} {b₀ : Stmt} {suite : List Stmt} {p : Pos} {hds : List ExceptHandler} {l : List Clause} (hc : ClsE X ty cs)
      (hsu : ∀ (a : Addr) (oe : Obj) (cls : Value) (d : Option Addr) (pn : List (Addr × Obj)), Zc cls d oe → (∃ vs, oe.data = .fields vs) → PSs (X.suite a ((a, oe) :: pn)) (b₀ :: suite) (ts a cls d)) (r : ClausesOk X hds l) :
      ClausesOk X (.ExceptHandler (some ty) none (b₀ :: suite) p :: hds) (⟨cs, none, ts⟩ :: l)
  | as_ {ty : Expr} {cs : List Value} {n : Str} {i : Nat} {ts : Addr → Value → Option Addr → TS} {b₀ : Stmt} {suite : List Stmt} {p : Pos} {hds : List ExceptHandler} {l : List Clause} (hc : ClsE X ty cs) (hN : X.N.Nodup) (hi : X.N[i]? = some n) (hln : X.env.kindOf n = some .local)
      (hsu : ∀ (a : Addr) (oe : Obj) (cls : Value) (d : Option Addr) (pn : List (Addr × Obj)), Zc cls d oe → (∃ vs, oe.data = .fields vs) → PSs (X.suite a ((a, oe) :: pn)) (b₀ :: suite) (ts a cls d)) (r : ClausesOk X hds l) :
      ClausesOk X (.ExceptHandler (some ty) (some n) (b₀ :: suite) p :: hds) (⟨cs, some i, ts⟩ :: l)
theorem flying_push {B h h' : Heap} {l : List Env} {e : Addr} {Z : Obj → Prop} (fl : HandSPX.FlyingZ B l e Z h) (k : ∀ b o, h.get? b = some o → h'.get? b = some o) : HandSPX.FlyingZ B l e Z h' := by
  obtain ⟨f1, f2, f3, oe, vs, T, oT, ts, q1, q2, q3, q4, q5, q6, q7, q8, q9⟩ := fl
  exact ⟨fun b o z => k b o (f1 b o z), f2, f3.of_keeps fun b o z _ => ⟨o, k b o z, rfl⟩, oe, vs, T, oT, ts, k _ _ q1, q2, q3, q4, q5, q6, k _ _ q7, q8, q9⟩
section
variable {X : Cx} {pins : List (Addr × Obj)} {σ : L2.St} {H : Hp} {s : Shared}
theorem clause_test {a : Addr} {pn : List (Addr × Obj)} {ty : Expr} {cs : List Value} {cls : Value} {b : Bool} (hc : ClsE X ty cs) (I : Inv (X.suite a pn) pins σ H s) (ht : ∃ o, s.heap.get? a = some o ∧ o.cls = cls) (hx : PySem.W.exmAny X.K cls cs = some b) {Q : Bool → Shared → Prop} {E : Value → Shared → Prop}
    (q : ∀ h', (∀ c o, s.heap.get? c = some o → h'.get? c = some o) → Q b { s with heap := h' }) :
    wpAny (model X.prog X.w) (X.A.mark (some (.ref a))) (eval ty X.env) (fun v s1 => wpAny (model X.prog X.w) (X.A.mark (some (.ref a))) (excMatches (.ref a) v) Q E s1) E s := by
  obtain ⟨ob, hob, hcl⟩ := ht
  have look : ∀ {x : Str} {c : Value} {p : Pos} {R : Value → Shared → Prop}, Names X x c → R c s → wpAny (model X.prog X.w) (X.A.mark (some (.ref a))) (eval (.Name x p) X.env) R E s := fun {x c p R} hn hR => by
    obtain ⟨g1, g2, g3⟩ := hn
    rcases g3 with g3 | ⟨g3, g4, g5⟩
    · exact ld_glob (X := X.suite a pn) I g1 g3 hR g2
    · exact ld_blt (X := X.suite a pn) I g1 g3 g4 hR g5 g2
  have typ : ∀ h', (∀ c o, s.heap.get? c = some o → h'.get? c = some o) → PySem.W.Looks (model X.prog X.w) h' (typeOf (.ref a)) cls := fun h' k A Q E s k' q' => wpAny_typeOf_ref (k' _ _ (k _ _ hob)) (by rw [hcl]; exact q')
  cases hc with
  | one hn =>
    obtain ⟨b1, d1, x1, y1, z1⟩ := PySem.W.exmAny_cons hx
    have e2 : d1 = false := by
      have e3 : PySem.W.exmAny X.K cls [] = some false := rfl
      rw [e3] at y1
      exact (Option.some.inj y1).symm
    subst e2
    rw [Bool.or_false] at z1
    subst z1
    refine look hn ((PySem.W.exm_one (M := model X.prog X.w) I.kIn (typ _ fun _ _ z => z) x1).here ?_)
    exact q s.heap fun _ _ z => z
  | @two x y c d p p' q' kk hn hn' s1 s2 =>
    refine wpAny_Tuple (wpAny_items_cons (look hn (wpAny_items_cons (look hn' (wpAny_items_nil ⟨by show 2 ≤ sizeLine; decide, ?_⟩)) s2)) s1)
    have kp : ∀ c' o, s.heap.get? c' = some o → (s.heap.push { cls := .type "tuple", data := .seq [c, d].toArray }).get? c' = some o := fun _ _ z => Heap.get?_push_of_some _ z
    exact (PySem.W.exm_tup2 (M := model X.prog X.w) (I.kIn.keeps kp) (typ _ kp) (Heap.get?_push_size s.heap rfl) hx).here (q _ kp)
end
section
variable {X : Cx} {body : List Stmt} {hd0 : ExceptHandler} {hds : List ExceptHandler} {l : List Clause} {pos : Pos} {tb : WX → TS} {Wout : WX}
theorem ps_try (stk : X.stack = X.env :: X.outer) (frm : X.env.frame = some X.env.locals) (tk : Takes X Wout)
    (hbody : ∀ (W : WX) (pn : List (Addr × Obj)) (xe : Value → Shared → Prop), Takes (X.tr pn xe) W → PassesOwn (model X.prog X.w) X.A X.env xe → PSs (X.tr pn xe) body (tb W))
    (hcl : ClausesOk X (hd0 :: hds) l) : PS X (.Try body (hd0 :: hds) [] [] pos) (fun E σ H => tb (wClauses X.K Wout E l) E σ H) := by
  constructor
  intro pins s σ H E I hq
  have okX := I.ok
  have stkX : X.A.frames = some (X.env :: X.outer) := okX.frames.trans (congrArg some stk)
  apply wpAny_Try_except
  let after : Value → Shared → Prop := fun e s₁ => wpAny (model X.prog X.w) X.A (noteFrame e X.env) (fun _ s₂ => wpAny (model X.prog X.w) X.A (setFlight e none) (fun _ s₃ => wpAny (model X.prog X.w) X.A (handleBy e X.env (hd0 :: hds)) (SP X pins E) X.xe s₃) X.xe s₂) X.xe s₁
  have caught : Takes (X.tr (X.pn ++ pins) after) (wClauses X.K Wout E l) := by
    rintro u s' ⟨a, B, sI, pins', σ', H', cls, d, rfl, J0, nb, up, sky0, na, os, ag, wish⟩
    have J : Inv X pins σ' H' sI := J0.ofTry okX
    have sky : Sky B (X.env :: X.outer) a (Zc cls d) X.env.locals s'.heap := stk ▸ sky0
    show wpAny (model X.prog X.w) X.A (noteFrame (.ref a) X.env) _ X.xe s'
    apply Sky.land Zc.steady stkX frm sky
    intro h3 fl3 up3
    have away : ∀ {h : Heap}, HandSPX.FlyingZ B (X.env :: X.outer) a (Zc cls d) h → a ≠ X.env.locals ∧ a ∉ X.fs := fun {h} fl => by
      obtain ⟨o, vs, ho, _, hd⟩ := fl.there
      have no : a ∉ frs (X.env :: X.outer) := fun hm => by
        obtain ⟨_, o', ho', hnf⟩ := (fl.2.2.1).mem hm
        rw [ho] at ho'
        cases ho'
        exact hnf _ hd
      refine ⟨fun z => no (List.mem_filterMap.mpr ⟨X.env, List.mem_cons_self, frm.trans (congrArg some z.symm)⟩), fun hm => ?_⟩
      obtain ⟨e, he, z⟩ := List.mem_filterMap.mp hm
      exact no (List.mem_filterMap.mpr ⟨e, List.mem_cons_of_mem _ he, z⟩)
    have ground : ∀ {h : Heap}, HandSPX.FlyingZ B (X.env :: X.outer) a (Zc cls d) h → sI.heap.UpToSlots h → Inv X pins σ' H' { s' with heap := h } := fun {h} fl u => J.landed nb fl.1 u os ag
    have in_suite : ∀ {h : Heap}, HandSPX.FlyingZ B (X.env :: X.outer) a (Zc cls d) h → sI.heap.UpToSlots h → ∃ oe, Zc cls d oe ∧ (∃ vs, oe.data = .fields vs) ∧ h.get? a = some oe ∧ Inv (X.suite a ((a, oe) :: (X.pn ++ pins))) [] σ' H' { s' with heap := h } := fun {h} fl u => by
      obtain ⟨oe, vs, ho, hz, hd⟩ := fl.there
      exact ⟨oe, hz, ⟨vs, hd⟩, ho, (ground fl u).suite ho hd na (away fl).1 (away fl).2⟩
    have run : ∀ {hs' : List ExceptHandler} {l' : List Clause}, ClausesOk X hs' l' → ∀ h, HandSPX.FlyingZ B (X.env :: X.outer) a (Zc cls d) h → sI.heap.UpToSlots h → wClauses X.K Wout E l' cls d σ' H' →
        wpAny (model X.prog X.w) X.A (handleBy (.ref a) X.env hs') (SP X pins E) X.xe { s' with heap := h } := by
      intro hs' l' ok
      induction ok with
      | nil =>
        intro h fl u wsh
        apply wpAny_handleBy_nil
        obtain ⟨oe, vs, T, oT, us, g1, g2, g3, g4, _⟩ := fl.2.2.2
        unfold PySem.passOn
        apply wpAny_bind
        apply wpAny_field g1 g3 g4
        have nz : ¬ ((Value.ref T == Value.none) = true) := by simp
        simp only [if_neg nz]
        have last : wpAny (model X.prog X.w) X.A (setFlight (.ref a) X.env.frame) (fun _ s4 => wpAny (model X.prog X.w) X.A (throw (.ref a) : Sem Flow) (SP X pins E) X.xe s4) X.xe { s' with heap := h } := by
          rw [frm]
          apply HandSPX.setFlight_upZ fl
          intro h4 hh4 up4
          apply wpAny_throw
          apply tk
          exact ⟨a, B, sI, pins, σ', H', cls, d, rfl, J, nb, u.trans up4, .inr (.inr (stk ▸ hh4)), na, os, ag, wsh⟩
        first
          | exact wpAny_bind last
          | exact wpAny_bind (wpAny_pure (wpAny_bind last))
      | @bare ty cs ts b₀ suite p hds2 l2 hc hsu r ih =>
        intro h fl u wsh
        obtain ⟨b, hb1, yes, no⟩ := wsh
        obtain ⟨oe, hz, hd, ho, S⟩ := in_suite fl u
        apply wpAny_handleBy_cons _ (by intro z; cases z)
        apply codeAny_handlers_test
        refine clause_test hc S ⟨oe, ho, hz.1⟩ hb1 fun h5 k5 => ?_
        have fl5 := flying_push fl k5
        have u5 := u.trans (Heap.UpToSlots.of_keeps k5)
        cases b with
        | false => exact ih h5 fl5 u5 (no rfl)
        | true =>
          apply codeAny_handlers_suite
          apply HandSPX.lands_againZ fl5
          intro h6 fl6 up6
          obtain ⟨oe6, hz6, hd6, _, S6⟩ := in_suite fl6 (u5.trans up6)
          apply wpAny_mono ((hsu a oe6 cls d (X.pn ++ pins) hz6 hd6).run [] _ _ H' _ S6 (yes rfl a na)) _ (fun _ _ z => False.elim z)
          intro f s7 hsp
          cases f with
          | ret u7 =>
            obtain ⟨v7, σ7, H7, S7, r7, q7⟩ := hsp
            exact ⟨v7, σ7, H7, S7.unsuite okX, r7, q7⟩
          | next => obtain ⟨σ7, H7, S7, q7⟩ := hsp; exact ⟨σ7, H7, S7.unsuite okX, q7⟩
          | brk => obtain ⟨σ7, H7, S7, q7⟩ := hsp; exact ⟨σ7, H7, S7.unsuite okX, q7⟩
          | cont => obtain ⟨σ7, H7, S7, q7⟩ := hsp; exact ⟨σ7, H7, S7.unsuite okX, q7⟩
      | @as_ ty cs n i ts b₀ suite p hds2 l2 hc hN hi hln hsu r ih =>
        intro h fl u wsh
        obtain ⟨b, hb1, yes, no⟩ := wsh
        obtain ⟨oe, hz, hd, ho, S⟩ := in_suite fl u
        apply wpAny_handleBy_cons _ (by intro z; cases z)
        apply codeAny_handlers_test
        refine clause_test hc S ⟨oe, ho, hz.1⟩ hb1 fun h5 k5 => ?_
        have fl5 := flying_push fl k5
        have u5 := u.trans (Heap.UpToSlots.of_keeps k5)
        cases b with
        | false => exact ih h5 fl5 u5 (no rfl)
        | true =>
          apply codeAny_handlers_suite_as
          apply HandSPX.lands_againZ fl5
          intro h6 fl6 up6
          obtain ⟨oe6, hz6, hd6, _, S6⟩ := in_suite fl6 (u5.trans up6)
          refine store_ok (X := X.suite a ((a, oe6) :: (X.pn ++ pins))) (v := .ref a) S6 hN hi (Or.inl hln) rfl (fun s7 S7 => ?_) (Or.inr hln)
          apply wpAny_mono ((hsu a oe6 cls d (X.pn ++ pins) hz6 hd6).run [] s7 _ H' _ S7 (yes rfl a na)) _ (fun _ _ z => False.elim z)
          intro f s8 hsp
          have leave : ∀ {τ : L2.St} {G : Hp} {R : Shared → Prop}, Inv (X.suite a ((a, oe6) :: (X.pn ++ pins))) [] τ G s8 → (∀ s9, Inv X pins (τ.set i none) G s9 → R s9) → wpAny (model X.prog X.w) X.A (do bindName X.env n .none; unbindBehindTheSuite X.env n p) (fun _ s9 => R s9) X.xe s8 :=
            fun {τ G R} S8 k => gone_ok (S8.unsuite okX) hN hi hln k
          cases f with
          | ret u7 =>
            obtain ⟨v7, σ7, H7, S8, r7, q7⟩ := hsp
            exact leave S8 fun s9 J9 => ⟨v7, _, H7, J9, r7, q7⟩
          | next => obtain ⟨σ7, H7, S8, q7⟩ := hsp; exact leave S8 fun s9 J9 => ⟨_, H7, J9, q7⟩
          | brk => obtain ⟨σ7, H7, S8, q7⟩ := hsp; exact leave S8 fun s9 J9 => ⟨_, H7, J9, q7⟩
          | cont => obtain ⟨σ7, H7, S8, q7⟩ := hsp; exact leave S8 fun s9 J9 => ⟨_, H7, J9, q7⟩
    exact run hcl h3 fl3 (up.trans up3) wish
  apply wpAny_mono ((hbody (wClauses X.K Wout E l) (X.pn ++ pins) after caught PassesOwn.looking).run [] s σ H E (I.toTry _) hq) _ (fun _ _ z => z)
  intro f s1 hsp
  cases f with
  | next =>
    obtain ⟨τ, G, J, q⟩ := hsp
    exact wpAny_execs_nil ⟨τ, G, J.ofTry okX, q⟩
  | brk => obtain ⟨τ, G, J, q⟩ := hsp; exact ⟨τ, G, J.ofTry okX, q⟩
  | cont => obtain ⟨τ, G, J, q⟩ := hsp; exact ⟨τ, G, J.ofTry okX, q⟩
  | ret u => obtain ⟨v, τ, G, J, r, q⟩ := hsp; exact ⟨v, τ, G, J.ofTry okX, r, q⟩
end
end Sm

set_option Elab.async false
set_option linter.all false
set_option maxRecDepth 100000
set_option maxHeartbeats 4000000
set_option autoImplicit false
namespace Sm
open PySem PySem.Spec PyProof.Rows L2
section
variable {X : Cx} {κ : Kx} {W : WX} {e a b c : Expr} {f fa fb fc : ES} {pos : Pos}
theorem chain_post {r r' : R2} {g g' : D → D → Hs → Res D} (s : Sim2 κ W r g) (s' : Sim2 κ W r' g') {σ : L2.St} {H : Hp} {Q : VK} (q : rdE κ W (eChain g g' fa fb fc) σ H Q) : tChain r r' (rdE κ W fa) (rdE κ W fb) (rdE κ W fc) σ H Q := by
  obtain ⟨ι, σd, h, rs, rh, q⟩ := q
  refine ⟨ι, σd, h, rs, rh, (PostR.bind q).imp fun x h1 ι1 H1 p1 e1 r1 q1 v hv => ?_⟩
  have rs1 := rs.mono p1 e1
  refine ⟨ι1, σd, h1, rs1, r1, (PostR.bind q1).imp fun y h2 ι2 H2 p2 e2 r2 q2 w hw => ?_⟩
  have rs2 := rs1.mono p2 e2
  refine s ι2 h2 H2 σ x y v w _ r2 (hv.mono κ.le_refl p2 e2) hw ((PostR.bind q2).imp fun z h3 ι3 H3 p3 e3 r3 q3 u hu => ?_)
  cases z with
  | bl k =>
    refine ⟨k, rBl hu, ?_⟩
    cases k with
    | false => exact iteF (q3.now r3 _ wBl)
    | true =>
      refine iteT ⟨ι3, σd, h3, rs2.mono p3 e3, r3, (PostR.bind q3).imp fun z4 h4 ι4 H4 p4 e4 r4 q4 u4 hu4 => ?_⟩
      exact s' ι4 h4 H4 σ y z4 w u4 Q r4 (hw.mono κ.le_refl (p3.trans p4) (e3.trans e4)) hu4 q4
  | _ => exact q3.elim
theorem se_chain {op op' : CmpOp} {r r' : R2} {g g' : D → D → Hs → Res D} (ho : OpR X (compareOp op) r) (ho' : OpR X (compareOp op') r') (s : Sim2 κ W r g) (s' : Sim2 κ W r' g') (ha : SE X κ W a fa) (hb : SE X κ W b fb) (hc : SE X κ W c fc)
    (hm : lastMarks [op, op'] [b, c] = false := by with_unfolding_all rfl) : SE X κ W (.Compare a [op, op'] [b, c] pos) (eChain g g' fa fb fc) := pe_imp (pe_chain ho ho' ha hb hc hm) fun σ H Q q => chain_post s s' q
theorem val_post {σ : L2.St} {H : Hp} {Q : Bool → Hp → Prop} (q : rdB κ W (bVal f) σ H Q) : rdE κ W f σ H (fun x H' => ∃ k, x = .bl k ∧ Q k H') := by
  obtain ⟨ι, σd, h, rs, rh, q⟩ := q
  refine ⟨ι, σd, h, rs, rh, (PostR.bind q).imp fun x h1 ι1 H1 p1 e1 r1 q1 v hv => ?_⟩
  cases x with
  | bl k => exact ⟨k, rBl hv, q1.now r1⟩
  | _ => exact q1.elim
theorem sb_chain {op op' : CmpOp} {r r' : R2} {g g' : D → D → Hs → Res D} (ho : OpR X (compareOp op) r) (ho' : OpR X (compareOp op') r') (s : Sim2 κ W r g) (s' : Sim2 κ W r' g') (ha : SE X κ W a fa) (hb : SE X κ W b fb) (hc : SE X κ W c fc)
    (hm : lastMarks [op, op'] [b, c] = false := by with_unfolding_all rfl) : SB X κ W (.Compare a [op, op'] [b, c] pos) (bVal (eChain g g' fa fb fc)) := pt_imp (pt_chain ho ho' ha hb hc hm) fun σ H Q q => chain_post s s' (val_post q)
theorem op2_post {t : R2} {g : D → D → Hs → Res D} (s : Sim2 κ W t g) {σ : L2.St} {H : Hp} {Q : VK} (q : rdE κ W (eOp2 g fa fb) σ H Q) : tOp t (rdE κ W fa) (rdE κ W fb) σ H Q := by
  obtain ⟨ι, σd, h, rs, rh, q⟩ := q
  exact two rs rh q fun x y h2 ι2 H2 v w _ _ _ r2 hv hw q2 => s ι2 h2 H2 σ x y v w Q r2 hv hw q2
theorem sb_cmp {op : CmpOp} {r : R2} {g : D → D → Hs → Res D} (ho : OpR X (compareOp op) r) (s : Sim2 κ W r g) (ha : SE X κ W a fa) (hb : SE X κ W b fb) (hm : behindInMarks op b = false := by first | exact nomark _ | rfl | with_unfolding_all rfl) :
    SB X κ W (.Compare a [op] [b] pos) (bVal (eOp2 g fa fb)) := pt_imp (pt_cmpR ho ha hb hm) fun σ H Q q => op2_post s (val_post q)
theorem tru_of {ι : List Addr} {h : Hs} {H : Hp} {d : D} {v : V} {k : Bool} (rh : RelH κ ι h H) (r : Rep κ ι H d v) (e : truD h d = some k) : TruV κ.K v H k := by
  have emp : ∀ {xs : List D} {vs : List V}, RepL κ ι H xs vs → (!xs.isEmpty) = !vs.isEmpty := fun {xs vs} r => by
    have := r.length
    cases xs <;> cases vs <;> simp_all
  cases d with
  | non => rw [rNon r]; simp only [truD, Option.some.injEq] at e; exact e.symm
  | bl b => rw [rBl r]; simp only [truD, Option.some.injEq] at e; exact e.symm
  | int b => rw [rInt r]; simp only [truD, Option.some.injEq] at e; exact e.symm
  | str b =>
    rw [rStr r]
    simp only [truD] at e
    split at e
    · rename_i hl
      simp only [Option.some.injEq] at e
      refine ⟨size5 hl, ?_⟩
      rw [← e]
      generalize b.length = n
      cases n <;> rfl
    · cases e
  | tup xs =>
    obtain ⟨a, vs, rfl, s, rl⟩ := rTup r
    simp only [truD, Option.some.injEq] at e
    exact .inr (.inl ⟨vs, s, by rw [← e]; exact emp rl⟩)
  | ref n =>
    obtain ⟨a, ea, rfl⟩ := rRef r
    simp only [truD] at e
    cases hn : h[n]? with
    | none => rw [hn] at e; cases e
    | some c =>
      rw [hn] at e
      cases c with
      | lst xs =>
        simp only [Option.some.injEq] at e
        obtain ⟨vs, ev, rl⟩ := rh.at hn ea
        exact .inl ⟨vs, SqL.of ev, by rw [← e]; exact emp rl⟩
      | dict xs =>
        simp only [Option.some.injEq] at e
        obtain ⟨vs, ev, rl⟩ := rh.at hn ea
        refine .inr (.inr ⟨vs, ev, ?_⟩)
        rw [← e]
        have := repF_len rl
        cases xs <;> cases vs <;> simp_all
      | _ => cases e
  | _ => cases e
theorem sb_tru (hK : κ.K = X.K) (ha : SE X κ W a fa) (he : ∀ whole, isTrue a X.env whole = (do let v ← whole; standAt a.pos; holding [v] (truthy v)) := by intro _; rfl) : SB X κ W a (bTru fa) := pt_imp (pt_truth ha he) fun σ H Q ⟨ι, σd, h, rs, rh, q⟩ => by
  refine ⟨ι, σd, h, rs, rh, (PostR.bind q).imp fun x h1 ι1 H1 p1 e1 r1 q1 v hv => ?_⟩
  cases ht : truD h1 x with
  | none => simp only [ht] at q1; exact q1.elim
  | some k =>
    simp only [ht] at q1
    exact ⟨k, by rw [← hK]; exact tru_of r1 hv ht, q1.now r1⟩
theorem se_gint {x : Str} {i : Int} (hg : Gl X x) (hm : ∃ t, X.mg x = some (.int i t)) (hd : (x == ("__debug__" : Str)) = false := by decide) : SE X κ W (.Name x pos) (eC (.int i)) := by
  obtain ⟨t, hm⟩ := hm
  exact se_c (pe_glob (v := .int i) hg hm ⟨t, rfl⟩ hd) fun _ _ => wInt
theorem se_gstr {x : Str} {i : Str} (hg : Gl X x) (hm : ∃ t, X.mg x = some (.str i t)) (hd : (x == ("__debug__" : Str)) = false := by decide) : SE X κ W (.Name x pos) (eC (.str i)) := by
  obtain ⟨t, hm⟩ := hm
  exact se_c (pe_glob (v := .str i) hg hm ⟨t, rfl⟩ hd) fun _ _ => wStr
def signs (s : Str) : List D := s.cps.toList.map fun c => .str ⟨#[c]⟩
def iStrD (e : ES) : IS := fun σ h => (e σ h).bind fun d h1 => match d with
  | .str s => .ok (signs s, fun _ => True) h1
  | _ => .bad
variable {tg : Expr}
theorem si_str (h : SE X κ W e f) : SI X κ W tg e (iStrD f) := pi_imp (pi_str h) fun σ H R ⟨ι, σd, h, rs, rh, q⟩ => by
  refine ⟨ι, σd, h, rs, rh, (PostR.bind q).imp fun d h1 ι1 H1 p1 e1 r1 q1 v hv => ?_⟩
  cases d with
  | str s =>
    refine ⟨s, rStr hv, q1.now r1 _ fun ι2 h2 H2 p2 ex2 r2 _ => ⟨fun i d hd => ?_, ?_⟩⟩
    · unfold signs at hd
      rw [List.getElem?_map] at hd
      cases hc : s.cps.toList[i]? with
      | none => rw [hc] at hd; cases hd
      | some c =>
        rw [hc] at hd
        simp only [Option.map_some, Option.some.injEq] at hd
        subst hd
        have hc' : s.cps[i]? = some c := by simpa using hc
        refine ⟨(Array.getElem?_eq_some_iff.mp hc').1, fun x H' hy => ?_⟩
        obtain ⟨eH, c', ec, ex⟩ := hy
        subst eH
        rw [hc'] at ec
        cases ec
        subst ex
        exact ⟨Ext.refl _ _, r2, wStr⟩
    · show s.cps.size ≤ _
      simp [signs]
  | _ => exact q1.elim
def sPar3 (i j l : Nat) (a : AS) : SS := fun σ h => onR σ (a σ h) fun ds h1 => match ds with
  | [x, y, z] => .nx (((σ.set i (some x)).set j (some y)).set l (some z)) h1
  | _ => .bad
theorem s1_par3 {i j l : Nat} {x y z : Str} {px py pz pt : Pos} {kt k2 pt2} {fs : AS} (hc : X.calm = true) (hN : X.N.Nodup) (hi : X.N[i]? = some x) (hj : X.N[j]? = some y) (hl : X.N[l]? = some z) (hij : i ≠ j) (hil : i ≠ l) (hjl : j ≠ l)
    (hx : X.env.scope.names.lookup x = some .local) (hy : X.env.scope.names.lookup y = some .local) (hz : X.env.scope.names.lookup z = some .local) (ha : SA X κ W [a, b, c] fs)
    (hw : swappedStores [.Tuple [.Name x px, .Name y py, .Name z pz] kt pt] (.Tuple [a, b, c] k2 pt2) X.env = pure (some [x, y, z]))
    (hs : swapsWithSole [.Tuple [.Name x px, .Name y py, .Name z pz] kt pt] (.Tuple [a, b, c] k2 pt2) pos.line X.env = pure false := by rfl) :
    S1 X κ W (.Assign [.Tuple [.Name x px, .Name y py, .Name z pz] kt pt] (.Tuple [a, b, c] k2 pt2) pos) (sPar3 i j l fs) := ps_imp (ps_par3 hc hN hi hj hl hij hil hjl hx hy hz ha hw hs) fun E σ H ⟨ι, σd, h, rs, rh, q⟩ => by
  refine ⟨ι, σd, h, rs, rh, (PostR.onR rs q).imp fun ds h1 ι1 H1 p1 e1 r1 q1 vs hv => ?_⟩
  match ds, q1, hv with
  | [], q1, _ => exact q1.elim
  | [_], q1, _ => exact q1.elim
  | [_, _], q1, _ => exact q1.elim
  | _ :: _ :: _ :: _ :: _, q1, _ => exact q1.elim
  | [d1, d2, d3], q1, hv =>
    simp only [RepL] at hv
    obtain ⟨v, vr, rfl, rv, w, wr, rfl, rw_, u, ur, rfl, ru, rfl⟩ := hv
    exact ⟨v, w, u, rfl, q1 ι1 H1 _ (pre_refl _) (Ext.refl _ _) ((((rs.mono p1 e1).set rv i).set rw_ j).set ru l) r1⟩
def dispG (n : Nat) : List (Str × ES) → List (Key × D) → ES
  | [], acc => fun _ h => match h[n]? with
    | some (.dict []) => .ok (.ref n) (h.set n (.dict acc))
    | _ => .bad
  | (k, f) :: r, acc => fun σ h => (f σ h).bind fun d h1 => dispG n r (putD acc (.inr k) d) σ h1
def eDisp (l : List (Str × ES)) : ES := fun σ h => if l.length ≤ 15 then dispG h.length l [] σ (h ++ [.dict []]) else .bad
inductive DispOk (X : Cx) (κ : Kx) (W : WX) : List (Option Expr) → List Expr → List (Str × ES) → Prop where
  | nil : DispOk X κ W [] [] []
  | cons {k : Str} {j : Nat} {p : Pos} {v : Expr} {fv : ES} {ks : List (Option Expr)} {vs : List Expr} {l : List (Str × ES)} (h : SE X κ W v fv) (r : DispOk X κ W ks vs l) : DispOk X κ W (some (.Constant (.str k) j p) :: ks) (v :: vs) ((k, fv) :: l)
theorem DispOk.pps {ks : List (Option Expr)} {vs : List Expr} {l : List (Str × ES)} (h : DispOk X κ W ks vs l) : PPs X pos ks vs (l.map fun q => (tC (.str q.1), rdE κ W q.2)) := by
  induction h with
  | nil => exact pps_nil
  | cons h r ih => exact pps_cons pe_str h ih
theorem disp_post {n : Nat} {p : Addr} {Q : VK} {σd : Lo} {σ : L2.St} : ∀ {l : List (Str × ES)} {acc : List (Key × D)} {av : List (Key × V)} {ι : List Addr} {h : Hs} {H : Hp} {P : List (V × V) → Hp → Prop}, ι[n]? = some p → RelS κ ι H σd σ → RelH κ ι h H → RepF κ ι H acc av → PostR κ W ι H σ (PE_ κ Q) (dispG n l acc σd h) →
    (∀ (kvs : List (Key × V)) H2, H2 p = some (.dK []) → kvs.length = l.length → Q (.ref p) (upd H2 p (.dK (mergeK av kvs))) → P (kvs.map fun kv => (kV kv.1, kv.2)) H2) → tPairs (l.map fun q => (tC (.str q.1), rdE κ W q.2)) σ H P
  | [], acc, av, ι, h, H, P, hn, rs, rh, rf, q, k => by
    unfold dispG at q
    split at q
    · rename_i hc
      obtain ⟨vs, ev, rl⟩ := rh.at hc hn
      cases rl
      have ex : Ext κ.K H (upd H p (.dK av)) := rh.ext_put hc hn
      exact k [] H ev rfl (q ι _ (pre_refl _) ex (rh.put hc hn ⟨av, upd_same, rf.mono (pre_refl _) ex⟩) _ (by simp only [Rep]; exact ⟨p, hn, rfl⟩))
    · exact q.elim
  | (k, f) :: l, acc, av, ι, h, H, P, hn, rs, rh, rf, q, kk => by
    refine ⟨ι, σd, h, rs, rh, (PostR.bind q).imp fun d h1 ι1 H1 p1 e1 r1 q1 v hv => ?_⟩
    have hn1 : ι1[n]? = some p := by
      obtain ⟨r, rfl⟩ := p1
      rw [List.getElem?_append_left (List.getElem?_eq_some_iff.mp hn).1]; exact hn
    exact disp_post (l := l) hn1 (rs.mono p1 e1) r1 (repF_put (k := .inr k) (rf.mono p1 e1) hv) q1 fun kvs H2 z1 z2 z3 => kk ((.inr k, v) :: kvs) H2 z1 (by rw [List.length_cons, List.length_cons, z2]) z3
theorem se_disp {ks : List (Option Expr)} {vs : List Expr} {l : List (Str × ES)} (h : DispOk X κ W ks vs l) (hall : ks.all (·.isSome) = true := by rfl) (hl : ks.length = vs.length := by rfl) (h0 : ks ≠ [] := by simp) (h15 : ks.length ≤ 15 := by decide) :
    SE X κ W (.Dict ks vs pos) (eDisp l) := pe_imp (pe_disp h.pps hall hl h0 h15) fun σ H Q ⟨ι, σd, h, rs, rh, q⟩ => by
  intro p hp
  unfold eDisp at q
  split at q
  · have ex : Ext κ.K H (upd H p (.dK [])) := Ext.new hp
    have r0 : RelH κ (ι ++ [p]) (h ++ [.dict []]) (upd H p (.dK [])) := rh.alloc hp fun ι' pι => ⟨[], upd_same, rfl⟩
    have eD : (ι ++ [p])[h.length]? = some p := by rw [← rh.len, List.getElem?_append_right (Nat.le_refl _)]; simp
    rename_i hz
    exact disp_post eD (rs.mono (List.prefix_append _ _) ex) r0 (acc := []) (av := []) rfl (PostR.mono (List.prefix_append _ _) ex q) fun kvs H2 z1 z2 z3 => ⟨z1, kvs, rfl, by rw [z2]; exact hz, z3⟩
  · exact q.elim
def rdG (κ : Kx) (W : WX) (g : D → SS) : TG := fun v σ H Q => ∃ ι σd h d, RelS κ ι H σd σ ∧ RelH κ ι h H ∧ Rep κ ι H d v ∧ PostS κ W ι H { nx := Q, rt := fun _ _ => False, bk := fun _ _ => False, ct := fun _ _ => False } (g d σd h)
def SGg (X : Cx) (κ : Kx) (W : WX) (e : Expr) (g : D → SS) : Prop := PG X e (rdG κ W g)
theorem pg_imp {t t' : TG} (h : PG X e t) (i : ∀ v σ H Q, t' v σ H Q → t v σ H Q) : PG X e t' := ⟨fun pins s σ H v u Q I r q => h.run pins s σ H v u Q I r (i v σ H Q q)⟩
def gSubD (gs : D → D → D → Hs → Res D) (fo fi : ES) : D → SS := fun d σ h => onR σ (fo σ h) fun p h2 => onR σ (fi σ h2) fun k h3 => onR σ (gs p k d h3) fun _ h4 => .nx σ h4
theorem sgg_sub {o i : Expr} {fo fi : ES} {r : V → V → V → Hp → (Hp → Prop) → Prop} {gs : D → D → D → Hs → Res D} (hset : PSet X r) (ss : SimSet κ W r gs) (ho : SE X κ W o fo) (hi : SE X κ W i fi)
    (ha : ∀ v, assign (.Subscript o i pos) X.env v = (do
      let ov ← holding [v] (eval o X.env)
      let iv ← holding [v, ov] (eval i X.env)
      standAt pos
      holding [v, ov, iv] (setItem ov iv v)
      release [v, ov, iv] []) := by intro _; rfl) : SGg X κ W (.Subscript o i pos) (gSubD gs fo fi) := pg_imp (pg_sub ho hi hset ha) fun v σ H Q ⟨ι, σd, h, d, rs, rh, rd, q⟩ => by
  refine ⟨ι, σd, h, rs, rh, (PostR.onR rs q).imp fun p h2 ι2 H2 p2 e2 r2 q2 vp hp => ?_⟩
  have rs2 := rs.mono p2 e2
  refine ⟨ι2, σd, h2, rs2, r2, (PostR.onR rs2 q2).imp fun k h3 ι3 H3 p3 e3 r3 q3 vk hk => ?_⟩
  have rs3 := rs2.mono p3 e3
  refine ss ι3 h3 H3 σ p k d vp vk v _ r3 (hp.mono κ.le_refl p3 e3) hk (rd.mono κ.le_refl (p2.trans p3) (e2.trans e3)) ((PostR.onR rs3 q3).imp fun _ h4 ι4 H4 p4 e4 r4 q4 => ?_)
  exact q4 ι4 H4 σ (pre_refl _) (Ext.refl _ _) (rs3.mono p4 e4) r4
def gPair (ga gb : D → SS) : D → SS := fun d σ h => match d with
  | .tup [x, y] => (ga x σ h).next (gb y)
  | _ => .bad
theorem sgg_pair {k : Nat} {ga gb : D → SS} (hK : κ.K = X.K) (hc : X.calm = true) (ha : SGg X κ W a ga) (hb : SGg X κ W b gb) (hn : (assignEach [a, b] X.env).length = 2 := by rfl) (hst : (assignEach [a, b] X.env).findIdx? (·.1) = none := by rfl)
    (t1 : (assignEach [a, b] X.env).map (·.2) = assign a X.env :: (assignEach [b] X.env).map (·.2) := by rfl) (t2 : (assignEach [b] X.env).map (·.2) = assign b X.env :: (assignEach [] X.env).map (·.2) := by rfl) : SGg X κ W (.Tuple [a, b] k pos) (gPair ga gb) :=
  pg_imp (pg_tup hc (pgs_cons ha (pgs_cons hb pgs_nil t2) t1) hn hst) fun v σ H Q ⟨ι, σd, h, d, rs, rh, rd, q⟩ => by
  unfold gPair at q
  split at q
  · rename_i x y
    obtain ⟨p, vs, rfl, s, rl⟩ := rTup rd
    simp only [RepL] at rl
    obtain ⟨vx, vr, rfl, rx, vy, vr2, rfl, ry, rfl⟩ := rl
    refine ⟨p, [vx, vy], rfl, by rw [← hK]; exact s, rfl, vx, [vy], rfl, ι, σd, h, x, rs, rh, rx, ?_⟩
    revert q
    cases ga x σd h with
    | nx σ1 h1 =>
      intro q ι1 H1 σ' p1 e1 rs1 rh1
      refine ⟨vy, [], rfl, ι1, σ1, h1, y, rs1, rh1, ry.mono κ.le_refl p1 e1, ?_⟩
      have q2 : PostS κ W ι1 H1 { nx := Q, rt := fun _ _ => False, bk := fun _ _ => False, ct := fun _ _ => False } (gb y σ1 h1) := PostS.mono p1 e1 q
      revert q2
      cases gb y σ1 h1 with
      | nx σ2 h2 => exact fun q ι3 H3 σ3 p3 e3 rs3 rh3 => ⟨rfl, q ι3 H3 σ3 p3 e3 rs3 rh3⟩
      | exc c fs σ1 h1 => exact fun q => q
      | rt _ _ => exact fun q => q
      | bk _ _ => exact fun q => q
      | ct _ _ => exact fun q => q
      | bad => exact fun q => q
    | exc c fs σ1 h1 => exact fun q => q
    | rt _ _ => exact fun q ι1 H1 v p1 e1 r1 hv => q ι1 H1 v p1 e1 r1 hv
    | bk _ _ => exact fun q ι1 H1 v p1 e1 r1 hv => q ι1 H1 v p1 e1 r1 hv
    | ct _ _ => exact fun q ι1 H1 v p1 e1 r1 hv => q ι1 H1 v p1 e1 r1 hv
    | bad => exact fun q => q
  · exact q.elim
def sAsg (g : D → SS) (f : ES) : SS := fun σ h => onR σ (f σ h) fun d h1 => match g d σ h1 with
  | .nx σ2 h2 => .nx σ2 h2
  | .exc c fs σ2 h2 => .exc c fs σ2 h2
  | _ => .bad
theorem s1_asg {tg : Expr} {g : D → SS} (h : SE X κ W e f) (hg : SGg X κ W tg g) (hs : swapsWithSole [tg] e pos.line X.env = pure false := by rfl) (hw : swappedStores [tg] e X.env = pure none := by rfl)
    (h1 : (assignEach [tg] X.env).map (·.2) = [assign tg X.env] := by rfl) : S1 X κ W (.Assign [tg] e pos) (sAsg g f) := ps_imp (ps_asg h hg hs hw h1) fun E σ H ⟨ι, σd, h, rs, rh, q⟩ => by
  refine ⟨ι, σd, h, rs, rh, (PostR.onR rs q).imp fun d h1 ι1 H1 p1 e1 r1 q1 v hv => ?_⟩
  refine ⟨ι1, σd, h1, d, rs.mono p1 e1, r1, hv, ?_⟩
  revert q1
  cases g d σd h1 with
  | nx σ1 h1 => exact fun q => q
  | exc c fs σ1 h1 => exact fun q => q
  | rt _ _ => exact fun q => q.elim
  | bk _ _ => exact fun q => q.elim
  | ct _ _ => exact fun q => q.elim
  | bad => exact fun q => q
end
end Sm

set_option Elab.async false
set_option linter.all false
set_option maxRecDepth 100000
set_option maxHeartbeats 4000000
set_option autoImplicit false
namespace Sm
open PySem PySem.Spec PyProof.Rows L2

def spInit (K : PySem.W.Frag) (C : Addr) (fns : List Str) : Sp := fun vs H Q _ => ∃ (a : Addr) (ys : List V), vs = .ref a :: ys ∧ ys.length = fns.length ∧ H a = some (exo a C none) ∧ ∀ dx, H dx = none → dx ≠ a → Q .non (upd (upd H dx (exd dx (fns.zip ys).reverse)) a (exo a C (some dx)))
section
variable {P : Program} {w : World} {K : PySem.W.Frag} {mg : Str → Option Value} {base : Heap} {x qual : Str} {params : Arguments} {scope : Scope} {f C : Addr} {fd : FuncData}
theorem init1 {N : List Str} {f1 x1 : Str} {p1 p2 p3 p4 q1 q2 q3 q4 : Pos} (T : OexC K C) (n1 : PySem.W.findIn K (.ref C) f1 = some none)
    (F : FunD K x qual params [.Assign [.Attribute (.Name "self" p1) f1 p2] (.Name x1 p3) p4] scope [] [] f fd) (S : FnScope N ["self", x1] scope)
    (h0 : N[0]? = some ("self" : Str)) (h1 : N[1]? = some x1) (v0 : Vis scope ("self" : Str)) (v1 : Vis scope x1) (d1 : (x1 == ("__debug__" : Str)) = false) (d2 : (x1 == ("__classdict__" : Str)) = false)
    (hs : ∀ env : Env, swapsWith (.Name x1 p3) (some (.Attribute (.Name "self" p1) f1 p2)) p4.line env = pure false := by intro _; rfl) :
    FnOk P w K mg base (L2.CX P w) 1 f fd ["self", x1] (spInit K C [f1]) := by
  refine F.ok S (fun vs H Q E ⟨a, ys, e, l, _⟩ => by rw [e, List.length_cons, l] <;> rfl) fun cdv A outer s0 H vs Q E hr ⟨a, ys, e, l, ha, q⟩ => ?_
  match ys, l with
  | [y1], _ =>
    subst e
    refine ⟨_, pss_cons (ps_ost (pe_var (i := 0) h0 v0 (by decide) (by decide)) (pe_var (i := 1) h1 v1 d1 d2) (hs _)) pss_nil, ?_⟩
    refine ⟨y1, ?_, .ref a, ?_, a, C, rfl, T, n1, .inl ⟨ha, fun dx hx ne => q dx hx ne⟩⟩
    · unfold L2.start; rfl
    · unfold L2.start; rfl
theorem upd_twice {H : Hp} {a d : Addr} {o1 o2 u : HO} (h : d ≠ a) : upd (upd (upd H d o1) a u) d o2 = upd (upd H d o2) a u := by
  funext b
  unfold upd
  by_cases hb : b = d
  · subst hb
    simp [h]
  · simp [hb]
theorem init2 {N : List Str} {f1 x1 f2 x2 : Str} {p1 p2 p3 p4 q1 q2 q3 q4 : Pos} (T : OexC K C) (n1 : PySem.W.findIn K (.ref C) f1 = some none) (n2 : PySem.W.findIn K (.ref C) f2 = some none)
    (F : FunD K x qual params [.Assign [.Attribute (.Name "self" p1) f1 p2] (.Name x1 p3) p4, .Assign [.Attribute (.Name "self" q1) f2 q2] (.Name x2 q3) q4] scope [] [] f fd) (S : FnScope N ["self", x1, x2] scope)
    (h0 : N[0]? = some ("self" : Str)) (h1 : N[1]? = some x1) (h2 : N[2]? = some x2) (v0 : Vis scope ("self" : Str)) (v1 : Vis scope x1) (v2 : Vis scope x2) (d1 : (x1 == ("__debug__" : Str)) = false) (d2 : (x1 == ("__classdict__" : Str)) = false)
    (d3 : (x2 == ("__debug__" : Str)) = false) (d4 : (x2 == ("__classdict__" : Str)) = false)
    (hs : ∀ env : Env, swapsWith (.Name x1 p3) (some (.Attribute (.Name "self" p1) f1 p2)) p4.line env = pure false := by intro _; rfl) (hs2 : ∀ env : Env, swapsWith (.Name x2 q3) (some (.Attribute (.Name "self" q1) f2 q2)) q4.line env = pure false := by intro _; rfl) :
    FnOk P w K mg base (L2.CX P w) 1 f fd ["self", x1, x2] (spInit K C [f1, f2]) := by
  refine F.ok S (fun vs H Q E ⟨a, ys, e, l, _⟩ => by rw [e, List.length_cons, l] <;> rfl) fun cdv A outer s0 H vs Q E hr ⟨a, ys, e, l, ha, q⟩ => ?_
  match ys, l with
  | [y1, y2], _ =>
    subst e
    refine ⟨_, pss_cons (ps_ost (pe_var (i := 0) h0 v0 (by decide) (by decide)) (pe_var (i := 1) h1 v1 d1 d2) (hs _)) (pss_cons (ps_ost (pe_var (i := 0) h0 v0 (by decide) (by decide)) (pe_var (i := 2) h2 v2 d3 d4) (hs2 _)) pss_nil), ?_⟩
    refine ⟨y1, ?_, .ref a, ?_, a, C, rfl, T, n1, .inl ⟨ha, fun dx hx ne => ?_⟩⟩
    · unfold L2.start; rfl
    · unfold L2.start; rfl
    refine ⟨y2, ?_, .ref a, ?_, a, C, rfl, T, n2, .inr ⟨dx, [(f1, y1)], upd_same, by rw [upd_ne ne, upd_same], by simp, ?_⟩⟩
    · unfold L2.start; rfl
    · unfold L2.start; rfl
    rw [upd_twice ne]
    exact q dx hx ne
end
structure Xc (P : Program) (w : World) (K : PySem.W.Frag) (mg : Str → Option Value) (base : Heap) (c : Str) (fns : List Str) : Prop where
  oex : OexC K (He.ga K c)
  gc : mg c = some (.ref (He.ga K c))
  ini : ∃ (fI : Addr) (fd : FuncData) (ps : List Str), PySem.W.findIn K (.ref (He.ga K c)) "__init__" = some (some (.ref fI)) ∧ PySem.W.typeIn K (.ref fI) = some (.type "function") ∧ Binds K fd ps [] ∧ FnOk P w K mg base (L2.CX P w) 1 fI fd ps (spInit K (He.ga K c) fns)
def sRaise (c : Str) (fns : List Str) (a : AS) : SS := fun σ h => onR σ (a σ h) fun ds h1 => if ds.length = fns.length ∧ ds.length ≤ 100 then .exc c (fns.zip ds).reverse σ h1 else .bad
section
variable {X : Cx} {κ : Kx} {W : WX} {e : Expr} {es : List Expr} {fs : AS} {c : Str} {fns : List Str} {p pos pos' : Pos}
theorem repF_zip {ι : List Addr} {H : Hp} : ∀ {fns : List Str} {ds : List D} {vs : List V}, RepL κ ι H ds vs → RepF κ ι H (fns.zip ds) (fns.zip vs)
  | [], ds, vs, _ => by simp only [List.zip_nil_left]; rfl
  | f :: fns, [], vs, r => by simp only [RepL] at r; subst r; simp only [List.zip_nil_right]; rfl
  | f :: fns, d :: ds, vs, r => by
    simp only [RepL] at r
    obtain ⟨v, vr, rfl, r1, r2⟩ := r
    simp only [List.zip_cons_cons]
    exact ⟨v, _, rfl, r1, repF_zip r2⟩
theorem repF_append {α : Type} {ι : List Addr} {H : Hp} : ∀ {l m : List (α × D)} {vs us : List (α × V)}, RepF κ ι H l vs → RepF κ ι H m us → RepF κ ι H (l ++ m) (vs ++ us)
  | [], m, vs, us, a, b => by rw [show vs = [] from a]; exact b
  | (k, x) :: l, m, vs, us, ⟨v, vr, e, r1, r2⟩, b => by
    subst e
    exact ⟨v, _, rfl, r1, repF_append r2 b⟩
theorem repF_reverse {α : Type} {ι : List Addr} {H : Hp} : ∀ {l : List (α × D)} {vs : List (α × V)}, RepF κ ι H l vs → RepF κ ι H l.reverse vs.reverse
  | [], vs, a => by rw [show vs = [] from a]; rfl
  | (k, x) :: l, vs, ⟨v, vr, e, r1, r2⟩ => by
    subst e
    rw [List.reverse_cons, List.reverse_cons]
    exact repF_append (repF_reverse r2) ⟨v, [], rfl, r1, rfl⟩
theorem s1_raise (hc : X.calm = true) (tk : Takes X W) (F : Xc X.prog X.w X.K X.mg X.base c fns) (hK : κ.K = X.K) (hr : Room 2 X.A) (hg : Gl X c) (ha : SA X κ W (e :: es) fs)
    (hdb : (c == ("__debug__" : Str)) = false := by decide) (he : starEach (e :: es) X.env = (false, eval e X.env) :: starEach es X.env := by rfl) (hpl : (backTo pos (starEach es X.env)).any (·.1) = false := by rfl) :
    S1 X κ W (.Raise (some (.Call (.Name c p) (e :: es) [] pos)) none pos') (sRaise c fns fs) := by
  obtain ⟨fI, fd, ps, i1, i2, i3, i4⟩ := F.ini
  refine ps_imp (ps_raise hc tk (pmk_oex (dvs := []) F.oex i1 i2 i4 hr i3 .nil passL hg F.gc ha hdb he hpl)) fun E σ H ⟨ι, σd, h, rs, rh, q⟩ => ?_
  refine ⟨ι, σd, h, rs, rh, (PostR.onR rs q).imp fun ds h1 ι1 H1 p1 e1 r1 q1 vs hv => ?_⟩
  by_cases hl : ds.length = fns.length ∧ ds.length ≤ 100
  · simp only [if_pos hl] at q1
    refine ⟨by rw [← hv.length]; omega, fun a hn => ⟨a, vs, by rw [List.append_nil], by rw [← hv.length]; exact hl.1, upd_same, fun dx hx ne => ⟨rfl, dx, (fns.zip vs).reverse, upd_same, by rw [upd_ne ne, upd_same], ?_, ?_⟩⟩⟩
    · rw [upd_ne ne] at hx; exact hx
    · have hx' : H1 dx = none := by rw [upd_ne ne] at hx; exact hx
      have eH : upd (del (upd (upd (upd H1 a (exo a (He.ga X.K c) none)) dx (exd dx (fns.zip vs).reverse)) a (exo a (He.ga X.K c) (some dx))) a) dx (.xd (fns.zip vs).reverse) = upd H1 dx (.xd (fns.zip vs).reverse) := by
        funext b
        unfold upd del
        by_cases hb : b = dx
        · simp [hb]
        · by_cases hba : b = a
          · subst hba; simp [hb, hn]
          · simp [hb, hba]
      rw [eH]
      have ex : Ext κ.K H1 (upd H1 dx (.xd (fns.zip vs).reverse)) := Ext.new hx'
      have := q1 ι1 _ σ dx (fns.zip vs).reverse (pre_refl _) ex ((rs.mono p1 e1).mono (pre_refl _) ex) (r1.aside hx') upd_same ((repF_reverse (repF_zip hv)).mono (pre_refl _) ex)
      rw [hK] at this
      exact this
  · simp only [if_neg hl] at q1; exact q1.elim
end
mutual
def D.noX : D → Bool
  | .exc _ _ _ => false
  | .tup xs => noXL xs
  | .fl xs => noXL xs
  | _ => true
def noXL : List D → Bool
  | [] => true
  | x :: xs => x.noX && noXL xs
end
def C.noX : C → Bool
  | .lst xs => noXL xs
  | .dict kvs => noXL (kvs.map (·.2))
  | .ins _ fs => noXL (fs.map (·.2))
mutual
theorem noX_of {K : PySem.W.Frag} {ι : List Addr} {H : Hp} : ∀ {d : D} {v : V}, Rep ⟨K, none⟩ ι H d v → d.noX = true
  | .non, _, _ => rfl
  | .bl _, _, _ => rfl
  | .int _, _, _ => rfl
  | .str _, _, _ => rfl
  | .ref _, _, _ => rfl
  | .tup xs, _, q => by
    simp only [Rep] at q
    obtain ⟨a, vs, e1, e2, e3⟩ := q
    simp only [D.noX]
    exact noXL_of e3
  | .fl xs, _, q => by
    simp only [Rep] at q
    obtain ⟨a, vs, e1, e2, e3⟩ := q
    simp only [D.noX]
    exact noXL_of e3
  | .exc _ _ _, _, q => by
    simp only [Rep] at q
    obtain ⟨a, d, vs, e1, _⟩ := q
    cases e1
theorem noXL_of {K : PySem.W.Frag} {ι : List Addr} {H : Hp} : ∀ {ds : List D} {vs : List V}, RepL ⟨K, none⟩ ι H ds vs → noXL ds = true
  | [], _, _ => rfl
  | d :: ds, _, q => by
    simp only [RepL] at q
    obtain ⟨v, vr, e1, e2, e3⟩ := q
    simp only [noXL, Bool.and_eq_true]
    exact ⟨noX_of e2, noXL_of e3⟩
end
theorem noXF_of {α : Type} {K : PySem.W.Frag} {ι : List Addr} {H : Hp} : ∀ {ds : List (α × D)} {vs : List (α × V)}, RepF ⟨K, none⟩ ι H ds vs → noXL (ds.map (·.2)) = true
  | [], _, _ => rfl
  | (k, d) :: ds, _, ⟨v, vr, e1, e2, e3⟩ => by
    simp only [List.map_cons, noXL, Bool.and_eq_true]
    exact ⟨noX_of e2, noXF_of e3⟩
theorem cnoX_of {K : PySem.W.Frag} {ι : List Addr} {H : Hp} {a : Addr} {c : C} (q : CellOk ⟨K, none⟩ ι H a c) : c.noX = true := by
  cases c with
  | lst xs => obtain ⟨vs, _, e⟩ := q; exact noXL_of e
  | dict kvs => obtain ⟨vs, _, e⟩ := q; exact noXF_of e
  | ins c fs => obtain ⟨dx, vs, _, e⟩ := q; exact noXF_of e
mutual
theorem drop_x {K : PySem.W.Frag} {xo : Option (Addr × Str × Addr)} {ι : List Addr} {H : Hp} : ∀ {d : D} {v : V}, d.noX = true → Rep ⟨K, xo⟩ ι H d v → Rep ⟨K, none⟩ ι H d v
  | .non, _, _, q => by simp only [Rep] at *; exact q
  | .bl _, _, _, q => by simp only [Rep] at *; exact q
  | .int _, _, _, q => by simp only [Rep] at *; exact q
  | .str _, _, _, q => by simp only [Rep] at *; exact q
  | .ref _, _, _, q => by simp only [Rep] at *; exact q
  | .tup xs, _, n, q => by
    simp only [Rep, D.noX] at *
    obtain ⟨a, vs, e1, e2, e3⟩ := q
    exact ⟨a, vs, e1, e2, drop_xL n e3⟩
  | .fl xs, _, n, q => by
    simp only [Rep, D.noX] at *
    obtain ⟨a, vs, e1, e2, e3⟩ := q
    exact ⟨a, vs, e1, e2, drop_xL n e3⟩
  | .exc _ _ _, _, n, q => by cases n
theorem drop_xL {K : PySem.W.Frag} {xo : Option (Addr × Str × Addr)} {ι : List Addr} {H : Hp} : ∀ {ds : List D} {vs : List V}, noXL ds = true → RepL ⟨K, xo⟩ ι H ds vs → RepL ⟨K, none⟩ ι H ds vs
  | [], _, _, q => by simp only [RepL] at *; exact q
  | d :: ds, _, n, q => by
    simp only [RepL, noXL, Bool.and_eq_true] at *
    obtain ⟨v, vr, e1, e2, e3⟩ := q
    exact ⟨v, vr, e1, drop_x n.1 e2, drop_xL n.2 e3⟩
end
theorem drop_xF {α : Type} {K : PySem.W.Frag} {xo : Option (Addr × Str × Addr)} {ι : List Addr} {H : Hp} : ∀ {ds : List (α × D)} {vs : List (α × V)}, noXL (ds.map (·.2)) = true → RepF ⟨K, xo⟩ ι H ds vs → RepF ⟨K, none⟩ ι H ds vs
  | [], _, _, q => q
  | (k, d) :: ds, _, n, ⟨v, vr, e1, e2, e3⟩ => by
    simp only [List.map_cons, noXL, Bool.and_eq_true] at n
    exact ⟨v, vr, e1, drop_x n.1 e2, drop_xF n.2 e3⟩
theorem drop_xC {K : PySem.W.Frag} {xo : Option (Addr × Str × Addr)} {ι : List Addr} {H : Hp} {a : Addr} {c : C} (n : c.noX = true) (q : CellOk ⟨K, xo⟩ ι H a c) : CellOk ⟨K, none⟩ ι H a c := by
  cases c with
  | lst xs => obtain ⟨vs, e1, e⟩ := q; exact ⟨vs, e1, drop_xL n e⟩
  | dict kvs => obtain ⟨vs, e1, e⟩ := q; exact ⟨vs, e1, drop_xF n e⟩
  | ins c fs => obtain ⟨dx, vs, e1, e⟩ := q; exact ⟨dx, vs, e1, drop_xF n e⟩
def XOk (h h' : Hs) : Prop := ∀ (n : Nat) c, h'[n]? = some c → h[n]? = some c ∨ c.noX = true
def SOk (i : Option Nat) (σ σ' : Lo) : Prop := ∀ (j : Nat) d, σ'[j]? = some (some d) → i = some j ∨ σ[j]? = some (some d) ∨ d.noX = true
def outS (i : Option Nat) (σ : Lo) : Lo := match i with
  | some i => σ.set i none
  | none => σ
open Classical in
noncomputable def leaveX (i : Option Nat) (σ : Lo) (h : Hs) : Out → Out
  | .rt d h' => if XOk h h' ∧ d.noX = true then .rt d h' else .bad
  | .nx σ' h' => if XOk h h' ∧ SOk i σ σ' then .nx (outS i σ') h' else .bad
  | .bk σ' h' => if XOk h h' ∧ SOk i σ σ' then .bk (outS i σ') h' else .bad
  | .ct σ' h' => if XOk h h' ∧ SOk i σ σ' then .ct (outS i σ') h' else .bad
  | _ => .bad
theorem xok_same {h : Hs} : XOk h h := fun n c e => .inl e
@[simp] theorem leave_rt {i : Option Nat} {σ : Lo} {h : Hs} {d : D} (n : d.noX = true) : leaveX i σ h (.rt d h) = .rt d h := by
  unfold leaveX
  simp only [if_pos (show XOk h h ∧ d.noX = true from ⟨xok_same, n⟩)]
structure ClD where
  m : Str → Option Bool
  nm : Option Nat
  body : SS
noncomputable def handle : List ClD → Str → List (Str × D) → Lo → Hs → Out
  | [], c, fs, σ, h => .exc c fs σ h
  | q :: r, c, fs, σ, h => match q.m c with
    | some true => leaveX q.nm σ h (q.body (match q.nm with
      | some i => σ.set i (some (.exc c (fs.map (·.1)) (fs.map (·.2))))
      | none => σ) h)
    | some false => handle r c fs σ h
    | none => .bad
noncomputable def sTry (body : SS) (cl : List ClD) : SS := fun σ h => match body σ h with
  | .exc c fs σ1 h1 => handle cl c fs σ1 h1
  | o => o
section
variable {X : Cx} {W : WX} {K : PySem.W.Frag}
theorem relH_drop {xo : Option (Addr × Str × Addr)} {ι ι' : List Addr} {h h' : Hs} {H H' : Hp} (r : RelH ⟨K, none⟩ ι h H) (r' : RelH ⟨K, xo⟩ ι' h' H') (ok : XOk h h') : RelH ⟨K, none⟩ ι' h' H' := by
  refine ⟨r'.len, r'.nd, fun n c hn => ?_⟩
  obtain ⟨a, ea, q⟩ := r'.cell n c hn
  refine ⟨a, ea, drop_xC ?_ q⟩
  rcases ok n c hn with z | z
  · obtain ⟨b, _, q2⟩ := r.cell n c z
    exact cnoX_of q2
  · exact z
theorem relS_drop {xo : Option (Addr × Str × Addr)} {i : Option Nat} {ι ι' : List Addr} {H H' : Hp} {σd σd' : Lo} {σ σ' : L2.St} (r : RelS ⟨K, none⟩ ι H σd σ) (r' : RelS ⟨K, xo⟩ ι' H' σd' σ') (ok : SOk i σd σd') :
    RelS ⟨K, none⟩ ι' H' (outS i σd') (match i with
      | some i => σ'.set i none
      | none => σ') := by
  have key : ∀ (j : Nat) d, i ≠ some j → σd'[j]? = some (some d) → d.noX = true := fun j d hj e => by
    rcases ok j d e with z | z | z
    · exact absurd z hj
    · obtain ⟨v, _, q⟩ := r.2 j d z
      exact noX_of q
    · exact z
  cases i with
  | none =>
    refine ⟨r'.1, fun j d e => ?_⟩
    obtain ⟨v, hv, q⟩ := r'.2 j d e
    exact ⟨v, hv, drop_x (key j d (by simp) e) q⟩
  | some i =>
    refine ⟨by simp [outS, r'.1], fun j d e => ?_⟩
    simp only [outS] at e
    by_cases hij : i = j
    · subst hij
      by_cases hl : i < σd'.length
      · rw [List.getElem?_set_self hl] at e
        cases e
      · rw [List.getElem?_eq_none (by simpa using hl)] at e
        cases e
    · rw [List.getElem?_set_ne hij] at e ⊢
      obtain ⟨v, hv, q⟩ := r'.2 j d e
      exact ⟨v, hv, drop_x (key j d (by simpa using hij) e) q⟩
def goneO (i : Option Nat) (E : Ends) : Ends := match i with
  | some i => gone i E
  | none => E
theorem leave_post {xo : Option (Addr × Str × Addr)} {i : Option Nat} {ι : List Addr} {h : Hs} {H : Hp} {σd : Lo} {σ : L2.St} {E : Ends} {o : Out} (rs : RelS ⟨K, none⟩ ι H σd σ) (rh : RelH ⟨K, none⟩ ι h H) (q : PostS ⟨K, none⟩ W ι H E (leaveX i σd h o)) :
    PostS ⟨K, xo⟩ WN ι H (goneO i E) o := by
  cases o with
  | rt d h' =>
    by_cases ok : XOk h h' ∧ d.noX = true
    · simp only [leaveX, if_pos ok] at q
      have fin : ∀ ι' H' v, ι <+: ι' → Ext K H H' → RelH ⟨K, xo⟩ ι' h' H' → Rep ⟨K, xo⟩ ι' H' d v → E.rt v H' := fun ι' H' v p e r' rv => q ι' H' v p e (relH_drop rh r' ok.1) (drop_x ok.2 rv)
      cases i <;> exact fin
    · simp only [leaveX, if_neg ok] at q; exact q.elim
  | nx σ' h' =>
    by_cases ok : XOk h h' ∧ SOk i σd σ'
    · simp only [leaveX, if_pos ok] at q
      cases i with
      | none => exact fun ι' H' σ2 p e r2 r' => q ι' H' σ2 p e (relS_drop rs r2 ok.2) (relH_drop rh r' ok.1)
      | some i => exact fun ι' H' σ2 p e r2 r' => q ι' H' (σ2.set i none) p e (relS_drop rs r2 ok.2) (relH_drop rh r' ok.1)
    · simp only [leaveX, if_neg ok] at q; exact q.elim
  | bk σ' h' =>
    by_cases ok : XOk h h' ∧ SOk i σd σ'
    · simp only [leaveX, if_pos ok] at q
      cases i with
      | none => exact fun ι' H' σ2 p e r2 r' => q ι' H' σ2 p e (relS_drop rs r2 ok.2) (relH_drop rh r' ok.1)
      | some i => exact fun ι' H' σ2 p e r2 r' => q ι' H' (σ2.set i none) p e (relS_drop rs r2 ok.2) (relH_drop rh r' ok.1)
    · simp only [leaveX, if_neg ok] at q; exact q.elim
  | ct σ' h' =>
    by_cases ok : XOk h h' ∧ SOk i σd σ'
    · simp only [leaveX, if_pos ok] at q
      cases i with
      | none => exact fun ι' H' σ2 p e r2 r' => q ι' H' σ2 p e (relS_drop rs r2 ok.2) (relH_drop rh r' ok.1)
      | some i => exact fun ι' H' σ2 p e r2 r' => q ι' H' (σ2.set i none) p e (relS_drop rs r2 ok.2) (relH_drop rh r' ok.1)
    · simp only [leaveX, if_neg ok] at q; exact q.elim
  | exc c fs σ' h' => exact q.elim
  | bad => exact q.elim
theorem repF_kmono {α : Type} {κ κ' : Kx} {ι : List Addr} {H : Hp} (le : κ.le κ') : ∀ {l : List (α × D)} {vs : List (α × V)}, RepF κ ι H l vs → RepF κ' ι H l vs
  | [], vs, a => a
  | (k, x) :: l, vs, ⟨v, vr, e, r1, r2⟩ => ⟨v, vr, e, r1.mono le (pre_refl _) (Ext.refl _ _), repF_kmono le r2⟩
theorem relH_kmono {κ κ' : Kx} {ι : List Addr} {h : Hs} {H : Hp} (le : κ.le κ') (rh : RelH κ ι h H) : RelH κ' ι h H := ⟨rh.len, rh.nd, fun n c hn => by
  obtain ⟨a, ea, q⟩ := rh.cell n c hn
  refine ⟨a, ea, ?_⟩
  cases c with
  | lst xs => obtain ⟨vs, e1, e2⟩ := q; exact ⟨vs, e1, e2.mono le (pre_refl _) (Ext.refl _ _)⟩
  | dict xs => obtain ⟨vs, e1, e2⟩ := q; exact ⟨vs, e1, repF_kmono le e2⟩
  | ins c xs => obtain ⟨dx, vs, e1, e2⟩ := q; exact ⟨dx, vs, by rw [← le.1]; exact e1, repF_kmono le e2⟩⟩
theorem relS_kmono {κ κ' : Kx} {ι : List Addr} {H : Hp} {σd : Lo} {σ : L2.St} (le : κ.le κ') (q : RelS κ ι H σd σ) : RelS κ' ι H σd σ :=
  ⟨q.1, fun i d hd => let ⟨v, hv, r⟩ := q.2 i d hd; ⟨v, hv, r.mono le (pre_refl _) (Ext.refl _ _)⟩⟩
def tsOf (K : PySem.W.Frag) (fs : SS) (m : Str → Option Bool) : Addr → Value → Option Addr → TS := fun a cls d E σ H => ∃ c dd, cls = .ref (He.ga K c) ∧ d = some dd ∧ m c = some true ∧ rdS ⟨K, some (a, c, dd)⟩ WN fs E σ H
def clOf (K : PySem.W.Frag) (cs : List Value) (q : ClD) : Clause := ⟨cs, q.nm, tsOf K q.body q.m⟩
theorem repF_split {κ : Kx} {ι : List Addr} {H : Hp} : ∀ {fs : List (Str × D)} {vs : List (Str × V)}, RepF κ ι H fs vs → vs = (fs.map (·.1)).zip (vs.map (·.2)) ∧ RepL κ ι H (fs.map (·.2)) (vs.map (·.2))
  | [], vs, r => by rw [show vs = [] from r]; exact ⟨rfl, .nil⟩
  | (k, d) :: fs, vs, ⟨v, vr, e, r1, r2⟩ => by
    subst e
    obtain ⟨e1, e2⟩ := repF_split r2
    refine ⟨?_, .cons r1 e2⟩
    show (k, v) :: vr = (k, v) :: (fs.map (·.1)).zip (vr.map (·.2))
    rw [← e1]
theorem handle_post {E : Ends} : ∀ {cl : List ClD} {css : List (List Value)} {ι : List Addr} {h : Hs} {H : Hp} {σd : Lo} {σ : L2.St} {c : Str} {fs : List (Str × D)} {d : Addr} {vs : List (Str × V)}, css.length = cl.length →
    (∀ q ∈ css.zip cl, ∀ c b, q.2.m c = some b → PySem.W.exmAny K (.ref (He.ga K c)) q.1 = some b) → RelS ⟨K, none⟩ ι H σd σ → RelH ⟨K, none⟩ ι h H → H d = some (.xd vs) → RepF ⟨K, none⟩ ι H fs vs →
    PostS ⟨K, none⟩ W ι H E (handle cl c fs σd h) → wClauses K W E ((css.zip cl).map fun q => clOf K q.1 q.2) (.ref (He.ga K c)) (some d) σ H
  | [], [], ι, h, H, σd, σ, c, fs, d, vs, _, _, rs, rh, hd, rf, q => q ι H σ d vs (pre_refl _) (Ext.refl _ _) rs rh hd rf
  | q0 :: cl, cs :: css, ι, h, H, σd, σ, c, fs, d, vs, hl, hm, rs, rh, hd, rf, q => by
    unfold handle at q
    cases hb : q0.m c with
    | none => rw [hb] at q; exact q.elim
    | some b =>
      rw [hb] at q
      refine ⟨b, hm (cs, q0) (by simp) c b hb, fun eb a ha => ?_, fun eb => ?_⟩
      · subst eb
        have L := leave_post (xo := some (a, c, d)) rs rh q
        have le : (⟨K, none⟩ : Kx).le ⟨K, some (a, c, d)⟩ := ⟨rfl, .inr rfl⟩
        have rh2 := relH_kmono le rh
        have rs2 := relS_kmono le rs
        have rx : Rep ⟨K, some (a, c, d)⟩ ι H (.exc c (fs.map (·.1)) (fs.map (·.2))) (.ref a) := by
          obtain ⟨e1, e2⟩ := repF_split (repF_kmono le rf)
          simp only [Rep]
          exact ⟨a, d, vs.map (·.2), rfl, rfl, by rw [← e1]; exact hd, e2⟩
        show match q0.nm with
          | none => _
          | some i => _
        cases hq : q0.nm with
        | none =>
          rw [hq] at L
          exact ⟨c, d, rfl, rfl, hb, ι, σd, h, rs2, rh2, L⟩
        | some i =>
          rw [hq] at L
          exact ⟨c, d, rfl, rfl, hb, ι, _, h, rs2.set rx i, rh2, L⟩
      · subst eb
        exact handle_post (by simpa using hl) (fun q hq => hm q (by rw [List.zip_cons_cons]; exact List.mem_cons_of_mem _ hq)) rs rh hd rf q
  | [], _ :: _, _, _, _, _, _, _, _, _, _, hl, _, _, _, _, _, _ => by simp at hl
  | _ :: _, [], _, _, _, _, _, _, _, _, _, hl, _, _, _, _, _, _ => by simp at hl
theorem cl_bare {ty : Expr} {cs : List Value} {b₀ : Stmt} {suite : List Stmt} {p : Pos} {hds : List ExceptHandler} {css : List (List Value)} {cl : List ClD} {m : Str → Option Bool} {u : SS} (hc : ClsE X ty cs)
    (hsu : ∀ (a : Addr) (oe : Obj) (c : Str) (dd : Addr) (pn : List (Addr × Obj)), Zc (.ref (He.ga X.K c)) (some dd) oe → (∃ vs, oe.data = .fields vs) → m c = some true → SN (X.suite a ((a, oe) :: pn)) ⟨X.K, some (a, c, dd)⟩ WN (b₀ :: suite) u)
    (r : ClausesOk X hds ((css.zip cl).map fun q => clOf X.K q.1 q.2)) : ClausesOk X (.ExceptHandler (some ty) none (b₀ :: suite) p :: hds) (((cs :: css).zip (⟨m, none, u⟩ :: cl)).map fun q => clOf X.K q.1 q.2) :=
  .bare hc (fun a oe cls d pn hz hf => ⟨fun pins s σ H E I ⟨c, dd, e1, e2, e3, q⟩ => by subst e1 e2; exact (hsu a oe c dd pn hz hf e3).run pins s σ H E I q⟩) r
theorem cl_as {ty : Expr} {cs : List Value} {n : Str} {i : Nat} {b₀ : Stmt} {suite : List Stmt} {p : Pos} {hds : List ExceptHandler} {css : List (List Value)} {cl : List ClD} {m : Str → Option Bool} {u : SS} (hc : ClsE X ty cs) (hN : X.N.Nodup) (hi : X.N[i]? = some n) (hln : X.env.kindOf n = some .local)
    (hsu : ∀ (a : Addr) (oe : Obj) (c : Str) (dd : Addr) (pn : List (Addr × Obj)), Zc (.ref (He.ga X.K c)) (some dd) oe → (∃ vs, oe.data = .fields vs) → m c = some true → SN (X.suite a ((a, oe) :: pn)) ⟨X.K, some (a, c, dd)⟩ WN (b₀ :: suite) u)
    (r : ClausesOk X hds ((css.zip cl).map fun q => clOf X.K q.1 q.2)) : ClausesOk X (.ExceptHandler (some ty) (some n) (b₀ :: suite) p :: hds) (((cs :: css).zip (⟨m, some i, u⟩ :: cl)).map fun q => clOf X.K q.1 q.2) :=
  .as_ hc hN hi hln (fun a oe cls d pn hz hf => ⟨fun pins s σ H E I ⟨c, dd, e1, e2, e3, q⟩ => by subst e1 e2; exact (hsu a oe c dd pn hz hf e3).run pins s σ H E I q⟩) r
theorem s1_try {body : List Stmt} {hd0 : ExceptHandler} {hds : List ExceptHandler} {pos : Pos} {f : SS} {cl : List ClD} {css : List (List Value)} (stk : X.stack = X.env :: X.outer) (frm : X.env.frame = some X.env.locals) (tk : Takes X W)
    (hbody : ∀ (W : WX) (pn : List (Addr × Obj)) (xe : Value → Shared → Prop), Takes (X.tr pn xe) W → PassesOwn (model X.prog X.w) X.A X.env xe → SN (X.tr pn xe) (kx X.K) W body f)
    (hcl : ClausesOk X (hd0 :: hds) ((css.zip cl).map fun q => clOf X.K q.1 q.2)) (hl : css.length = cl.length) (hm : ∀ q ∈ css.zip cl, ∀ c b, q.2.m c = some b → PySem.W.exmAny X.K (.ref (He.ga X.K c)) q.1 = some b) :
    S1 X (kx X.K) W (.Try body (hd0 :: hds) [] [] pos) (sTry f cl) := ps_imp (ps_try (tb := fun W => rdS (kx X.K) W f) stk frm tk hbody hcl) fun E σ H ⟨ι, σd, h, rs, rh, q⟩ => by
  refine ⟨ι, σd, h, rs, rh, ?_⟩
  unfold sTry at q
  revert q
  cases f σd h with
  | exc c fs σ1 h1 => exact fun q ι' H' σ' d vs p e rs' rh' hd rf => handle_post hl hm rs' rh' hd rf (PostS.mono p e q)
  | nx σ1 h1 => exact fun q => q
  | rt _ _ => exact fun q => q
  | bk _ _ => exact fun q => q
  | ct _ _ => exact fun q => q
  | bad => exact fun q => q
def oFld (f : Str) : D → Hs → Res D := fun d h => match d with
  | .exc _ ks xs => (match (ks.zip xs).lookup f with
    | some d => .ok d h
    | none => .bad)
  | _ => .bad
theorem lookup_zip {κ : Kx} {ι : List Addr} {H : Hp} {f : Str} {d : D} : ∀ {ks : List Str} {xs : List D} {vs : List V}, RepL κ ι H xs vs → (ks.zip xs).lookup f = some d → ∃ v, (ks.zip vs).lookup f = some v ∧ Rep κ ι H d v
  | [], xs, vs, _, e => by simp at e
  | k :: ks, [], vs, r, e => by simp at e
  | k :: ks, x :: xs, vs, r, e => by
    simp only [RepL] at r
    obtain ⟨v, vr, rfl, r1, r2⟩ := r
    rw [List.zip_cons_cons, List.lookup_cons] at e
    rw [List.zip_cons_cons, List.lookup_cons]
    split at e
    · rename_i hk
      cases e
      exact ⟨v, rfl, r1⟩
    · rename_i hk
      exact lookup_zip r2 e
theorem rExc {κ : Kx} {ι : List Addr} {H : Hp} {c : Str} {ks : List Str} {xs : List D} {v : V} (r : Rep κ ι H (.exc c ks xs) v) : ∃ a d vs, κ.xo = some (a, c, d) ∧ v = .ref a ∧ H d = some (.xd (ks.zip vs)) ∧ RepL κ ι H xs vs := by simp only [Rep] at r; exact r
theorem se_xf {a dd : Addr} {c n : Str} {oe : Obj} {pn : List (Addr × Obj)} {e : Expr} {f : ES} {pos : Pos} (T : XfC X.K (He.ga X.K c)) (hno : PySem.W.findIn X.K (.ref (He.ga X.K c)) n = some none)
    (hz : Zc (.ref (He.ga X.K c)) (some dd) oe) (hf : ∃ vs, oe.data = .fields vs) (he : SE (X.suite a ((a, oe) :: pn)) ⟨X.K, some (a, c, dd)⟩ W e f) (hb : attributeBase e n X.env (eval e X.env) = eval e X.env := by rfl) :
    SE (X.suite a ((a, oe) :: pn)) ⟨X.K, some (a, c, dd)⟩ W (.Attribute e n pos) (eOp1 (oFld n) f) := pe_imp (pe_xf T hno hz hf he hb) fun σ H Q ⟨ι, σd, h, rs, rh, q⟩ => by
  refine ⟨ι, σd, h, rs, rh, (PostR.bind q).imp fun d h1 ι1 H1 p1 e1 r1 q1 v hv => ?_⟩
  unfold oFld at q1
  split at q1
  · rename_i c' ks xs
    split at q1
    · rename_i d2 hd
      obtain ⟨a', d', vs, ex, rfl, hx, rl⟩ := rExc hv
      cases ex
      obtain ⟨u, hu, ru⟩ := lookup_zip rl hd
      exact ⟨rfl, rfl, dd, _, u, rfl, hx, hu, q1.now r1 _ ru⟩
    · exact q1.elim
  · exact q1.elim
def rIsX (K : PySem.W.Frag) (D a dd : Addr) : List V → Hp → VK → Prop := fun xs H Q => ∃ (c : V) (cv : Value) (b : Bool) (fs : List (Str × V)), xs = [.ref a, c] ∧ (∀ u, RelV c u → u = cv) ∧ PySem.W.kitOne K (.ref D) cv = some b ∧ H dd = some (.xd fs) ∧ Q (.bl b) H
theorem call_isX {a D dd : Addr} {oe : Obj} {pn : List (Addr × Obj)} (C : ExcC X.K D) (hz : Zc (.ref D) (some dd) oe) (hf : ∃ vs, oe.data = .fields vs) : CallR (X.suite a ((a, oe) :: pn)) (.builtin "isinstance") (rIsX X.K D a dd) := by
  intro pins s σ H xs us Q I r h
  obtain ⟨c, cv, b, fs, rfl, hcv, e, hd, q⟩ := h
  cases r with
  | cons rx rr =>
    cases rr with
    | cons rt rr =>
      cases rr
      cases rx
      have ec := hcv _ rt
      subst ec
      obtain ⟨hget, _⟩ := I.pin (a, oe) (List.mem_append.mpr (.inl List.mem_cons_self))
      obtain ⟨vs, hv⟩ := hf
      have hx : ObjOk X.prog X.w H s.heap dd (.xd fs) := I.hok dd _ hd
      obtain ⟨mA, hns, hr⟩ := hx
      obtain ⟨od, ho, hl⟩ := lookIn_ns hns
      have J : PySem.W.InstAt s.heap a oe D (some od) := ⟨hget, hz.1, by unfold PySem.W.notCls; rw [hv] <;> rfl, by rw [hz.2]; exact ho⟩
      have hcl : (PySem.W.clsIn X.K D).isSome = true := by
        obtain ⟨cd, hc, _⟩ := PySem.W.any_some C.hd
        rw [hc]; rfl
      exact PySem.W.kia_one (PySem.W.kitx_exc hcl C.hg C.hk C.hs C.ha C.hn C.ht C.hm) I.kIn J e (fun z => nomatch z) fun tk => ⟨.bl b, H, I.kept (t' := tk) fun _ _ z => z, rfl, q⟩
def oIsX (tab : Str → Option Bool) : D → Hs → Res D := fun d h => match d with
  | .exc c _ _ => (match tab c with
    | some b => .ok (.bl b) h
    | none => .bad)
  | _ => .bad
theorem se_isx {a dd : Addr} {c y : Str} {oe : Obj} {pn : List (Addr × Obj)} {e : Expr} {f : ES} {p p2 pos : Pos} {tab : Str → Option Bool} (C : ExcC X.K (He.ga X.K c)) (hz : Zc (.ref (He.ga X.K c)) (some dd) oe) (hf : ∃ vs, oe.data = .fields vs)
    (hg : Gl X "isinstance") (hm : X.mg "isinstance" = none) (hgy : Gl X y) (hmy : X.mg y = some (.ref (He.ga X.K y))) (ht : ∀ b, tab c = some b → PySem.W.kitOne X.K (.ref (He.ga X.K c)) (.ref (He.ga X.K y)) = some b)
    (he : SE (X.suite a ((a, oe) :: pn)) ⟨X.K, some (a, c, dd)⟩ W e f) (hd : (y == ("__debug__" : Str)) = false := by decide)
    (hse : starEach [e, .Name y p2] X.env = (false, eval e X.env) :: starEach [.Name y p2] X.env := by rfl) (hse2 : starEach [.Name y p2] X.env = (false, eval (.Name y p2) X.env) :: starEach [] X.env := by rfl)
    (hpl : (backTo pos (starEach [.Name y p2] X.env)).any (·.1) = false := by rfl) : SE (X.suite a ((a, oe) :: pn)) ⟨X.K, some (a, c, dd)⟩ W (.Call (.Name "isinstance" p) [e, .Name y p2] [] pos) (eOp1 (oIsX tab) f) := by
  refine pe_imp (pe_callB (X := X.suite a ((a, oe) :: pn)) (call_isX C hz hf) hg hm (by decide +kernel) (pa_cons he (pa_cons (pe_glob (X := X.suite a ((a, oe) :: pn)) (v := .ref (He.ga X.K y)) hgy hmy rfl hd) pa_nil hse2) hse) (by decide) (by decide) hse hpl) fun σ H Q ⟨ι, σd, h, rs, rh, q⟩ => ?_
  refine ⟨ι, σd, h, rs, rh, (PostR.bind q).imp fun d h1 ι1 H1 p1 e1 r1 q1 v hv => ?_⟩
  unfold oIsX at q1
  split at q1
  · rename_i c' ks xs
    split at q1
    · rename_i b hb
      obtain ⟨a', d', vs, ex, rfl, hx, rl⟩ := rExc hv
      cases ex
      exact ⟨_, _, b, _, rfl, fun u hu => hu, ht b hb, hx, q1.now r1 _ wBl⟩
    · exact q1.elim
  · exact q1.elim
end
end Sm

set_option Elab.async false
set_option linter.all false
set_option maxRecDepth 100000
set_option maxHeartbeats 4000000
set_option autoImplicit false
namespace PySem
set_option maxHeartbeats 4000000 in
theorem sm_enumNew {v : Value} {o : Obj} {H : Heap → Prop} (B : Begins v o H) :
    Meets (Builtin.«enumerate.__new__» ⟨[.type "enumerate", v], []⟩) (fun _ R s => H s.heap ∧
      R (.ok (.ret (.ref (s.heap.push o).objs.size))) { s with heap := (s.heap.push o).push { cls := .type "enumerate", data := .fields #[.none, .bool false, .ref s.heap.objs.size, rawInt 0, .none, .none] } }) :=
  .of_wp fun prog w A R s h => by
    obtain ⟨hp, g, d, tk, os⟩ := s; obtain ⟨h1, h⟩ := h
    have hsub := sub_enumerate
    have q1 : ∀ {A' : Around} {E : Value → Shared → Prop} {Q : Value → Shared → Prop}, Q (.ref hp.objs.size) ⟨hp.push o, g, d, tk, os⟩ → wpAny (model prog w) A' (pyIter v) Q E ⟨hp, g, d, tk, os⟩ :=
      fun q => B.iter prog w _ _ ⟨hp, g, d, tk, os⟩ _ h1 q
    wp_walk using q1
    refine wpAny_stack_any fun st => wpAny_pure ?_
    split
    · rename_i c _ _ _ _ _
      cases (c == Value.type "enumerate")
      · wp_walk using q1
        exact ⟨_, rfl, h⟩
      · wp_walk using q1
        exact ⟨_, rfl, h⟩
    · wp_walk using q1
      exact ⟨_, rfl, h⟩
section
variable {prog : Program} {w : World} {A : Around} {E : Value → Shared → Prop} {s : Shared}
theorem sm_enumCall {v : Value} {o : Obj} {H : Heap → Prop} {Q : Value → Shared → Prop} (B : Begins v o H) (h1 : H s.heap)
    (h : ∀ h', IsEnum h' (s.heap.objs.size + 1) s.heap.objs.size 0 .none → h'.get? s.heap.objs.size = some o → h'.objs.size = s.heap.objs.size + 2 →
      (∀ b o, s.heap.get? b = some o → h'.get? b = some o) → Q (.ref (s.heap.objs.size + 1)) { s with heap := h' }) :
    wpAny (model prog w) A (call (.type "enumerate") [v]) Q E s := by
  refine callType_new F.called_enumerate (by decide) (F.typeCall_enumerate_1 _) (F.newCall_enumerate_1 _) (fun obj => F.args_object_init_2 obj _) F.entry_enumerate_new (sm_enumNew B) ⟨h1, ?_⟩
  have hz : (s.heap.push o).objs.size = s.heap.objs.size + 1 := Heap.size_push ..
  show _ ∧ _
  rw [hz]
  have he : IsEnum ((s.heap.push o).push { cls := .type "enumerate", data := .fields #[.none, .bool false, .ref s.heap.objs.size, rawInt 0, .none, .none] }) (s.heap.objs.size + 1) s.heap.objs.size 0 .none := by
    have := Heap.get?_push_size (s.heap.push o) (o := { cls := .type "enumerate", data := .fields #[.none, .bool false, .ref s.heap.objs.size, rawInt 0, .none, .none] }) rfl
    rw [hz] at this; exact this
  exact ⟨⟨_, he, rfl⟩, h _ he (Heap.get?_push_of_some _ (Heap.get?_push_size _ B.free)) (by rw [Heap.size_push, hz]) fun b o x => Heap.get?_push_of_some _ (Heap.get?_push_of_some _ x)⟩
end
end PySem
namespace Sm
open PySem PySem.Spec PyProof.Rows L2
def IteT (K : PySem.W.Frag) (a : Addr) : It :=
  ⟨fun i H => ∃ (xs : List V) (x : V), SqT K H a xs ∧ xs[i]? = some x, fun i H v H' => ∃ T x, v = .ref T ∧ H T = none ∧ H' = upd H T (.tup [.int (i : Nat), x]) ∧ ∀ xs, SqT K H a xs → xs[i]? = some x, fun i H => ∃ xs : List V, SqT K H a xs ∧ xs.length ≤ i⟩
theorem tup_ne_iter {h : Heap} {a it : Addr} {items : Array Value} {i : Nat} (t : h.IsTuple a items) (q : h.IsTupleIter it a i) : a ≠ it := fun z => by
  obtain ⟨o, ho, hc, n, hd⟩ := t
  obtain ⟨o2, ho2, hc2, hd2⟩ := q
  rw [z, ho2] at ho
  cases ho
  rw [hd] at hd2
  cases hd2
theorem tup_ne_enum {h : Heap} {a e it : Addr} {items : Array Value} {i : Int} {old : Value} (t : h.IsTuple a items) (q : IsEnum h e it i old) : e ≠ a := fun z => by
  obtain ⟨o, ho, hc, n, hd⟩ := t
  rw [← z, q] at ho
  cases ho
  cases hd
theorem turn_enumT {P : Program} {w : World} {K : PySem.W.Frag} {elts : List Expr} {kk : Nat} {tpos : Pos} (a e it : Addr) :
    Turn P w K (.Tuple elts kk tpos) (IteT K a) [e, it] e (fun i h => (∃ old, IsEnum h e it ((i : Nat) : Int) old) ∧ h.IsTupleIter it a i ∧ e ≠ it) where
  mem := by simp
  obj := fun i h st b hb => by
    obtain ⟨⟨old, he⟩, ⟨o, ho, hc, hd⟩, _⟩ := st
    have e' : b = e ∨ b = it := by simpa using hb
    rcases e' with z | z
    · rw [z]; exact ⟨_, he, fun v q => nomatch q⟩
    · rw [z]; exact ⟨o, ho, fun v q => by rw [hd] at q; cases q⟩
  keep := fun i h h' st k => let ⟨⟨old, he⟩, hi, hne⟩ := st; ⟨⟨old, k e (by simp) _ he⟩, hi.at fun o q => k it (by simp) o q, hne⟩
  item := by
    intro X hP hw hK hc i pins s σ H E I hf st hg
    subst hP hw hK
    obtain ⟨⟨old, he⟩, hit, hne⟩ := st
    obtain ⟨xs, x, hq, hx⟩ := hg
    obtain ⟨its, rv, p, hz⟩ := I.tuple hq
    have pt : s.heap.IsTuple a its.toArray := p
    obtain ⟨u, hu, ru⟩ := rv.get hx
    have hel : e < s.heap.objs.size := Heap.lt_size he
    have hil : it < s.heap.objs.size := by obtain ⟨_, q, _⟩ := hit; exact Heap.lt_size q
    have hea := tup_ne_enum pt he
    have hln : i < its.toArray.size := by
      have := (List.getElem?_eq_some_iff.mp hu).1
      simpa using this
    have hh : (X.A.in1).handled = none := I.ok.hd hc
    refine wpAny_pyNext_enum_itemD (Draws.tuple (prog := X.prog) (w := X.w) (A := X.A.in1) hh it a (tup_ne_iter pt hit) its.toArray) he ⟨hit, pt⟩ hln hne (by simp [hne, hea]) fun y h' tk hy ho hst' hT hsz hk => ?_
    have ey : y = u := by
      have : its[i]? = some y := by simpa using hy
      rw [hu] at this
      exact (Option.some.inj this).symm
    subst ey
    refine ⟨_, rfl, wpAny_letOwnedTupleGo_enum (s := { s with heap := h', toks := tk + 1 }) ho fun h'' he' sb => ?_⟩
    have hT2 : h''.get? s.heap.objs.size = some { cls := .type "tuple", data := .seq #[.int i tk, y] } := (sb.2 _ (Nat.ne_of_gt hel)).trans hT
    have new : ObjOk X.prog X.w (upd H s.heap.objs.size (.tup [.int (i : Nat), x])) h'' s.heap.objs.size (.tup [.int (i : Nat), x]) :=
      ⟨by show 2 ≤ sizeLine; decide, [.int i tk, y], .cons ⟨_, rfl⟩ (.cons ru .nil), ⟨_, hT2, rfl, _, rfl⟩⟩
    have I1 : Inv X pins σ (upd H s.heap.objs.size (.tup [.int (i : Nat), x])) { s with heap := h'', toks := tk + 1 } :=
      I.turnedNew (ch := [e, it]) (fun b ob hb q => (sb.2 b (fun z => hb (by simp [z]))).trans (hk b ob (fun z => hb (by simp [z])) (fun z => hb (by simp [z])) q)) hf (Nat.le_refl _) new
    refine ⟨.ref s.heap.objs.size, _, I1, rfl, ⟨_, x, rfl, I.hok.fresh (Nat.le_refl _), rfl, fun ys hy => by rw [I.tuple_inj hy hq]; exact hx⟩, ⟨⟨y, ?_⟩, hst'.1.at fun o q => (sb.2 it (Ne.symm hne)).trans q, hne⟩, fun b hb => ?_⟩
    · have e1 : ((i + 1 : Nat) : Int) = (i : Int) + 1 := by omega
      rw [e1]; exact he'
    · have hb' : b < s.heap.objs.size := by
        have e' : b = e ∨ b = it := by simpa using hb
        rcases e' with z | z
        · rw [z]; exact hel
        · rw [z]; exact hil
      rw [upd_ne (Nat.ne_of_lt hb')]
      exact (hf b hb).1
  done := by
    intro X hP hw hK hc i pins s σ H E I hf st hg
    subst hP hw hK
    obtain ⟨⟨old, he⟩, hit, hne⟩ := st
    obtain ⟨xs, hq, hx⟩ := hg
    obtain ⟨its, rv, p, hz⟩ := I.tuple hq
    have pt : s.heap.IsTuple a its.toArray := p
    obtain ⟨f0, f1, f2, f3, f4, f5⟩ := hf it (by simp)
    have hl := rv.length
    have hh : (X.A.in1).handled = none := I.ok.hd hc
    have hT : s.TypeIs (.ref e) "enumerate" := ⟨_, he, rfl⟩
    unfold pyNext
    refine wpAny_bind (wpAny_attempt (wpAny_callSpecial?_slot (name := Str.ofString "__next__") hT F.slot_enumerate_next
      (wpAny_call_entry F.slot_enumerate_next hT F.entry_enumerate_next ?_ (F.args_enumerate_next_1 _))))
    show wpAny _ _ (field (.ref e) 2 >>= _) _ _ _
    refine wpAny_bind (wpAny_field he rfl (x := .ref it) rfl ?_)
    refine wpAny_bind (wpAny_nextOf_tuple_end (by exact hh) hit pt (i := i) (by simp; omega) fun h' x he' hx' => ?_)
    obtain ⟨o, ho, hc⟩ := hx'
    refine wpAny_bind (wpAny_isInstance (T := "StopIteration") (b := true) ⟨o, ho, hc⟩ isSubtype_stop ?_)
    exact wpAny_pure ⟨rfl, I.turned (t' := s.toks) (fun b o hb q => he' b o hb q) f0 f1 f3 f4 f5⟩
  self := fun A i s Q E st h => let ⟨⟨_, he⟩, _⟩ := st; wpAny_pyIter_enum he h
def iEnumT (K : PySem.W.Frag) (ta : TA) : TI := fun σ H R => ta σ H fun vs H1 => ∃ a xs, vs = [.ref a] ∧ SqT K H1 a xs ∧ R (IteT K a) H1
theorem pi_enumT {X : Cx} {e : Expr} {ta : TA} {p pos tpos : Pos} {elts : List Expr} {kk : Nat} (hg : Gl X "enumerate") (hm : X.mg "enumerate" = none) (ha : PA X [e] ta) (hs : starEach [e] X.env = [(false, eval e X.env)] := by rfl) :
    PI X (.Tuple elts kk tpos) (.Call (.Name "enumerate" p) [e] [] pos) (iEnumT X.K ta) := by
  refine ⟨fun pins s σ H R I h => ?_⟩
  refine Call_ (ld_blt I hg hm boot_enumerate (PyProof.Rows.callWith_type1 (thn (ha.run pos pins s σ H _ I h) fun us s1 ⟨vs, H1, I1, r1, q1⟩ => ?_) hs rfl))
  obtain ⟨a, xs, ex, hq, q⟩ := q1
  subst ex
  cases r1 with
  | cons r rr =>
    cases rr
    cases r
    obtain ⟨its, rv, p', hz⟩ := I1.tuple hq
    have pt : s1.heap.IsTuple a its.toArray := p'
    refine sm_enumCall (begins_tuple a its.toArray) pt fun h' he hit hsz hk => wpAny_pyIter_enum he ?_
    have I2 : Inv X pins σ H1 { s1 with heap := h' } := I1.kept (t' := s1.toks) hk
    refine ⟨s1.heap.objs.size + 1, [s1.heap.objs.size + 1, s1.heap.objs.size], _, _, H1, rfl, I2, turn_enumT a (s1.heap.objs.size + 1) s1.heap.objs.size, ⟨⟨.none, he⟩, ⟨_, hit, rfl, rfl⟩, Nat.succ_ne_self _⟩, fun b hb => ?_, q⟩
    have e' : b = s1.heap.objs.size + 1 ∨ b = s1.heap.objs.size := by simpa using hb
    have hle : s1.heap.objs.size ≤ b := by
      rcases e' with z | z
      · rw [z]; exact Nat.le_add_right _ _
      · rw [z]; exact Nat.le_refl _
    exact I1.fpOk hle (I1.hok.fresh hle)
def pairsFrom : Nat → List D → List D
  | _, [] => []
  | n, d :: ds => .tup [.int (n : Int), d] :: pairsFrom (n + 1) ds
theorem pairsFrom_len : ∀ (n : Nat) (xs : List D), (pairsFrom n xs).length = xs.length
  | _, [] => rfl
  | n, d :: ds => by rw [pairsFrom, List.length_cons, List.length_cons, pairsFrom_len]
theorem pairsFrom_get : ∀ {n i : Nat} {xs : List D} {d : D}, (pairsFrom n xs)[i]? = some d → ∃ x, xs[i]? = some x ∧ d = .tup [.int ((n + i : Nat) : Int), x]
  | n, i, [], d, e => by simp [pairsFrom] at e
  | n, 0, x :: xs, d, e => by
    simp [pairsFrom] at e
    exact ⟨x, rfl, e.symm⟩
  | n, i + 1, x :: xs, d, e => by
    simp [pairsFrom] at e
    obtain ⟨y, h1, h2⟩ := pairsFrom_get e
    refine ⟨y, by simpa using h1, ?_⟩
    rw [h2]
    have : n + 1 + i = n + (i + 1) := by omega
    rw [this]
def iEnumD (e : ES) : IS := fun σ h => (e σ h).bind fun d h1 => match d with
  | .tup xs => .ok (pairsFrom 0 xs, fun _ => True) h1
  | _ => .bad
section
variable {X : Cx} {κ : Kx} {W : WX} {e : Expr} {f : ES}
theorem si_enumT {p pos tpos : Pos} {elts : List Expr} {kk : Nat} (hK : κ.K = X.K) (hg : Gl X "enumerate") (hm : X.mg "enumerate" = none) (h : SE X κ W e f) (hs : starEach [e] X.env = [(false, eval e X.env)] := by rfl) :
    SI X κ W (.Tuple elts kk tpos) (.Call (.Name "enumerate" p) [e] [] pos) (iEnumD f) := pi_imp (pi_enumT hg hm (pa_cons h pa_nil hs) hs) fun σ H R ⟨ι, σd, h, rs, rh, q⟩ => by
  refine ⟨ι, σd, h, rs, rh, (PostR.bind q).imp fun d h1 ι1 H1 p1 e1 r1 q1 v hv => ?_⟩
  cases d with
  | tup xs =>
    obtain ⟨a, vs, rfl, s, rl⟩ := rTup hv
    refine ⟨a, vs, rfl, by rw [← hK]; exact s, q1.now r1 _ fun ι2 h2 H2 p2 ex2 r2 _ => ⟨fun i d hd => ?_, ?_⟩⟩
    · obtain ⟨y, hy, ed⟩ := pairsFrom_get hd
      rw [Nat.zero_add] at ed
      obtain ⟨x, hx, rx⟩ := RepL.get (rl.mono κ.le_refl p2 ex2) hy
      have st : SqT X.K H2 a vs := by rw [← hK]; exact ex2.tup _ _ s
      refine ⟨⟨vs, x, st, hx⟩, fun z H' hz => ?_⟩
      obtain ⟨T, x', ez, hT, eH, hx'⟩ := hz
      have exx : x = x' := Option.some.inj (hx.symm.trans (hx' vs st))
      subst exx eH ez ed
      have e2 : Ext κ.K H2 (upd H2 T (.tup [.int (i : Nat), x])) := Ext.new hT
      exact ⟨e2, r2.aside hT, wTup (SqT.of upd_same) (.cons wInt (.cons (rx.mono κ.le_refl (pre_refl _) e2) .nil))⟩
    · exact ⟨vs, by rw [← hK]; exact ex2.tup _ _ s, by rw [pairsFrom_len, rl.length]; exact Nat.le_refl _⟩
  | _ => exact q1.elim
end
end Sm

set_option Elab.async false
set_option linter.all false
set_option maxRecDepth 100000
set_option maxHeartbeats 8000000
set_option autoImplicit false
namespace Sm
open PySem PySem.Spec PyProof.Rows
def dcnt : List Str → List Str → Nat → Nat
  | _, [], n => n
  | seen, x :: xs, n => dcnt (seen ++ [x]) xs (if (seen.any (· == x)) = true then n else n + 1)
section
variable {prog : Program} {w : World} {A : Around} {R : Result → Shared → Prop} {I : Addr} {fp wr : List Addr} {G : Array GenState → Array GenState → Prop} {n : Nat} {P : Nat → Value → Prop} {St : Nat → Shared → Prop}
theorem sloop (WW : WalksS prog w A.in1 I fp wr G n P St) (SS : Addr) (nf : SS ∉ fp) (xs : List Str) (lx : xs.length = n) (bd : n ≤ 4000)
    (vl : ∀ i v, P i v → ∃ t, v = .str (xs.getD i Str.empty) t) :
    ∀ (k i c : Nat) (s : Shared), n - i = k → i ≤ n → c ≤ i → St i s →
      s.heap.SetOf (PySem.strKind prog w) SS (fun y => (xs.take i).any (· == y)) c →
      (∀ s', Moved (SS :: wr) G s s' → s'.heap.SetOf (PySem.strKind prog w) SS (fun y => xs.any (· == y)) (dcnt (xs.take i) (xs.drop i) c) → R (.ok (.ret .none)) s') →
      codeAny (model prog w) A (.builtin "set.update.loop" ⟨[.ref SS, .ref I], []⟩) R s := by
  have nw : SS ∉ wr := fun z => nf (WW.sub _ z)
  have sb : ∀ b ∈ wr, b ∈ SS :: wr := fun b z => List.mem_cons_of_mem _ z
  intro k
  induction k with
  | zero =>
    intro i c s ek li lc st so fin
    obtain rfl : i = n := by omega
    refine codeAny_builtin (PyProof.Rows.F.entry_set_update_loop) ?_
    rw [Around.under_plainId (PyProof.Rows.F.plain_set_update_loop) _]
    show wpAny _ A.in1 (pyNext (.ref I) >>= _) _ _ s
    refine wpAny_bind (WW.done s _ _ st fun s2 mv => ?_)
    show wpAny _ A.in1 (ret Value.none) _ _ s2
    refine wpAny_pure (fin s2 (mv.mono sb) ?_)
    obtain ⟨o, es, ep, t, ho, rest⟩ := so
    have e0 : xs.take xs.length = xs := List.take_length
    rw [← lx, e0] at rest
    rw [← lx, List.drop_length]
    exact ⟨o, es, ep, t, mv.heap SS _ nw ho, rest⟩
  | succ k ih =>
    intro i c s ek li lc st so fin
    have lt : i < n := by omega
    have ltx : i < xs.length := by omega
    refine codeAny_builtin (PyProof.Rows.F.entry_set_update_loop) ?_
    rw [Around.under_plainId (PyProof.Rows.F.plain_set_update_loop) _]
    show wpAny _ A.in1 (pyNext (.ref I) >>= _) _ _ s
    refine wpAny_bind (WW.item i s _ _ lt st fun v s2 pv st2 mv => ?_)
    obtain ⟨t, rfl⟩ := vl i v pv
    have gx : xs.getD i Str.empty = xs[i] := by rw [List.getD_eq_getElem?_getD, List.getElem?_eq_getElem ltx] <;> rfl
    rw [gx]
    have so2 : s2.heap.SetOf (PySem.strKind prog w) SS (fun y => (xs.take i).any (· == y)) c := by
      obtain ⟨o, es, ep, tb, ho, rest⟩ := so
      exact ⟨o, es, ep, tb, mv.heap SS _ nw ho, rest⟩
    show wpAny _ A.in1 (holding [Value.str xs[i] t] (setAdd SS (.str xs[i] t)) >>= _) _ _ s2
    refine wpAny_bind (wpAny_holding ?_)
    unfold setAdd
    refine wpAny_holding (wpAny_bind ((PySem.strKind prog w).pyHash (k := xs[i]) (strKind_is _ _ _ _) ?_))
    refine wpAny_setAddHashed_of (knd := PySem.strKind prog w) (s := { s2 with toks := s2.toks + 1 }) (strKind_is _ _ _ _) rfl so2 (by unfold scanBound; omega) fun h3 same so3 => ?_
    have tk : xs.take (i + 1) = xs.take i ++ [xs[i]] := by rw [List.take_add_one, List.getElem?_eq_getElem ltx] <;> rfl
    have so4 : h3.SetOf (PySem.strKind prog w) SS (fun y => (xs.take (i + 1)).any (· == y)) (if ((xs.take i).any (· == xs[i])) = true then c else c + 1) := by
      refine SetOf_congr so3 (fun y => ?_) rfl
      rw [tk, List.any_append]
      show _ = (_ || ([xs[i]].any fun z => z == y))
      by_cases e : y = xs[i]
      · subst e; simp
      · have hb : (xs[i] == y) = false := by simpa [beq_iff_eq] using (fun q : xs[i] = y => e q.symm)
        simp [hb, e]
    refine wpAny_pure ⟨plainId_quiet (PyProof.Rows.F.plain_set_update_loop) _, ih (i + 1) _ _ (by omega) lt (by split <;> omega) (WW.frame _ s2 _ _ st2 (Nat.le_succ _) fun b hb o e => ?_) so4 fun s5 mv5 so5 => ?_⟩
    · rw [same.2 b (fun z : b = SS => nf (by rw [← z]; exact hb))]; exact e
    · refine fin s5 (Moved.trans WW.gtrans ((mv.mono sb).then_heap (Nat.le_succ _) fun b o hb e => ?_) mv5) ?_
      · rw [same.2 b (fun z : b = SS => hb (by rw [z]; exact List.mem_cons_self))]; exact e
      · rw [List.drop_eq_getElem_cons ltx]
        show s5.heap.SetOf _ SS _ (dcnt (xs.take i ++ [xs[i]]) (xs.drop (i + 1)) _)
        rw [← tk]
        exact so5
end
section
variable {prog : Program} {w : World} {A : Around} {E : Value → Shared → Prop} {s : Shared}
theorem set_tup_txt {l : Addr} {its : Array Value} {ys : List Str} {Q : Value → Shared → Prop}
    (v3 : A.handled = none) (v1 : s.heap.IsTuple l its) (v2 : PyProof.Rows.StrsAre its.toList ys) (bd : ys.length ≤ 4000)
    (h : ∀ (h' : Heap) (tk : Nat), h'.SetOf (PySem.strKind prog w) s.heap.objs.size (fun y => ys.any (· == y)) (dcnt [] ys 0) →
      (∀ b o, b < s.heap.objs.size → s.heap.get? b = some o → h'.get? b = some o) → Q (.ref s.heap.objs.size) { s with heap := h', toks := tk }) :
    wpAny (model prog w) A (call (.type "set") [.ref l]) Q E s := by
  obtain ⟨c, tl, qm⟩ := PySem.F.called_set.mro
  have qd := PySem.F.called_set.made
  have qs := PySem.F.called_set.sub
  refine wpAny_call (codeAny_of_tree ?_)
  show wpAny _ _ (callAny (.type "set") _) _ _ _
  refine wpAny_pure ⟨Code.quiet_builtin _ (by decide +kernel), codeAny_builtin PySem.F.entry_type_call ?_⟩
  rw [Around.under_plain (weight_type_call_type "set" [.ref l] []) rfl]
  have v4 := PySem.F.called_set.notType
  have v5 := PySem.F.called_set.canCreate
  have qc := PySem.F.typeCall_set_1 (.ref l)
  repeat (any_goals (first | assumption | wp_step))

  refine codeAny_mono (code_set_new_1 (.ref l) (E := E) (Q₁ := fun obj s₁ => ∃ lz : Bool, obj = .ref s.heap.objs.size ∧ s₁ = { s with heap := s.heap.push { cls := .type "set", dict := none, data := .set #[] 0 (.fresh 0 0 lz) } }) fun lz => ⟨lz, rfl, rfl⟩) fun r s₁ w1 => ?_
  cases r with
  | error e => exact w1
  | ok fl =>
    cases fl with
    | ret obj =>
      obtain ⟨lz, rfl, rfl⟩ := w1
      have zS : (s.heap.push { cls := .type "set", dict := none, data := .set #[] 0 (.fresh 0 0 lz) }).get? s.heap.objs.size = some { cls := .type "set", dict := none, data := .set #[] 0 (.fresh 0 0 lz) } := Heap.get?_push_size _ rfl
      have zT : Shared.TypeIs { s with heap := s.heap.push { cls := .type "set", dict := none, data := .set #[] 0 (.fresh 0 0 lz) } } (.ref s.heap.objs.size) "set" := ⟨_, zS, rfl⟩
      have zl := PySem.F.called_set.init.lookup
      have zb := PySem.F.called_set.init.bind (.ref s.heap.objs.size)
      repeat (any_goals (first | assumption | wp_step))

      refine codeAny_mono (codeAny_call_builtin (R := wants (fun r u3 => r = .none ∧ ∃ h' tk, u3 = { s with heap := h', toks := tk } ∧
          h'.SetOf (PySem.strKind prog w) s.heap.objs.size (fun y => ys.any (· == y)) (dcnt [] ys 0) ∧
          (∀ b o, b < s.heap.objs.size → s.heap.get? b = some o → h'.get? b = some o)) E) PySem.F.called_set.init.plain PySem.F.entry_set_init (check_set_init_1 zT ?_)) fun u2 u3 w2 => ?_
      · obtain ⟨ol, zo, zc, nz, zd⟩ := v1
        obtain ⟨o1, o2, o3, o4⟩ := ol
        simp only at zc zd
        subst zc; subst zd
        have zo2 : (s.heap.push { cls := .type "set", dict := none, data := .set #[] 0 (.fresh 0 0 lz) }).get? l = some { cls := .type "tuple", dict := o2, data := .seq its nz, slots := o4 } := Heap.get?_push_of_some _ zo
        have z1 := PySem.F.sub_tuple_set
        have z2 := PySem.F.sub_tuple_frozenset
        have z3 : (Value.type "tuple" == Value.type "dict") = false := by decide
        have z4 : (s.heap.push { cls := .type "set", dict := none, data := .set #[] 0 (.fresh 0 0 lz) }).IsTuple l its := ⟨_, zo2, rfl, nz, rfl⟩
        unfold Builtin.«set.__init__» noKeywords Builtin.Frozenset.updateFrom
        generalize zP : pyIter = PI
        wp_walk
        subst zP

        refine wpAny_pyIter_tuple z4 ?_
        refine wpAny_bind (wpAny_runValue ?_)
        have z5 : l < s.heap.objs.size := Heap.lt_size zo
        have z6 : A.in1.in1.in1.handled = none := by simp [v3]
        have z7 : l ≠ (s.heap.push { cls := .type "set", dict := none, data := .set #[] 0 (.fresh 0 0 lz) }).objs.size := by
          rw [Heap.size_push]; exact Nat.ne_of_lt (Nat.lt_succ_of_lt z5)
        have z8 : s.heap.objs.size ∉ [(s.heap.push { cls := .type "set", dict := none, data := .set #[] 0 (.fresh 0 0 lz) }).objs.size, l] := by
          rw [Heap.size_push]; simp only [List.mem_cons, List.mem_singleton, List.not_mem_nil, or_false, not_or]
          exact ⟨Nat.ne_of_lt (Nat.lt_succ_self _), Nat.ne_of_gt z5⟩
        have z9 : ys.length = its.size := by rw [← StrsAre.len_eq v2, Array.length_toList]
        have y1 : ∀ (i : Nat) (v : Value), its[i]? = some v → ∃ t, v = .str (ys.getD i Str.empty) t := fun i v hv => SS.strs_at v2 i v (by rw [Array.getElem?_toList]; exact hv)
        refine sloop ((Walks.tuple z6 _ l z7 its).toS) s.heap.objs.size
          z8 ys z9 (by rw [← z9]; exact bd) y1 (its.size - 0) 0 0 _ (by omega) (Nat.zero_le _) (Nat.le_refl _)
          ⟨⟨_, Heap.get?_push_size _ rfl, rfl, rfl⟩, (z4.push _)⟩ ?y2 ?y3
        case y2 =>
          have y4 : ((s.heap.push { cls := .type "set", dict := none, data := .set #[] 0 (.fresh 0 0 lz) }).push { cls := .type "tuple_iterator", data := .fields #[.ref l, .int 0 0] }).get? s.heap.objs.size
              = some { cls := .type "set", dict := none, data := .set #[] 0 (.fresh 0 0 lz) } := Heap.get?_push_of_some _ zS
          exact PyProof.Rows.SetOf_congr ((PyProof.Rows.setObjOf_fresh (knd := PySem.strKind prog w) lz).setOf y4 (by unfold scanBound; omega)) (fun _ => rfl) rfl
        case y3 =>
          intro s' hm y10
          obtain ⟨h', g', d', tk', os'⟩ := s'
          have y5 : g' = s.gens := hm.gens
          have y6 : d' = s.drawn := hm.drawn
          have y7 : os' = s.os := hm.os
          subst y5; subst y6; subst y7
          show wpAny _ _ _ _ _ _
          refine wpAny_pure ?_
          show wpAny _ _ (ret Value.none) _ _ _
          refine wpAny_pure ⟨rfl, h', tk', rfl, y10, fun b o hb e => ?_⟩
          have y8 : b ≠ s.heap.objs.size := Nat.ne_of_lt hb
          have y9 : b ≠ (s.heap.push { cls := .type "set", dict := none, data := .set #[] 0 (.fresh 0 0 lz) }).objs.size := by
            rw [Heap.size_push]; exact Nat.ne_of_lt (Nat.lt_succ_of_lt hb)
          exact hm.heap b o (by simp only [List.mem_cons, List.mem_singleton, List.not_mem_nil, or_false, not_or]; exact ⟨y8, y9⟩) (Heap.get?_push_of_some _ (Heap.get?_push_of_some _ e))

      · cases u2 with
        | error e => exact w2
        | ok fl₂ =>
          cases fl₂ with
          | ret r =>
            obtain ⟨rfl, h', tk, rfl, y10, y11⟩ := w2
            repeat (any_goals (first | assumption | wp_step))
            exact h _ _ y10 y11
          | _ => exact w2.elim
    | _ => exact w1.elim
end
end Sm
namespace Sm
open PySem PySem.Spec PyProof.Rows L2
section
variable {X : Cx} {κ : Kx} {W : WX}
def tLenTxt (K : PySem.W.Frag) (ta : TE) : TE := fun σ H Q => ta σ H fun x H1 => ∃ l, ∃ xs : List Str, x = .ref l ∧ SqT K H1 l (xs.map V.str) ∧ xs.length ≤ 4000 ∧ Q (.int (dcnt [] xs 0 : Nat)) H1
theorem dcnt_le : ∀ (xs seen : List Str) (n : Nat), dcnt seen xs n ≤ n + xs.length
  | [], seen, n => Nat.le_refl _
  | x :: xs, seen, n => by
    unfold dcnt
    have := dcnt_le xs (seen ++ [x]) (if (seen.any (· == x)) = true then n else n + 1)
    rw [List.length_cons]
    split at this <;> (rename_i hq; simp only [hq] at this ⊢) <;> simp at * <;> omega
theorem pe_lenTxt {a : Expr} {ta : TE} {p p2 q pos : Pos} (hc : X.calm = true) (hg : Gl X "len") (hm : X.mg "len" = none) (hg2 : Gl X "set") (hm2 : X.mg "set" = none) (ha : PE X a ta)
    (na : starEach [a] X.env = (false, eval a X.env) :: starEach [] X.env := by rfl) : PE X (.Call (.Name "len" p) [.Call (.Name "set" p2) [a] [] q] [] pos) (tLenTxt X.K ta) := by
  constructor
  intro pins s σ H Q I h
  refine Call_ (ld_blt I hg hm boot_len (PyProof.Rows.callWith_builtin1 (PyProof.Rows.args_cons ?_ rfl) rfl rfl))
  refine Call_ (ld_blt I hg2 hm2 boot_set (PyProof.Rows.callWith_type1 (PyProof.Rows.args_cons (thn (ha.run pins s σ H _ I h) fun v s1 ⟨x, H1, I1, r1, q1⟩ => PyProof.Rows.args_nil ?_) na) na rfl))
  obtain ⟨l, xs, rfl, hq, h1, q1⟩ := q1
  cases r1
  obtain ⟨its, r, pl, hz⟩ := I1.tuple hq
  refine set_tup_txt (I1.ok.hd hc) pl (by simpa using strsAre_of r) h1 fun h' tk so hk => PyProof.Rows.args_nil ?_
  obtain ⟨o, es, ep, t, ho, hex, hd, _, _, _, hf, hn⟩ := so
  have I2 : Inv X pins σ H1 { s1 with heap := h', toks := tk } := I1.kept fun b o e => hk b o (Heap.lt_size e) e
  have hle := dcnt_le xs [] 0
  exact call_len_set ho hex hd hf (by rw [hn] <;> omega) ⟨.int (dcnt [] xs 0 : Nat), H1, I2.tok _, ⟨_, by rw [hn]⟩, q1⟩
def strsD : List D → Option (List Str)
  | [] => some []
  | .str s :: r => (strsD r).map (s :: ·)
  | _ => none
theorem strs_of {ι : List Addr} {H : Hp} : ∀ {ds : List D} {vs : List V} {ss : List Str}, RepL κ ι H ds vs → strsD ds = some ss → vs = ss.map V.str
  | [], _, _, r, e => by simp only [RepL] at r; simp only [strsD, Option.some.injEq] at e; subst r e; rfl
  | d :: ds, _, _, r, e => by
    simp only [RepL] at r
    obtain ⟨v, vr, rfl, r1, r2⟩ := r
    cases d with
    | str b =>
      simp only [strsD, Option.map_eq_some_iff] at e
      obtain ⟨bs, e1, rfl⟩ := e
      rw [rStr r1, strs_of r2 e1]
      rfl
    | _ => simp [strsD] at e
def oLenSet : D → Hs → Res D := fun d h => match d with
  | .tup xs => (match strsD xs with
    | some ss => if ss.length ≤ 4000 then .ok (.int (dcnt [] ss 0 : Nat)) h else .bad
    | none => .bad)
  | _ => .bad
theorem se_lenSet {a : Expr} {f : ES} {p p2 q pos : Pos} (hK : κ.K = X.K) (hc : X.calm = true) (hg : Gl X "len") (hm : X.mg "len" = none) (hg2 : Gl X "set") (hm2 : X.mg "set" = none) (ha : SE X κ W a f)
    (na : starEach [a] X.env = (false, eval a X.env) :: starEach [] X.env := by rfl) : SE X κ W (.Call (.Name "len" p) [.Call (.Name "set" p2) [a] [] q] [] pos) (eOp1 oLenSet f) := pe_imp (pe_lenTxt hc hg hm hg2 hm2 ha na) fun σ H Q ⟨ι, σd, h, rs, rh, q⟩ => by
  refine ⟨ι, σd, h, rs, rh, (PostR.bind q).imp fun d h1 ι1 H1 p1 e1 r1 q1 v hv => ?_⟩
  unfold oLenSet at q1
  split at q1
  · split at q1
    · split at q1
      · rename_i ss hs hl
        obtain ⟨a, vs, rfl, s, rl⟩ := rTup hv
        have := strs_of rl hs
        subst this
        exact ⟨a, ss, rfl, by rw [← hK]; exact s, hl, q1.now r1 _ wInt⟩
      · exact q1.elim
    · exact q1.elim
  · exact q1.elim
end
end Sm

set_option Elab.async false
set_option linter.all false
set_option maxRecDepth 100000
set_option maxHeartbeats 4000000
set_option autoImplicit false
namespace Sm
open PySem PySem.Spec PyProof.Rows L2
theorem mul_same (l : Addr) (items : Array Value) (n : Nat) (dd : Option Addr) (sl : Array (Option Value)) (x : Int) (u : Tok) (c0 : (decide (x < -(2 ^ 63)) || decide (x ≥ 2 ^ 63)) = false) (c1 : (items.isEmpty || x == 1) = true) :
    Meets (Builtin.«tuple.__mul__» ⟨[.ref l, .int x u], []⟩) (fun _ R s => s.heap.get? l = some { cls := .type "tuple", dict := dd, data := .seq items n, slots := sl } ∧ R (.ok (.ret (Value.ref l))) s) :=
  .of_wp fun prog w A R s h => by
    obtain ⟨hp, g, d, tk, os⟩ := s
    obtain ⟨hl, h⟩ := h
    have f1 := AutoSeq1.idx_int
    wp_walk using AutoSeq1.wpAny_loadPart' hl
    repeat (first
      | (refine wpAny_ite_false (decide_eq_false (by rw [c0]; exact Bool.false_ne_true)) ?_; wp_walk using AutoSeq1.wpAny_loadPart' hl)
      | (refine wpAny_ite_true (decide_eq_true c1) ?_; wp_walk using AutoSeq1.wpAny_loadPart' hl))
    exact ⟨_, rfl, h⟩
theorem mul_none (l : Addr) (items : Array Value) (n : Nat) (dd : Option Addr) (sl : Array (Option Value)) (x : Int) (u : Tok) (c0 : (decide (x < -(2 ^ 63)) || decide (x ≥ 2 ^ 63)) = false) (c1 : (items.isEmpty || x == 1) = false) (c2 : (decide (x ≤ 0) || items.isEmpty) = true) :
    Meets (Builtin.«tuple.__mul__» ⟨[.ref l, .int x u], []⟩) (fun _ R s => s.heap.get? l = some { cls := .type "tuple", dict := dd, data := .seq items n, slots := sl } ∧
      R (.ok (.ret (Value.ref s.heap.objs.size))) { s with heap := s.heap.push { cls := Value.type "tuple", data := Data.seq #[] }, toks := s.toks }) :=
  .of_wp fun prog w A R s h => by
    obtain ⟨hp, g, d, tk, os⟩ := s
    obtain ⟨hl, h⟩ := h
    have f1 := AutoSeq1.idx_int
    wp_walk using AutoSeq1.wpAny_loadPart' hl
    repeat (first
      | (refine wpAny_ite_false (decide_eq_false (by rw [c0]; exact Bool.false_ne_true)) ?_; wp_walk using AutoSeq1.wpAny_loadPart' hl)
      | (refine wpAny_ite_false (decide_eq_false (by rw [c1]; exact Bool.false_ne_true)) ?_; wp_walk using AutoSeq1.wpAny_loadPart' hl)
      | (refine wpAny_ite_true (decide_eq_true c2) ?_; wp_walk using AutoSeq1.wpAny_loadPart' hl))
    exact ⟨_, rfl, h⟩
def rRepA (K : PySem.W.Frag) : R2 := fun x y H Q => ∃ l k xs, x = .ref l ∧ y = .int k ∧ SqT K H l xs ∧ -1000000 ≤ k ∧ k ≤ 1000 ∧ xs.length ≤ 1000 ∧ (xs = [] ∨ k = 1 → Q (.ref l) H) ∧ (k ≤ 0 → ∀ p, H p = none → Q (.ref p) (upd H p (.tup []))) ∧
  (xs ≠ [] → 2 ≤ k → ∀ p, H p = none → Q (.ref p) (upd H p (.tup (List.replicate k.toNat xs).flatten)))
section
variable {X : Cx} {κ : Kx} {W : WX}
theorem op_repA : OpR X (binaryOp .Mult) (rRepA X.K) := by
  intro pins s σ H x y v u Q I rx ry h
  obtain ⟨l, k, xs, rfl, rfl, hT, h0, h1, hz, qs, qn, qm⟩ := h
  by_cases hm : xs ≠ [] ∧ 2 ≤ k
  · exact op_repT pins s σ H _ _ v u Q I rx ry ⟨l, k, xs, rfl, rfl, hT, hm.1, hm.2, h1, hz, qm hm.1 hm.2⟩
  cases rx
  obtain ⟨t, rfl⟩ := ry
  obtain ⟨its, r, ⟨⟨cls, dd, data, sl⟩, ho, hc, n, hd⟩, hs⟩ := I.tuple hT
  simp only at hc hd
  subst hc hd
  have hle : its.length = xs.length := r.length.symm
  have c0 : (decide (k < -(2 ^ 63)) || decide (k ≥ 2 ^ 63)) = false := by
    rw [decide_eq_false (by omega), decide_eq_false (by omega)] <;> rfl
  by_cases hb : xs = [] ∨ k = 1
  · have c1 : (its.toArray.isEmpty || k == 1) = true := by
      rcases hb with e | e
      · subst e
        have : its = [] := List.eq_nil_of_length_eq_zero hle
        subst this
        rfl
      · subst e
        simp
    exact wpAny_binaryOp_repeat_ref (T := "tuple") (U := "int") (by decide) ⟨_, ho, rfl⟩ (fun s' => typeIs_int s' k t) noFill_tuple_mul F.fills_int_mul F.slot_int_rmul repeat_tuple F.slot_int_index.lookup
      (call_meets F.slot_int_rmul (typeIs_int s k t) F.entry_int_rmul (F.args_int_rmul_2 _ _) (int_rmul_tuple k t l its.toArray n dd sl)
        ⟨ho, rfl, ⟨_, ho, rfl⟩, call_meets F.slot_tuple_mul ⟨_, ho, rfl⟩ F.entry_tuple_mul (F.args_tuple_mul_2 _ _) (mul_same l its.toArray n dd sl k t c0 c1) ⟨ho, ⟨.ref l, H, I, rfl, qs hb⟩⟩⟩)
  · have hx : xs ≠ [] := fun e => hb (.inl e)
    have hk1 : k ≠ 1 := fun e => hb (.inr e)
    have hk : k ≤ 0 := by
      by_cases z : 2 ≤ k
      · exact absurd ⟨hx, z⟩ hm
      · omega
    have hn : its ≠ [] := fun e => hx (by
      rw [e] at hle
      exact List.eq_nil_of_length_eq_zero hle.symm)
    have hi : its.toArray.isEmpty = false := by
      cases its with
      | nil => exact absurd rfl hn
      | cons a b => rfl
    have c1 : (its.toArray.isEmpty || k == 1) = false := by
      rw [hi, Bool.false_or]
      exact beq_eq_false_iff_ne.mpr hk1
    have c2 : (decide (k ≤ 0) || its.toArray.isEmpty) = true := by
      rw [decide_eq_true hk] <;> rfl
    refine wpAny_binaryOp_repeat_ref (T := "tuple") (U := "int") (by decide) ⟨_, ho, rfl⟩ (fun s' => typeIs_int s' k t) noFill_tuple_mul F.fills_int_mul F.slot_int_rmul repeat_tuple F.slot_int_index.lookup
      (call_meets F.slot_int_rmul (typeIs_int s k t) F.entry_int_rmul (F.args_int_rmul_2 _ _) (int_rmul_tuple k t l its.toArray n dd sl)
        ⟨ho, rfl, ⟨_, ho, rfl⟩, call_meets F.slot_tuple_mul ⟨_, ho, rfl⟩ F.entry_tuple_mul (F.args_tuple_mul_2 _ _) (mul_none l its.toArray n dd sl k t c0 c1 c2) ⟨ho, ?_⟩⟩)
    refine ⟨.ref s.heap.objs.size, _, I.laid (t' := s.toks) (o := .tup []) (fun b ob q => Heap.get?_push_of_some _ q) (Nat.le_refl _) ?_, rfl, qn hk _ (I.hok.fresh (Nat.le_refl _))⟩
    exact ⟨Nat.zero_le _, [], .nil, IsTup.new _ _⟩
def oMulA : D → D → Hs → Res D := fun x y h => match x, y with
  | .tup xs, .int k => if -1000000 ≤ k ∧ k ≤ 1000 ∧ xs.length ≤ 1000 then .ok (.tup (List.replicate k.toNat xs).flatten) h else .bad
  | .int i, .int j => if CMulW i j then .ok (.int (i * j)) h else .bad
  | _, _ => .bad
abbrev rMulAll (K : PySem.W.Frag) : R2 := fun x y H Q => rRepA K x y H Q ∨ rI CMulW (fun i j => .int (i * j)) x y H Q
theorem op_mulAll : OpR X (binaryOp .Mult) (rMulAll X.K) := op_repA.or op_mulW
theorem sim_mulA : Sim2 κ W (rMulAll κ.K) oMulA := fun ι h H σ x y v w Q rh hv hw q => by
  unfold oMulA at q
  split at q
  · rename_i xs k
    split at q
    · rename_i hc
      obtain ⟨a, vs, rfl, s, rl⟩ := rTup hv
      refine .inl ⟨a, k, vs, rfl, rInt hw, s, hc.1, hc.2.1, by rw [← rl.length]; exact hc.2.2, fun e => ?_, fun hk p hp => ?_, fun hx hk p hp => ?_⟩
      · have ex : (List.replicate k.toNat xs).flatten = xs := by
          rcases e with e | e
          · have := (repL_nil_iff rl).mpr e
            subst this
            simp
          · subst e
            simp
        rw [ex] at q
        exact q.now rh _ (wTup s rl)
      · have ek : k.toNat = 0 := by omega
        rw [ek] at q
        exact new_tup rh .nil hp q
      · have rr : ∀ n : Nat, RepL κ ι H (List.replicate n xs).flatten (List.replicate n vs).flatten := by
          intro n
          induction n with
          | zero => exact .nil
          | succ n ih => rw [List.replicate_succ, List.replicate_succ, List.flatten_cons, List.flatten_cons]; exact rl.append ih
        exact new_tup rh (rr _) hp q
    · exact q.elim
  · split at q
    · rename_i hc
      exact .inr ⟨_, _, rInt hv, rInt hw, hc, q.now rh _ wInt⟩
    · exact q.elim
  · exact q.elim
end
theorem adj_rev (n : Nat) : Builtin.Slice.sliceAdjust none none (-1) (n : Int) = ((n : Int) - 1, -1) := by
  unfold Builtin.Slice.sliceAdjust
  simp
theorem places_rev (n : Nat) : Builtin.Slice.slicePlaces ((n : Int) - 1) (-1) (-1) = n := by
  unfold Builtin.Slice.slicePlaces
  rw [if_neg (by decide)]
  by_cases h : (n : Int) - 1 > -1
  · rw [if_pos h]
    have : -(-1 : Int) = 1 := by decide
    rw [this, Int.ediv_one]
    omega
  · rw [if_neg h]
    omega
theorem pick_rev (xs : Array Value) : ((List.range xs.size).filterMap fun (m : Nat) => xs[(((xs.size : Int) - 1) + (m : Int) * (-1)).toNat]?).toArray = xs.toList.reverse.toArray := by
  congr 1
  apply List.ext_getElem?
  intro i
  have key : ∀ (l : List Nat), (∀ m ∈ l, m < xs.size) → (l.filterMap fun (m : Nat) => xs[(((xs.size : Int) - 1) + (m : Int) * (-1)).toNat]?) = l.map fun m => xs.getD (xs.size - 1 - m) .none := by
    intro l
    induction l with
    | nil => intro _; rfl
    | cons m l ih =>
      intro hl
      have hm := hl m List.mem_cons_self
      have e : (((xs.size : Int) - 1) + (m : Int) * (-1)).toNat = xs.size - 1 - m := by omega
      have hx : xs[xs.size - 1 - m]? = some (xs.getD (xs.size - 1 - m) .none) := by
        rw [Array.getD_eq_getD_getElem?]
        have : xs.size - 1 - m < xs.size := by omega
        rw [Array.getElem?_eq_getElem this] <;> rfl
      rw [List.filterMap_cons, e, hx, List.map_cons, ih fun k hk => hl k (List.mem_cons_of_mem _ hk)]
  rw [key _ fun m hm => List.mem_range.mp hm]
  by_cases hi : i < xs.size
  · rw [List.getElem?_map, List.getElem?_range hi, List.getElem?_reverse (by simpa using hi)]
    have : xs.size - 1 - i < xs.size := by omega
    simp [Array.getD_eq_getD_getElem?, Array.getElem?_eq_getElem this]
  · rw [List.getElem?_eq_none (by simpa using hi), List.getElem?_eq_none (by simpa using hi)]
section
variable {prog : Program} {w : World} {A : Around} {E : Value → Shared → Prop} {s : Shared}
theorem applied_rev {sl : Addr} {vl vu vs : Value} {n : Nat} {Q : Int × Int × Nat → Shared → Prop} (hs : s.heap.IsSliceOf sl vl vu vs) (pl : IsPart vl none) (pu : IsPart vu none) (pv : IsPart vs (some (-1)))
    (h : Q ((n : Int) - 1, -1, n) s) : wpAny (model prog w) A (Builtin.Slice.sliceApplied (.ref sl) (pure (n : Int))) Q E s := by
  obtain ⟨os, hos, hcs, hds⟩ := id hs
  unfold Builtin.Slice.sliceApplied Builtin.Slice.sliceFields
  refine wpAny_bind (wpAny_bind (wpAny_field hos hds (x := vl) rfl (wpAny_bind (wpAny_field hos hds (x := vu) rfl (wpAny_bind (wpAny_field hos hds (x := vs) rfl (wpAny_pure ?_)))))))
  refine wpAny_bind (HT.slicePart_ pv ?_)
  show wpAny _ _ (if ((-1 : Int) == 0) = true then _ else _) _ _ s
  rw [if_neg (by decide)]
  refine wpAny_bind (HT.slicePart_ pl (wpAny_bind (HT.slicePart_ pu (wpAny_bind (wpAny_pure ?_)))))
  show wpAny _ _ (match Builtin.Slice.sliceAdjust none none (-1) (n : Int) with | (lo, hi) => pure (lo, (-1 : Int), Builtin.Slice.slicePlaces lo hi (-1))) _ _ s
  rw [adj_rev n]
  show wpAny _ _ (pure ((n : Int) - 1, (-1 : Int), Builtin.Slice.slicePlaces ((n : Int) - 1) (-1) (-1))) _ _ s
  rw [places_rev]
  exact wpAny_pure h
theorem item_rev {t sl : Addr} {items : Array Value} {vl vu vs : Value} {Q : Value → Shared → Prop} (ht : IsTup s.heap t items) (hs : s.heap.IsSliceOf sl vl vu vs) (pl : IsPart vl none) (pu : IsPart vu none) (pv : IsPart vs (some (-1)))
    (h : Q (.ref s.heap.objs.size) { s with heap := s.heap.push { cls := .type "tuple", data := .seq items.toList.reverse.toArray } }) (hsz : items.size ≤ sizeLine) : wpAny (model prog w) A (getItem (.ref t) (.ref sl)) Q E s := by
  obtain ⟨os, hos, hcs, hds⟩ := id hs
  have hTs : s.TypeIs (.ref sl) "slice" := ⟨os, hos, hcs⟩
  unfold getItem
  try with_reducible refine wpAny_holding ?_
  first | refine wpAny_bind (wpAny_pure ?_) | skip
  refine wpAny_bind (wpAny_sequenceKey ht.typeIs (by decide) ?_)
  refine wpAny_bind (wpAny_callSpecial?_slot (name := Str.ofString "__getitem__") ht.typeIs PyProof.Rows.slot_tuple_getitem
    (wpAny_call_entry PyProof.Rows.slot_tuple_getitem ht.typeIs entry_tuple_getitem ?_ (args_tuple_getitem _ _)))
  show wpAny _ _ (Builtin.Tuple.tupleItemsOf (.ref t) >>= _) _ _ s
  refine wpAny_bind (tupleItemsOf_ ht ?_)
  refine wpAny_bind (wpAny_typeOf hTs ?_)
  rw [if_pos (by decide)]
  refine wpAny_bind (applied_rev hs pl pu pv ?_)
  have hno : ¬ (((items.size : Int) - 1 == 0 && (-1 : Int) == 1 && items.size == items.size) = true) := by
    have : ((-1 : Int) == 1) = false := by decide
    rw [this]
    simp
  show wpAny _ _ (if ((items.size : Int) - 1 == 0 && (-1 : Int) == 1 && items.size == items.size) = true then _ else _) _ _ s
  rw [if_neg hno, pick_rev]
  have hz : sizeOk (.seq items.toList.reverse.toArray) := by
    show items.toList.reverse.toArray.size ≤ sizeLine
    simpa using hsz
  unfold Builtin.Tuple.tupleExact
  first
    | exact wpAny_bind (wpAny_newObj_type (wpAny_pure ⟨_, rfl, wpAny_pure h⟩) hz)
    | exact wpAny_bind (wpAny_bind (wpAny_newObj_type (wpAny_pure ⟨_, rfl, wpAny_pure h⟩) hz))
    | exact wpAny_bind (wpAny_bind (wpAny_newObj_type (wpAny_pure (wpAny_pure ⟨_, rfl, wpAny_pure h⟩)) hz))
    | exact wpAny_bind (m := Builtin.Tuple.tupleExact _) (wpAny_newObj_type (wpAny_bind (wpAny_pure (wpAny_pure ⟨_, rfl, wpAny_pure h⟩))) hz)
end
section
variable {X : Cx} {κ : Kx} {W : WX}
def tRevT (K : PySem.W.Frag) (te : TE) : TE := fun σ H Q => te σ H fun x H1 => ∃ a xs, x = .ref a ∧ ((SqL K H1 a xs ∧ ∀ p, H1 p = none → Q (.ref p) (upd H1 p (.lst xs.reverse))) ∨ (SqT K H1 a xs ∧ ∀ p, H1 p = none → Q (.ref p) (upd H1 p (.tup xs.reverse))))
theorem pe_revT {e : Expr} {te : TE} {k : Nat} {p1 p2 p3 pos : Pos} (he : PE X e te) : PE X (.Subscript e (.Slice none none (some (.UnaryOp .USub (.Constant (.int 1) k p1) p2)) p3) pos) (tRevT X.K te) := by
  constructor
  intro pins s σ H Q I h
  refine Subscript_ (thn (he.run pins s σ H _ I h) fun v s1 ⟨x, H1, I1, r1, q1⟩ => ?_)
  obtain ⟨a, xs, ex, q⟩ := q1
  subst ex
  cases r1
  have hst : PO X (some (.UnaryOp .USub (.Constant (.int 1) k p1) p2)) (tPart (tUn (rU fun i => .int (-i)) (tC (.int 1)))) := po_some (pe_un un_neg pe_int)
  refine wpAny_Slice (thn (po_none.run pins s1 σ H1 (fun o H2 => o = none ∧ H2 = H1) I1 ⟨rfl, rfl⟩) fun vl s2 ⟨l, H2, I2, pl, el, e2⟩ => ?_)
  subst el e2
  refine thn (po_none.run pins s2 σ H2 (fun o H3 => o = none ∧ H3 = H2) I2 ⟨rfl, rfl⟩) fun vu s3 ⟨u, H3, I3, pu, eu, e3⟩ => ?_
  subst eu e3
  refine thn (hst.run pins s3 σ H3 (fun o H4 => o = some (-1) ∧ H4 = H3) I3 ⟨1, rfl, -1, rfl, rfl, rfl⟩) fun vs s4 ⟨o, H4, I4, ps, eo, e4⟩ => ?_
  subst eo e4
  have I5 : Inv X pins σ H4 { s4 with heap := s4.heap.push { cls := .type "slice", data := .fields #[vl, vu, vs] } } := I4.kept (t' := s4.toks) fun b ob q => Heap.get?_push_of_some _ q
  show wpAny (model X.prog X.w) X.A (subscriptTail e (.Slice none none (some (.UnaryOp .USub (.Constant (.int 1) k p1) p2)) p3) (.ref a) (.ref s4.heap.objs.size)) (EP X pins σ Q) X.xe { s4 with heap := s4.heap.push { cls := .type "slice", data := .fields #[vl, vu, vs] } }
  rcases q with ⟨hx, q⟩ | ⟨hx, q⟩
  · obtain ⟨its, r, ht, hz⟩ := I5.list hx
    have hlen := r.length
    refine tail_any (ops := [.ref a, .ref s4.heap.objs.size]) ht.isList.typeIs (PySem.slot_list_getitem.lookup) ?_ (by with_unfolding_all rfl)
    refine wpAny_getItem_list_slice ht.isList (Heap.IsSliceOf.new _ vl vu vs) pl pu ps (by decide) ?_ (by rw [List.size_toArray]; omega)
    rw [PySem.W.krv_pick]
    refine ⟨.ref _, _, I5.laid (t' := s4.toks) (o := .lst xs.reverse) (fun b ob q => Heap.get?_push_of_some _ q) (Nat.le_refl _) ?_, rfl, q _ (I5.hok.fresh (Nat.le_refl _))⟩
    exact ⟨by rw [List.length_reverse]; exact hz, _, 0, r.reverse, Heap.get?_push_size _ rfl⟩
  · obtain ⟨its, r, ht, hz⟩ := I5.tuple hx
    have hlen := r.length
    refine tail_any (ops := [.ref a, .ref s4.heap.objs.size]) ht.typeIs (PyProof.Rows.slot_tuple_getitem.lookup) ?_ (by with_unfolding_all rfl)
    refine item_rev ht (Heap.IsSliceOf.new _ vl vu vs) pl pu ps ?_ (by rw [List.size_toArray]; omega)
    refine ⟨.ref _, _, I5.laid (t' := s4.toks) (o := .tup xs.reverse) (fun b ob q => Heap.get?_push_of_some _ q) (Nat.le_refl _) ?_, rfl, q _ (I5.hok.fresh (Nat.le_refl _))⟩
    exact ⟨by rw [List.length_reverse]; exact hz, _, r.reverse, IsTup.new _ _⟩
def oRev : D → Hs → Res D := fun x h => match x with
  | .tup xs => .ok (.tup xs.reverse) h
  | _ => oRevL x h
theorem se_rev {e : Expr} {f : ES} {k : Nat} {p1 p2 p3 pos : Pos} (hK : κ.K = X.K) (he : SE X κ W e f) : SE X κ W (.Subscript e (.Slice none none (some (.UnaryOp .USub (.Constant (.int 1) k p1) p2)) p3) pos) (eOp1 oRev f) := by
  refine pe_imp (pe_revT he) fun σ H Q ⟨ι, σd, h, rs, rh, q⟩ => ?_
  refine ⟨ι, σd, h, rs, rh, (PostR.bind q).imp fun d h1 ι1 H1 p1 e1 r1 q1 v hv => ?_⟩
  unfold oRev at q1
  split at q1
  · obtain ⟨a, vs, rfl, s, rl⟩ := rTup hv
    exact ⟨a, vs, rfl, .inr ⟨by rw [← hK]; exact s, fun p hp => new_tup r1 rl.reverse hp q1⟩⟩
  · unfold oRevL at q1
    split at q1
    · rename_i xs hs
      obtain ⟨a, us, rfl, s, rl⟩ := lst_of r1 hv hs
      exact ⟨a, us, rfl, .inl ⟨by rw [← hK]; exact s, fun p hp => new_lst r1 rl.reverse hp q1⟩⟩
    · exact q1.elim
end
end Sm

set_option Elab.async false
set_option linter.all false
set_option maxRecDepth 100000
set_option maxHeartbeats 4000000
set_option autoImplicit false
namespace Sm
open PySem PySem.Spec PyProof.Rows L2
theorem bo_len : bootBuiltins "len" = some (.builtin "len") := by decide +kernel
theorem bo_all : bootBuiltins "all" = some (.builtin "all") := by decide +kernel
theorem bo_any : bootBuiltins "any" = some (.builtin "any") := by decide +kernel
theorem bo_sum : bootBuiltins "sum" = some (.builtin "sum") := by decide +kernel
theorem bo_abs : bootBuiltins "abs" = some (.builtin "abs") := by decide +kernel
theorem bo_min : bootBuiltins "min" = some (.builtin "min") := by decide +kernel
theorem bo_max : bootBuiltins "max" = some (.builtin "max") := by decide +kernel
theorem bo_tuple : bootBuiltins "tuple" = some (.type "tuple") := by decide +kernel
theorem bo_list : bootBuiltins "list" = some (.type "list") := by decide +kernel
theorem bo_int : bootBuiltins "int" = some (.type "int") := by decide +kernel
theorem bo_str : bootBuiltins "str" = some (.type "str") := by decide +kernel
theorem bo_bool : bootBuiltins "bool" = some (.type "bool") := by decide +kernel
theorem io_int : isiOk "int" = true := by decide +kernel
theorem io_str : isiOk "str" = true := by decide +kernel
theorem io_bool : isiOk "bool" = true := by decide +kernel
theorem io_tuple : isiOk "tuple" = true := by decide +kernel
theorem io_list : isiOk "list" = true := by decide +kernel
theorem room_u {k : Nat} {A : Around} (r : Room k A) : A.units + 64 < cLine := by have := r.un; omega
theorem room_1 {k : Nat} {A : Around} (r : Room k A) : A.units + 1 < cLine := by have := r.un; omega
section
variable {P : Program} {w : World} {K : PySem.W.Frag} {mg : Str → Option Value} {base : Heap} {x qual : Str} {params : Arguments} {body : List Stmt} {scope : Scope} {f : Addr} {fd : FuncData}
theorem tk_cx {N : List Str} {cd : Value} {A : Around} {outer : List Env} {s : Shared} {H : Hp} {E : XK} : Takes (cxOf (L2.CX P w) P w K mg base N qual scope f cd A outer s H E) (WE_ E) := takes_of (E := E) rfl rfl rfl rfl
theorem po_cx {N : List Str} {cd : Value} {A : Around} {outer : List Env} {s : Shared} {H : Hp} {E : XK} :
    PassesOwn (model P w) (cxOf (L2.CX P w) P w K mg base N qual scope f cd A outer s H E).A (cxOf (L2.CX P w) P w K mg base N qual scope f cd A outer s H E).env (cxOf (L2.CX P w) P w K mg base N qual scope f cd A outer s H E).xe :=
  passes_of (X := cxOf (L2.CX P w) P w K mg base N qual scope f cd A outer s H E) rfl
abbrev BindOk (x qual : Str) (params : Arguments) (body : List Stmt) (scope : Scope) (ps : List Str) : Prop := ∀ (kV doc pm : Value) (an : Option Addr) (cdv ct : Value) (us : List Value), us.length = ps.length → bindArgs (PySem.W.fnOf x qual params body scope .none kV doc pm an cdv ct) ⟨us, []⟩ = pure (ps.zip us)
theorem mk_fn {N ps : List Str} {k : Nat} {s : SS} (F : ∃ fd, FunD K x qual params body scope [] [] f fd) (S : FnScope N ps scope) (hm : mg x = some (.ref f)) (hb : BindOk x qual params body scope ps)
    (hs : ∀ (cdv : Value) (A : Around) (outer : List Env) (s0 : Shared) (H : Hp) (E : XK), Room k (A.deeper (envOfC qual scope s0.heap.objs.size f cdv)) →
      SN (cxOf (L2.CX P w) P w K mg base N qual scope f cdv A outer s0 H E) (kx K) (WE_ E) body s) : Fn P w K mg base (k + 1) x ps.length (fnF N.length s) := by
  obtain ⟨fd, F⟩ := F
  exact ⟨f, fd, ps, hm, F.kp, F.bindsN hb, rfl, fn_ok F S hs⟩
theorem Fn.mono {l l' np : Nat} {m : FS} (F : Fn P w K mg base l x np m) (h : l ≤ l') : Fn P w K mg base l' x np m := by
  obtain ⟨f, fd, ps, a, b, c, d, e⟩ := F.ex
  exact ⟨f, fd, ps, a, b, c, d, e.mono h⟩
theorem fn_bad {ps : List Str} {l : Nat} (F : ∃ fd, FunD K x qual params body scope [] [] f fd) (hm : mg x = some (.ref f)) (hb : BindOk x qual params body scope ps) : Fn P w K mg base l x ps.length (fun _ _ => .bad) := by
  obtain ⟨fd, F⟩ := F
  refine ⟨f, fd, ps, hm, F.kp, F.bindsN hb, rfl, fun vs H Q E ⟨ι, h, ds, _, _, _, q⟩ => q.elim, fun A outer s H args us vs Q E _ _ _ _ ⟨ι, h, ds, _, _, _, q⟩ => q.elim⟩
end
section
variable {X : Cx} {W : WX} {e o : Expr} {es : List Expr} {fo f : ES} {fs : AS} {pos p apos : Pos}
theorem se_append (ho : SE X (kx X.K) W o fo) (ha : SA X (kx X.K) W (e :: es) fs) (hbase : attributeBase o "append" X.env (eval o X.env) = eval o X.env := by rfl)
    (hfew : ((backTo pos (starEach (e :: es) X.env)).all (fun x => !x.1) && (backToKw pos (keywordEach [] X.env)).all (fun x => x.1.isSome) && decide ((e :: es).length + ([] : List Keyword).length + (if ([] : List Keyword).isEmpty then 0 else 1) < 30)) = true := by rfl)
    (hline : (apos.endLine == pos.line) = true := by rfl) (hs : starEach (e :: es) X.env = (false, eval e X.env) :: starEach es X.env := by rfl) (hplain : (backTo pos (starEach es X.env)).any (·.1) = false := by rfl) :
    SE X (kx X.K) W (.Call (.Attribute o "append" apos) (e :: es) [] pos) (eBM "list" mAppend fo fs) := se_bm rfl (pe_bm F.plainAttrs_list F.slot_list_append F.type_list_append mt_append ho ha hbase hfew hline hs hplain) sim_append
theorem se_extend (ho : SE X (kx X.K) W o fo) (ha : SA X (kx X.K) W (e :: es) fs) (hbase : attributeBase o "extend" X.env (eval o X.env) = eval o X.env := by rfl)
    (hfew : ((backTo pos (starEach (e :: es) X.env)).all (fun x => !x.1) && (backToKw pos (keywordEach [] X.env)).all (fun x => x.1.isSome) && decide ((e :: es).length + ([] : List Keyword).length + (if ([] : List Keyword).isEmpty then 0 else 1) < 30)) = true := by rfl)
    (hline : (apos.endLine == pos.line) = true := by rfl) (hs : starEach (e :: es) X.env = (false, eval e X.env) :: starEach es X.env := by rfl) (hplain : (backTo pos (starEach es X.env)).any (·.1) = false := by rfl) :
    SE X (kx X.K) W (.Call (.Attribute o "extend" apos) (e :: es) [] pos) (eBM "list" mExtend fo fs) := se_bm rfl (pe_bm F.plainAttrs_list F.slot_list_extend F.type_list_extend mt_extend ho ha hbase hfew hline hs hplain) sim_extend
theorem se_index (ho : SE X (kx X.K) W o fo) (ha : SA X (kx X.K) W (e :: es) fs) (hbase : attributeBase o "index" X.env (eval o X.env) = eval o X.env := by rfl)
    (hfew : ((backTo pos (starEach (e :: es) X.env)).all (fun x => !x.1) && (backToKw pos (keywordEach [] X.env)).all (fun x => x.1.isSome) && decide ((e :: es).length + ([] : List Keyword).length + (if ([] : List Keyword).isEmpty then 0 else 1) < 30)) = true := by rfl)
    (hline : (apos.endLine == pos.line) = true := by rfl) (hs : starEach (e :: es) X.env = (false, eval e X.env) :: starEach es X.env := by rfl) (hplain : (backTo pos (starEach es X.env)).any (·.1) = false := by rfl) :
    SE X (kx X.K) W (.Call (.Attribute o "index" apos) (e :: es) [] pos) (eBM "list" mIndex fo fs) := se_bm rfl (pe_bm F.plainAttrs_list F.slot_list_index F.type_list_index mt_index ho ha hbase hfew hline hs hplain) sim_index
def mPopAt : D → List D → Hs → Res D := fun x ds h => if ds.length = 1 then mPop x ds h else .bad
def mPop0 : D → List D → Hs → Res D := fun x ds h => if ds = [] then mPop x ds h else .bad
theorem se_popAt (ho : SE X (kx X.K) W o fo) (ha : SA X (kx X.K) W (e :: es) fs) (hbase : attributeBase o "pop" X.env (eval o X.env) = eval o X.env := by rfl)
    (hfew : ((backTo pos (starEach (e :: es) X.env)).all (fun x => !x.1) && (backToKw pos (keywordEach [] X.env)).all (fun x => x.1.isSome) && decide ((e :: es).length + ([] : List Keyword).length + (if ([] : List Keyword).isEmpty then 0 else 1) < 30)) = true := by rfl)
    (hline : (apos.endLine == pos.line) = true := by rfl) (hs : starEach (e :: es) X.env = (false, eval e X.env) :: starEach es X.env := by rfl) (hplain : (backTo pos (starEach es X.env)).any (·.1) = false := by rfl) :
    SE X (kx X.K) W (.Call (.Attribute o "pop" apos) (e :: es) [] pos) (eBM "list" mPopAt fo fs) := se_bm rfl (pe_bm F.plainAttrs_list F.slot_list_pop F.type_list_pop mt_popAt ho ha hbase hfew hline hs hplain) sim_popAt
theorem se_pop0 (ho : SE X (kx X.K) W o fo) (hbase : attributeBase o "pop" X.env (eval o X.env) = eval o X.env := by rfl) (hline : (apos.endLine == pos.line) = true := by rfl) :
    SE X (kx X.K) W (.Call (.Attribute o "pop" apos) [] [] pos) (eBM "list" mPop0 fo aNil) := se_bm0 rfl (pe_bm0 F.plainAttrs_list F.slot_list_pop F.type_list_pop mt_pop ho hbase hline) sim_pop
end
end Sm

set_option Elab.async false
set_option linter.all false
set_option maxRecDepth 100000
set_option maxHeartbeats 4000000
set_option autoImplicit false
namespace Sm
open PySem PySem.Spec PyProof.Rows L2
section
variable {σ : Lo} {h : Hs} {f g fa fb fc : ES} {t u : BS} {s v : SS}
@[simp] theorem q_var (i : Nat) : eVar i σ h = match σ[i]? with
  | some (some d) => .ok d h
  | _ => .bad := rfl
@[simp] theorem q_c (d : D) : eC d σ h = .ok d h := rfl
@[simp] theorem q_op1 (k : D → Hs → Res D) : eOp1 k f σ h = (f σ h).bind k := rfl
@[simp] theorem q_op2 (k : D → D → Hs → Res D) : eOp2 k fa fb σ h = (fa σ h).bind fun x h1 => (fb σ h1).bind fun y h2 => k x y h2 := rfl
@[simp] theorem q_nil : aNil σ h = .ok [] h := rfl
@[simp] theorem q_cons (r : AS) : aCons f r σ h = (f σ h).bind fun x h1 => (r σ h1).bind fun xs h2 => .ok (x :: xs) h2 := rfl
@[simp] theorem q_tup (a : AS) : eTup a σ h = (a σ h).bind fun ds h1 => if ds.length ≤ 100000 then .ok (.tup ds) h1 else .bad := rfl
@[simp] theorem q_lst (a : AS) : eLst a σ h = (a σ h).bind fun ds h1 => if ds.length ≤ 100000 then .ok (.ref h1.length) (h1 ++ [.lst ds]) else .bad := rfl
@[simp] theorem q_call (k : FS) (a : AS) : eCall k a σ h = (a σ h).bind k := rfl
@[simp] theorem q_user (n : Nat) (k : FS) (a : AS) : eUser n k a σ h = (a σ h).bind fun ds h1 => if ds.length = n then k ds h1 else .bad := rfl
theorem q_trim : eTrim f σ h = gc h (f σ h) := rfl
@[simp] theorem q_bm (T : String) (k : D → List D → Hs → Res D) (a : AS) : eBM T k f a σ h = (f σ h).bind fun x h1 => if okT T h1 x = true then (a σ h1).bind fun xs h2 => k x xs h2 else .bad := rfl
@[simp] theorem q_val : bVal f σ h = (f σ h).bind fun d h1 => match d with
  | .bl b => .ok b h1
  | _ => .bad := rfl
@[simp] theorem q_and : bAnd t u σ h = (t σ h).bind fun x h1 => if x = true then u σ h1 else .ok false h1 := rfl
@[simp] theorem q_or : bOr t u σ h = (t σ h).bind fun x h1 => if x = true then .ok true h1 else u σ h1 := rfl
@[simp] theorem q_not : bNot t σ h = (t σ h).bind fun x h1 => .ok (!x) h1 := rfl
@[simp] theorem q_andV : eAndV fa fb σ h = (fa σ h).bind fun x h1 => match x with
  | .bl true => fb σ h1
  | .bl false => .ok (.bl false) h1
  | _ => .bad := rfl
@[simp] theorem q_orV : eOrV fa fb σ h = (fa σ h).bind fun x h1 => match x with
  | .bl true => .ok (.bl true) h1
  | .bl false => fb σ h1
  | _ => .bad := rfl
@[simp] theorem q_notV : eNotV fa σ h = (fa σ h).bind fun x h1 => match x with
  | .bl b => .ok (.bl (!b)) h1
  | _ => .bad := rfl
@[simp] theorem q_if : eIf t fa fb σ h = (t σ h).bind fun x h1 => if x = true then fa σ h1 else fb σ h1 := rfl
@[simp] theorem q_chain (k k' : D → D → Hs → Res D) : eChain k k' fa fb fc σ h = (fa σ h).bind fun x h1 => (fb σ h1).bind fun y h2 => (k x y h2).bind fun z h3 => match z with
  | .bl true => (fc σ h3).bind fun w h4 => k' y w h4
  | .bl false => .ok (.bl false) h3
  | _ => .bad := rfl
@[simp] theorem q_sl (l r : OS) : eSl f l r σ h = (f σ h).bind fun x h1 => (l σ h1).bind fun l h2 => (r σ h2).bind fun u h3 => oSl x l u h3 := rfl
@[simp] theorem q_nop : noPart σ h = .ok none h := rfl
@[simp] theorem q_onp : onPart f σ h = (f σ h).bind fun d h1 => match d with
  | .int i => .ok (some i) h1
  | _ => .bad := rfl
@[simp] theorem q_snil : sNil σ h = .nx σ h := rfl
@[simp] theorem q_scons : sCons s v σ h = (s σ h).next v := rfl
@[simp] theorem q_set (i : Nat) : sSet i f σ h = onR σ (f σ h) fun d h1 => .nx (σ.set i (some d)) h1 := rfl
@[simp] theorem q_expr : sExpr f σ h = onR σ (f σ h) fun _ h1 => .nx σ h1 := rfl
@[simp] theorem q_ret : sRet f σ h = onR σ (f σ h) fun d h1 => .rt d h1 := rfl
@[simp] theorem q_retN : sRetN σ h = .rt .non h := rfl
@[simp] theorem q_sif : sIf t s v σ h = onR σ (t σ h) fun b h1 => if b = true then s σ h1 else v σ h1 := rfl
@[simp] theorem q_brk : sBreak σ h = .bk σ h := rfl
@[simp] theorem q_cnt : sCont σ h = .ct σ h := rfl
@[simp] theorem q_par (i j : Nat) (a : AS) : sPar i j a σ h = onR σ (a σ h) fun ds h1 => match ds with
  | [x, y] => .nx ((σ.set i (some x)).set j (some y)) h1
  | _ => .bad := rfl
@[simp] theorem q_aug (i : Nat) (k : D → D → Hs → Res D) : sAug i k f σ h = match σ[i]? with
  | some (some x) => onR σ (f σ h) fun y h1 => onR σ (k x y h1) fun z h2 => .nx (σ.set i (some z)) h2
  | _ => .bad := rfl
@[simp] theorem q_tgt (tg : Tg) : sTgt tg f σ h = onR σ (f σ h) fun d h1 => match tg.put d σ with
  | some σ1 => .nx σ1 h1
  | none => .bad := rfl
@[simp] theorem q_raise (c : Str) (fns : List Str) (a : AS) : sRaise c fns a σ h = onR σ (a σ h) fun ds h1 => if ds.length = fns.length ∧ ds.length ≤ 100 then .exc c (fns.zip ds).reverse σ h1 else .bad := rfl
@[simp] theorem q_itup : iTupD f σ h = (f σ h).bind fun d h1 => match d with
  | .tup xs => .ok (xs, fun (_ : Hs) => True) h1
  | _ => .bad := rfl
@[simp] theorem q_istr : iStrD f σ h = (f σ h).bind fun d h1 => match d with
  | .str s => .ok (signs s, fun (_ : Hs) => True) h1
  | _ => .bad := rfl
@[simp] theorem q_ienum : iEnumD f σ h = (f σ h).bind fun d h1 => match d with
  | .tup xs => .ok (pairsFrom 0 xs, fun (_ : Hs) => True) h1
  | _ => .bad := rfl
theorem q_irange (a : AS) : iRangeD a σ h = (a σ h).bind fun ds h1 => match ds with
  | [.int j] => if -(2 ^ 62) ≤ j ∧ j < 2 ^ 62 then .ok (intsFrom 0 j.toNat, fun (_ : Hs) => True) h1 else .bad
  | [.int i, .int j] => if -(2 ^ 62) ≤ i ∧ i < 2 ^ 62 ∧ -(2 ^ 62) ≤ j ∧ j < 2 ^ 62 then .ok (intsFrom i (j - i).toNat, fun (_ : Hs) => True) h1 else .bad
  | _ => .bad := rfl
@[simp] theorem q_ilst : iLstD f σ h = (f σ h).bind fun d h1 => match d with
  | .ref n => (match h1[n]? with
    | some (.lst xs) => .ok (xs, fun h => h[n]? = some (.lst xs)) h1
    | _ => .bad)
  | .fl xs => .ok (xs, fun (_ : Hs) => True) h1
  | _ => .bad := rfl
@[simp] theorem q_for (src : IS) (tg : Tg) : sFor src tg s σ h = onR σ (src σ h) fun p h1 => forG tg s p.2 p.1 σ h1 := rfl
@[simp] theorem q_nm (i : Nat) (d : D) : (Tg.nm i).put d σ = some (σ.set i (some d)) := rfl
@[simp] theorem q_tp (is : List Nat) (ds : List D) : (Tg.tp is).put (.tup ds) σ = putAll is ds σ := rfl
@[simp] theorem q_pa0 : putAll [] [] σ = some σ := rfl
@[simp] theorem q_pa (i : Nat) (is : List Nat) (d : D) (ds : List D) : putAll (i :: is) (d :: ds) σ = putAll is ds (σ.set i (some d)) := rfl
end
theorem fn_val {N : Nat} {s : SS} {ds : List D} {h : Hs} {d : D} (e : bodyF N s ds h = .ok d h) : fnF N s ds h = .ok d h := by unfold fnF; rw [e, gc_same']
theorem fn_app {N : Nat} {s : SS} {ds : List D} {h g : Hs} {d : D} (e : bodyF N s ds h = .ok d (h ++ g)) (l : d.low h.length = true) : fnF N s ds h = .ok d h := by unfold fnF; rw [e, gc_app l]
theorem fn_exc {N : Nat} {s : SS} {ds : List D} {h h' : Hs} {c : Str} {fs : List (Str × D)} (e : bodyF N s ds h = .exc c fs h') : fnF N s ds h = .exc c fs h' := by unfold fnF; rw [e, gc_exc]
@[simp] theorem gc_bl {h : Hs} {b : Bool} (g : Hs) : gc h (.ok (.bl b) (h ++ g)) = .ok (.bl b) h := gc_app rfl
@[simp] theorem gc_int {h : Hs} {b : Int} (g : Hs) : gc h (.ok (.int b) (h ++ g)) = .ok (.int b) h := gc_app rfl
theorem compG_map {t : Tg} {cond : BS} {el : ES} {G : Hs → Prop} {σ : Lo} {h : Hs} {p : D → Bool} {g : D → D} (hG : ∀ l, G (h ++ [.lst l])) : ∀ (ds acc : List D), acc.length + ds.length ≤ 100000 →
    (∀ d ∈ ds, ∀ l, ∃ σ1, t.put d σ = some σ1 ∧ cond σ1 (h ++ [.lst l]) = .ok (p d) (h ++ [.lst l]) ∧ (p d = true → el σ1 (h ++ [.lst l]) = .ok (g d) (h ++ [.lst l]))) →
    compG t cond el G h.length σ ds (h ++ [.lst acc]) = .ok () (h ++ [.lst (acc ++ (ds.filter p).map g)])
  | [], acc, _, _ => by
    unfold compG
    rw [if_pos (hG acc)]
    simp
  | d :: ds, acc, hl, he => by
    obtain ⟨σ1, h1, h2, h3⟩ := he d List.mem_cons_self acc
    have hr := fun (a' : List D) (z : a'.length + ds.length ≤ 100000) => compG_map hG ds a' z fun x hx => he x (List.mem_cons_of_mem _ hx)
    unfold compG
    rw [if_pos (hG acc)]
    simp only [h1, h2, Res.strict_ok, Res.bind_ok]
    cases hp : p d with
    | false =>
      simp only [Bool.false_eq_true, if_false]
      rw [hr acc (by simp at hl; omega), List.filter_cons, hp]
      simp
    | true =>
      have hq : (h ++ [C.lst acc])[h.length]? = some (.lst acc) := by rw [List.getElem?_append_right (Nat.le_refl _)]; simp
      simp only [if_true, h3 hp, Res.strict_ok, Res.bind_ok, hq]
      rw [if_pos (by simp at hl; omega)]
      have hset : (h ++ [C.lst acc]).set h.length (.lst (acc ++ [g d])) = h ++ [.lst (acc ++ [g d])] := by
        rw [List.set_append_right _ _ (Nat.le_refl _)]
        simp
      rw [hset, hr (acc ++ [g d]) (by simp at hl ⊢; omega), List.filter_cons, hp]
      simp
theorem eComp_map {src : IS} {t : Tg} {cond : BS} {el : ES} {vs : List Nat} {σ : Lo} {h : Hs} {ds : List D} {G : Hs → Prop} (p : D → Bool) (g : D → D) (hs : src σ h = .ok (ds, G) h) (hG : ∀ l, G (h ++ [.lst l])) (hl : ds.length ≤ 100000)
    (he : ∀ d ∈ ds, ∀ l, ∃ σ1, t.put d (wipeD σ vs) = some σ1 ∧ cond σ1 (h ++ [.lst l]) = .ok (p d) (h ++ [.lst l]) ∧ (p d = true → el σ1 (h ++ [.lst l]) = .ok (g d) (h ++ [.lst l]))) :
    eComp src t cond el vs σ h = .ok (.ref h.length) (h ++ [.lst ((ds.filter p).map g)]) := by
  unfold eComp
  rw [hs]
  simp only [Res.bind_ok]
  rw [compG_map hG ds [] (by simpa using hl) he]
  simp
theorem eComp_all {src : IS} {t : Tg} {el : ES} {vs : List Nat} {σ : Lo} {h : Hs} {ds : List D} {G : Hs → Prop} (g : D → D) (hs : src σ h = .ok (ds, G) h) (hG : ∀ l, G (h ++ [.lst l])) (hl : ds.length ≤ 100000)
    (he : ∀ d ∈ ds, ∀ l, ∃ σ1, t.put d (wipeD σ vs) = some σ1 ∧ el σ1 (h ++ [.lst l]) = .ok (g d) (h ++ [.lst l])) :
    eComp src t bYes el vs σ h = .ok (.ref h.length) (h ++ [.lst (ds.map g)]) := by
  rw [eComp_map (cond := bYes) (fun _ => true) g hs hG hl fun d hd l => let ⟨σ1, a, b⟩ := he d hd l; ⟨σ1, a, rfl, fun _ => b⟩, List.filter_eq_self.mpr fun _ _ => rfl]
@[simp] theorem at_end {h : Hs} {c : C} : (h ++ [c])[h.length]? = some c := by rw [List.getElem?_append_right (Nat.le_refl _)]; simp
theorem forG_run {t : Tg} {body : SS} {G : Hs → Prop} (I : List D → Lo → Hs → Prop) (F : Out → Prop) (hs : ∀ ds σ h, I ds σ h → G h) (st : ∀ d ds σ h, I (d :: ds) σ h → ∃ σ1, t.put d σ = some σ1 ∧
      ((∃ σ' h', (body σ1 h = .nx σ' h' ∨ body σ1 h = .ct σ' h') ∧ I ds σ' h') ∨ (∃ x h', body σ1 h = .rt x h' ∧ F (.rt x h')) ∨ (∃ c fs σ' h', body σ1 h = .exc c fs σ' h' ∧ F (.exc c fs σ' h')) ∨ (∃ σ' h', body σ1 h = .bk σ' h' ∧ F (.nx σ' h')))) :
    ∀ (ds : List D) (σ : Lo) (h : Hs), I ds σ h → (∃ σ' h', forG t body G ds σ h = .nx σ' h' ∧ I [] σ' h') ∨ F (forG t body G ds σ h)
  | [], σ, h, i => .inl ⟨σ, h, by unfold forG; rw [if_pos (hs _ _ _ i)], i⟩
  | d :: ds, σ, h, i => by
    obtain ⟨σ1, e1, q⟩ := st d ds σ h i
    unfold forG
    rw [if_pos (hs _ _ _ i), e1]
    simp only
    rcases q with ⟨σ', h', q, i'⟩ | ⟨x, h', q, f⟩ | ⟨c, fs, σ', h', q, f⟩ | ⟨σ', h', q, f⟩
    · have := forG_run I F hs st ds σ' h' i'
      rcases q with q | q <;> rw [q] <;> simpa using this
    · rw [q]; exact .inr f
    · rw [q]; exact .inr f
    · rw [q]; exact .inr f
def okS (s : Str) : Bool := SeqAt.shaped (.str s) && decide (s.length ≤ 100000)
mutual
def WfN (m : Nat) (h : Hs) : D → Prop
  | .str s => okS s = true
  | .ref n => ∃ xs, h[n]? = some (.lst xs)
  | .tup xs => xs.length ≤ m ∧ WfL m h xs
  | .fl _ => False
  | .exc _ _ _ => False
  | _ => True
def WfL (m : Nat) (h : Hs) : List D → Prop
  | [] => True
  | x :: xs => WfN m h x ∧ WfL m h xs
end
abbrev Wf (h : Hs) (d : D) : Prop := WfN 1000 h d
mutual
theorem WfN.keep {m m' : Nat} {h h' : Hs} (hm : m ≤ m') (k : ∀ (n : Nat) xs, h[n]? = some (.lst xs) → ∃ ys, h'[n]? = some (.lst ys)) : ∀ {d : D}, WfN m h d → WfN m' h' d
  | .ref n, q => by
    simp only [WfN] at *
    obtain ⟨xs, e⟩ := q
    exact k n xs e
  | .tup xs, q => by simp only [WfN] at *; exact ⟨Nat.le_trans q.1 hm, WfL.keep hm k q.2⟩
  | .non, _ => by simp only [WfN]
  | .bl _, _ => by simp only [WfN]
  | .int _, _ => by simp only [WfN]
  | .str _, q => by simp only [WfN] at *; exact q
  | .fl _, q => by simp only [WfN] at q
  | .exc _ _ _, q => by simp only [WfN] at q
theorem WfL.keep {m m' : Nat} {h h' : Hs} (hm : m ≤ m') (k : ∀ (n : Nat) xs, h[n]? = some (.lst xs) → ∃ ys, h'[n]? = some (.lst ys)) : ∀ {ds : List D}, WfL m h ds → WfL m' h' ds
  | [], _ => by simp only [WfL]
  | d :: ds, q => by simp only [WfL] at *; exact ⟨WfN.keep hm k q.1, WfL.keep hm k q.2⟩
end
theorem app_keep {h g : Hs} (n : Nat) (xs : List D) (e : h[n]? = some (.lst xs)) : ∃ ys, (h ++ g)[n]? = some (.lst ys) := ⟨xs, by rw [List.getElem?_append_left (List.getElem?_eq_some_iff.mp e).1]; exact e⟩
theorem WfN.app {m : Nat} {h g : Hs} {d : D} (w : WfN m h d) : WfN m (h ++ g) d := w.keep (Nat.le_refl _) app_keep
theorem WfL.app {m : Nat} {h g : Hs} {ds : List D} (w : WfL m h ds) : WfL m (h ++ g) ds := w.keep (Nat.le_refl _) app_keep
theorem wfL_iff {m : Nat} {h : Hs} : ∀ {ds : List D}, WfL m h ds ↔ ∀ d ∈ ds, WfN m h d
  | [] => by simp [WfL]
  | d :: ds => by simp [WfL, wfL_iff (ds := ds)]
theorem WfN.mem {m : Nat} {h : Hs} {xs : List D} (w : WfN m h (.tup xs)) {d : D} (hd : d ∈ xs) : WfN m h d := by
  simp only [WfN] at w
  exact wfL_iff.mp w.2 d hd
theorem WfN.len {m : Nat} {h : Hs} {xs : List D} (w : WfN m h (.tup xs)) : xs.length ≤ m := by
  simp only [WfN] at w
  exact w.1
theorem ty_wf {h : Hs} {d : D} (w : Wf h d) : ∃ T, tyD h d = some T := by
  cases d with
  | ref n => simp only [Wf, WfN] at w; obtain ⟨xs, e⟩ := w; exact ⟨"list", by simp [tyD, e]⟩
  | fl xs => simp only [Wf, WfN] at w
  | exc a b c => simp only [Wf, WfN] at w
  | _ => exact ⟨_, rfl⟩
def isI : D → Bool
  | .int _ => true
  | .bl _ => true
  | _ => false
def isB : D → Bool
  | .bl _ => true
  | _ => false
def isS : D → Bool
  | .str _ => true
  | _ => false
def isT : D → Bool
  | .tup _ => true
  | _ => false
@[simp] theorem isi_int {h : Hs} {d : D} (w : Wf h d) : oIsi "int" d h = .ok (.bl (isI d)) h := by
  cases d with
  | ref n => simp only [Wf, WfN] at w; obtain ⟨xs, e⟩ := w; simp [oIsi, tyD, e, isI, isiTab]
  | fl xs => simp only [Wf, WfN] at w
  | exc a b c => simp only [Wf, WfN] at w
  | _ => rfl
@[simp] theorem isi_bool {h : Hs} {d : D} (w : Wf h d) : oIsi "bool" d h = .ok (.bl (isB d)) h := by
  cases d with
  | ref n => simp only [Wf, WfN] at w; obtain ⟨xs, e⟩ := w; simp [oIsi, tyD, e, isB, isiTab]
  | fl xs => simp only [Wf, WfN] at w
  | exc a b c => simp only [Wf, WfN] at w
  | _ => rfl
@[simp] theorem isi_str {h : Hs} {d : D} (w : Wf h d) : oIsi "str" d h = .ok (.bl (isS d)) h := by
  cases d with
  | ref n => simp only [Wf, WfN] at w; obtain ⟨xs, e⟩ := w; simp [oIsi, tyD, e, isS, isiTab]
  | fl xs => simp only [Wf, WfN] at w
  | exc a b c => simp only [Wf, WfN] at w
  | _ => rfl
@[simp] theorem isi_tuple {h : Hs} {d : D} (w : Wf h d) : oIsi "tuple" d h = .ok (.bl (isT d)) h := by
  cases d with
  | ref n => simp only [Wf, WfN] at w; obtain ⟨xs, e⟩ := w; simp [oIsi, tyD, e, isT, isiTab]
  | fl xs => simp only [Wf, WfN] at w
  | exc a b c => simp only [Wf, WfN] at w
  | _ => rfl
end Sm

set_option Elab.async false
set_option linter.all false
set_option maxRecDepth 100000
set_option maxHeartbeats 4000000
set_option autoImplicit false
namespace Sm
open PySem PySem.Spec PyProof.Rows L2
theorem eqD_int (i j : Int) : eqD (.int i) (.int j) = some (decide (i = j)) := by
  unfold eqD
  simp only [D.py]
  rw [if_pos ⟨rfl, rfl⟩]
  first | rfl | (simp only [PyData.eqv]; congr 1; by_cases h : i = j <;> simp [h])
theorem eqD_str {i j : Str} (hi : okS i = true) (hj : okS j = true) : eqD (.str i) (.str j) = some (decide (i = j)) := by
  unfold eqD
  simp only [D.py]
  rw [if_pos ⟨(Bool.and_eq_true_iff.mp hi).1, (Bool.and_eq_true_iff.mp hj).1⟩]
  first | rfl | (simp only [PyData.eqv]; congr 1; by_cases h : i = j <;> simp [h])
theorem eqD_bl (i j : Bool) : eqD (.bl i) (.bl j) = some (decide (i = j)) := by
  unfold eqD
  simp only [D.py]
  rw [if_pos ⟨rfl, rfl⟩]
  cases i <;> cases j <;> rfl
variable {h : Hs}
@[simp] theorem q_eqI (i j : Int) : oEq false (.int i) (.int j) h = .ok (.bl (decide (i = j))) h := by unfold oEq; rw [eqD_int]; rfl
@[simp] theorem q_neI (i j : Int) : oEq true (.int i) (.int j) h = .ok (.bl (!decide (i = j))) h := by unfold oEq; rw [eqD_int]; rfl
@[simp] theorem q_eqS {i j : Str} (hi : okS i = true) (hj : okS j = true) : oEq false (.str i) (.str j) h = .ok (.bl (decide (i = j))) h := by unfold oEq; rw [eqD_str hi hj]; rfl
@[simp] theorem q_neS {i j : Str} (hi : okS i = true) (hj : okS j = true) : oEq true (.str i) (.str j) h = .ok (.bl (!decide (i = j))) h := by unfold oEq; rw [eqD_str hi hj]; rfl
@[simp] theorem q_eqB (i j : Bool) : oEq false (.bl i) (.bl j) h = .ok (.bl (decide (i = j))) h := by unfold oEq; rw [eqD_bl]; rfl
@[simp] theorem q_neB (i j : Bool) : oEq true (.bl i) (.bl j) h = .ok (.bl (!decide (i = j))) h := by unfold oEq; rw [eqD_bl]; rfl
@[simp] theorem q_lt (i j : Int) : oLt (.int i) (.int j) h = .ok (.bl (decide (i < j))) h := rfl
@[simp] theorem q_le (i j : Int) : oLe (.int i) (.int j) h = .ok (.bl (decide (i ≤ j))) h := rfl
@[simp] theorem q_gt (i j : Int) : oGt (.int i) (.int j) h = .ok (.bl (decide (j < i))) h := rfl
@[simp] theorem q_ge (i j : Int) : oGe (.int i) (.int j) h = .ok (.bl (decide (j ≤ i))) h := rfl
@[simp] theorem q_addI (i j : Int) : oAdd (.int i) (.int j) h = .ok (.int (i + j)) h := rfl
@[simp] theorem q_subI (i j : Int) : oSub (.int i) (.int j) h = .ok (.int (i - j)) h := rfl
@[simp] theorem q_neg (i : Int) : oNeg (.int i) h = .ok (.int (-i)) h := rfl
@[simp] theorem q_lenT (xs : List D) : fLen [.tup xs] h = .ok (.int (xs.length : Nat)) h := rfl
@[simp] theorem q_lenR (xs : List D) : fLen [.ref h.length] (h ++ [.lst xs]) = .ok (.int (xs.length : Nat)) (h ++ [.lst xs]) := by simp [fLen, seqD]
theorem q_lenS {s : Str} (l : s.length ≤ 100000) : fLen [.str s] h = .ok (.int (s.length : Nat)) h := by simp [fLen, l]
theorem atI_zero {α : Type} (x : α) (xs : List α) : atI (x :: xs) 0 = some x := by unfold atI; simp [ixN]
theorem atI_get {α : Type} {xs : List α} {i : Nat} {d : α} (e : xs[i]? = some d) : atI xs (i : Int) = some d := by
  have hl := (List.getElem?_eq_some_iff.mp e).1
  unfold atI ixN
  rw [if_pos (Int.natCast_nonneg i), if_pos (by omega)]
  simpa using e
theorem blsD_map {α : Type} (g : α → Bool) : ∀ l : List α, blsD (l.map fun d => D.bl (g d)) = some (l.map g)
  | [] => rfl
  | d :: l => by simp [blsD, blsD_map g l]
theorem intsD_map {α : Type} (g : α → Int) : ∀ l : List α, intsD (l.map fun d => D.int (g d)) = some (l.map g)
  | [] => rfl
  | d :: l => by simp [intsD, intsD_map g l]
@[simp] theorem q_allR (g : D → Bool) (ds : List D) : fAll [.ref h.length] (h ++ [.lst (ds.map fun d => D.bl (g d))]) = .ok (.bl (ds.all g)) (h ++ [.lst (ds.map fun d => D.bl (g d))]) := by
  simp [fAll, fBools, lstD, blsD_map]
@[simp] theorem q_anyR (g : D → Bool) (ds : List D) : fAny [.ref h.length] (h ++ [.lst (ds.map fun d => D.bl (g d))]) = .ok (.bl (ds.any g)) (h ++ [.lst (ds.map fun d => D.bl (g d))]) := by
  simp [fAny, fBools, lstD, blsD_map]
@[simp] theorem q_sumR (g : D → Int) (ds : List D) : fSum [.ref h.length] (h ++ [.lst (ds.map fun d => D.int (g d))]) = .ok (.int (ds.map g).sum) (h ++ [.lst (ds.map fun d => D.int (g d))]) := by
  simp [fSum, lstD, intsD_map]
@[simp] theorem q_tupR (ds : List D) : fTuple [.ref h.length] (h ++ [.lst ds]) = .ok (.tup ds) (h ++ [.lst ds]) := by simp [fTuple, seqD]
def inS (t : Str) (c : Nat) : Bool := decide (c ∈ t.cps.toList)
theorem in_one (t : Str) (c : Nat) : oIn false (.str ⟨#[c]⟩) (.str t) h = .ok (.bl (inS t c)) h := by
  have := StrLaws.found_one t c
  simp only [oIn]
  rw [this] <;> rfl
theorem nin_one (t : Str) (c : Nat) : oIn true (.str ⟨#[c]⟩) (.str t) h = .ok (.bl (!inS t c)) h := by
  have := StrLaws.found_one t c
  simp only [oIn, if_true]
  rw [this] <;> rfl
theorem q_ixT {xs : List D} {i : Int} {d : D} (e : atI xs i = some d) : oIx (.tup xs) (.int i) h = .ok d h := by simp [oIx, seqD, e]
@[simp] theorem q_ix0 (x : D) (xs : List D) : oIx (.tup (x :: xs)) (.int 0) h = .ok x h := q_ixT (atI_zero x xs)
@[simp] theorem q_ix1 (x y : D) (xs : List D) : oIx (.tup (x :: y :: xs)) (.int 1) h = .ok y h := q_ixT (atI_get (i := 1) rfl)
@[simp] theorem q_ix2 (x y z : D) (xs : List D) : oIx (.tup (x :: y :: z :: xs)) (.int 2) h = .ok z h := q_ixT (atI_get (i := 2) rfl)
@[simp] theorem q_ix3 (x y z u : D) (xs : List D) : oIx (.tup (x :: y :: z :: u :: xs)) (.int 3) h = .ok u h := q_ixT (atI_get (i := 3) rfl)
theorem q_lenW {s : Str} (l : okS s = true) : fLen [.str s] h = .ok (.int (s.length : Nat)) h := q_lenS (of_decide_eq_true (Bool.and_eq_true_iff.mp l).2)
section
variable {src : IS} {t : Tg} {cond : BS} {el : ES} {vs : List Nat} {σ : Lo} {ds : List D} {G : Hs → Prop}
theorem all_comp (g : D → Bool) (hs : src σ h = .ok (ds, G) h) (hG : ∀ l, G (h ++ [.lst l])) (hl : ds.length ≤ 100000) (he : ∀ d ∈ ds, ∀ l, ∃ σ1, t.put d (wipeD σ vs) = some σ1 ∧ el σ1 (h ++ [.lst l]) = .ok (.bl (g d)) (h ++ [.lst l])) :
    eTrim (eCall fAll (aCons (eComp src t bYes el vs) aNil)) σ h = .ok (.bl (ds.all g)) h := by
  rw [q_trim, q_call, q_cons, eComp_all (fun d => .bl (g d)) hs hG hl he]
  simp
theorem any_comp (g : D → Bool) (hs : src σ h = .ok (ds, G) h) (hG : ∀ l, G (h ++ [.lst l])) (hl : ds.length ≤ 100000) (he : ∀ d ∈ ds, ∀ l, ∃ σ1, t.put d (wipeD σ vs) = some σ1 ∧ el σ1 (h ++ [.lst l]) = .ok (.bl (g d)) (h ++ [.lst l])) :
    eTrim (eCall fAny (aCons (eComp src t bYes el vs) aNil)) σ h = .ok (.bl (ds.any g)) h := by
  rw [q_trim, q_call, q_cons, eComp_all (fun d => .bl (g d)) hs hG hl he]
  simp
theorem sum_comp (g : D → Int) (hs : src σ h = .ok (ds, G) h) (hG : ∀ l, G (h ++ [.lst l])) (hl : ds.length ≤ 100000) (he : ∀ d ∈ ds, ∀ l, ∃ σ1, t.put d (wipeD σ vs) = some σ1 ∧ el σ1 (h ++ [.lst l]) = .ok (.int (g d)) (h ++ [.lst l])) :
    eTrim (eCall fSum (aCons (eComp src t bYes el vs) aNil)) σ h = .ok (.int (ds.map g).sum) h := by
  rw [q_trim, q_call, q_cons, eComp_all (fun d => .int (g d)) hs hG hl he]
  simp
theorem len_comp (p : D → Bool) (hs : src σ h = .ok (ds, G) h) (hG : ∀ l, G (h ++ [.lst l])) (hl : ds.length ≤ 100000)
    (he : ∀ d ∈ ds, ∀ l, ∃ σ1, t.put d (wipeD σ vs) = some σ1 ∧ cond σ1 (h ++ [.lst l]) = .ok (!p d) (h ++ [.lst l]) ∧ ∃ x, el σ1 (h ++ [.lst l]) = .ok x (h ++ [.lst l])) :
    ∃ n : Nat, eTrim (eCall fLen (aCons (eComp src t cond el vs) aNil)) σ h = .ok (.int n) h ∧ (decide (n = 0) = ds.all p) ∧ (decide (0 < n) = !ds.all p) := by
  have key : ∀ (ds acc : List D), acc.length + ds.length ≤ 100000 → (∀ d ∈ ds, ∀ l, ∃ σ1, t.put d (wipeD σ vs) = some σ1 ∧ cond σ1 (h ++ [.lst l]) = .ok (!p d) (h ++ [.lst l]) ∧ ∃ x, el σ1 (h ++ [.lst l]) = .ok x (h ++ [.lst l])) →
      ∃ r : List D, compG t cond el G h.length (wipeD σ vs) ds (h ++ [.lst acc]) = .ok () (h ++ [.lst (acc ++ r)]) ∧ r.length = (ds.filter fun d => !p d).length := by
    intro ds
    induction ds with
    | nil =>
      intro acc _ _
      refine ⟨[], ?_, rfl⟩
      unfold compG
      rw [if_pos (hG acc)]
      simp
    | cons d ds ih =>
      intro acc hl he
      obtain ⟨σ1, h1, h2, x, h3⟩ := he d List.mem_cons_self acc
      have he' : ∀ e ∈ ds, _ := fun e hq => he e (List.mem_cons_of_mem _ hq)
      unfold compG
      rw [if_pos (hG acc)]
      simp only [h1, h2, Res.strict_ok, Res.bind_ok]
      cases hp : p d with
      | true =>
        obtain ⟨r, e1, e2⟩ := ih acc (by simp at hl; omega) he'
        refine ⟨r, ?_, by rw [e2, List.filter_cons]; simp [hp]⟩
        simpa using e1
      | false =>
        have hset : (h ++ [C.lst acc]).set h.length (.lst (acc ++ [x])) = h ++ [.lst (acc ++ [x])] := by
          rw [List.set_append_right _ _ (Nat.le_refl _)]
          simp
        obtain ⟨r, e1, e2⟩ := ih (acc ++ [x]) (by simp at hl ⊢; omega) he'
        refine ⟨x :: r, ?_, by rw [List.length_cons, e2, List.filter_cons]; simp [hp]⟩
        simp only [Bool.not_false, if_true, h3, Res.strict_ok, Res.bind_ok, at_end]
        rw [if_pos (by simp at hl; omega), hset, e1]
        simp
  obtain ⟨r, e1, e2⟩ := key ds [] (by simpa using hl) he
  refine ⟨r.length, ?_, ?_, ?_⟩
  · rw [q_trim, q_call, q_cons]
    unfold eComp
    rw [hs]
    simp only [Res.bind_ok]
    rw [e1]
    simp
  · rw [e2, Bool.eq_iff_iff, decide_eq_true_eq, List.all_eq_true]
    have : (ds.filter fun d => !p d).length = 0 ↔ (ds.filter fun d => !p d) = [] := List.length_eq_zero_iff
    rw [this, List.filter_eq_nil_iff]
    simp
  · rw [e2, Bool.eq_iff_iff, decide_eq_true_eq, Bool.not_eq_true']
    have : (0 < (ds.filter fun d => !p d).length) ↔ ¬ (ds.filter fun d => !p d) = [] := by
      rw [← List.length_eq_zero_iff]
      omega
    rw [this, List.filter_eq_nil_iff]
    rw [Bool.eq_false_iff, ne_eq, List.all_eq_true]
    simp
end
mutual
theorem low_wf {m : Nat} {h : Hs} : ∀ {d : D}, WfN m h d → d.low h.length = true
  | .non, _ => rfl
  | .bl _, _ => rfl
  | .int _, _ => rfl
  | .str _, _ => rfl
  | .ref n, q => by
    simp only [WfN] at q
    obtain ⟨xs, e⟩ := q
    simp only [D.low, decide_eq_true_eq]
    exact (List.getElem?_eq_some_iff.mp e).1
  | .tup xs, q => by simp only [WfN] at q; simp only [D.low]; exact low_wfL q.2
  | .fl _, q => by simp only [WfN] at q
  | .exc _ _ _, q => by simp only [WfN] at q
theorem low_wfL {m : Nat} {h : Hs} : ∀ {ds : List D}, WfL m h ds → lowL h.length ds = true
  | [], _ => rfl
  | d :: ds, q => by simp only [WfL] at q; simp only [lowL, Bool.and_eq_true]; exact ⟨low_wf q.1, low_wfL q.2⟩
end
theorem tup_comp {src : IS} {t : Tg} {el : ES} {vs : List Nat} {σ : Lo} {ds : List D} {G : Hs → Prop} (g : D → D) (hs : src σ h = .ok (ds, G) h) (hG : ∀ l, G (h ++ [.lst l])) (hl : ds.length ≤ 100000) (hlow : lowL h.length (ds.map g) = true) (he : ∀ d ∈ ds, ∀ l, ∃ σ1, t.put d (wipeD σ vs) = some σ1 ∧ el σ1 (h ++ [.lst l]) = .ok (g d) (h ++ [.lst l])) :
    eTrim (eCall fTuple (aCons (eComp src t bYes el vs) aNil)) σ h = .ok (.tup (ds.map g)) h := by
  rw [q_trim, q_call, q_cons, eComp_all g hs hG hl he]
  simp
  exact gc_app hlow
end Sm

set_option Elab.async false
set_option linter.all false
set_option maxRecDepth 100000
set_option maxHeartbeats 4000000
set_option autoImplicit false
namespace Sm
open PySem PySem.Spec PyProof.Rows L2
inductive Fx where
  | oex (c : Str) | xf (c : Str) | ec (c : Str) | no (c f : Str) | ex (c d : Str) (b : Bool) | ki (c d : Str) (b : Bool) | ini (c : Str)
section
variable (K : PySem.W.Frag)
def oexB (C : Addr) : Bool := (match K.lookup C with
  | some ⟨.type "type", _, .cls z, sl⟩ => (match z.mro, sl.toList with
    | .ref C' :: bm, [_, _, _, _, some (.builtin n), _] => decide (C' = C) && decide (n = "ValueError.__new__") && !z.hasDel && z.hasDict && PySem.HandSPX.refsVE bm
    | _, _ => false)
  | _ => false) && (decide (PySem.W.findIn K (.ref C) "__setattr__" = some (some (.builtin "object.__setattr__"))) && (decide (PySem.W.subIn K (.ref C) (.type "BaseException") = some true) && (decide (PySem.W.typeIn K (.ref C) = some (.type "type")) && PySem.W.keepIn K (.ref C))))
def ecB (D : Addr) : Bool := decide (PySem.W.findIn K (.ref D) "__getattribute__" = some (some (.builtin "BaseException.__getattribute__"))) && (decide (PySem.W.findIn K (.ref D) "__getattr__" = some none) && (decide (PySem.W.subIn K (.ref D) (.type "BaseException") = some true) && (PySem.W.hasDictIn K D && (decide (PySem.W.findIn K (.ref D) "__class__" = some (some (.builtin "object.__class__"))) && (decide (PySem.W.specialIn K (.builtin "object.__class__") "__get__" = some (some (.builtin "getset_descriptor.__get__"))) && (decide (PySem.W.takesIn K (.builtin "object.__class__") = some true) && decide (PySem.W.mroIn K D (.type "object") = some true)))))))
def Fx.ok : Fx → Bool
  | .oex c => oexB K (He.ga K c)
  | .xf c => xfB K (He.ga K c)
  | .ec c => ecB K (He.ga K c)
  | .no c f => decide (PySem.W.findIn K (.ref (He.ga K c)) f = some none)
  | .ex c d b => decide (PySem.W.exmOne K (.ref (He.ga K c)) (.ref (He.ga K d)) = some b)
  | .ki c d b => decide (PySem.W.kitOne K (.ref (He.ga K c)) (.ref (He.ga K d)) = some b)
  | .ini c => decide (PySem.W.findIn K (.ref (He.ga K c)) "__init__" = some (some (.ref (He.ma K (He.ga K c) "__init__")))) && decide (PySem.W.typeIn K (.ref (He.ma K (He.ga K c) "__init__")) = some (.type "function"))
end
section
variable {K : PySem.W.Frag}
theorem oexB_ok {C : Addr} (h : oexB K C = true) : OexC K C := by
  unfold oexB at h
  obtain ⟨h1, h⟩ := Bool.and_eq_true_iff.mp h
  obtain ⟨h2, h⟩ := Bool.and_eq_true_iff.mp h
  obtain ⟨h3, h⟩ := Bool.and_eq_true_iff.mp h
  obtain ⟨h4, h5⟩ := Bool.and_eq_true_iff.mp h
  refine ⟨?_, of_decide_eq_true h2, of_decide_eq_true h3, of_decide_eq_true h4, h5⟩
  split at h1
  · rename_i dd z sl e
    split at h1
    · rename_i C' bm k0 k1 k2 k3 n k5 hm hs
      simp only [Bool.and_eq_true, decide_eq_true_eq, Bool.not_eq_true'] at h1
      obtain ⟨⟨⟨⟨rfl, rfl⟩, z1⟩, z2⟩, z3⟩ := h1
      cases z with
      | mk nm bs mro ns qn hd sn sub ab col del =>
        simp only at hm z1 z2
        subst hm z1 z2
        have : sl = #[k0, k1, k2, k3, some (.builtin "ValueError.__new__"), k5] := by
          cases sl with
          | mk l => simp only at hs; rw [hs]
        subst this
        exact ⟨_, _, _, _, _, _, _, _, _, _, _, _, _, _, _, e, z3⟩
    · cases h1
  · cases h1
theorem ecB_ok {D : Addr} (h : ecB K D = true) : ExcC K D := by
  unfold ecB at h
  simp only [Bool.and_eq_true, decide_eq_true_eq] at h
  obtain ⟨a, b, c, d, e, f, g, i⟩ := h
  exact ⟨a, b, c, d, e, f, g, i⟩
end
def obX (fa : List He.Fa) (fx : List Fx) (fn : List He.DefD) (K : PySem.W.Frag) : He.AlD := (fa.all (fun f => f.ok K) && (fx.all (fun x => x.ok K) && fn.all (fun d => d.ok K)), fn.map fun d => He.fnW K d.at_)
def okX (fn : List He.DefD) : He.AlD := (true, fn.map He.DefD.val)
def SaysX (fa : List He.Fa) (fx : List Fx) (fn : List He.DefD) (K : PySem.W.Frag) : Prop := obX fa fx fn K = okX fn
def obXG (n : Nat) (fa : List He.Fa) (fx : List Fx) (fn : List He.DefD) (g : Addr → Option Obj) : He.AlD := obX fa fx fn (He.frG g (He.asD g n))
def hookX (n : Nat) (fa : List He.Fa) (fx : List Fx) (fn : List He.DefD) : PySem.W.Hook where
  α := He.AlD
  obs := fun st => obXG n fa fx fn st.heap.get?
  val := fun _ => okX fn
  says := fun _ hp => ∃ K : PySem.W.Frag, K.In hp ∧ SaysX fa fx fn K
  of := fun _ _ q => ⟨_, He.frG_in, q⟩
  keeps := fun _ _ _ ⟨K, i, c⟩ k => ⟨K, PySem.W.Frag.In.keeps i k, c⟩
theorem obXG_eq {n : Nat} {fa : List He.Fa} {fx : List Fx} {fn : List He.DefD} {g : Addr → Option Obj} {s : Shared} (h : ∀ a, g a = s.heap.get? a) : obXG n fa fx fn g = (hookX n fa fx fn).obs s := by
  rw [show g = s.heap.get? from funext h]
  rfl
section
variable {fa : List He.Fa} {fx : List Fx} {fn : List He.DefD} {K : PySem.W.Frag}
theorem SaysX.b (c : SaysX fa fx fn K) : (fa.all fun f => f.ok K) = true ∧ (fx.all fun x => x.ok K) = true ∧ (fn.all fun d => d.ok K) = true := by
  have q : (fa.all (fun f => f.ok K) && (fx.all (fun x => x.ok K) && fn.all (fun d => d.ok K))) = true := congrArg Prod.fst c
  rw [Bool.and_eq_true, Bool.and_eq_true] at q
  exact q
theorem SaysX.fa_ (c : SaysX fa fx fn K) (i : Nat) {f : He.Fa} (h : fa[i]? = some f := by rfl) : f.ok K = true := List.all_eq_true.mp c.b.1 f (List.mem_of_getElem? h)
theorem SaysX.fx_ (c : SaysX fa fx fn K) (i : Nat) {f : Fx} (h : fx[i]? = some f := by rfl) : f.ok K = true := List.all_eq_true.mp c.b.2.1 f (List.mem_of_getElem? h)
theorem SaysX.fn_ (c : SaysX fa fx fn K) (i : Nat) {d : He.DefD} (h : fn[i]? = some d := by rfl) : ∃ fd, FunD K d.name d.qual d.params d.body d.scope (d.dvs K) (d.kws K) (He.fAd K d.at_) fd := by
  have q : fn.map (fun d => He.fnW K d.at_) = fn.map He.DefD.val := congrArg Prod.snd c
  have q2 := congrArg (fun l => l[i]?) q
  simp only [List.getElem?_map, h, Option.map_some, Option.some.injEq] at q2
  exact He.DefD.funD q2 (List.all_eq_true.mp c.b.2.2 d (List.mem_of_getElem? h))
end
theorem Xc.of {P : Program} {w : World} {K : PySem.W.Frag} {mg : Str → Option Value} {base : Heap} {c : Str} {fns ps : List Str} {fd : FuncData} (o : oexB K (He.ga K c) = true) (g : mg c = some (.ref (He.ga K c))) (i : (Fx.ini c).ok K = true)
    (b : Binds K fd ps []) (F : FnOk P w K mg base (L2.CX P w) 1 (He.ma K (He.ga K c) "__init__") fd ps (spInit K (He.ga K c) fns)) : Xc P w K mg base c fns := by
  unfold Fx.ok at i
  rw [Bool.and_eq_true, decide_eq_true_eq, decide_eq_true_eq] at i
  exact ⟨oexB_ok o, g, _, fd, ps, i.1, i.2, b, F⟩
theorem sp_law {P : Program} {K : PySem.W.Frag} {m : FS} (ok : ∀ ns : List Int, ∃ h, m [.fl (ns.map .int)] [] = .ok (.bl true) h) {H : Hp} {a : Addr} {ns : List Int} (o : Only H) (s : SqL K H a (ns.map V.int)) : spOf K 1 m [.ref a] H (fun v _ => v = .bl true) fun _ _ _ => False := by
  obtain ⟨h, e⟩ := ok ns
  have fl : FlOk K H a (ns.map V.int) := by
    rcases s with s | s
    · rcases s with s | ⟨x, s⟩
      · rcases o a with z | ⟨x, xs, z⟩
        · rw [s] at z; cases z
        · rw [s] at z; cases z
      · exact .inl ⟨x, s⟩
    · exact .inr (.inr s)
  have rl : ∀ l : List Int, RepL (kx K) [] H (l.map .int) (l.map V.int) := by
    intro l
    exact RepL.map (f := D.int) (g := V.int) (fun i => by simp only [Rep]) l
  refine ⟨[], [], [.fl (ns.map .int)], ⟨rfl, List.nodup_nil, fun n c q => by simp at q⟩, .cons (by simp only [Rep]; exact ⟨a, _, rfl, fl, rl ns⟩) .nil, rfl, ?_⟩
  rw [e]
  intro ι' H' _ _ _ v r
  simpa only [Rep] using r
theorem walk_x {l : PySem.W.OpenLaw} {n k : Nat} {q : Program} {loose : List Str} {XP : (Str → Option Value) → Heap → Prop} {YP : World → Heap → Prop} {d : DefRec} {x : Str} {m : FS} (hm : l.most = some n) (hz : n ≤ sizeLine) (hdf : d.params.defaults = []) (hr : Room k callerA)
    (ok : ∀ ns : List Int, ∃ h, m [.fl (ns.map .int)] [] = .ok (.bl true) h)
    (F : ∀ (w : World) (mg : Str → Option Value) (fa : Addr) (hp : Heap), YP w hp → hp.Ns mainGlobals mg → mg d.name = some (.ref fa) →
      ∃ (K : PySem.W.Frag) (fd : FuncData), K.In hp ∧ (∀ (s : Shared) (u : Value), BindsTo s fd ⟨[u], []⟩ [(x, u)]) ∧ ∀ base : Heap, K.In base → base.Ns mainGlobals mg → FnOk l.prog w K mg base (L2.CX l.prog w) k fa fd [x] (spOf K 1 m)) :
    PySem.W.WalkO q loose XP YP l.row.toRowW d [] (fun f vs => PySem.call f vs) :=
  Att.attach_call hm hdf fun w _ _ mg _ fa _ _ _ _ _ _ _ g y _ _ _ e oa ia la ge =>
    let ⟨_, _, kin, hb, hF⟩ := F w mg fa _ y g.T.g e
    law_call kin g.T.g g.T.b g.T.builtins g.T.nolimit ge oa ia (Nat.le_trans la hz) hr hF hb (fun _ o s => sp_law (P := l.prog) ok o s) fun _ _ _ ⟨_, _, _, _, _, _, _, _, _, _, _, _, z⟩ => z
end Sm

set_option Elab.async false
set_option linter.all false
set_option maxRecDepth 100000
set_option maxHeartbeats 0
set_option autoImplicit false
namespace Kl
open PySem PySem.Spec PyProof.Rows L2 Sm
def topS (i : Nat) : Stmt := PySem.Challenge.pw_whichpass_k93_whole_spoilt_programs_code.main.body.getD i (.Pass ⟨0, 0, 0, 0⟩)
abbrev FD (K : PySem.W.Frag) (x : Str) (i : Nat) : Prop := ∃ fd, FunD K x x (defArgs (topS i)) (defBody (topS i)) (defScope (topS i)) [] [] (He.ga K x) fd
structure Gf (K : PySem.W.Frag) (mg : Str → Option Value) : Prop where
  f_abs : mg "abs" = none
  f_all : mg "all" = none
  f_any : mg "any" = none
  f_bool : mg "bool" = none
  f_enumerate : mg "enumerate" = none
  f_int : mg "int" = none
  f_isinstance : mg "isinstance" = none
  f_len : mg "len" = none
  f_list : mg "list" = none
  f_min : mg "min" = none
  f_range : mg "range" = none
  f_set : mg "set" = none
  f_str : mg "str" = none
  f_sum : mg "sum" = none
  f_tuple : mg "tuple" = none
  i_DEEDS_MOST : ∃ t, mg "DEEDS_MOST" = some (.int 40 t)
  i_WORDS_MOST : ∃ t, mg "WORDS_MOST" = some (.int 12 t)
  i_WORD_MOST : ∃ t, mg "WORD_MOST" = some (.int 12 t)
  s_TEN_FIGURES : ∃ t, mg "TEN_FIGURES" = some (.str "0123456789" t)
  s_SMALL_LETTERS : ∃ t, mg "SMALL_LETTERS" = some (.str "abcdefghijklmnopqrstuvwxyz" t)
  g_PassError : mg "PassError" = some (.ref (He.ga K "PassError"))
  g_DataError : mg "DataError" = some (.ref (He.ga K "DataError"))
  g_BadForm : mg "BadForm" = some (.ref (He.ga K "BadForm"))
  g_BadProgram : mg "BadProgram" = some (.ref (He.ga K "BadProgram"))
  g_BadCode : mg "BadCode" = some (.ref (He.ga K "BadCode"))
  g_is_integer : mg "is_integer" = some (.ref (He.ga K "is_integer"))
  g_is_number : mg "is_number" = some (.ref (He.ga K "is_number"))
  g_integer_within : mg "integer_within" = some (.ref (He.ga K "integer_within"))
  g_is_tuple : mg "is_tuple" = some (.ref (He.ga K "is_tuple"))
  g_is_text : mg "is_text" = some (.ref (He.ga K "is_text"))
  g_is_word : mg "is_word" = some (.ref (He.ga K "is_word"))
  g_is_lot : mg "is_lot" = some (.ref (He.ga K "is_lot"))
  g_check_form : mg "check_form" = some (.ref (He.ga K "check_form"))
  g_is_form : mg "is_form" = some (.ref (He.ga K "is_form"))
  g_are_words : mg "are_words" = some (.ref (He.ga K "are_words"))
  g_are_deeds : mg "are_deeds" = some (.ref (He.ga K "are_deeds"))
  g_is_deed_form : mg "is_deed_form" = some (.ref (He.ga K "is_deed_form"))
  g_is_statement : mg "is_statement" = some (.ref (He.ga K "is_statement"))
  g_is_body : mg "is_body" = some (.ref (He.ga K "is_body"))
  g_are_bodies : mg "are_bodies" = some (.ref (He.ga K "are_bodies"))
  g_names_word : mg "names_word" = some (.ref (He.ga K "names_word"))
  g_count_in : mg "count_in" = some (.ref (He.ga K "count_in"))
  g_check_program : mg "check_program" = some (.ref (He.ga K "check_program"))
  g_are_nexts : mg "are_nexts" = some (.ref (He.ga K "are_nexts"))
  g_is_row : mg "is_row" = some (.ref (He.ga K "is_row"))
  g_nexts_of : mg "nexts_of" = some (.ref (He.ga K "nexts_of"))
  g_rows_word : mg "rows_word" = some (.ref (He.ga K "rows_word"))
  g_check_code : mg "check_code" = some (.ref (He.ga K "check_code"))
  g__law_forge : mg "_law_forge" = some (.ref (He.ga K "_law_forge"))
  g__law_blow : mg "_law_blow" = some (.ref (He.ga K "_law_blow"))
  g__law_whole : mg "_law_whole" = some (.ref (He.ga K "_law_whole"))
  g__law_form : mg "_law_form" = some (.ref (He.ga K "_law_form"))
  g__law_body : mg "_law_body" = some (.ref (He.ga K "_law_body"))
  g__law_program : mg "_law_program" = some (.ref (He.ga K "_law_program"))
  g__law_is_word : mg "_law_is_word" = some (.ref (He.ga K "_law_is_word"))
  g__law_is_form : mg "_law_is_form" = some (.ref (He.ga K "_law_is_form"))
  g__law_statements : mg "_law_statements" = some (.ref (He.ga K "_law_statements"))
  g__law_unlike : mg "_law_unlike" = some (.ref (He.ga K "_law_unlike"))
  g__law_program_due : mg "_law_program_due" = some (.ref (He.ga K "_law_program_due"))
  g__law_code : mg "_law_code" = some (.ref (He.ga K "_law_code"))
  g__law_row_word : mg "_law_row_word" = some (.ref (He.ga K "_law_row_word"))
  g__law_code_due : mg "_law_code_due" = some (.ref (He.ga K "_law_code_due"))
  g__law_heard : mg "_law_heard" = some (.ref (He.ga K "_law_heard"))
  g__law_right : mg "_law_right" = some (.ref (He.ga K "_law_right"))
  g__law_bent : mg "_law_bent" = some (.ref (He.ga K "_law_bent"))
  g__law_many : mg "_law_many" = some (.ref (He.ga K "_law_many"))
  g_law : mg "law" = some (.ref (He.ga K "law"))
  d_is_integer : FD K "is_integer" 12
  d_is_number : FD K "is_number" 13
  d_integer_within : FD K "integer_within" 14
  d_is_tuple : FD K "is_tuple" 15
  d_is_text : FD K "is_text" 16
  d_is_word : FD K "is_word" 17
  d_is_lot : FD K "is_lot" 19
  d_check_form : FD K "check_form" 21
  d_is_form : FD K "is_form" 22
  d_are_words : FD K "are_words" 24
  d_are_deeds : FD K "are_deeds" 25
  d_is_deed_form : FD K "is_deed_form" 26
  d_is_statement : FD K "is_statement" 27
  d_is_body : FD K "is_body" 28
  d_are_bodies : FD K "are_bodies" 29
  d_names_word : FD K "names_word" 30
  d_count_in : FD K "count_in" 31
  d_check_program : FD K "check_program" 32
  d_are_nexts : FD K "are_nexts" 34
  d_is_row : FD K "is_row" 35
  d_nexts_of : FD K "nexts_of" 36
  d_rows_word : FD K "rows_word" 37
  d_check_code : FD K "check_code" 38
  d__law_forge : FD K "_law_forge" 40
  d__law_blow : FD K "_law_blow" 41
  d__law_whole : FD K "_law_whole" 42
  d__law_form : FD K "_law_form" 43
  d__law_body : FD K "_law_body" 44
  d__law_program : FD K "_law_program" 45
  d__law_is_word : FD K "_law_is_word" 46
  d__law_is_form : FD K "_law_is_form" 47
  d__law_statements : FD K "_law_statements" 48
  d__law_unlike : FD K "_law_unlike" 49
  d__law_program_due : FD K "_law_program_due" 50
  d__law_code : FD K "_law_code" 51
  d__law_row_word : FD K "_law_row_word" 52
  d__law_code_due : FD K "_law_code_due" 53
  d__law_heard : FD K "_law_heard" 54
  d__law_right : FD K "_law_right" 55
  d__law_bent : FD K "_law_bent" 56
  d__law_many : FD K "_law_many" 57
  d_law : FD K "law" 58
  x_BadForm : XfC K (He.ga K "BadForm")
  e_BadForm : ExcC K (He.ga K "BadForm")
  n_BadForm_at : PySem.W.findIn K (.ref (He.ga K "BadForm")) "at" = some none
  x_BadProgram : XfC K (He.ga K "BadProgram")
  e_BadProgram : ExcC K (He.ga K "BadProgram")
  n_BadProgram_at : PySem.W.findIn K (.ref (He.ga K "BadProgram")) "at" = some none
  n_BadProgram_word : PySem.W.findIn K (.ref (He.ga K "BadProgram")) "word" = some none
  x_BadCode : XfC K (He.ga K "BadCode")
  e_BadCode : ExcC K (He.ga K "BadCode")
  n_BadCode_at : PySem.W.findIn K (.ref (He.ga K "BadCode")) "at" = some none
  n_BadCode_word : PySem.W.findIn K (.ref (He.ga K "BadCode")) "word" = some none
  t_BadCode_BadCode : PySem.W.exmOne K (.ref (He.ga K "BadCode")) (.ref (He.ga K "BadCode")) = some true
  t_BadCode_BadForm : PySem.W.exmOne K (.ref (He.ga K "BadCode")) (.ref (He.ga K "BadForm")) = some false
  t_BadCode_BadProgram : PySem.W.exmOne K (.ref (He.ga K "BadCode")) (.ref (He.ga K "BadProgram")) = some false
  t_BadForm_BadCode : PySem.W.exmOne K (.ref (He.ga K "BadForm")) (.ref (He.ga K "BadCode")) = some false
  t_BadForm_BadForm : PySem.W.exmOne K (.ref (He.ga K "BadForm")) (.ref (He.ga K "BadForm")) = some true
  t_BadForm_BadProgram : PySem.W.exmOne K (.ref (He.ga K "BadForm")) (.ref (He.ga K "BadProgram")) = some false
  t_BadProgram_BadCode : PySem.W.exmOne K (.ref (He.ga K "BadProgram")) (.ref (He.ga K "BadCode")) = some false
  t_BadProgram_BadForm : PySem.W.exmOne K (.ref (He.ga K "BadProgram")) (.ref (He.ga K "BadForm")) = some false
  t_BadProgram_BadProgram : PySem.W.exmOne K (.ref (He.ga K "BadProgram")) (.ref (He.ga K "BadProgram")) = some true
  k_BadCode_BadProgram : PySem.W.kitOne K (.ref (He.ga K "BadCode")) (.ref (He.ga K "BadProgram")) = some false
  k_BadCode_DataError : PySem.W.kitOne K (.ref (He.ga K "BadCode")) (.ref (He.ga K "DataError")) = some true
  k_BadCode_PassError : PySem.W.kitOne K (.ref (He.ga K "BadCode")) (.ref (He.ga K "PassError")) = some true
  k_BadProgram_BadProgram : PySem.W.kitOne K (.ref (He.ga K "BadProgram")) (.ref (He.ga K "BadProgram")) = some true
  k_BadProgram_DataError : PySem.W.kitOne K (.ref (He.ga K "BadProgram")) (.ref (He.ga K "DataError")) = some true
  k_BadProgram_PassError : PySem.W.kitOne K (.ref (He.ga K "BadProgram")) (.ref (He.ga K "PassError")) = some true
def tab_is_form (c : Str) : Option Bool := ([("BadForm", true), ("BadProgram", false), ("BadCode", false)] : List (Str × Bool)).lookup c
theorem tin_is_form {c : Str} (h : tab_is_form c = some true) : c = "BadForm" := by
  unfold tab_is_form at h
  rw [List.lookup_cons] at h
  by_cases h_BadForm : c = "BadForm"
  · exact h_BadForm
  rw [show (c == ("BadForm" : Str)) = false from beq_eq_false_iff_ne.mpr h_BadForm] at h
  rw [List.lookup_cons] at h
  by_cases h_BadProgram : c = "BadProgram"
  · subst h_BadProgram
    simp at h
  rw [show (c == ("BadProgram" : Str)) = false from beq_eq_false_iff_ne.mpr h_BadProgram] at h
  rw [List.lookup_cons] at h
  by_cases h_BadCode : c = "BadCode"
  · subst h_BadCode
    simp at h
  rw [show (c == ("BadCode" : Str)) = false from beq_eq_false_iff_ne.mpr h_BadCode] at h
  cases h
section
variable {K : PySem.W.Frag} {mg : Str → Option Value} {c : Str}
theorem xf_of_is_form (G : Gf K mg) (h : tab_is_form c = some true) : XfC K (He.ga K c) := by
  rcases tin_is_form h with rfl
  · exact G.x_BadForm
theorem ec_of_is_form (G : Gf K mg) (h : tab_is_form c = some true) : ExcC K (He.ga K c) := by
  rcases tin_is_form h with rfl
  · exact G.e_BadForm
theorem na_is_form_at (G : Gf K mg) (h : tab_is_form c = some true) : PySem.W.findIn K (.ref (He.ga K c)) "at" = some none := by
  rcases tin_is_form h with rfl
  · exact G.n_BadForm_at
theorem exa_is_form (G : Gf K mg) {b : Bool} (h : tab_is_form c = some b) : PySem.W.exmAny K (.ref (He.ga K c)) [.ref (He.ga K "BadForm")] = some b := by
  unfold tab_is_form at h
  rw [List.lookup_cons] at h
  by_cases h_BadForm : c = "BadForm"
  · subst h_BadForm
    simp only [beq_self_eq_true, Option.some.injEq] at h
    subst h
    unfold PySem.W.exmAny
    simp only [PySem.W.exmAny, G.t_BadForm_BadForm]
    rfl
  rw [show (c == ("BadForm" : Str)) = false from beq_eq_false_iff_ne.mpr h_BadForm] at h
  rw [List.lookup_cons] at h
  by_cases h_BadProgram : c = "BadProgram"
  · subst h_BadProgram
    simp only [beq_self_eq_true, Option.some.injEq] at h
    subst h
    unfold PySem.W.exmAny
    simp only [PySem.W.exmAny, G.t_BadProgram_BadForm]
    rfl
  rw [show (c == ("BadProgram" : Str)) = false from beq_eq_false_iff_ne.mpr h_BadProgram] at h
  rw [List.lookup_cons] at h
  by_cases h_BadCode : c = "BadCode"
  · subst h_BadCode
    simp only [beq_self_eq_true, Option.some.injEq] at h
    subst h
    unfold PySem.W.exmAny
    simp only [PySem.W.exmAny, G.t_BadCode_BadForm]
    rfl
  rw [show (c == ("BadCode" : Str)) = false from beq_eq_false_iff_ne.mpr h_BadCode] at h
  cases h
end
theorem ex_is_form {K : PySem.W.Frag} {mg : Str → Option Value} (G : Gf K mg) {fb : SS} {nm : Option Nat} : ∀ q ∈ ([[.ref (He.ga K "BadForm")]] : List (List Value)).zip [(⟨tab_is_form, nm, fb⟩ : ClD)], ∀ c b, q.2.m c = some b → PySem.W.exmAny K (.ref (He.ga K c)) q.1 = some b := by
  intro q hq c b h
  simp only [List.zip_cons_cons, List.zip_nil_right, List.mem_singleton] at hq
  subst hq
  exact exa_is_form G h
def tab__law_heard (c : Str) : Option Bool := ([("BadForm", false), ("BadProgram", true), ("BadCode", true)] : List (Str × Bool)).lookup c
theorem tin__law_heard {c : Str} (h : tab__law_heard c = some true) : c = "BadProgram" ∨ c = "BadCode" := by
  unfold tab__law_heard at h
  rw [List.lookup_cons] at h
  by_cases h_BadForm : c = "BadForm"
  · subst h_BadForm
    simp at h
  rw [show (c == ("BadForm" : Str)) = false from beq_eq_false_iff_ne.mpr h_BadForm] at h
  rw [List.lookup_cons] at h
  by_cases h_BadProgram : c = "BadProgram"
  · exact Or.inl h_BadProgram
  rw [show (c == ("BadProgram" : Str)) = false from beq_eq_false_iff_ne.mpr h_BadProgram] at h
  rw [List.lookup_cons] at h
  by_cases h_BadCode : c = "BadCode"
  · exact Or.inr (h_BadCode)
  rw [show (c == ("BadCode" : Str)) = false from beq_eq_false_iff_ne.mpr h_BadCode] at h
  cases h
section
variable {K : PySem.W.Frag} {mg : Str → Option Value} {c : Str}
theorem xf_of__law_heard (G : Gf K mg) (h : tab__law_heard c = some true) : XfC K (He.ga K c) := by
  rcases tin__law_heard h with rfl | rfl
  · exact G.x_BadProgram
  · exact G.x_BadCode
theorem ec_of__law_heard (G : Gf K mg) (h : tab__law_heard c = some true) : ExcC K (He.ga K c) := by
  rcases tin__law_heard h with rfl | rfl
  · exact G.e_BadProgram
  · exact G.e_BadCode
theorem na__law_heard_at (G : Gf K mg) (h : tab__law_heard c = some true) : PySem.W.findIn K (.ref (He.ga K c)) "at" = some none := by
  rcases tin__law_heard h with rfl | rfl
  · exact G.n_BadProgram_at
  · exact G.n_BadCode_at
theorem na__law_heard_word (G : Gf K mg) (h : tab__law_heard c = some true) : PySem.W.findIn K (.ref (He.ga K c)) "word" = some none := by
  rcases tin__law_heard h with rfl | rfl
  · exact G.n_BadProgram_word
  · exact G.n_BadCode_word
theorem exa__law_heard (G : Gf K mg) {b : Bool} (h : tab__law_heard c = some b) : PySem.W.exmAny K (.ref (He.ga K c)) [.ref (He.ga K "BadProgram"), .ref (He.ga K "BadCode")] = some b := by
  unfold tab__law_heard at h
  rw [List.lookup_cons] at h
  by_cases h_BadForm : c = "BadForm"
  · subst h_BadForm
    simp only [beq_self_eq_true, Option.some.injEq] at h
    subst h
    unfold PySem.W.exmAny
    simp only [PySem.W.exmAny, G.t_BadForm_BadProgram, G.t_BadForm_BadCode]
    rfl
  rw [show (c == ("BadForm" : Str)) = false from beq_eq_false_iff_ne.mpr h_BadForm] at h
  rw [List.lookup_cons] at h
  by_cases h_BadProgram : c = "BadProgram"
  · subst h_BadProgram
    simp only [beq_self_eq_true, Option.some.injEq] at h
    subst h
    unfold PySem.W.exmAny
    simp only [PySem.W.exmAny, G.t_BadProgram_BadProgram, G.t_BadProgram_BadCode]
    rfl
  rw [show (c == ("BadProgram" : Str)) = false from beq_eq_false_iff_ne.mpr h_BadProgram] at h
  rw [List.lookup_cons] at h
  by_cases h_BadCode : c = "BadCode"
  · subst h_BadCode
    simp only [beq_self_eq_true, Option.some.injEq] at h
    subst h
    unfold PySem.W.exmAny
    simp only [PySem.W.exmAny, G.t_BadCode_BadProgram, G.t_BadCode_BadCode]
    rfl
  rw [show (c == ("BadCode" : Str)) = false from beq_eq_false_iff_ne.mpr h_BadCode] at h
  cases h
def tab__law_heard_BadProgram (c : Str) : Option Bool := ([("BadProgram", true), ("BadCode", false)] : List (Str × Bool)).lookup c
theorem kit__law_heard_BadProgram (G : Gf K mg) (h : tab__law_heard c = some true) : ∀ b, tab__law_heard_BadProgram c = some b → PySem.W.kitOne K (.ref (He.ga K c)) (.ref (He.ga K "BadProgram")) = some b := by
  intro b hb
  rcases tin__law_heard h with rfl | rfl
  · rw [show tab__law_heard_BadProgram "BadProgram" = some true from by decide +kernel] at hb
    cases hb
    exact G.k_BadProgram_BadProgram
  · rw [show tab__law_heard_BadProgram "BadCode" = some false from by decide +kernel] at hb
    cases hb
    exact G.k_BadCode_BadProgram
def tab__law_heard_DataError (c : Str) : Option Bool := ([("BadProgram", true), ("BadCode", true)] : List (Str × Bool)).lookup c
theorem kit__law_heard_DataError (G : Gf K mg) (h : tab__law_heard c = some true) : ∀ b, tab__law_heard_DataError c = some b → PySem.W.kitOne K (.ref (He.ga K c)) (.ref (He.ga K "DataError")) = some b := by
  intro b hb
  rcases tin__law_heard h with rfl | rfl
  · rw [show tab__law_heard_DataError "BadProgram" = some true from by decide +kernel] at hb
    cases hb
    exact G.k_BadProgram_DataError
  · rw [show tab__law_heard_DataError "BadCode" = some true from by decide +kernel] at hb
    cases hb
    exact G.k_BadCode_DataError
def tab__law_heard_PassError (c : Str) : Option Bool := ([("BadProgram", true), ("BadCode", true)] : List (Str × Bool)).lookup c
theorem kit__law_heard_PassError (G : Gf K mg) (h : tab__law_heard c = some true) : ∀ b, tab__law_heard_PassError c = some b → PySem.W.kitOne K (.ref (He.ga K c)) (.ref (He.ga K "PassError")) = some b := by
  intro b hb
  rcases tin__law_heard h with rfl | rfl
  · rw [show tab__law_heard_PassError "BadProgram" = some true from by decide +kernel] at hb
    cases hb
    exact G.k_BadProgram_PassError
  · rw [show tab__law_heard_PassError "BadCode" = some true from by decide +kernel] at hb
    cases hb
    exact G.k_BadCode_PassError
end
theorem ex__law_heard {K : PySem.W.Frag} {mg : Str → Option Value} (G : Gf K mg) {fb : SS} {nm : Option Nat} : ∀ q ∈ ([[.ref (He.ga K "BadProgram"), .ref (He.ga K "BadCode")]] : List (List Value)).zip [(⟨tab__law_heard, nm, fb⟩ : ClD)], ∀ c b, q.2.m c = some b → PySem.W.exmAny K (.ref (He.ga K c)) q.1 = some b := by
  intro q hq c b h
  simp only [List.zip_cons_cons, List.zip_nil_right, List.mem_singleton] at hq
  subst hq
  exact exa__law_heard G h
section
variable {P : Program} {w : World} {K : PySem.W.Frag} {mg : Str → Option Value} {base : Heap}
def N_is_integer : List Str := ["thing"]
theorem sc_is_integer : FnScope N_is_integer ["thing"] (defScope (topS 12)) := ⟨rfl, rfl, rfl, by decide +kernel, rfl, by decide +kernel, by decide +kernel⟩
theorem bi_is_integer : BindOk "is_integer" "is_integer" (defArgs (topS 12)) (defBody (topS 12)) (defScope (topS 12)) ["thing"] := fun _ _ _ _ _ _ us hl => match us, hl with | [_], _ => rfl
noncomputable def b_is_integer : SS := (sRet (eAndV (eOp1 (oIsi "int") (eVar 0)) (eNotV (eOp1 (oIsi "bool") (eVar 0)))))
noncomputable def m_is_integer : FS := fnF N_is_integer.length b_is_integer
theorem ok_is_integer (G : Gf K mg) : Fn P w K mg base 1 "is_integer" 1 m_is_integer := mk_fn G.d_is_integer sc_is_integer G.g_is_integer bi_is_integer fun cdv A outer s0 H E hr => by
  refine sn_one ?_
  exact s1_ret (se_and (se_isi rfl rfl G.f_isinstance rfl G.f_int bo_int io_int (se_var 0)) (se_one (se_not (se_isi rfl rfl G.f_isinstance rfl G.f_bool bo_bool io_bool (se_var 0)))))

def N_is_number : List Str := ["thing"]
theorem sc_is_number : FnScope N_is_number ["thing"] (defScope (topS 13)) := ⟨rfl, rfl, rfl, by decide +kernel, rfl, by decide +kernel, by decide +kernel⟩
theorem bi_is_number : BindOk "is_number" "is_number" (defArgs (topS 13)) (defBody (topS 13)) (defScope (topS 13)) ["thing"] := fun _ _ _ _ _ _ us hl => match us, hl with | [_], _ => rfl
noncomputable def b_is_number : SS := (sRet (eAndV (eUser 1 m_is_integer (aCons (eVar 0) aNil)) (eOp2 oGe (eVar 0) (eC (.int 0)))))
noncomputable def m_is_number : FS := fnF N_is_number.length b_is_number
theorem ok_is_number (G : Gf K mg) (f_is_integer : Fn P w K mg base 1 "is_integer" 1 m_is_integer) : Fn P w K mg base 2 "is_number" 1 m_is_number := mk_fn G.d_is_number sc_is_number G.g_is_number bi_is_number fun cdv A outer s0 H E hr => by
  refine sn_one ?_
  exact s1_ret (se_and (se_user f_is_integer (hr.mono (by decide)) rfl tk_cx (sa_cons (se_var 0) sa_nil)) (se_one (se_cmp op_ge sim_cmp (se_var 0) se_int)))

def N_integer_within : List Str := ["thing", "low", "high"]
theorem sc_integer_within : FnScope N_integer_within ["thing", "low", "high"] (defScope (topS 14)) := ⟨rfl, rfl, rfl, by decide +kernel, rfl, by decide +kernel, by decide +kernel⟩
theorem bi_integer_within : BindOk "integer_within" "integer_within" (defArgs (topS 14)) (defBody (topS 14)) (defScope (topS 14)) ["thing", "low", "high"] := fun _ _ _ _ _ _ us hl => match us, hl with | [_, _, _], _ => rfl
noncomputable def b_integer_within : SS := (sRet (eAndV (eUser 1 m_is_integer (aCons (eVar 0) aNil)) (eChain oLe oLe (eVar 1) (eVar 0) (eVar 2))))
noncomputable def m_integer_within : FS := fnF N_integer_within.length b_integer_within
theorem ok_integer_within (G : Gf K mg) (f_is_integer : Fn P w K mg base 1 "is_integer" 1 m_is_integer) : Fn P w K mg base 2 "integer_within" 3 m_integer_within := mk_fn G.d_integer_within sc_integer_within G.g_integer_within bi_integer_within fun cdv A outer s0 H E hr => by
  refine sn_one ?_
  exact s1_ret (se_and (se_user f_is_integer (hr.mono (by decide)) rfl tk_cx (sa_cons (se_var 0) sa_nil)) (se_one (se_chain op_le op_le sim_cmp sim_cmp (se_var 1) (se_var 0) (se_var 2))))

def N_is_tuple : List Str := ["thing", "many"]
theorem sc_is_tuple : FnScope N_is_tuple ["thing", "many"] (defScope (topS 15)) := ⟨rfl, rfl, rfl, by decide +kernel, rfl, by decide +kernel, by decide +kernel⟩
theorem bi_is_tuple : BindOk "is_tuple" "is_tuple" (defArgs (topS 15)) (defBody (topS 15)) (defScope (topS 15)) ["thing", "many"] := fun _ _ _ _ _ _ us hl => match us, hl with | [_, _], _ => rfl
noncomputable def b_is_tuple : SS := (sRet (eAndV (eOp1 (oIsi "tuple") (eVar 0)) (eOp2 (oEq false) (eCall fLen (aCons (eVar 0) aNil)) (eVar 1))))
noncomputable def m_is_tuple : FS := fnF N_is_tuple.length b_is_tuple
theorem ok_is_tuple (G : Gf K mg) : Fn P w K mg base 1 "is_tuple" 2 m_is_tuple := mk_fn G.d_is_tuple sc_is_tuple G.g_is_tuple bi_is_tuple fun cdv A outer s0 H E hr => by
  refine sn_one ?_
  exact s1_ret (se_and (se_isi rfl rfl G.f_isinstance rfl G.f_tuple bo_tuple io_tuple (se_var 0)) (se_one (se_cmp (op_eqD (room_u hr)) sim_eqD (se_callB call_len sim_len rfl G.f_len bo_len (sa_cons (se_var 0) sa_nil)) (se_var 1))))

def N_is_text : List Str := ["thing", "word"]
theorem sc_is_text : FnScope N_is_text ["thing", "word"] (defScope (topS 16)) := ⟨rfl, rfl, rfl, by decide +kernel, rfl, by decide +kernel, by decide +kernel⟩
theorem bi_is_text : BindOk "is_text" "is_text" (defArgs (topS 16)) (defBody (topS 16)) (defScope (topS 16)) ["thing", "word"] := fun _ _ _ _ _ _ us hl => match us, hl with | [_, _], _ => rfl
noncomputable def b_is_text : SS := (sRet (eAndV (eOp1 (oIsi "str") (eVar 0)) (eOp2 (oEq false) (eVar 0) (eVar 1))))
noncomputable def m_is_text : FS := fnF N_is_text.length b_is_text
theorem ok_is_text (G : Gf K mg) : Fn P w K mg base 1 "is_text" 2 m_is_text := mk_fn G.d_is_text sc_is_text G.g_is_text bi_is_text fun cdv A outer s0 H E hr => by
  refine sn_one ?_
  exact s1_ret (se_and (se_isi rfl rfl G.f_isinstance rfl G.f_str bo_str io_str (se_var 0)) (se_one (se_cmp (op_eqD (room_u hr)) sim_eqD (se_var 0) (se_var 1))))

def N_is_word : List Str := ["thing", "sign"]
theorem sc_is_word : FnScope N_is_word ["thing"] (defScope (topS 17)) := ⟨rfl, rfl, rfl, by decide +kernel, rfl, by decide +kernel, by decide +kernel⟩
theorem bi_is_word : BindOk "is_word" "is_word" (defArgs (topS 17)) (defBody (topS 17)) (defScope (topS 17)) ["thing"] := fun _ _ _ _ _ _ us hl => match us, hl with | [_], _ => rfl
noncomputable def b_is_word : SS := (sCons (sIf (bOr (bNot (bVal (eOp1 (oIsi "str") (eVar 0)))) (bNot (bVal (eChain oLe oLe (eC (.int 1)) (eCall fLen (aCons (eVar 0) aNil)) (eC (.int 12)))))) (sRet (eC (.bl false))) sNil)
  (sRet (eAndV (eOp2 (oIn false) (eOp2 oIx (eVar 0) (eC (.int 0))) (eC (.str "abcdefghijklmnopqrstuvwxyz"))) (eTrim (eCall fAll (aCons (eComp (iStrD (eVar 0)) (.nm 1) bYes (eOrV (eOp2 (oIn false) (eVar 1) (eC (.str "abcdefghijklmnopqrstuvwxyz"))) (eOp2 (oIn false) (eVar 1) (eC (.str "0123456789")))) [1]) aNil))))))
noncomputable def m_is_word : FS := fnF N_is_word.length b_is_word
theorem ok_is_word (G : Gf K mg) : Fn P w K mg base 1 "is_word" 1 m_is_word := mk_fn G.d_is_word sc_is_word G.g_is_word bi_is_word fun cdv A outer s0 H E hr => by
  refine sn_cons ?_ ?_
  · skip
    refine s1_if (sb_w (sw_or (sb_not (sb_val (se_isi rfl rfl G.f_isinstance rfl G.f_str bo_str io_str (se_var 0)))) (sw_or1 (sb_not (sb_chain op_le op_le sim_cmp sim_cmp se_int (se_callB call_len sim_len rfl G.f_len bo_len (sa_cons (se_var 0) sa_nil)) (se_gint rfl G.i_WORD_MOST)))))) ?_ ?_
    · skip
      refine sn_one ?_
      exact s1_ret se_bl
    · skip
      exact sn_nil
  refine sn_one ?_
  exact s1_ret (se_and (se_cmp op_inAll sim_in (se_ix ix_seq sim_ix (se_var 0) se_int) (se_gstr rfl G.s_SMALL_LETTERS) (by first | exact nomark _ | rfl | with_unfolding_all rfl)) (se_one (se_trim (se_callB (cr_all rfl) sim_bools rfl G.f_all bo_all (sa_cons (se_comp (own := [("sign", 1)]) rfl rfl sc_is_word.nd (si_str (se_var 0)) (show BlkOk N_is_word (defScope (topS 17)) _ _ from ⟨rfl, by decide +kernel, by decide +kernel, by decide +kernel, by decide +kernel⟩) (fun _ _ _ _ _ => (sg_name sc_is_word.nd (i := 1) rfl (by first | exact Or.inl rfl | exact Or.inr rfl))) (fun _ _ _ _ _ => sbs_nil) (fun _ _ _ _ _ => (se_or (se_cmp op_inAll sim_in (se_var 1) (se_gstr rfl G.s_SMALL_LETTERS) (by first | exact nomark _ | rfl | with_unfolding_all rfl)) (se_one (se_cmp op_inAll sim_in (se_var 1) (se_gstr rfl G.s_TEN_FIGURES) (by first | exact nomark _ | rfl | with_unfolding_all rfl)))))) sa_nil)))))

def N_is_lot : List Str := ["thing", "number"]
theorem sc_is_lot : FnScope N_is_lot ["thing"] (defScope (topS 19)) := ⟨rfl, rfl, rfl, by decide +kernel, rfl, by decide +kernel, by decide +kernel⟩
theorem bi_is_lot : BindOk "is_lot" "is_lot" (defArgs (topS 19)) (defBody (topS 19)) (defScope (topS 19)) ["thing"] := fun _ _ _ _ _ _ us hl => match us, hl with | [_], _ => rfl
noncomputable def b_is_lot : SS := (sCons (sIf (bOr (bNot (bVal (eUser 2 m_is_tuple (aCons (eVar 0) (aCons (eC (.int 2)) aNil))))) (bOr (bNot (bVal (eTrim (eCall fAll (aCons (eComp (iTupD (eVar 0)) (.nm 1) bYes (eUser 1 m_is_integer (aCons (eVar 1) aNil)) [1]) aNil))))) (bVal (eOp2 oLt (eOp2 oIx (eVar 0) (eC (.int 1))) (eC (.int 0)))))) (sRet (eC (.bl false))) sNil)
  (sRet (eOrV (eOp2 (oEq false) (eOp2 oIx (eVar 0) (eC (.int 1))) (eC (.int 0))) (eChain oLe oLt (eC (.int 0)) (eOp2 oIx (eVar 0) (eC (.int 0))) (eOp2 oIx (eVar 0) (eC (.int 1)))))))
noncomputable def m_is_lot : FS := fnF N_is_lot.length b_is_lot
theorem ok_is_lot (G : Gf K mg) (f_is_integer : Fn P w K mg base 1 "is_integer" 1 m_is_integer) (f_is_tuple : Fn P w K mg base 1 "is_tuple" 2 m_is_tuple) : Fn P w K mg base 2 "is_lot" 1 m_is_lot := mk_fn G.d_is_lot sc_is_lot G.g_is_lot bi_is_lot fun cdv A outer s0 H E hr => by
  refine sn_cons ?_ ?_
  · skip
    refine s1_if (sb_w (sw_or (sb_not (sb_val (se_user f_is_tuple (hr.mono (by decide)) rfl tk_cx (sa_cons (se_var 0) (sa_cons se_int sa_nil))))) (sw_or (sb_not (sb_val (se_trim (se_callB (cr_all rfl) sim_bools rfl G.f_all bo_all (sa_cons (se_comp (own := [("number", 1)]) rfl rfl sc_is_lot.nd (si_tup rfl (se_var 0)) (show BlkOk N_is_lot (defScope (topS 19)) _ _ from ⟨rfl, by decide +kernel, by decide +kernel, by decide +kernel, by decide +kernel⟩) (fun _ _ _ _ _ => (sg_name sc_is_lot.nd (i := 1) rfl (by first | exact Or.inl rfl | exact Or.inr rfl))) (fun _ _ _ _ _ => sbs_nil) (fun _ _ _ _ _ => (se_user f_is_integer (hr.mono (by decide)) rfl takes0 (sa_cons (se_var 1) sa_nil)))) sa_nil))))) (sw_or1 (sb_cmp op_lt sim_cmp (se_ix ix_seq sim_ix (se_var 0) se_int) se_int))))) ?_ ?_
    · skip
      refine sn_one ?_
      exact s1_ret se_bl
    · skip
      exact sn_nil
  refine sn_one ?_
  exact s1_ret (se_or (se_cmp (op_eqD (room_u hr)) sim_eqD (se_ix ix_seq sim_ix (se_var 0) se_int) se_int) (se_one (se_chain op_le op_lt sim_cmp sim_cmp se_int (se_ix ix_seq sim_ix (se_var 0) se_int) (se_ix ix_seq sim_ix (se_var 0) se_int))))

def N_check_form : List Str := ["thing", "at", "number"]
theorem sc_check_form : FnScope N_check_form ["thing"] (defScope (topS 21)) := ⟨rfl, rfl, rfl, by decide +kernel, rfl, by decide +kernel, by decide +kernel⟩
theorem bi_check_form : BindOk "check_form" "check_form" (defArgs (topS 21)) (defBody (topS 21)) (defScope (topS 21)) ["thing"] := fun _ _ _ _ _ _ us hl => match us, hl with | [_], _ => rfl
noncomputable def b_check_form : SS := (sCons (sIf (bNot (bVal (eUser 2 m_is_tuple (aCons (eVar 0) (aCons (eC (.int 4)) aNil))))) (sRaise "BadForm" ["at"] (aCons (eOp1 oNeg (eC (.int 1))) aNil)) sNil)
  (sCons (sFor (iEnumD (eVar 0)) (.tp [1, 2]) (sIf (bNot (bVal (eUser 1 m_is_integer (aCons (eVar 2) aNil)))) (sRaise "BadForm" ["at"] (aCons (eVar 1) aNil)) sNil))
  (sCons (sIf (bVal (eOp2 oLt (eOp2 oIx (eVar 0) (eC (.int 1))) (eC (.int 0)))) (sRaise "BadForm" ["at"] (aCons (eC (.int 1)) aNil)) sNil)
  (sCons (sIf (bNot (bVal (eUser 1 m_is_lot (aCons (eSl (eVar 0) noPart (onPart (eC (.int 2)))) aNil)))) (sRaise "BadForm" ["at"] (aCons (eC (.int 0)) aNil)) sNil)
  (sCons (sIf (bVal (eOp2 (oEq true) (eOp2 (oEq false) (eOp2 oIx (eVar 0) (eC (.int 3))) (eC (.int 0))) (eOp2 (oEq false) (eOp2 oIx (eVar 0) (eC (.int 1))) (eC (.int 0))))) (sRaise "BadForm" ["at"] (aCons (eC (.int 3)) aNil)) sNil)
  (sRet (eOp2 oIx (eVar 0) (eC (.int 1)))))))))
noncomputable def m_check_form : FS := fnF N_check_form.length b_check_form
theorem ok_check_form (G : Gf K mg) (f_is_integer : Fn P w K mg base 1 "is_integer" 1 m_is_integer) (f_is_lot : Fn P w K mg base 2 "is_lot" 1 m_is_lot) (f_is_tuple : Fn P w K mg base 1 "is_tuple" 2 m_is_tuple) (x_BadForm : Xc P w K mg base "BadForm" ["at"]) : Fn P w K mg base 3 "check_form" 1 m_check_form := mk_fn G.d_check_form sc_check_form G.g_check_form bi_check_form fun cdv A outer s0 H E hr => by
  refine sn_cons ?_ ?_
  · skip
    refine s1_if (sb_not (sb_val (se_user f_is_tuple (hr.mono (by decide)) rfl tk_cx (sa_cons (se_var 0) (sa_cons se_int sa_nil))))) ?_ ?_
    · skip
      refine sn_one ?_
      exact s1_raise rfl tk_cx x_BadForm rfl (hr.mono (by first | decide | omega)) rfl (sa_cons (se_un un_neg sim_neg se_int) sa_nil)
    · skip
      exact sn_nil
  refine sn_cons ?_ ?_
  · skip
    refine s1_for po_cx rfl (si_enumT rfl rfl G.f_enumerate (se_var 0)) rfl (sg_tup rfl (sgs_cons (sg_name sc_check_form.nd (i := 1) rfl (by first | exact Or.inl rfl | exact Or.inr rfl)) (sgs_cons (sg_name sc_check_form.nd (i := 2) rfl (by first | exact Or.inl rfl | exact Or.inr rfl)) sgs_nil))) ?_
    refine sn_one ?_
    refine s1_if (sb_not (sb_val (se_user f_is_integer (hr.mono (by decide)) rfl tk_cx (sa_cons (se_var 2) sa_nil)))) ?_ ?_
    · skip
      refine sn_one ?_
      exact s1_raise rfl tk_cx x_BadForm rfl (hr.mono (by first | decide | omega)) rfl (sa_cons (se_var 1) sa_nil)
    · skip
      exact sn_nil
  refine sn_cons ?_ ?_
  · skip
    refine s1_if (sb_cmp op_lt sim_cmp (se_ix ix_seq sim_ix (se_var 0) se_int) se_int) ?_ ?_
    · skip
      refine sn_one ?_
      exact s1_raise rfl tk_cx x_BadForm rfl (hr.mono (by first | decide | omega)) rfl (sa_cons se_int sa_nil)
    · skip
      exact sn_nil
  refine sn_cons ?_ ?_
  · skip
    refine s1_if (sb_not (sb_val (se_user f_is_lot (hr.mono (by decide)) rfl tk_cx (sa_cons (se_slice rfl (se_var 0) so_none (so_some se_int)) sa_nil)))) ?_ ?_
    · skip
      refine sn_one ?_
      exact s1_raise rfl tk_cx x_BadForm rfl (hr.mono (by first | decide | omega)) rfl (sa_cons se_int sa_nil)
    · skip
      exact sn_nil
  refine sn_cons ?_ ?_
  · skip
    refine s1_if (sb_cmp (op_neD (room_u hr)) sim_neD (se_cmp (op_eqD (room_u hr)) sim_eqD (se_ix ix_seq sim_ix (se_var 0) se_int) se_int) (se_cmp (op_eqD (room_u hr)) sim_eqD (se_ix ix_seq sim_ix (se_var 0) se_int) se_int)) ?_ ?_
    · skip
      refine sn_one ?_
      exact s1_raise rfl tk_cx x_BadForm rfl (hr.mono (by first | decide | omega)) rfl (sa_cons se_int sa_nil)
    · skip
      exact sn_nil
  refine sn_one ?_
  exact s1_ret (se_ix ix_seq sim_ix (se_var 0) se_int)

def N_is_form : List Str := ["thing"]
theorem sc_is_form : FnScope N_is_form ["thing"] (defScope (topS 22)) := ⟨rfl, rfl, rfl, by decide +kernel, rfl, by decide +kernel, by decide +kernel⟩
theorem bi_is_form : BindOk "is_form" "is_form" (defArgs (topS 22)) (defBody (topS 22)) (defScope (topS 22)) ["thing"] := fun _ _ _ _ _ _ us hl => match us, hl with | [_], _ => rfl
noncomputable def b_is_form : SS := (sCons (sTry (sExpr (eUser 1 m_check_form (aCons (eVar 0) aNil))) [⟨tab_is_form, none, (sRet (eC (.bl false)))⟩])
  (sRet (eC (.bl true))))
noncomputable def m_is_form : FS := fnF N_is_form.length b_is_form
theorem ok_is_form (G : Gf K mg) (f_check_form : Fn P w K mg base 3 "check_form" 1 m_check_form) : Fn P w K mg base 4 "is_form" 1 m_is_form := mk_fn G.d_is_form sc_is_form G.g_is_form bi_is_form fun cdv A outer s0 H E hr => by
  refine sn_cons ?_ ?_
  · skip
    refine s1_try (css := [[.ref (He.ga K "BadForm")]]) rfl rfl tk_cx (fun W1 pn1 xe1 tk1 po1 => ?_) (cl_bare (.one ⟨rfl, by decide, .inl G.g_BadForm⟩) (fun a1 oe1 c1 dd1 pn1 hz hf hm1 => ?_) .nil) rfl (ex_is_form G)
    · skip
      refine sn_one ?_
      exact s1_expr (se_user f_check_form (hr.mono (by decide)) rfl tk1 (sa_cons (se_var 0) sa_nil))
    · skip
      refine sn_one ?_
      exact s1_ret se_bl
  refine sn_one ?_
  exact s1_ret se_bl

def N_are_words : List Str := ["thing", "least", "most", "word"]
theorem sc_are_words : FnScope N_are_words ["thing", "least", "most"] (defScope (topS 24)) := ⟨rfl, rfl, rfl, by decide +kernel, rfl, by decide +kernel, by decide +kernel⟩
theorem bi_are_words : BindOk "are_words" "are_words" (defArgs (topS 24)) (defBody (topS 24)) (defScope (topS 24)) ["thing", "least", "most"] := fun _ _ _ _ _ _ us hl => match us, hl with | [_, _, _], _ => rfl
noncomputable def b_are_words : SS := (sCons (sIf (bOr (bNot (bVal (eOp1 (oIsi "tuple") (eVar 0)))) (bOr (bNot (bVal (eChain oLe oLe (eVar 1) (eCall fLen (aCons (eVar 0) aNil)) (eVar 2)))) (bNot (bVal (eTrim (eCall fAll (aCons (eComp (iTupD (eVar 0)) (.nm 3) bYes (eUser 1 m_is_word (aCons (eVar 3) aNil)) [3]) aNil))))))) (sRet (eC (.bl false))) sNil)
  (sRet (eOp2 (oEq false) (eOp1 oLenSet (eVar 0)) (eCall fLen (aCons (eVar 0) aNil)))))
noncomputable def m_are_words : FS := fnF N_are_words.length b_are_words
theorem ok_are_words (G : Gf K mg) (f_is_word : Fn P w K mg base 1 "is_word" 1 m_is_word) : Fn P w K mg base 2 "are_words" 3 m_are_words := mk_fn G.d_are_words sc_are_words G.g_are_words bi_are_words fun cdv A outer s0 H E hr => by
  refine sn_cons ?_ ?_
  · skip
    refine s1_if (sb_w (sw_or (sb_not (sb_val (se_isi rfl rfl G.f_isinstance rfl G.f_tuple bo_tuple io_tuple (se_var 0)))) (sw_or (sb_not (sb_chain op_le op_le sim_cmp sim_cmp (se_var 1) (se_callB call_len sim_len rfl G.f_len bo_len (sa_cons (se_var 0) sa_nil)) (se_var 2))) (sw_or1 (sb_not (sb_val (se_trim (se_callB (cr_all rfl) sim_bools rfl G.f_all bo_all (sa_cons (se_comp (own := [("word", 3)]) rfl rfl sc_are_words.nd (si_tup rfl (se_var 0)) (show BlkOk N_are_words (defScope (topS 24)) _ _ from ⟨rfl, by decide +kernel, by decide +kernel, by decide +kernel, by decide +kernel⟩) (fun _ _ _ _ _ => (sg_name sc_are_words.nd (i := 3) rfl (by first | exact Or.inl rfl | exact Or.inr rfl))) (fun _ _ _ _ _ => sbs_nil) (fun _ _ _ _ _ => (se_user f_is_word (hr.mono (by decide)) rfl takes0 (sa_cons (se_var 3) sa_nil)))) sa_nil))))))))) ?_ ?_
    · skip
      refine sn_one ?_
      exact s1_ret se_bl
    · skip
      exact sn_nil
  refine sn_one ?_
  exact s1_ret (se_cmp (op_eqD (room_u hr)) sim_eqD (se_lenSet rfl rfl rfl G.f_len rfl G.f_set (se_var 0)) (se_callB call_len sim_len rfl G.f_len bo_len (sa_cons (se_var 0) sa_nil)))

def N_are_deeds : List Str := ["thing", "deed"]
theorem sc_are_deeds : FnScope N_are_deeds ["thing"] (defScope (topS 25)) := ⟨rfl, rfl, rfl, by decide +kernel, rfl, by decide +kernel, by decide +kernel⟩
theorem bi_are_deeds : BindOk "are_deeds" "are_deeds" (defArgs (topS 25)) (defBody (topS 25)) (defScope (topS 25)) ["thing"] := fun _ _ _ _ _ _ us hl => match us, hl with | [_], _ => rfl
noncomputable def b_are_deeds : SS := (sCons (sIf (bOr (bNot (bVal (eOp1 (oIsi "tuple") (eVar 0)))) (bNot (bVal (eTrim (eCall fAll (aCons (eComp (iTupD (eVar 0)) (.nm 1) bYes (eUser 2 m_is_tuple (aCons (eVar 1) (aCons (eC (.int 2)) aNil))) [1]) aNil)))))) (sRet (eC (.bl false))) sNil)
  (sRet (eUser 3 m_are_words (aCons (eTrim (eCall fTuple (aCons (eComp (iTupD (eVar 0)) (.nm 1) bYes (eOp2 oIx (eVar 1) (eC (.int 0))) [1]) aNil))) (aCons (eC (.int 0)) (aCons (eC (.int 40)) aNil))))))
noncomputable def m_are_deeds : FS := fnF N_are_deeds.length b_are_deeds
theorem ok_are_deeds (G : Gf K mg) (f_are_words : Fn P w K mg base 2 "are_words" 3 m_are_words) (f_is_tuple : Fn P w K mg base 1 "is_tuple" 2 m_is_tuple) : Fn P w K mg base 3 "are_deeds" 1 m_are_deeds := mk_fn G.d_are_deeds sc_are_deeds G.g_are_deeds bi_are_deeds fun cdv A outer s0 H E hr => by
  refine sn_cons ?_ ?_
  · skip
    refine s1_if (sb_w (sw_or (sb_not (sb_val (se_isi rfl rfl G.f_isinstance rfl G.f_tuple bo_tuple io_tuple (se_var 0)))) (sw_or1 (sb_not (sb_val (se_trim (se_callB (cr_all rfl) sim_bools rfl G.f_all bo_all (sa_cons (se_comp (own := [("deed", 1)]) rfl rfl sc_are_deeds.nd (si_tup rfl (se_var 0)) (show BlkOk N_are_deeds (defScope (topS 25)) _ _ from ⟨rfl, by decide +kernel, by decide +kernel, by decide +kernel, by decide +kernel⟩) (fun _ _ _ _ _ => (sg_name sc_are_deeds.nd (i := 1) rfl (by first | exact Or.inl rfl | exact Or.inr rfl))) (fun _ _ _ _ _ => sbs_nil) (fun _ _ _ _ _ => (se_user f_is_tuple (hr.mono (by decide)) rfl takes0 (sa_cons (se_var 1) (sa_cons se_int sa_nil))))) sa_nil)))))))) ?_ ?_
    · skip
      refine sn_one ?_
      exact s1_ret se_bl
    · skip
      exact sn_nil
  refine sn_one ?_
  exact s1_ret (se_user f_are_words (hr.mono (by decide)) rfl tk_cx (sa_cons (se_trim (se_callTy call_tuple_of sim_tuple rfl G.f_tuple bo_tuple (sa_cons (se_comp (own := [("deed", 1)]) rfl rfl sc_are_deeds.nd (si_tup rfl (se_var 0)) (show BlkOk N_are_deeds (defScope (topS 25)) _ _ from ⟨rfl, by decide +kernel, by decide +kernel, by decide +kernel, by decide +kernel⟩) (fun _ _ _ _ _ => (sg_name sc_are_deeds.nd (i := 1) rfl (by first | exact Or.inl rfl | exact Or.inr rfl))) (fun _ _ _ _ _ => sbs_nil) (fun _ _ _ _ _ => (se_ix ix_seq sim_ix (se_var 1) se_int))) sa_nil))) (sa_cons se_int (sa_cons (se_gint rfl G.i_DEEDS_MOST) sa_nil))))

def N_is_deed_form : List Str := ["thing"]
theorem sc_is_deed_form : FnScope N_is_deed_form ["thing"] (defScope (topS 26)) := ⟨rfl, rfl, rfl, by decide +kernel, rfl, by decide +kernel, by decide +kernel⟩
theorem bi_is_deed_form : BindOk "is_deed_form" "is_deed_form" (defArgs (topS 26)) (defBody (topS 26)) (defScope (topS 26)) ["thing"] := fun _ _ _ _ _ _ us hl => match us, hl with | [_], _ => rfl
noncomputable def b_is_deed_form : SS := (sRet (eAndV (eUser 1 m_is_form (aCons (eVar 0) aNil)) (eOp2 (oEq true) (eOp2 oIx (eVar 0) (eC (.int 1))) (eC (.int 0)))))
noncomputable def m_is_deed_form : FS := fnF N_is_deed_form.length b_is_deed_form
theorem ok_is_deed_form (G : Gf K mg) (f_is_form : Fn P w K mg base 4 "is_form" 1 m_is_form) : Fn P w K mg base 5 "is_deed_form" 1 m_is_deed_form := mk_fn G.d_is_deed_form sc_is_deed_form G.g_is_deed_form bi_is_deed_form fun cdv A outer s0 H E hr => by
  refine sn_one ?_
  exact s1_ret (se_and (se_user f_is_form (hr.mono (by decide)) rfl tk_cx (sa_cons (se_var 0) sa_nil)) (se_one (se_cmp (op_neD (room_u hr)) sim_neD (se_ix ix_seq sim_ix (se_var 0) se_int) se_int)))

def N_is_statement : List Str := ["deeds", "many", "thing"]
theorem sc_is_statement : FnScope N_is_statement ["deeds", "many", "thing"] (defScope (topS 27)) := ⟨rfl, rfl, rfl, by decide +kernel, rfl, by decide +kernel, by decide +kernel⟩
theorem bi_is_statement : BindOk "is_statement" "is_statement" (defArgs (topS 27)) (defBody (topS 27)) (defScope (topS 27)) ["deeds", "many", "thing"] := fun _ _ _ _ _ _ us hl => match us, hl with | [_, _, _], _ => rfl
noncomputable def b_is_statement (c_is_statement : FS) (c_is_body : FS) (c_are_bodies : FS) : SS := (sCons (sIf (bOr (bNot (bVal (eOp1 (oIsi "tuple") (eVar 2)))) (bVal (eOp2 (oEq false) (eCall fLen (aCons (eVar 2) aNil)) (eC (.int 0))))) (sRet (eC (.bl false))) sNil)
  (sCons (sIf (bVal (eUser 2 m_is_text (aCons (eOp2 oIx (eVar 2) (eC (.int 0))) (aCons (eC (.str "deed")) aNil)))) (sRet (eAndV (eOp2 (oEq false) (eCall fLen (aCons (eVar 2) aNil)) (eC (.int 2))) (eUser 3 m_integer_within (aCons (eOp2 oIx (eVar 2) (eC (.int 1))) (aCons (eC (.int 0)) (aCons (eOp2 oSub (eVar 0) (eC (.int 1))) aNil)))))) sNil)
  (sCons (sIf (bVal (eUser 2 m_is_text (aCons (eOp2 oIx (eVar 2) (eC (.int 0))) (aCons (eC (.str "call")) aNil)))) (sRet (eAndV (eOp2 (oEq false) (eCall fLen (aCons (eVar 2) aNil)) (eC (.int 2))) (eUser 3 m_integer_within (aCons (eOp2 oIx (eVar 2) (eC (.int 1))) (aCons (eC (.int 0)) (aCons (eOp2 oSub (eVar 1) (eC (.int 1))) aNil)))))) sNil)
  (sCons (sIf (bVal (eUser 2 m_is_text (aCons (eOp2 oIx (eVar 2) (eC (.int 0))) (aCons (eC (.str "either")) aNil)))) (sRet (eAndV (eOp2 (oEq false) (eCall fLen (aCons (eVar 2) aNil)) (eC (.int 2))) (eUser 3 c_are_bodies (aCons (eVar 0) (aCons (eVar 1) (aCons (eOp2 oIx (eVar 2) (eC (.int 1))) aNil)))))) sNil)
  (sCons (sIf (bVal (eUser 2 m_is_text (aCons (eOp2 oIx (eVar 2) (eC (.int 0))) (aCons (eC (.str "loop")) aNil)))) (sRet (eAndV (eOp2 (oEq false) (eCall fLen (aCons (eVar 2) aNil)) (eC (.int 2))) (eUser 3 c_is_body (aCons (eVar 0) (aCons (eVar 1) (aCons (eOp2 oIx (eVar 2) (eC (.int 1))) aNil)))))) sNil)
  (sCons (sIf (bVal (eUser 2 m_is_text (aCons (eOp2 oIx (eVar 2) (eC (.int 0))) (aCons (eC (.str "repeat")) aNil)))) (sRet (eAndV (eOp2 (oEq false) (eCall fLen (aCons (eVar 2) aNil)) (eC (.int 3))) (eAndV (eUser 1 m_is_number (aCons (eOp2 oIx (eVar 2) (eC (.int 1))) aNil)) (eUser 3 c_is_body (aCons (eVar 0) (aCons (eVar 1) (aCons (eOp2 oIx (eVar 2) (eC (.int 2))) aNil))))))) sNil)
  (sRet (eAndV (eOp2 (oEq false) (eCall fLen (aCons (eVar 2) aNil)) (eC (.int 1))) (eUser 2 m_is_text (aCons (eOp2 oIx (eVar 2) (eC (.int 0))) (aCons (eC (.str "back")) aNil)))))))))))
def N_is_body : List Str := ["deeds", "many", "thing", "statement"]
theorem sc_is_body : FnScope N_is_body ["deeds", "many", "thing"] (defScope (topS 28)) := ⟨rfl, rfl, rfl, by decide +kernel, rfl, by decide +kernel, by decide +kernel⟩
theorem bi_is_body : BindOk "is_body" "is_body" (defArgs (topS 28)) (defBody (topS 28)) (defScope (topS 28)) ["deeds", "many", "thing"] := fun _ _ _ _ _ _ us hl => match us, hl with | [_, _, _], _ => rfl
noncomputable def b_is_body (c_is_statement : FS) (c_is_body : FS) (c_are_bodies : FS) : SS := (sRet (eAndV (eOp1 (oIsi "tuple") (eVar 2)) (eTrim (eCall fAll (aCons (eComp (iTupD (eVar 2)) (.nm 3) bYes (eUser 3 c_is_statement (aCons (eVar 0) (aCons (eVar 1) (aCons (eVar 3) aNil)))) [3]) aNil)))))
def N_are_bodies : List Str := ["deeds", "many", "thing", "body"]
theorem sc_are_bodies : FnScope N_are_bodies ["deeds", "many", "thing"] (defScope (topS 29)) := ⟨rfl, rfl, rfl, by decide +kernel, rfl, by decide +kernel, by decide +kernel⟩
theorem bi_are_bodies : BindOk "are_bodies" "are_bodies" (defArgs (topS 29)) (defBody (topS 29)) (defScope (topS 29)) ["deeds", "many", "thing"] := fun _ _ _ _ _ _ us hl => match us, hl with | [_, _, _], _ => rfl
noncomputable def b_are_bodies (c_is_statement : FS) (c_is_body : FS) (c_are_bodies : FS) : SS := (sRet (eAndV (eOp1 (oIsi "tuple") (eVar 2)) (eAndV (eOp2 oGe (eCall fLen (aCons (eVar 2) aNil)) (eC (.int 2))) (eTrim (eCall fAll (aCons (eComp (iTupD (eVar 2)) (.nm 3) bYes (eUser 3 c_is_body (aCons (eVar 0) (aCons (eVar 1) (aCons (eVar 3) aNil)))) [3]) aNil))))))
mutual
noncomputable def m_is_statement : Nat → FS
  | 0 => fun _ _ => .bad
  | k + 1 => fnF N_is_statement.length (b_is_statement (m_is_statement k) (m_is_body k) (m_are_bodies k))
noncomputable def m_is_body : Nat → FS
  | 0 => fun _ _ => .bad
  | k + 1 => fnF N_is_body.length (b_is_body (m_is_statement k) (m_is_body k) (m_are_bodies k))
noncomputable def m_are_bodies : Nat → FS
  | 0 => fun _ _ => .bad
  | k + 1 => fnF N_are_bodies.length (b_are_bodies (m_is_statement k) (m_is_body k) (m_are_bodies k))
end
theorem st_is_statement (G : Gf K mg) (f_integer_within : Fn P w K mg base 2 "integer_within" 3 m_integer_within) (f_is_number : Fn P w K mg base 2 "is_number" 1 m_is_number) (f_is_text : Fn P w K mg base 1 "is_text" 2 m_is_text) {k : Nat} (hk : 2 ≤ k) {c_is_statement : FS} {c_is_body : FS} {c_are_bodies : FS} (f_is_statement : Fn P w K mg base k "is_statement" 3 c_is_statement) (f_is_body : Fn P w K mg base k "is_body" 3 c_is_body) (f_are_bodies : Fn P w K mg base k "are_bodies" 3 c_are_bodies) : Fn P w K mg base (k + 1) "is_statement" 3 (fnF N_is_statement.length (b_is_statement c_is_statement c_is_body c_are_bodies)) := mk_fn G.d_is_statement sc_is_statement G.g_is_statement bi_is_statement fun cdv A outer s0 H E hr => by
  refine sn_cons ?_ ?_
  · skip
    refine s1_if (sb_w (sw_or (sb_not (sb_val (se_isi rfl rfl G.f_isinstance rfl G.f_tuple bo_tuple io_tuple (se_var 2)))) (sw_or1 (sb_cmp (op_eqD (room_u hr)) sim_eqD (se_callB call_len sim_len rfl G.f_len bo_len (sa_cons (se_var 2) sa_nil)) se_int)))) ?_ ?_
    · skip
      refine sn_one ?_
      exact s1_ret se_bl
    · skip
      exact sn_nil
  refine sn_cons ?_ ?_
  · skip
    refine s1_if (sb_val (se_user f_is_text (hr.mono (by omega)) rfl tk_cx (sa_cons (se_ix ix_seq sim_ix (se_var 2) se_int) (sa_cons se_str sa_nil)))) ?_ ?_
    · skip
      refine sn_one ?_
      exact s1_ret (se_and (se_cmp (op_eqD (room_u hr)) sim_eqD (se_callB call_len sim_len rfl G.f_len bo_len (sa_cons (se_var 2) sa_nil)) se_int) (se_one (se_user f_integer_within (hr.mono (by omega)) rfl tk_cx (sa_cons (se_ix ix_seq sim_ix (se_var 2) se_int) (sa_cons se_int (sa_cons (se_bin op_sub sim_sub (se_var 0) se_int) sa_nil))))))
    · skip
      exact sn_nil
  refine sn_cons ?_ ?_
  · skip
    refine s1_if (sb_val (se_user f_is_text (hr.mono (by omega)) rfl tk_cx (sa_cons (se_ix ix_seq sim_ix (se_var 2) se_int) (sa_cons se_str sa_nil)))) ?_ ?_
    · skip
      refine sn_one ?_
      exact s1_ret (se_and (se_cmp (op_eqD (room_u hr)) sim_eqD (se_callB call_len sim_len rfl G.f_len bo_len (sa_cons (se_var 2) sa_nil)) se_int) (se_one (se_user f_integer_within (hr.mono (by omega)) rfl tk_cx (sa_cons (se_ix ix_seq sim_ix (se_var 2) se_int) (sa_cons se_int (sa_cons (se_bin op_sub sim_sub (se_var 1) se_int) sa_nil))))))
    · skip
      exact sn_nil
  refine sn_cons ?_ ?_
  · skip
    refine s1_if (sb_val (se_user f_is_text (hr.mono (by omega)) rfl tk_cx (sa_cons (se_ix ix_seq sim_ix (se_var 2) se_int) (sa_cons se_str sa_nil)))) ?_ ?_
    · skip
      refine sn_one ?_
      exact s1_ret (se_and (se_cmp (op_eqD (room_u hr)) sim_eqD (se_callB call_len sim_len rfl G.f_len bo_len (sa_cons (se_var 2) sa_nil)) se_int) (se_one (se_user f_are_bodies hr rfl tk_cx (sa_cons (se_var 0) (sa_cons (se_var 1) (sa_cons (se_ix ix_seq sim_ix (se_var 2) se_int) sa_nil))))))
    · skip
      exact sn_nil
  refine sn_cons ?_ ?_
  · skip
    refine s1_if (sb_val (se_user f_is_text (hr.mono (by omega)) rfl tk_cx (sa_cons (se_ix ix_seq sim_ix (se_var 2) se_int) (sa_cons se_str sa_nil)))) ?_ ?_
    · skip
      refine sn_one ?_
      exact s1_ret (se_and (se_cmp (op_eqD (room_u hr)) sim_eqD (se_callB call_len sim_len rfl G.f_len bo_len (sa_cons (se_var 2) sa_nil)) se_int) (se_one (se_user f_is_body hr rfl tk_cx (sa_cons (se_var 0) (sa_cons (se_var 1) (sa_cons (se_ix ix_seq sim_ix (se_var 2) se_int) sa_nil))))))
    · skip
      exact sn_nil
  refine sn_cons ?_ ?_
  · skip
    refine s1_if (sb_val (se_user f_is_text (hr.mono (by omega)) rfl tk_cx (sa_cons (se_ix ix_seq sim_ix (se_var 2) se_int) (sa_cons se_str sa_nil)))) ?_ ?_
    · skip
      refine sn_one ?_
      exact s1_ret (se_and (se_cmp (op_eqD (room_u hr)) sim_eqD (se_callB call_len sim_len rfl G.f_len bo_len (sa_cons (se_var 2) sa_nil)) se_int) (se_and (se_user f_is_number (hr.mono (by omega)) rfl tk_cx (sa_cons (se_ix ix_seq sim_ix (se_var 2) se_int) sa_nil)) (se_one (se_user f_is_body hr rfl tk_cx (sa_cons (se_var 0) (sa_cons (se_var 1) (sa_cons (se_ix ix_seq sim_ix (se_var 2) se_int) sa_nil)))))))
    · skip
      exact sn_nil
  refine sn_one ?_
  exact s1_ret (se_and (se_cmp (op_eqD (room_u hr)) sim_eqD (se_callB call_len sim_len rfl G.f_len bo_len (sa_cons (se_var 2) sa_nil)) se_int) (se_one (se_user f_is_text (hr.mono (by omega)) rfl tk_cx (sa_cons (se_ix ix_seq sim_ix (se_var 2) se_int) (sa_cons se_str sa_nil)))))

theorem st_is_body (G : Gf K mg) (f_integer_within : Fn P w K mg base 2 "integer_within" 3 m_integer_within) (f_is_number : Fn P w K mg base 2 "is_number" 1 m_is_number) (f_is_text : Fn P w K mg base 1 "is_text" 2 m_is_text) {k : Nat} (hk : 2 ≤ k) {c_is_statement : FS} {c_is_body : FS} {c_are_bodies : FS} (f_is_statement : Fn P w K mg base k "is_statement" 3 c_is_statement) (f_is_body : Fn P w K mg base k "is_body" 3 c_is_body) (f_are_bodies : Fn P w K mg base k "are_bodies" 3 c_are_bodies) : Fn P w K mg base (k + 1) "is_body" 3 (fnF N_is_body.length (b_is_body c_is_statement c_is_body c_are_bodies)) := mk_fn G.d_is_body sc_is_body G.g_is_body bi_is_body fun cdv A outer s0 H E hr => by
  refine sn_one ?_
  exact s1_ret (se_and (se_isi rfl rfl G.f_isinstance rfl G.f_tuple bo_tuple io_tuple (se_var 2)) (se_one (se_trim (se_callB (cr_all rfl) sim_bools rfl G.f_all bo_all (sa_cons (se_comp (own := [("statement", 3)]) rfl rfl sc_is_body.nd (si_tup rfl (se_var 2)) (show BlkOk N_is_body (defScope (topS 28)) _ _ from ⟨rfl, by decide +kernel, by decide +kernel, by decide +kernel, by decide +kernel⟩) (fun _ _ _ _ _ => (sg_name sc_is_body.nd (i := 3) rfl (by first | exact Or.inl rfl | exact Or.inr rfl))) (fun _ _ _ _ _ => sbs_nil) (fun _ _ _ _ _ => (se_user f_is_statement hr rfl takes0 (sa_cons (se_var 0) (sa_cons (se_var 1) (sa_cons (se_var 3) sa_nil)))))) sa_nil)))))

theorem st_are_bodies (G : Gf K mg) (f_integer_within : Fn P w K mg base 2 "integer_within" 3 m_integer_within) (f_is_number : Fn P w K mg base 2 "is_number" 1 m_is_number) (f_is_text : Fn P w K mg base 1 "is_text" 2 m_is_text) {k : Nat} (hk : 2 ≤ k) {c_is_statement : FS} {c_is_body : FS} {c_are_bodies : FS} (f_is_statement : Fn P w K mg base k "is_statement" 3 c_is_statement) (f_is_body : Fn P w K mg base k "is_body" 3 c_is_body) (f_are_bodies : Fn P w K mg base k "are_bodies" 3 c_are_bodies) : Fn P w K mg base (k + 1) "are_bodies" 3 (fnF N_are_bodies.length (b_are_bodies c_is_statement c_is_body c_are_bodies)) := mk_fn G.d_are_bodies sc_are_bodies G.g_are_bodies bi_are_bodies fun cdv A outer s0 H E hr => by
  refine sn_one ?_
  exact s1_ret (se_and (se_isi rfl rfl G.f_isinstance rfl G.f_tuple bo_tuple io_tuple (se_var 2)) (se_and (se_cmp op_ge sim_cmp (se_callB call_len sim_len rfl G.f_len bo_len (sa_cons (se_var 2) sa_nil)) se_int) (se_one (se_trim (se_callB (cr_all rfl) sim_bools rfl G.f_all bo_all (sa_cons (se_comp (own := [("body", 3)]) rfl rfl sc_are_bodies.nd (si_tup rfl (se_var 2)) (show BlkOk N_are_bodies (defScope (topS 29)) _ _ from ⟨rfl, by decide +kernel, by decide +kernel, by decide +kernel, by decide +kernel⟩) (fun _ _ _ _ _ => (sg_name sc_are_bodies.nd (i := 3) rfl (by first | exact Or.inl rfl | exact Or.inr rfl))) (fun _ _ _ _ _ => sbs_nil) (fun _ _ _ _ _ => (se_user f_is_body hr rfl takes0 (sa_cons (se_var 0) (sa_cons (se_var 1) (sa_cons (se_var 3) sa_nil)))))) sa_nil))))))

theorem all_are_bodies (G : Gf K mg) (f_integer_within : Fn P w K mg base 2 "integer_within" 3 m_integer_within) (f_is_number : Fn P w K mg base 2 "is_number" 1 m_is_number) (f_is_text : Fn P w K mg base 1 "is_text" 2 m_is_text) : ∀ k, Fn P w K mg base (2 + k) "is_statement" 3 (m_is_statement k) ∧ Fn P w K mg base (2 + k) "is_body" 3 (m_is_body k) ∧ Fn P w K mg base (2 + k) "are_bodies" 3 (m_are_bodies k)
  | 0 => ⟨fn_bad G.d_is_statement G.g_is_statement bi_is_statement, fn_bad G.d_is_body G.g_is_body bi_is_body, fn_bad G.d_are_bodies G.g_are_bodies bi_are_bodies⟩
  | k + 1 => let ⟨i_is_statement, i_is_body, i_are_bodies⟩ := all_are_bodies G f_integer_within f_is_number f_is_text k
    ⟨st_is_statement G f_integer_within f_is_number f_is_text (Nat.le_add_right _ _) i_is_statement i_is_body i_are_bodies, st_is_body G f_integer_within f_is_number f_is_text (Nat.le_add_right _ _) i_is_statement i_is_body i_are_bodies, st_are_bodies G f_integer_within f_is_number f_is_text (Nat.le_add_right _ _) i_is_statement i_is_body i_are_bodies⟩
theorem ok_is_statement (G : Gf K mg) (f_integer_within : Fn P w K mg base 2 "integer_within" 3 m_integer_within) (f_is_number : Fn P w K mg base 2 "is_number" 1 m_is_number) (f_is_text : Fn P w K mg base 1 "is_text" 2 m_is_text) : Fn P w K mg base 42 "is_statement" 3 (m_is_statement 40) := (all_are_bodies G f_integer_within f_is_number f_is_text 40).1
theorem ok_is_body (G : Gf K mg) (f_integer_within : Fn P w K mg base 2 "integer_within" 3 m_integer_within) (f_is_number : Fn P w K mg base 2 "is_number" 1 m_is_number) (f_is_text : Fn P w K mg base 1 "is_text" 2 m_is_text) : Fn P w K mg base 42 "is_body" 3 (m_is_body 40) := (all_are_bodies G f_integer_within f_is_number f_is_text 40).2.1
theorem ok_are_bodies (G : Gf K mg) (f_integer_within : Fn P w K mg base 2 "integer_within" 3 m_integer_within) (f_is_number : Fn P w K mg base 2 "is_number" 1 m_is_number) (f_is_text : Fn P w K mg base 1 "is_text" 2 m_is_text) : Fn P w K mg base 42 "are_bodies" 3 (m_are_bodies 40) := (all_are_bodies G f_integer_within f_is_number f_is_text 40).2.2
def N_names_word : List Str := ["deeds", "names", "deed"]
theorem sc_names_word : FnScope N_names_word ["deeds", "names"] (defScope (topS 30)) := ⟨rfl, rfl, rfl, by decide +kernel, rfl, by decide +kernel, by decide +kernel⟩
theorem bi_names_word : BindOk "names_word" "names_word" (defArgs (topS 30)) (defBody (topS 30)) (defScope (topS 30)) ["deeds", "names"] := fun _ _ _ _ _ _ us hl => match us, hl with | [_, _], _ => rfl
noncomputable def b_names_word : SS := (sCons (sIf (bOr (bNot (bVal (eUser 3 m_are_words (aCons (eVar 1) (aCons (eC (.int 1)) (aCons (eC (.int 12)) aNil)))))) (bVal (eTrim (eCall fAny (aCons (eComp (iTupD (eVar 0)) (.nm 2) bYes (eOp2 (oIn false) (eOp2 oIx (eVar 2) (eC (.int 0))) (eVar 1)) [2]) aNil))))) (sRet (eC (.str "names"))) sNil)
  (sRet (eIf (bVal (eOp2 (oIn false) (eC (.str "main")) (eVar 1))) (eC .non) (eC (.str "main")))))
noncomputable def m_names_word : FS := fnF N_names_word.length b_names_word
theorem ok_names_word (G : Gf K mg) (f_are_words : Fn P w K mg base 2 "are_words" 3 m_are_words) : Fn P w K mg base 3 "names_word" 2 m_names_word := mk_fn G.d_names_word sc_names_word G.g_names_word bi_names_word fun cdv A outer s0 H E hr => by
  refine sn_cons ?_ ?_
  · skip
    refine s1_if (sb_w (sw_or (sb_not (sb_val (se_user f_are_words (hr.mono (by decide)) rfl tk_cx (sa_cons (se_var 1) (sa_cons se_int (sa_cons (se_gint rfl G.i_WORDS_MOST) sa_nil)))))) (sw_or1 (sb_val (se_trim (se_callB (cr_any rfl) sim_bools rfl G.f_any bo_any (sa_cons (se_comp (own := [("deed", 2)]) rfl rfl sc_names_word.nd (si_tup rfl (se_var 0)) (show BlkOk N_names_word (defScope (topS 30)) _ _ from ⟨rfl, by decide +kernel, by decide +kernel, by decide +kernel, by decide +kernel⟩) (fun _ _ _ _ _ => (sg_name sc_names_word.nd (i := 2) rfl (by first | exact Or.inl rfl | exact Or.inr rfl))) (fun _ _ _ _ _ => sbs_nil) (fun _ _ _ _ _ => (se_cmp op_inAll sim_in (se_ix ix_seq sim_ix (se_var 2) se_int) (se_var 1) (by first | exact nomark _ | rfl | with_unfolding_all rfl)))) sa_nil))))))) ?_ ?_
    · skip
      refine sn_one ?_
      exact s1_ret se_str
    · skip
      exact sn_nil
  refine sn_one ?_
  exact s1_ret (se_if (sb_cmp op_inAll sim_in se_str (se_var 1) (by first | exact nomark _ | rfl | with_unfolding_all rfl)) se_non se_str)

def N_count_in : List Str := ["body", "many", "statement", "inner"]
theorem sc_count_in : FnScope N_count_in ["body"] (defScope (topS 31)) := ⟨rfl, rfl, rfl, by decide +kernel, rfl, by decide +kernel, by decide +kernel⟩
theorem bi_count_in : BindOk "count_in" "count_in" (defArgs (topS 31)) (defBody (topS 31)) (defScope (topS 31)) ["body"] := fun _ _ _ _ _ _ us hl => match us, hl with | [_], _ => rfl
noncomputable def b_count_in (c_count_in : FS) : SS := (sCons (sSet 1 (eCall fLen (aCons (eVar 0) aNil)))
  (sCons (sFor (iTupD (eVar 0)) (.nm 2) (sIf (bVal (eOp2 (oEq false) (eOp2 oIx (eVar 2) (eC (.int 0))) (eC (.str "either")))) (sAug 1 oAddA (eTrim (eCall fSum (aCons (eComp (iTupD (eOp2 oIx (eVar 2) (eC (.int 1)))) (.nm 3) bYes (eUser 1 c_count_in (aCons (eVar 3) aNil)) [3]) aNil)))) (sIf (bVal (eOp2 (oIn false) (eOp2 oIx (eVar 2) (eC (.int 0))) (eTup (aCons (eC (.str "loop")) (aCons (eC (.str "repeat")) aNil))))) (sAug 1 oAddA (eUser 1 c_count_in (aCons (eOp2 oIx (eVar 2) (eOp1 oNeg (eC (.int 1)))) aNil))) sNil)))
  (sRet (eVar 1))))
noncomputable def m_count_in : Nat → FS
  | 0 => fun _ _ => .bad
  | k + 1 => fnF N_count_in.length (b_count_in (m_count_in k))
theorem st_count_in (G : Gf K mg) {k : Nat} (hk : 0 ≤ k) {c_count_in : FS} (f_count_in : Fn P w K mg base k "count_in" 1 c_count_in) : Fn P w K mg base (k + 1) "count_in" 1 (fnF N_count_in.length (b_count_in c_count_in)) := mk_fn G.d_count_in sc_count_in G.g_count_in bi_count_in fun cdv A outer s0 H E hr => by
  refine sn_cons ?_ ?_
  · skip
    exact s1_set (i := 1) sc_count_in.nd rfl (by first | exact Or.inl rfl | exact Or.inr rfl) (se_callB call_len sim_len rfl G.f_len bo_len (sa_cons (se_var 0) sa_nil))
  refine sn_cons ?_ ?_
  · skip
    refine s1_for po_cx rfl (si_tup rfl (se_var 0)) rfl (sg_name sc_count_in.nd (i := 2) rfl (by first | exact Or.inl rfl | exact Or.inr rfl)) ?_
    refine sn_one ?_
    refine s1_if (sb_cmp (op_eqD (room_u hr)) sim_eqD (se_ix ix_seq sim_ix (se_var 2) se_int) se_str) ?_ ?_
    · skip
      refine sn_one ?_
      exact s1_aug (i := 1) sc_count_in.nd rfl (by first | exact Or.inl rfl | exact Or.inr rfl) (se_trim (se_callB (cr_sum rfl) sim_sum rfl G.f_sum bo_sum (sa_cons (se_comp (own := [("inner", 3)]) rfl rfl sc_count_in.nd (si_tup rfl (se_ix ix_seq sim_ix (se_var 2) se_int)) (show BlkOk N_count_in (defScope (topS 31)) _ _ from ⟨rfl, by decide +kernel, by decide +kernel, by decide +kernel, by decide +kernel⟩) (fun _ _ _ _ _ => (sg_name sc_count_in.nd (i := 3) rfl (by first | exact Or.inl rfl | exact Or.inr rfl))) (fun _ _ _ _ _ => sbs_nil) (fun _ _ _ _ _ => (se_user f_count_in hr rfl takes0 (sa_cons (se_var 3) sa_nil)))) sa_nil))) (pip_of iop_addAll) sim_addA
    · skip
      refine sn_one ?_
      refine s1_if (sb_cmp op_inAll sim_in (se_ix ix_seq sim_ix (se_var 2) se_int) (se_tup (sa_cons se_str (sa_cons se_str sa_nil))) (by first | exact nomark _ | rfl | with_unfolding_all rfl)) ?_ ?_
      · skip
        refine sn_one ?_
        exact s1_aug (i := 1) sc_count_in.nd rfl (by first | exact Or.inl rfl | exact Or.inr rfl) (se_user f_count_in hr rfl tk_cx (sa_cons (se_ix ix_seq sim_ix (se_var 2) (se_un un_neg sim_neg se_int)) sa_nil)) (pip_of iop_addAll) sim_addA
      · skip
        exact sn_nil
  refine sn_one ?_
  exact s1_ret (se_var 1)

theorem all_count_in (G : Gf K mg) : ∀ k, Fn P w K mg base (0 + k) "count_in" 1 (m_count_in k)
  | 0 => fn_bad G.d_count_in G.g_count_in bi_count_in
  | k + 1 => let i_count_in := all_count_in G  k
    st_count_in G  (Nat.le_add_right _ _) i_count_in
theorem ok_count_in (G : Gf K mg) : Fn P w K mg base 40 "count_in" 1 (m_count_in 40) := (all_count_in G  40)
def N_check_program : List Str := ["thing", "word", "deeds", "names", "bodies", "at", "deed", "body"]
theorem sc_check_program : FnScope N_check_program ["thing"] (defScope (topS 32)) := ⟨rfl, rfl, rfl, by decide +kernel, rfl, by decide +kernel, by decide +kernel⟩
theorem bi_check_program : BindOk "check_program" "check_program" (defArgs (topS 32)) (defBody (topS 32)) (defScope (topS 32)) ["thing"] := fun _ _ _ _ _ _ us hl => match us, hl with | [_], _ => rfl
noncomputable def b_check_program : SS := (sCons (sIf (bNot (bVal (eUser 2 m_is_tuple (aCons (eVar 0) (aCons (eC (.int 3)) aNil))))) (sRaise "BadProgram" ["at", "word"] (aCons (eOp1 oNeg (eC (.int 1))) (aCons (eC (.str "shape")) aNil))) sNil)
  (sCons (sTgt (.tp [2, 3, 4]) (eVar 0))
  (sCons (sIf (bNot (bVal (eUser 1 m_are_deeds (aCons (eVar 2) aNil)))) (sRaise "BadProgram" ["at", "word"] (aCons (eOp1 oNeg (eC (.int 1))) (aCons (eC (.str "deeds")) aNil))) sNil)
  (sCons (sFor (iEnumD (eVar 2)) (.tp [5, 6]) (sIf (bNot (bVal (eUser 1 m_is_deed_form (aCons (eOp2 oIx (eVar 6) (eC (.int 1))) aNil)))) (sRaise "BadProgram" ["at", "word"] (aCons (eVar 5) (aCons (eC (.str "form")) aNil))) sNil))
  (sCons (sSet 1 (eUser 2 m_names_word (aCons (eVar 2) (aCons (eVar 3) aNil))))
  (sCons (sIf (bVal (eOp2 (oIsN true) (eVar 1) (eC .non))) (sRaise "BadProgram" ["at", "word"] (aCons (eOp1 oNeg (eC (.int 1))) (aCons (eVar 1) aNil))) sNil)
  (sCons (sIf (bOr (bNot (bVal (eUser 2 m_is_tuple (aCons (eVar 4) (aCons (eCall fLen (aCons (eVar 3) aNil)) aNil))))) (bNot (bVal (eTrim (eCall fAll (aCons (eComp (iTupD (eVar 4)) (.nm 7) bYes (eOp1 (oIsi "tuple") (eVar 7)) [7]) aNil)))))) (sRaise "BadProgram" ["at", "word"] (aCons (eOp1 oNeg (eC (.int 1))) (aCons (eC (.str "bodies")) aNil))) sNil)
  (sCons (sFor (iEnumD (eVar 4)) (.tp [5, 7]) (sIf (bNot (bVal (eUser 3 (m_is_body 40) (aCons (eCall fLen (aCons (eVar 2) aNil)) (aCons (eCall fLen (aCons (eVar 3) aNil)) (aCons (eVar 7) aNil)))))) (sRaise "BadProgram" ["at", "word"] (aCons (eVar 5) (aCons (eC (.str "statement")) aNil))) sNil))
  (sRet (eTrim (eCall fSum (aCons (eComp (iTupD (eVar 4)) (.nm 7) bYes (eUser 1 (m_count_in 40) (aCons (eVar 7) aNil)) [7]) aNil))))))))))))
noncomputable def m_check_program : FS := fnF N_check_program.length b_check_program
theorem ok_check_program (G : Gf K mg) (f_are_deeds : Fn P w K mg base 3 "are_deeds" 1 m_are_deeds) (f_count_in : Fn P w K mg base 40 "count_in" 1 (m_count_in 40)) (f_is_body : Fn P w K mg base 42 "is_body" 3 (m_is_body 40)) (f_is_deed_form : Fn P w K mg base 5 "is_deed_form" 1 m_is_deed_form) (f_is_tuple : Fn P w K mg base 1 "is_tuple" 2 m_is_tuple) (f_names_word : Fn P w K mg base 3 "names_word" 2 m_names_word) (x_BadProgram : Xc P w K mg base "BadProgram" ["at", "word"]) : Fn P w K mg base 43 "check_program" 1 m_check_program := mk_fn G.d_check_program sc_check_program G.g_check_program bi_check_program fun cdv A outer s0 H E hr => by
  refine sn_cons ?_ ?_
  · skip
    refine s1_if (sb_not (sb_val (se_user f_is_tuple (hr.mono (by decide)) rfl tk_cx (sa_cons (se_var 0) (sa_cons se_int sa_nil))))) ?_ ?_
    · skip
      refine sn_one ?_
      exact s1_raise rfl tk_cx x_BadProgram rfl (hr.mono (by first | decide | omega)) rfl (sa_cons (se_un un_neg sim_neg se_int) (sa_cons se_str sa_nil))
    · skip
      exact sn_nil
  refine sn_cons ?_ ?_
  · skip
    exact s1_tgt rfl (se_var 0) (sg_tup rfl (sgs_cons (sg_name sc_check_program.nd (i := 2) rfl (by first | exact Or.inl rfl | exact Or.inr rfl)) (sgs_cons (sg_name sc_check_program.nd (i := 3) rfl (by first | exact Or.inl rfl | exact Or.inr rfl)) (sgs_cons (sg_name sc_check_program.nd (i := 4) rfl (by first | exact Or.inl rfl | exact Or.inr rfl)) sgs_nil))))
  refine sn_cons ?_ ?_
  · skip
    refine s1_if (sb_not (sb_val (se_user f_are_deeds (hr.mono (by decide)) rfl tk_cx (sa_cons (se_var 2) sa_nil)))) ?_ ?_
    · skip
      refine sn_one ?_
      exact s1_raise rfl tk_cx x_BadProgram rfl (hr.mono (by first | decide | omega)) rfl (sa_cons (se_un un_neg sim_neg se_int) (sa_cons se_str sa_nil))
    · skip
      exact sn_nil
  refine sn_cons ?_ ?_
  · skip
    refine s1_for po_cx rfl (si_enumT rfl rfl G.f_enumerate (se_var 2)) rfl (sg_tup rfl (sgs_cons (sg_name sc_check_program.nd (i := 5) rfl (by first | exact Or.inl rfl | exact Or.inr rfl)) (sgs_cons (sg_name sc_check_program.nd (i := 6) rfl (by first | exact Or.inl rfl | exact Or.inr rfl)) sgs_nil))) ?_
    refine sn_one ?_
    refine s1_if (sb_not (sb_val (se_user f_is_deed_form (hr.mono (by decide)) rfl tk_cx (sa_cons (se_ix ix_seq sim_ix (se_var 6) se_int) sa_nil)))) ?_ ?_
    · skip
      refine sn_one ?_
      exact s1_raise rfl tk_cx x_BadProgram rfl (hr.mono (by first | decide | omega)) rfl (sa_cons (se_var 5) (sa_cons se_str sa_nil))
    · skip
      exact sn_nil
  refine sn_cons ?_ ?_
  · skip
    exact s1_set (i := 1) sc_check_program.nd rfl (by first | exact Or.inl rfl | exact Or.inr rfl) (se_user f_names_word (hr.mono (by decide)) rfl tk_cx (sa_cons (se_var 2) (sa_cons (se_var 3) sa_nil)))
  refine sn_cons ?_ ?_
  · skip
    refine s1_if (sb_cmp op_notN sim_notN (se_var 1) se_non) ?_ ?_
    · skip
      refine sn_one ?_
      exact s1_raise rfl tk_cx x_BadProgram rfl (hr.mono (by first | decide | omega)) rfl (sa_cons (se_un un_neg sim_neg se_int) (sa_cons (se_var 1) sa_nil))
    · skip
      exact sn_nil
  refine sn_cons ?_ ?_
  · skip
    refine s1_if (sb_w (sw_or (sb_not (sb_val (se_user f_is_tuple (hr.mono (by decide)) rfl tk_cx (sa_cons (se_var 4) (sa_cons (se_callB call_len sim_len rfl G.f_len bo_len (sa_cons (se_var 3) sa_nil)) sa_nil))))) (sw_or1 (sb_not (sb_val (se_trim (se_callB (cr_all rfl) sim_bools rfl G.f_all bo_all (sa_cons (se_comp (own := [("body", 7)]) rfl rfl sc_check_program.nd (si_tup rfl (se_var 4)) (show BlkOk N_check_program (defScope (topS 32)) _ _ from ⟨rfl, by decide +kernel, by decide +kernel, by decide +kernel, by decide +kernel⟩) (fun _ _ _ _ _ => (sg_name sc_check_program.nd (i := 7) rfl (by first | exact Or.inl rfl | exact Or.inr rfl))) (fun _ _ _ _ _ => sbs_nil) (fun _ _ _ _ _ => (se_isi rfl rfl G.f_isinstance rfl G.f_tuple bo_tuple io_tuple (se_var 7)))) sa_nil)))))))) ?_ ?_
    · skip
      refine sn_one ?_
      exact s1_raise rfl tk_cx x_BadProgram rfl (hr.mono (by first | decide | omega)) rfl (sa_cons (se_un un_neg sim_neg se_int) (sa_cons se_str sa_nil))
    · skip
      exact sn_nil
  refine sn_cons ?_ ?_
  · skip
    refine s1_for po_cx rfl (si_enumT rfl rfl G.f_enumerate (se_var 4)) rfl (sg_tup rfl (sgs_cons (sg_name sc_check_program.nd (i := 5) rfl (by first | exact Or.inl rfl | exact Or.inr rfl)) (sgs_cons (sg_name sc_check_program.nd (i := 7) rfl (by first | exact Or.inl rfl | exact Or.inr rfl)) sgs_nil))) ?_
    refine sn_one ?_
    refine s1_if (sb_not (sb_val (se_user f_is_body (hr.mono (by decide)) rfl tk_cx (sa_cons (se_callB call_len sim_len rfl G.f_len bo_len (sa_cons (se_var 2) sa_nil)) (sa_cons (se_callB call_len sim_len rfl G.f_len bo_len (sa_cons (se_var 3) sa_nil)) (sa_cons (se_var 7) sa_nil)))))) ?_ ?_
    · skip
      refine sn_one ?_
      exact s1_raise rfl tk_cx x_BadProgram rfl (hr.mono (by first | decide | omega)) rfl (sa_cons (se_var 5) (sa_cons se_str sa_nil))
    · skip
      exact sn_nil
  refine sn_one ?_
  exact s1_ret (se_trim (se_callB (cr_sum rfl) sim_sum rfl G.f_sum bo_sum (sa_cons (se_comp (own := [("body", 7)]) rfl rfl sc_check_program.nd (si_tup rfl (se_var 4)) (show BlkOk N_check_program (defScope (topS 32)) _ _ from ⟨rfl, by decide +kernel, by decide +kernel, by decide +kernel, by decide +kernel⟩) (fun _ _ _ _ _ => (sg_name sc_check_program.nd (i := 7) rfl (by first | exact Or.inl rfl | exact Or.inr rfl))) (fun _ _ _ _ _ => sbs_nil) (fun _ _ _ _ _ => (se_user f_count_in (hr.mono (by decide)) rfl takes0 (sa_cons (se_var 7) sa_nil)))) sa_nil)))

def N_are_nexts : List Str := ["thing", "number"]
theorem sc_are_nexts : FnScope N_are_nexts ["thing"] (defScope (topS 34)) := ⟨rfl, rfl, rfl, by decide +kernel, rfl, by decide +kernel, by decide +kernel⟩
theorem bi_are_nexts : BindOk "are_nexts" "are_nexts" (defArgs (topS 34)) (defBody (topS 34)) (defScope (topS 34)) ["thing"] := fun _ _ _ _ _ _ us hl => match us, hl with | [_], _ => rfl
noncomputable def b_are_nexts : SS := (sRet (eAndV (eOp1 (oIsi "tuple") (eVar 0)) (eAndV (eOp2 oGe (eCall fLen (aCons (eVar 0) aNil)) (eC (.int 2))) (eTrim (eCall fAll (aCons (eComp (iTupD (eVar 0)) (.nm 1) bYes (eUser 1 m_is_integer (aCons (eVar 1) aNil)) [1]) aNil))))))
noncomputable def m_are_nexts : FS := fnF N_are_nexts.length b_are_nexts
theorem ok_are_nexts (G : Gf K mg) (f_is_integer : Fn P w K mg base 1 "is_integer" 1 m_is_integer) : Fn P w K mg base 2 "are_nexts" 1 m_are_nexts := mk_fn G.d_are_nexts sc_are_nexts G.g_are_nexts bi_are_nexts fun cdv A outer s0 H E hr => by
  refine sn_one ?_
  exact s1_ret (se_and (se_isi rfl rfl G.f_isinstance rfl G.f_tuple bo_tuple io_tuple (se_var 0)) (se_and (se_cmp op_ge sim_cmp (se_callB call_len sim_len rfl G.f_len bo_len (sa_cons (se_var 0) sa_nil)) se_int) (se_one (se_trim (se_callB (cr_all rfl) sim_bools rfl G.f_all bo_all (sa_cons (se_comp (own := [("number", 1)]) rfl rfl sc_are_nexts.nd (si_tup rfl (se_var 0)) (show BlkOk N_are_nexts (defScope (topS 34)) _ _ from ⟨rfl, by decide +kernel, by decide +kernel, by decide +kernel, by decide +kernel⟩) (fun _ _ _ _ _ => (sg_name sc_are_nexts.nd (i := 1) rfl (by first | exact Or.inl rfl | exact Or.inr rfl))) (fun _ _ _ _ _ => sbs_nil) (fun _ _ _ _ _ => (se_user f_is_integer (hr.mono (by decide)) rfl takes0 (sa_cons (se_var 1) sa_nil)))) sa_nil))))))

def N_is_row : List Str := ["thing"]
theorem sc_is_row : FnScope N_is_row ["thing"] (defScope (topS 35)) := ⟨rfl, rfl, rfl, by decide +kernel, rfl, by decide +kernel, by decide +kernel⟩
theorem bi_is_row : BindOk "is_row" "is_row" (defArgs (topS 35)) (defBody (topS 35)) (defScope (topS 35)) ["thing"] := fun _ _ _ _ _ _ us hl => match us, hl with | [_], _ => rfl
noncomputable def b_is_row : SS := (sCons (sIf (bOr (bNot (bVal (eOp1 (oIsi "tuple") (eVar 0)))) (bVal (eOp2 (oEq false) (eCall fLen (aCons (eVar 0) aNil)) (eC (.int 0))))) (sRet (eC (.bl false))) sNil)
  (sCons (sIf (bVal (eUser 2 m_is_text (aCons (eOp2 oIx (eVar 0) (eC (.int 0))) (aCons (eC (.str "choose")) aNil)))) (sRet (eAndV (eOp2 (oEq false) (eCall fLen (aCons (eVar 0) aNil)) (eC (.int 2))) (eUser 1 m_are_nexts (aCons (eOp2 oIx (eVar 0) (eC (.int 1))) aNil)))) sNil)
  (sCons (sIf (bVal (eUser 2 m_is_text (aCons (eOp2 oIx (eVar 0) (eC (.int 0))) (aCons (eC (.str "return")) aNil)))) (sRet (eOp2 (oEq false) (eCall fLen (aCons (eVar 0) aNil)) (eC (.int 1)))) sNil)
  (sCons (sIf (bVal (eUser 2 m_is_text (aCons (eOp2 oIx (eVar 0) (eC (.int 0))) (aCons (eC (.str "call")) aNil)))) (sRet (eAndV (eOp2 (oEq false) (eCall fLen (aCons (eVar 0) aNil)) (eC (.int 3))) (eAndV (eUser 1 m_is_integer (aCons (eOp2 oIx (eVar 0) (eC (.int 1))) aNil)) (eUser 1 m_is_integer (aCons (eOp2 oIx (eVar 0) (eC (.int 2))) aNil))))) sNil)
  (sRet (eAndV (eUser 2 m_is_text (aCons (eOp2 oIx (eVar 0) (eC (.int 0))) (aCons (eC (.str "deed")) aNil))) (eAndV (eOp2 (oEq false) (eCall fLen (aCons (eVar 0) aNil)) (eC (.int 3))) (eAndV (eOp1 (oIsi "tuple") (eOp2 oIx (eVar 0) (eC (.int 1)))) (eUser 1 m_is_integer (aCons (eOp2 oIx (eVar 0) (eC (.int 2))) aNil))))))))))
noncomputable def m_is_row : FS := fnF N_is_row.length b_is_row
theorem ok_is_row (G : Gf K mg) (f_are_nexts : Fn P w K mg base 2 "are_nexts" 1 m_are_nexts) (f_is_integer : Fn P w K mg base 1 "is_integer" 1 m_is_integer) (f_is_text : Fn P w K mg base 1 "is_text" 2 m_is_text) : Fn P w K mg base 3 "is_row" 1 m_is_row := mk_fn G.d_is_row sc_is_row G.g_is_row bi_is_row fun cdv A outer s0 H E hr => by
  refine sn_cons ?_ ?_
  · skip
    refine s1_if (sb_w (sw_or (sb_not (sb_val (se_isi rfl rfl G.f_isinstance rfl G.f_tuple bo_tuple io_tuple (se_var 0)))) (sw_or1 (sb_cmp (op_eqD (room_u hr)) sim_eqD (se_callB call_len sim_len rfl G.f_len bo_len (sa_cons (se_var 0) sa_nil)) se_int)))) ?_ ?_
    · skip
      refine sn_one ?_
      exact s1_ret se_bl
    · skip
      exact sn_nil
  refine sn_cons ?_ ?_
  · skip
    refine s1_if (sb_val (se_user f_is_text (hr.mono (by decide)) rfl tk_cx (sa_cons (se_ix ix_seq sim_ix (se_var 0) se_int) (sa_cons se_str sa_nil)))) ?_ ?_
    · skip
      refine sn_one ?_
      exact s1_ret (se_and (se_cmp (op_eqD (room_u hr)) sim_eqD (se_callB call_len sim_len rfl G.f_len bo_len (sa_cons (se_var 0) sa_nil)) se_int) (se_one (se_user f_are_nexts (hr.mono (by decide)) rfl tk_cx (sa_cons (se_ix ix_seq sim_ix (se_var 0) se_int) sa_nil))))
    · skip
      exact sn_nil
  refine sn_cons ?_ ?_
  · skip
    refine s1_if (sb_val (se_user f_is_text (hr.mono (by decide)) rfl tk_cx (sa_cons (se_ix ix_seq sim_ix (se_var 0) se_int) (sa_cons se_str sa_nil)))) ?_ ?_
    · skip
      refine sn_one ?_
      exact s1_ret (se_cmp (op_eqD (room_u hr)) sim_eqD (se_callB call_len sim_len rfl G.f_len bo_len (sa_cons (se_var 0) sa_nil)) se_int)
    · skip
      exact sn_nil
  refine sn_cons ?_ ?_
  · skip
    refine s1_if (sb_val (se_user f_is_text (hr.mono (by decide)) rfl tk_cx (sa_cons (se_ix ix_seq sim_ix (se_var 0) se_int) (sa_cons se_str sa_nil)))) ?_ ?_
    · skip
      refine sn_one ?_
      exact s1_ret (se_and (se_cmp (op_eqD (room_u hr)) sim_eqD (se_callB call_len sim_len rfl G.f_len bo_len (sa_cons (se_var 0) sa_nil)) se_int) (se_and (se_user f_is_integer (hr.mono (by decide)) rfl tk_cx (sa_cons (se_ix ix_seq sim_ix (se_var 0) se_int) sa_nil)) (se_one (se_user f_is_integer (hr.mono (by decide)) rfl tk_cx (sa_cons (se_ix ix_seq sim_ix (se_var 0) se_int) sa_nil)))))
    · skip
      exact sn_nil
  refine sn_one ?_
  exact s1_ret (se_and (se_user f_is_text (hr.mono (by decide)) rfl tk_cx (sa_cons (se_ix ix_seq sim_ix (se_var 0) se_int) (sa_cons se_str sa_nil))) (se_and (se_cmp (op_eqD (room_u hr)) sim_eqD (se_callB call_len sim_len rfl G.f_len bo_len (sa_cons (se_var 0) sa_nil)) se_int) (se_and (se_isi rfl rfl G.f_isinstance rfl G.f_tuple bo_tuple io_tuple (se_ix ix_seq sim_ix (se_var 0) se_int)) (se_one (se_user f_is_integer (hr.mono (by decide)) rfl tk_cx (sa_cons (se_ix ix_seq sim_ix (se_var 0) se_int) sa_nil))))))

def N_nexts_of : List Str := ["row"]
theorem sc_nexts_of : FnScope N_nexts_of ["row"] (defScope (topS 36)) := ⟨rfl, rfl, rfl, by decide +kernel, rfl, by decide +kernel, by decide +kernel⟩
theorem bi_nexts_of : BindOk "nexts_of" "nexts_of" (defArgs (topS 36)) (defBody (topS 36)) (defScope (topS 36)) ["row"] := fun _ _ _ _ _ _ us hl => match us, hl with | [_], _ => rfl
noncomputable def b_nexts_of : SS := (sCons (sIf (bVal (eOp2 (oEq false) (eOp2 oIx (eVar 0) (eC (.int 0))) (eC (.str "choose")))) (sRet (eOp2 oIx (eVar 0) (eC (.int 1)))) sNil)
  (sRet (eIf (bVal (eOp2 (oEq false) (eOp2 oIx (eVar 0) (eC (.int 0))) (eC (.str "return")))) (eTup aNil) (eTup (aCons (eOp2 oIx (eVar 0) (eC (.int 2))) aNil)))))
noncomputable def m_nexts_of : FS := fnF N_nexts_of.length b_nexts_of
theorem ok_nexts_of (G : Gf K mg) : Fn P w K mg base 1 "nexts_of" 1 m_nexts_of := mk_fn G.d_nexts_of sc_nexts_of G.g_nexts_of bi_nexts_of fun cdv A outer s0 H E hr => by
  refine sn_cons ?_ ?_
  · skip
    refine s1_if (sb_cmp (op_eqD (room_u hr)) sim_eqD (se_ix ix_seq sim_ix (se_var 0) se_int) se_str) ?_ ?_
    · skip
      refine sn_one ?_
      exact s1_ret (se_ix ix_seq sim_ix (se_var 0) se_int)
    · skip
      exact sn_nil
  refine sn_one ?_
  exact s1_ret (se_if (sb_cmp (op_eqD (room_u hr)) sim_eqD (se_ix ix_seq sim_ix (se_var 0) se_int) se_str) (se_tup sa_nil) (se_tup (sa_cons (se_ix ix_seq sim_ix (se_var 0) se_int) sa_nil)))

def N_rows_word : List Str := ["many", "rows", "row", "number"]
theorem sc_rows_word : FnScope N_rows_word ["many", "rows"] (defScope (topS 37)) := ⟨rfl, rfl, rfl, by decide +kernel, rfl, by decide +kernel, by decide +kernel⟩
theorem bi_rows_word : BindOk "rows_word" "rows_word" (defArgs (topS 37)) (defBody (topS 37)) (defScope (topS 37)) ["many", "rows"] := fun _ _ _ _ _ _ us hl => match us, hl with | [_, _], _ => rfl
noncomputable def b_rows_word : SS := (sCons (sIf (bNot (bVal (eTrim (eCall fAll (aCons (eComp (iTupD (eVar 1)) (.nm 2) bYes (eUser 1 m_is_row (aCons (eVar 2) aNil)) [2]) aNil))))) (sRet (eC (.str "row"))) sNil)
  (sCons (sIf (bNot (bVal (eTrim (eCall fAll (aCons (eComp (iTupD (eVar 1)) (.nm 2) (bVal (eOp2 (oEq false) (eOp2 oIx (eVar 2) (eC (.int 0))) (eC (.str "deed")))) (eUser 1 m_is_deed_form (aCons (eOp2 oIx (eVar 2) (eC (.int 1))) aNil)) [2]) aNil))))) (sRet (eC (.str "form"))) sNil)
  (sCons (sIf (bNot (bVal (eTrim (eCall fAll (aCons (eComp (iTupD (eVar 1)) (.nm 2) (bVal (eOp2 (oEq false) (eOp2 oIx (eVar 2) (eC (.int 0))) (eC (.str "call")))) (eUser 3 m_integer_within (aCons (eOp2 oIx (eVar 2) (eC (.int 1))) (aCons (eC (.int 0)) (aCons (eOp2 oSub (eVar 0) (eC (.int 1))) aNil)))) [2]) aNil))))) (sRet (eC (.str "call"))) sNil)
  (sCons (sFor (iTupD (eVar 1)) (.nm 2) (sIf (bNot (bVal (eTrim (eCall fAll (aCons (eComp (iTupD (eUser 1 m_nexts_of (aCons (eVar 2) aNil))) (.nm 3) bYes (eUser 3 m_integer_within (aCons (eVar 3) (aCons (eC (.int 0)) (aCons (eOp2 oSub (eCall fLen (aCons (eVar 1) aNil)) (eC (.int 1))) aNil)))) [3]) aNil))))) (sRet (eC (.str "next"))) sNil))
  (sRet (eC .non))))))
noncomputable def m_rows_word : FS := fnF N_rows_word.length b_rows_word
theorem ok_rows_word (G : Gf K mg) (f_integer_within : Fn P w K mg base 2 "integer_within" 3 m_integer_within) (f_is_deed_form : Fn P w K mg base 5 "is_deed_form" 1 m_is_deed_form) (f_is_row : Fn P w K mg base 3 "is_row" 1 m_is_row) (f_nexts_of : Fn P w K mg base 1 "nexts_of" 1 m_nexts_of) : Fn P w K mg base 6 "rows_word" 2 m_rows_word := mk_fn G.d_rows_word sc_rows_word G.g_rows_word bi_rows_word fun cdv A outer s0 H E hr => by
  refine sn_cons ?_ ?_
  · skip
    refine s1_if (sb_not (sb_val (se_trim (se_callB (cr_all rfl) sim_bools rfl G.f_all bo_all (sa_cons (se_comp (own := [("row", 2)]) rfl rfl sc_rows_word.nd (si_tup rfl (se_var 1)) (show BlkOk N_rows_word (defScope (topS 37)) _ _ from ⟨rfl, by decide +kernel, by decide +kernel, by decide +kernel, by decide +kernel⟩) (fun _ _ _ _ _ => (sg_name sc_rows_word.nd (i := 2) rfl (by first | exact Or.inl rfl | exact Or.inr rfl))) (fun _ _ _ _ _ => sbs_nil) (fun _ _ _ _ _ => (se_user f_is_row (hr.mono (by decide)) rfl takes0 (sa_cons (se_var 2) sa_nil)))) sa_nil))))) ?_ ?_
    · skip
      refine sn_one ?_
      exact s1_ret se_str
    · skip
      exact sn_nil
  refine sn_cons ?_ ?_
  · skip
    refine s1_if (sb_not (sb_val (se_trim (se_callB (cr_all rfl) sim_bools rfl G.f_all bo_all (sa_cons (se_comp (own := [("row", 2)]) rfl rfl sc_rows_word.nd (si_tup rfl (se_var 1)) (show BlkOk N_rows_word (defScope (topS 37)) _ _ from ⟨rfl, by decide +kernel, by decide +kernel, by decide +kernel, by decide +kernel⟩) (fun _ _ _ _ _ => (sg_name sc_rows_word.nd (i := 2) rfl (by first | exact Or.inl rfl | exact Or.inr rfl))) (fun _ _ _ _ _ => (sbs_one (sb_cmp (op_eqD (room_u hr)) sim_eqD (se_ix ix_seq sim_ix (se_var 2) se_int) se_str))) (fun _ _ _ _ _ => (se_user f_is_deed_form (hr.mono (by decide)) rfl takes0 (sa_cons (se_ix ix_seq sim_ix (se_var 2) se_int) sa_nil)))) sa_nil))))) ?_ ?_
    · skip
      refine sn_one ?_
      exact s1_ret se_str
    · skip
      exact sn_nil
  refine sn_cons ?_ ?_
  · skip
    refine s1_if (sb_not (sb_val (se_trim (se_callB (cr_all rfl) sim_bools rfl G.f_all bo_all (sa_cons (se_comp (own := [("row", 2)]) rfl rfl sc_rows_word.nd (si_tup rfl (se_var 1)) (show BlkOk N_rows_word (defScope (topS 37)) _ _ from ⟨rfl, by decide +kernel, by decide +kernel, by decide +kernel, by decide +kernel⟩) (fun _ _ _ _ _ => (sg_name sc_rows_word.nd (i := 2) rfl (by first | exact Or.inl rfl | exact Or.inr rfl))) (fun _ _ _ _ _ => (sbs_one (sb_cmp (op_eqD (room_u hr)) sim_eqD (se_ix ix_seq sim_ix (se_var 2) se_int) se_str))) (fun _ _ _ _ _ => (se_user f_integer_within (hr.mono (by decide)) rfl takes0 (sa_cons (se_ix ix_seq sim_ix (se_var 2) se_int) (sa_cons se_int (sa_cons (se_bin op_sub sim_sub (se_var 0) se_int) sa_nil)))))) sa_nil))))) ?_ ?_
    · skip
      refine sn_one ?_
      exact s1_ret se_str
    · skip
      exact sn_nil
  refine sn_cons ?_ ?_
  · skip
    refine s1_for po_cx rfl (si_tup rfl (se_var 1)) rfl (sg_name sc_rows_word.nd (i := 2) rfl (by first | exact Or.inl rfl | exact Or.inr rfl)) ?_
    refine sn_one ?_
    refine s1_if (sb_not (sb_val (se_trim (se_callB (cr_all rfl) sim_bools rfl G.f_all bo_all (sa_cons (se_comp (own := [("number", 3)]) rfl rfl sc_rows_word.nd (si_tup rfl (se_user f_nexts_of (hr.mono (by decide)) rfl tk_cx (sa_cons (se_var 2) sa_nil))) (show BlkOk N_rows_word (defScope (topS 37)) _ _ from ⟨rfl, by decide +kernel, by decide +kernel, by decide +kernel, by decide +kernel⟩) (fun _ _ _ _ _ => (sg_name sc_rows_word.nd (i := 3) rfl (by first | exact Or.inl rfl | exact Or.inr rfl))) (fun _ _ _ _ _ => sbs_nil) (fun _ _ _ _ _ => (se_user f_integer_within (hr.mono (by decide)) rfl takes0 (sa_cons (se_var 3) (sa_cons se_int (sa_cons (se_bin op_sub sim_sub (se_callB call_len sim_len rfl G.f_len bo_len (sa_cons (se_var 1) sa_nil)) se_int) sa_nil)))))) sa_nil))))) ?_ ?_
    · skip
      refine sn_one ?_
      exact s1_ret se_str
    · skip
      exact sn_nil
  refine sn_one ?_
  exact s1_ret se_non

def N_check_code : List Str := ["thing", "at", "rows", "word"]
theorem sc_check_code : FnScope N_check_code ["thing"] (defScope (topS 38)) := ⟨rfl, rfl, rfl, by decide +kernel, rfl, by decide +kernel, by decide +kernel⟩
theorem bi_check_code : BindOk "check_code" "check_code" (defArgs (topS 38)) (defBody (topS 38)) (defScope (topS 38)) ["thing"] := fun _ _ _ _ _ _ us hl => match us, hl with | [_], _ => rfl
noncomputable def b_check_code : SS := (sCons (sIf (bOr (bNot (bVal (eOp1 (oIsi "tuple") (eVar 0)))) (bNot (bVal (eChain oLe oLe (eC (.int 1)) (eCall fLen (aCons (eVar 0) aNil)) (eC (.int 12)))))) (sRaise "BadCode" ["at", "word"] (aCons (eOp1 oNeg (eC (.int 1))) (aCons (eC (.str "shape")) aNil))) sNil)
  (sCons (sIf (bNot (bVal (eTrim (eCall fAll (aCons (eComp (iTupD (eVar 0)) (.nm 2) bYes (eAndV (eOp1 (oIsi "tuple") (eVar 2)) (eOp2 oGt (eCall fLen (aCons (eVar 2) aNil)) (eC (.int 0)))) [2]) aNil))))) (sRaise "BadCode" ["at", "word"] (aCons (eOp1 oNeg (eC (.int 1))) (aCons (eC (.str "shape")) aNil))) sNil)
  (sCons (sFor (iEnumD (eVar 0)) (.tp [1, 2]) (sCons (sSet 3 (eUser 2 m_rows_word (aCons (eCall fLen (aCons (eVar 0) aNil)) (aCons (eVar 2) aNil))))
  (sIf (bVal (eOp2 (oIsN true) (eVar 3) (eC .non))) (sRaise "BadCode" ["at", "word"] (aCons (eVar 1) (aCons (eVar 3) aNil))) sNil)))
  (sRet (eTrim (eCall fSum (aCons (eComp (iTupD (eVar 0)) (.nm 2) bYes (eCall fLen (aCons (eVar 2) aNil)) [2]) aNil)))))))
noncomputable def m_check_code : FS := fnF N_check_code.length b_check_code
theorem ok_check_code (G : Gf K mg) (f_rows_word : Fn P w K mg base 6 "rows_word" 2 m_rows_word) (x_BadCode : Xc P w K mg base "BadCode" ["at", "word"]) : Fn P w K mg base 7 "check_code" 1 m_check_code := mk_fn G.d_check_code sc_check_code G.g_check_code bi_check_code fun cdv A outer s0 H E hr => by
  refine sn_cons ?_ ?_
  · skip
    refine s1_if (sb_w (sw_or (sb_not (sb_val (se_isi rfl rfl G.f_isinstance rfl G.f_tuple bo_tuple io_tuple (se_var 0)))) (sw_or1 (sb_not (sb_chain op_le op_le sim_cmp sim_cmp se_int (se_callB call_len sim_len rfl G.f_len bo_len (sa_cons (se_var 0) sa_nil)) (se_gint rfl G.i_WORDS_MOST)))))) ?_ ?_
    · skip
      refine sn_one ?_
      exact s1_raise rfl tk_cx x_BadCode rfl (hr.mono (by first | decide | omega)) rfl (sa_cons (se_un un_neg sim_neg se_int) (sa_cons se_str sa_nil))
    · skip
      exact sn_nil
  refine sn_cons ?_ ?_
  · skip
    refine s1_if (sb_not (sb_val (se_trim (se_callB (cr_all rfl) sim_bools rfl G.f_all bo_all (sa_cons (se_comp (own := [("rows", 2)]) rfl rfl sc_check_code.nd (si_tup rfl (se_var 0)) (show BlkOk N_check_code (defScope (topS 38)) _ _ from ⟨rfl, by decide +kernel, by decide +kernel, by decide +kernel, by decide +kernel⟩) (fun _ _ _ _ _ => (sg_name sc_check_code.nd (i := 2) rfl (by first | exact Or.inl rfl | exact Or.inr rfl))) (fun _ _ _ _ _ => sbs_nil) (fun _ _ _ _ _ => (se_and (se_isi rfl rfl G.f_isinstance rfl G.f_tuple bo_tuple io_tuple (se_var 2)) (se_one (se_cmp op_gt sim_cmp (se_callB call_len sim_len rfl G.f_len bo_len (sa_cons (se_var 2) sa_nil)) se_int))))) sa_nil))))) ?_ ?_
    · skip
      refine sn_one ?_
      exact s1_raise rfl tk_cx x_BadCode rfl (hr.mono (by first | decide | omega)) rfl (sa_cons (se_un un_neg sim_neg se_int) (sa_cons se_str sa_nil))
    · skip
      exact sn_nil
  refine sn_cons ?_ ?_
  · skip
    refine s1_for po_cx rfl (si_enumT rfl rfl G.f_enumerate (se_var 0)) rfl (sg_tup rfl (sgs_cons (sg_name sc_check_code.nd (i := 1) rfl (by first | exact Or.inl rfl | exact Or.inr rfl)) (sgs_cons (sg_name sc_check_code.nd (i := 2) rfl (by first | exact Or.inl rfl | exact Or.inr rfl)) sgs_nil))) ?_
    refine sn_cons ?_ ?_
    · skip
      exact s1_set (i := 3) sc_check_code.nd rfl (by first | exact Or.inl rfl | exact Or.inr rfl) (se_user f_rows_word (hr.mono (by decide)) rfl tk_cx (sa_cons (se_callB call_len sim_len rfl G.f_len bo_len (sa_cons (se_var 0) sa_nil)) (sa_cons (se_var 2) sa_nil)))
    refine sn_one ?_
    refine s1_if (sb_cmp op_notN sim_notN (se_var 3) se_non) ?_ ?_
    · skip
      refine sn_one ?_
      exact s1_raise rfl tk_cx x_BadCode rfl (hr.mono (by first | decide | omega)) rfl (sa_cons (se_var 1) (sa_cons (se_var 3) sa_nil))
    · skip
      exact sn_nil
  refine sn_one ?_
  exact s1_ret (se_trim (se_callB (cr_sum rfl) sim_sum rfl G.f_sum bo_sum (sa_cons (se_comp (own := [("rows", 2)]) rfl rfl sc_check_code.nd (si_tup rfl (se_var 0)) (show BlkOk N_check_code (defScope (topS 38)) _ _ from ⟨rfl, by decide +kernel, by decide +kernel, by decide +kernel, by decide +kernel⟩) (fun _ _ _ _ _ => (sg_name sc_check_code.nd (i := 2) rfl (by first | exact Or.inl rfl | exact Or.inr rfl))) (fun _ _ _ _ _ => sbs_nil) (fun _ _ _ _ _ => (se_callB call_len sim_len rfl G.f_len bo_len (sa_cons (se_var 2) sa_nil)))) sa_nil)))

def N__law_forge : List Str := ["script", "cell", "embers", "heat"]
theorem sc__law_forge : FnScope N__law_forge ["script"] (defScope (topS 40)) := ⟨rfl, rfl, rfl, by decide +kernel, rfl, by decide +kernel, by decide +kernel⟩
theorem bi__law_forge : BindOk "_law_forge" "_law_forge" (defArgs (topS 40)) (defBody (topS 40)) (defScope (topS 40)) ["script"] := fun _ _ _ _ _ _ us hl => match us, hl with | [_], _ => rfl
noncomputable def b__law_forge : SS := (sCons (sPar 2 3 (aCons (eLst aNil) (aCons (eC (.int 4001)) aNil)))
  (sCons (sFor (iLstD (eSl (eVar 0) noPart (onPart (eC (.int 40))))) (.nm 1) (sCons (sSet 3 (eOp2 oMod (eOp2 oAdd (eOp2 oAdd (eOp2 oMulA (eVar 3) (eC (.int 809))) (eOp2 oMod (eOp2 oMod (eCall fAbs (aCons (eCall fInt (aCons (eVar 1) aNil)) aNil)) (eOp2 oShl (eC (.int 1)) (eC (.int 2000)))) (eC (.int 1000313)))) (eC (.int 7))) (eC (.int 1999159))))
  (sExpr (eBM "list" mAppend (eVar 2) (aCons (eVar 3) aNil)))))
  (sRet (eDisp [("embers", (eOp2 oAdd (eVar 2) (eLst (aCons (eOp2 oAdd (eOp2 oDiv (eVar 3) (eC (.int 3))) (eC (.int 1))) (aCons (eC (.int 77)) aNil))))), ("heat", (eVar 3)), ("blows", (eC (.int 0)))]))))
noncomputable def m__law_forge : FS := fnF N__law_forge.length b__law_forge
theorem ok__law_forge (G : Gf K mg) : Fn P w K mg base 1 "_law_forge" 1 m__law_forge := mk_fn G.d__law_forge sc__law_forge G.g__law_forge bi__law_forge fun cdv A outer s0 H E hr => by
  refine sn_cons ?_ ?_
  · skip
    exact s1_par (i := 2) (j := 3) rfl sc__law_forge.nd rfl rfl (by decide) rfl rfl (sa_cons (se_lst sa_nil) (sa_cons se_int sa_nil)) rfl
  refine sn_cons ?_ ?_
  · skip
    refine s1_for po_cx rfl (si_lst rfl (se_slice rfl (se_var 0) so_none (so_some se_int))) rfl (sg_name sc__law_forge.nd (i := 1) rfl (by first | exact Or.inl rfl | exact Or.inr rfl)) ?_
    refine sn_cons ?_ ?_
    · skip
      exact s1_set (i := 3) sc__law_forge.nd rfl (by first | exact Or.inl rfl | exact Or.inr rfl) (se_bin op_mod sim_ints (se_bin op_addAll sim_add (se_bin op_addAll sim_add (se_bin op_mulAll sim_mulA (se_var 3) se_int) (se_bin op_mod sim_ints (se_bin op_mod sim_ints (se_callB call_abs sim_abs rfl G.f_abs bo_abs (sa_cons (se_callTy call_int1 sim_int rfl G.f_int bo_int (sa_cons (se_var 1) sa_nil)) sa_nil)) (se_bin op_shl sim_ints se_int se_int)) se_int)) se_int) se_int)
    refine sn_one ?_
    exact s1_expr (se_append (se_var 2) (sa_cons (se_var 3) sa_nil))
  refine sn_one ?_
  exact s1_ret (se_disp (.cons (se_bin op_addAll sim_add (se_var 2) (se_lst (sa_cons (se_bin op_addAll sim_add (se_bin op_fdivW sim_ints (se_var 3) se_int) se_int) (sa_cons se_int sa_nil)))) (.cons (se_var 3) (.cons se_int .nil))))

def N__law_blow : List Str := ["forge", "many", "blows"]
theorem sc__law_blow : FnScope N__law_blow ["forge", "many"] (defScope (topS 41)) := ⟨rfl, rfl, rfl, by decide +kernel, rfl, by decide +kernel, by decide +kernel⟩
theorem bi__law_blow : BindOk "_law_blow" "_law_blow" (defArgs (topS 41)) (defBody (topS 41)) (defScope (topS 41)) ["forge", "many"] := fun _ _ _ _ _ _ us hl => match us, hl with | [_, _], _ => rfl
noncomputable def b__law_blow : SS := (sCons (sSet 2 (eOp2 oAdd (eOp2 oDget (eVar 0) (eC (.str "blows"))) (eC (.int 1))))
  (sCons (sDput (eVar 0) (eC (.str "blows")) (eVar 2))
  (sCons (sDput (eVar 0) (eC (.str "heat")) (eOp2 oMod (eCall fInt (aCons (eOp2 oAdd (eOp2 oAdd (eOp2 oMulA (eOp2 oDget (eVar 0) (eC (.str "heat"))) (eC (.int 1607))) (eOp2 oMulA (eOp2 oIx (eOp2 oDget (eVar 0) (eC (.str "embers"))) (eOp2 oMod (eVar 2) (eCall fLen (aCons (eOp2 oDget (eVar 0) (eC (.str "embers"))) aNil)))) (eC (.int 13)))) (eOp2 oMulA (eOp2 oMulA (eVar 2) (eVar 2)) (eC (.int 5)))) aNil)) (eC (.int 1999159))))
  (sRet (eOp2 oMod (eOp2 oDiv (eCall fInt (aCons (eOp2 oDget (eVar 0) (eC (.str "heat"))) aNil)) (eC (.int 11))) (eVar 1))))))
noncomputable def m__law_blow : FS := fnF N__law_blow.length b__law_blow
theorem ok__law_blow (G : Gf K mg) : Fn P w K mg base 1 "_law_blow" 2 m__law_blow := mk_fn G.d__law_blow sc__law_blow G.g__law_blow bi__law_blow fun cdv A outer s0 H E hr => by
  refine sn_cons ?_ ?_
  · skip
    exact s1_set (i := 2) sc__law_blow.nd rfl (by first | exact Or.inl rfl | exact Or.inr rfl) (se_bin op_addAll sim_add (se_dget (room_1 hr) (se_var 0) se_str) se_int)
  refine sn_cons ?_ ?_
  · skip
    exact s1_dput (room_1 hr) (se_var 0) se_str (se_var 2)
  refine sn_cons ?_ ?_
  · skip
    exact s1_dput (room_1 hr) (se_var 0) se_str (se_bin op_mod sim_ints (se_callTy call_int1 sim_int rfl G.f_int bo_int (sa_cons (se_bin op_addAll sim_add (se_bin op_addAll sim_add (se_bin op_mulAll sim_mulA (se_dget (room_1 hr) (se_var 0) se_str) se_int) (se_bin op_mulAll sim_mulA (se_ix ix_seq sim_ix (se_dget (room_1 hr) (se_var 0) se_str) (se_bin op_mod sim_ints (se_var 2) (se_callB call_len sim_len rfl G.f_len bo_len (sa_cons (se_dget (room_1 hr) (se_var 0) se_str) sa_nil)))) se_int)) (se_bin op_mulAll sim_mulA (se_bin op_mulAll sim_mulA (se_var 2) (se_var 2)) se_int)) sa_nil)) se_int)
  refine sn_one ?_
  exact s1_ret (se_bin op_mod sim_ints (se_bin op_fdivW sim_ints (se_callTy call_int1 sim_int rfl G.f_int bo_int (sa_cons (se_dget (room_1 hr) (se_var 0) se_str) sa_nil)) se_int) (se_var 1))

def N__law_whole : List Str := ["thing", "low"]
theorem sc__law_whole : FnScope N__law_whole ["thing", "low"] (defScope (topS 42)) := ⟨rfl, rfl, rfl, by decide +kernel, rfl, by decide +kernel, by decide +kernel⟩
theorem bi__law_whole : BindOk "_law_whole" "_law_whole" (defArgs (topS 42)) (defBody (topS 42)) (defScope (topS 42)) ["thing", "low"] := fun _ _ _ _ _ _ us hl => match us, hl with | [_, _], _ => rfl
noncomputable def b__law_whole : SS := (sRet (eAndV (eOp1 (oIsi "int") (eVar 0)) (eAndV (eNotV (eOp1 (oIsi "bool") (eVar 0))) (eOp2 oGe (eVar 0) (eVar 1)))))
noncomputable def m__law_whole : FS := fnF N__law_whole.length b__law_whole
theorem ok__law_whole (G : Gf K mg) : Fn P w K mg base 1 "_law_whole" 2 m__law_whole := mk_fn G.d__law_whole sc__law_whole G.g__law_whole bi__law_whole fun cdv A outer s0 H E hr => by
  refine sn_one ?_
  exact s1_ret (se_and (se_isi rfl rfl G.f_isinstance rfl G.f_int bo_int io_int (se_var 0)) (se_and (se_not (se_isi rfl rfl G.f_isinstance rfl G.f_bool bo_bool io_bool (se_var 0))) (se_one (se_cmp op_ge sim_cmp (se_var 0) (se_var 1)))))

def N__law_form : List Str := ["forge", "m"]
theorem sc__law_form : FnScope N__law_form ["forge"] (defScope (topS 43)) := ⟨rfl, rfl, rfl, by decide +kernel, rfl, by decide +kernel, by decide +kernel⟩
theorem bi__law_form : BindOk "_law_form" "_law_form" (defArgs (topS 43)) (defBody (topS 43)) (defScope (topS 43)) ["forge"] := fun _ _ _ _ _ _ us hl => match us, hl with | [_], _ => rfl
noncomputable def b__law_form : SS := (sCons (sSet 1 (eOp2 oAdd (eC (.int 1)) (eUser 2 m__law_blow (aCons (eVar 0) (aCons (eC (.int 6)) aNil)))))
  (sRet (eTup (aCons (eUser 2 m__law_blow (aCons (eVar 0) (aCons (eVar 1) aNil))) (aCons (eVar 1) (aCons (eOp2 oSub (eUser 2 m__law_blow (aCons (eVar 0) (aCons (eC (.int 30)) aNil))) (eC (.int 9))) (aCons (eOp2 oMulA (eOp2 oAdd (eC (.int 1)) (eUser 2 m__law_blow (aCons (eVar 0) (aCons (eC (.int 6)) aNil)))) (eOp2 oSub (eC (.int 1)) (eOp2 oMulA (eC (.int 2)) (eUser 2 m__law_blow (aCons (eVar 0) (aCons (eC (.int 2)) aNil)))))) aNil)))))))
noncomputable def m__law_form : FS := fnF N__law_form.length b__law_form
theorem ok__law_form (G : Gf K mg) (f__law_blow : Fn P w K mg base 1 "_law_blow" 2 m__law_blow) : Fn P w K mg base 2 "_law_form" 1 m__law_form := mk_fn G.d__law_form sc__law_form G.g__law_form bi__law_form fun cdv A outer s0 H E hr => by
  refine sn_cons ?_ ?_
  · skip
    exact s1_set (i := 1) sc__law_form.nd rfl (by first | exact Or.inl rfl | exact Or.inr rfl) (se_bin op_addAll sim_add se_int (se_user f__law_blow (hr.mono (by decide)) rfl tk_cx (sa_cons (se_var 0) (sa_cons se_int sa_nil))))
  refine sn_one ?_
  exact s1_ret (se_tup (sa_cons (se_user f__law_blow (hr.mono (by decide)) rfl tk_cx (sa_cons (se_var 0) (sa_cons (se_var 1) sa_nil))) (sa_cons (se_var 1) (sa_cons (se_bin op_sub sim_sub (se_user f__law_blow (hr.mono (by decide)) rfl tk_cx (sa_cons (se_var 0) (sa_cons se_int sa_nil))) se_int) (sa_cons (se_bin op_mulAll sim_mulA (se_bin op_addAll sim_add se_int (se_user f__law_blow (hr.mono (by decide)) rfl tk_cx (sa_cons (se_var 0) (sa_cons se_int sa_nil)))) (se_bin op_sub sim_sub se_int (se_bin op_mulAll sim_mulA se_int (se_user f__law_blow (hr.mono (by decide)) rfl tk_cx (sa_cons (se_var 0) (sa_cons se_int sa_nil)))))) sa_nil)))))

def N__law_body : List Str := ["forge", "deeds", "words", "deep", "left", "told", "lap", "kind", "part"]
theorem sc__law_body : FnScope N__law_body ["forge", "deeds", "words", "deep", "left"] (defScope (topS 44)) := ⟨rfl, rfl, rfl, by decide +kernel, rfl, by decide +kernel, by decide +kernel⟩
theorem bi__law_body : BindOk "_law_body" "_law_body" (defArgs (topS 44)) (defBody (topS 44)) (defScope (topS 44)) ["forge", "deeds", "words", "deep", "left"] := fun _ _ _ _ _ _ us hl => match us, hl with | [_, _, _, _, _], _ => rfl
noncomputable def b__law_body (c__law_body : FS) : SS := (sCons (sSet 5 (eLst aNil))
  (sCons (sFor (iRangeD (aCons (eCall fMin2 (aCons (eOp2 oIx (eVar 4) (eC (.int 0))) (aCons (eUser 2 m__law_blow (aCons (eVar 0) (aCons (eC (.int 4)) aNil))) aNil))) aNil)) (.nm 6) (sCons (sSub oSetL (eVar 4) (eC (.int 0)) (eOp2 oSub (eOp2 oIx (eVar 4) (eC (.int 0))) (eC (.int 2))))
  (sCons (sSet 7 (eUser 2 m__law_blow (aCons (eVar 0) (aCons (eIf (bVal (eOp2 oLt (eVar 3) (eC (.int 2)))) (eC (.int 8)) (eC (.int 5))) aNil))))
  (sIf (bVal (eOp2 oLt (eVar 7) (eC (.int 2)))) (sExpr (eBM "list" mAppend (eVar 5) (aCons (eTup (aCons (eC (.str "deed")) (aCons (eUser 2 m__law_blow (aCons (eVar 0) (aCons (eVar 1) aNil))) aNil))) aNil))) (sIf (bVal (eOp2 (oEq false) (eVar 7) (eC (.int 2)))) (sExpr (eBM "list" mAppend (eVar 5) (aCons (eTup (aCons (eC (.str "call")) (aCons (eUser 2 m__law_blow (aCons (eVar 0) (aCons (eVar 2) aNil))) aNil))) aNil))) (sIf (bVal (eOp2 (oEq false) (eVar 7) (eC (.int 3)))) (sExpr (eBM "list" mAppend (eVar 5) (aCons (eTup (aCons (eC (.str "back")) aNil)) aNil))) (sIf (bVal (eOp2 (oEq false) (eVar 7) (eC (.int 4)))) (sExpr (eBM "list" mAppend (eVar 5) (aCons (eTup (aCons (eC (.str "repeat")) (aCons (eUser 2 m__law_blow (aCons (eVar 0) (aCons (eC (.int 4)) aNil))) (aCons (eOp2 oMulA (eTup (aCons (eTup (aCons (eC (.str "deed")) (aCons (eUser 2 m__law_blow (aCons (eVar 0) (aCons (eVar 1) aNil))) aNil))) aNil)) (eUser 2 m__law_blow (aCons (eVar 0) (aCons (eC (.int 2)) aNil)))) aNil)))) aNil))) (sIf (bVal (eOp2 (oEq false) (eVar 7) (eC (.int 5)))) (sExpr (eBM "list" mAppend (eVar 5) (aCons (eTup (aCons (eC (.str "loop")) (aCons (eUser 5 c__law_body (aCons (eVar 0) (aCons (eVar 1) (aCons (eVar 2) (aCons (eOp2 oAdd (eVar 3) (eC (.int 1))) (aCons (eVar 4) aNil)))))) aNil))) aNil))) (sIf (bVal (eOp2 (oEq false) (eVar 7) (eC (.int 6)))) (sExpr (eBM "list" mAppend (eVar 5) (aCons (eTup (aCons (eC (.str "repeat")) (aCons (eUser 2 m__law_blow (aCons (eVar 0) (aCons (eC (.int 3)) aNil))) (aCons (eUser 5 c__law_body (aCons (eVar 0) (aCons (eVar 1) (aCons (eVar 2) (aCons (eOp2 oAdd (eVar 3) (eC (.int 1))) (aCons (eVar 4) aNil)))))) aNil)))) aNil))) (sExpr (eBM "list" mAppend (eVar 5) (aCons (eTup (aCons (eC (.str "either")) (aCons (eTrim (eCall fTuple (aCons (eComp (iRangeD (aCons (eOp2 oAdd (eC (.int 2)) (eUser 2 m__law_blow (aCons (eVar 0) (aCons (eC (.int 2)) aNil)))) aNil)) (.nm 8) bYes (eUser 5 c__law_body (aCons (eVar 0) (aCons (eVar 1) (aCons (eVar 2) (aCons (eOp2 oAdd (eVar 3) (eC (.int 1))) (aCons (eVar 4) aNil)))))) [8]) aNil))) aNil))) aNil))))))))))))
  (sRet (eCall fTuple (aCons (eVar 5) aNil)))))
noncomputable def m__law_body : Nat → FS
  | 0 => fun _ _ => .bad
  | k + 1 => fnF N__law_body.length (b__law_body (m__law_body k))
theorem st__law_body (G : Gf K mg) (f__law_blow : Fn P w K mg base 1 "_law_blow" 2 m__law_blow) {k : Nat} (hk : 1 ≤ k) {c__law_body : FS} (f__law_body : Fn P w K mg base k "_law_body" 5 c__law_body) : Fn P w K mg base (k + 1) "_law_body" 5 (fnF N__law_body.length (b__law_body c__law_body)) := mk_fn G.d__law_body sc__law_body G.g__law_body bi__law_body fun cdv A outer s0 H E hr => by
  refine sn_cons ?_ ?_
  · skip
    exact s1_set (i := 5) sc__law_body.nd rfl (by first | exact Or.inl rfl | exact Or.inr rfl) (se_lst sa_nil)
  refine sn_cons ?_ ?_
  · skip
    refine s1_for po_cx rfl (si_range1 rfl G.f_range (sa_cons (se_callB (call_min2 rfl) sim_min2 rfl G.f_min bo_min (sa_cons (se_ix ix_seq sim_ix (se_var 4) se_int) (sa_cons (se_user f__law_blow (hr.mono (by omega)) rfl tk_cx (sa_cons (se_var 0) (sa_cons se_int sa_nil))) sa_nil))) sa_nil) al_one) rfl (sg_name sc__law_body.nd (i := 6) rfl (by first | exact Or.inl rfl | exact Or.inr rfl)) ?_
    refine sn_cons ?_ ?_
    · skip
      exact s1_sub set_list sim_setL (se_bin op_sub sim_sub (se_ix ix_seq sim_ix (se_var 4) se_int) se_int) (se_var 4) se_int (pg_sub (se_var 4) se_int set_list)
    refine sn_cons ?_ ?_
    · skip
      exact s1_set (i := 7) sc__law_body.nd rfl (by first | exact Or.inl rfl | exact Or.inr rfl) (se_user f__law_blow (hr.mono (by omega)) rfl tk_cx (sa_cons (se_var 0) (sa_cons (se_if (sb_cmp op_lt sim_cmp (se_var 3) se_int) se_int se_int) sa_nil)))
    refine sn_one ?_
    refine s1_if (sb_cmp op_lt sim_cmp (se_var 7) se_int) ?_ ?_
    · skip
      refine sn_one ?_
      exact s1_expr (se_append (se_var 5) (sa_cons (se_tup (sa_cons se_str (sa_cons (se_user f__law_blow (hr.mono (by omega)) rfl tk_cx (sa_cons (se_var 0) (sa_cons (se_var 1) sa_nil))) sa_nil))) sa_nil))
    · skip
      refine sn_one ?_
      refine s1_if (sb_cmp (op_eqD (room_u hr)) sim_eqD (se_var 7) se_int) ?_ ?_
      · skip
        refine sn_one ?_
        exact s1_expr (se_append (se_var 5) (sa_cons (se_tup (sa_cons se_str (sa_cons (se_user f__law_blow (hr.mono (by omega)) rfl tk_cx (sa_cons (se_var 0) (sa_cons (se_var 2) sa_nil))) sa_nil))) sa_nil))
      · skip
        refine sn_one ?_
        refine s1_if (sb_cmp (op_eqD (room_u hr)) sim_eqD (se_var 7) se_int) ?_ ?_
        · skip
          refine sn_one ?_
          exact s1_expr (se_append (se_var 5) (sa_cons (se_tup (sa_cons se_str sa_nil)) sa_nil))
        · skip
          refine sn_one ?_
          refine s1_if (sb_cmp (op_eqD (room_u hr)) sim_eqD (se_var 7) se_int) ?_ ?_
          · skip
            refine sn_one ?_
            exact s1_expr (se_append (se_var 5) (sa_cons (se_tup (sa_cons se_str (sa_cons (se_user f__law_blow (hr.mono (by omega)) rfl tk_cx (sa_cons (se_var 0) (sa_cons se_int sa_nil))) (sa_cons (se_bin op_mulAll sim_mulA (se_tup (sa_cons (se_tup (sa_cons se_str (sa_cons (se_user f__law_blow (hr.mono (by omega)) rfl tk_cx (sa_cons (se_var 0) (sa_cons (se_var 1) sa_nil))) sa_nil))) sa_nil)) (se_user f__law_blow (hr.mono (by omega)) rfl tk_cx (sa_cons (se_var 0) (sa_cons se_int sa_nil)))) sa_nil)))) sa_nil))
          · skip
            refine sn_one ?_
            refine s1_if (sb_cmp (op_eqD (room_u hr)) sim_eqD (se_var 7) se_int) ?_ ?_
            · skip
              refine sn_one ?_
              exact s1_expr (se_append (se_var 5) (sa_cons (se_tup (sa_cons se_str (sa_cons (se_user f__law_body hr rfl tk_cx (sa_cons (se_var 0) (sa_cons (se_var 1) (sa_cons (se_var 2) (sa_cons (se_bin op_addAll sim_add (se_var 3) se_int) (sa_cons (se_var 4) sa_nil)))))) sa_nil))) sa_nil))
            · skip
              refine sn_one ?_
              refine s1_if (sb_cmp (op_eqD (room_u hr)) sim_eqD (se_var 7) se_int) ?_ ?_
              · skip
                refine sn_one ?_
                exact s1_expr (se_append (se_var 5) (sa_cons (se_tup (sa_cons se_str (sa_cons (se_user f__law_blow (hr.mono (by omega)) rfl tk_cx (sa_cons (se_var 0) (sa_cons se_int sa_nil))) (sa_cons (se_user f__law_body hr rfl tk_cx (sa_cons (se_var 0) (sa_cons (se_var 1) (sa_cons (se_var 2) (sa_cons (se_bin op_addAll sim_add (se_var 3) se_int) (sa_cons (se_var 4) sa_nil)))))) sa_nil)))) sa_nil))
              · skip
                refine sn_one ?_
                exact s1_expr (se_append (se_var 5) (sa_cons (se_tup (sa_cons se_str (sa_cons (se_trim (se_callTy call_tuple_of sim_tuple rfl G.f_tuple bo_tuple (sa_cons (se_comp (own := [("part", 8)]) rfl rfl sc__law_body.nd (si_range1 rfl G.f_range (sa_cons (se_bin op_addAll sim_add se_int (se_user f__law_blow (hr.mono (by omega)) rfl tk_cx (sa_cons (se_var 0) (sa_cons se_int sa_nil)))) sa_nil) al_one) (show BlkOk N__law_body (defScope (topS 44)) _ _ from ⟨rfl, by decide +kernel, by decide +kernel, by decide +kernel, by decide +kernel⟩) (fun _ _ _ _ _ => (sg_name sc__law_body.nd (i := 8) rfl (by first | exact Or.inl rfl | exact Or.inr rfl))) (fun _ _ _ _ _ => sbs_nil) (fun _ _ _ _ _ => (se_user f__law_body hr rfl takes0 (sa_cons (se_var 0) (sa_cons (se_var 1) (sa_cons (se_var 2) (sa_cons (se_bin op_addAll sim_add (se_var 3) se_int) (sa_cons (se_var 4) sa_nil)))))))) sa_nil))) sa_nil))) sa_nil))
  refine sn_one ?_
  exact s1_ret (se_callTy call_tuple_of sim_tuple rfl G.f_tuple bo_tuple (sa_cons (se_var 5) sa_nil))

theorem all__law_body (G : Gf K mg) (f__law_blow : Fn P w K mg base 1 "_law_blow" 2 m__law_blow) : ∀ k, Fn P w K mg base (1 + k) "_law_body" 5 (m__law_body k)
  | 0 => fn_bad G.d__law_body G.g__law_body bi__law_body
  | k + 1 => let i__law_body := all__law_body G f__law_blow k
    st__law_body G f__law_blow (Nat.le_add_right _ _) i__law_body
theorem ok__law_body (G : Gf K mg) (f__law_blow : Fn P w K mg base 1 "_law_blow" 2 m__law_blow) : Fn P w K mg base 41 "_law_body" 5 (m__law_body 40) := (all__law_body G f__law_blow 40)
def N__law_program : List Str := ["forge", "pool", "deeds", "names", "at", "left", "lap", "name"]
theorem sc__law_program : FnScope N__law_program ["forge"] (defScope (topS 45)) := ⟨rfl, rfl, rfl, by decide +kernel, rfl, by decide +kernel, by decide +kernel⟩
theorem bi__law_program : BindOk "_law_program" "_law_program" (defArgs (topS 45)) (defBody (topS 45)) (defScope (topS 45)) ["forge"] := fun _ _ _ _ _ _ us hl => match us, hl with | [_], _ => rfl
noncomputable def b__law_program : SS := (sCons (sSet 1 (eLst (aCons (eC (.str "a")) (aCons (eC (.str "b2")) (aCons (eC (.str "half")) (aCons (eC (.str "to")) (aCons (eC (.str "deed")) (aCons (eC (.str "q9q9q9q9q9q9")) (aCons (eC (.str "loop")) (aCons (eC (.str "step")) aNil))))))))))
  (sCons (sSet 2 (eTrim (eCall fTuple (aCons (eComp (iRangeD (aCons (eOp2 oAdd (eC (.int 1)) (eUser 2 m__law_blow (aCons (eVar 0) (aCons (eC (.int 4)) aNil)))) aNil)) (.nm 6) bYes (eTup (aCons (eBM "list" mPopAt (eVar 1) (aCons (eUser 2 m__law_blow (aCons (eVar 0) (aCons (eCall fLen (aCons (eVar 1) aNil)) aNil))) aNil)) (aCons (eUser 1 m__law_form (aCons (eVar 0) aNil)) aNil))) [6]) aNil))))
  (sCons (sSet 3 (eOp2 oAdd (eLst (aCons (eC (.str "main")) aNil)) (eComp (iRangeD (aCons (eUser 2 m__law_blow (aCons (eVar 0) (aCons (eC (.int 4)) aNil))) aNil)) (.nm 6) bYes (eBM "list" mPopAt (eVar 1) (aCons (eUser 2 m__law_blow (aCons (eVar 0) (aCons (eCall fLen (aCons (eVar 1) aNil)) aNil))) aNil)) [6])))
  (sCons (sSet 4 (eUser 2 m__law_blow (aCons (eVar 0) (aCons (eCall fLen (aCons (eVar 3) aNil)) aNil))))
  (sCons (sAsg (gPair (gSubD oSetL (eVar 3) (eC (.int 0))) (gSubD oSetL (eVar 3) (eVar 4))) (eTup (aCons (eOp2 oIx (eVar 3) (eVar 4)) (aCons (eOp2 oIx (eVar 3) (eC (.int 0))) aNil))))
  (sCons (sSet 5 (eLst (aCons (eC (.int 60)) aNil)))
  (sRet (eTup (aCons (eVar 2) (aCons (eCall fTuple (aCons (eVar 3) aNil)) (aCons (eTrim (eCall fTuple (aCons (eComp (iLstD (eVar 3)) (.nm 7) bYes (eUser 5 (m__law_body 40) (aCons (eVar 0) (aCons (eCall fLen (aCons (eVar 2) aNil)) (aCons (eCall fLen (aCons (eVar 3) aNil)) (aCons (eC (.int 0)) (aCons (eVar 5) aNil)))))) [7]) aNil))) aNil)))))))))))
noncomputable def m__law_program : FS := fnF N__law_program.length b__law_program
theorem ok__law_program (G : Gf K mg) (f__law_blow : Fn P w K mg base 1 "_law_blow" 2 m__law_blow) (f__law_body : Fn P w K mg base 41 "_law_body" 5 (m__law_body 40)) (f__law_form : Fn P w K mg base 2 "_law_form" 1 m__law_form) : Fn P w K mg base 42 "_law_program" 1 m__law_program := mk_fn G.d__law_program sc__law_program G.g__law_program bi__law_program fun cdv A outer s0 H E hr => by
  refine sn_cons ?_ ?_
  · skip
    exact s1_set (i := 1) sc__law_program.nd rfl (by first | exact Or.inl rfl | exact Or.inr rfl) (se_lst (sa_cons se_str (sa_cons se_str (sa_cons se_str (sa_cons se_str (sa_cons se_str (sa_cons se_str (sa_cons se_str (sa_cons se_str sa_nil)))))))))
  refine sn_cons ?_ ?_
  · skip
    exact s1_set (i := 2) sc__law_program.nd rfl (by first | exact Or.inl rfl | exact Or.inr rfl) (se_trim (se_callTy call_tuple_of sim_tuple rfl G.f_tuple bo_tuple (sa_cons (se_comp (own := [("lap", 6)]) rfl rfl sc__law_program.nd (si_range1 rfl G.f_range (sa_cons (se_bin op_addAll sim_add se_int (se_user f__law_blow (hr.mono (by decide)) rfl tk_cx (sa_cons (se_var 0) (sa_cons se_int sa_nil)))) sa_nil) al_one) (show BlkOk N__law_program (defScope (topS 45)) _ _ from ⟨rfl, by decide +kernel, by decide +kernel, by decide +kernel, by decide +kernel⟩) (fun _ _ _ _ _ => (sg_name sc__law_program.nd (i := 6) rfl (by first | exact Or.inl rfl | exact Or.inr rfl))) (fun _ _ _ _ _ => sbs_nil) (fun _ _ _ _ _ => (se_tup (sa_cons (se_popAt (se_var 1) (sa_cons (se_user f__law_blow (hr.mono (by decide)) rfl takes0 (sa_cons (se_var 0) (sa_cons (se_callB call_len sim_len rfl G.f_len bo_len (sa_cons (se_var 1) sa_nil)) sa_nil))) sa_nil)) (sa_cons (se_user f__law_form (hr.mono (by decide)) rfl takes0 (sa_cons (se_var 0) sa_nil)) sa_nil))))) sa_nil)))
  refine sn_cons ?_ ?_
  · skip
    exact s1_set (i := 3) sc__law_program.nd rfl (by first | exact Or.inl rfl | exact Or.inr rfl) (se_bin op_addAll sim_add (se_lst (sa_cons se_str sa_nil)) (se_comp (own := [("lap", 6)]) rfl rfl sc__law_program.nd (si_range1 rfl G.f_range (sa_cons (se_user f__law_blow (hr.mono (by decide)) rfl tk_cx (sa_cons (se_var 0) (sa_cons se_int sa_nil))) sa_nil) al_one) (show BlkOk N__law_program (defScope (topS 45)) _ _ from ⟨rfl, by decide +kernel, by decide +kernel, by decide +kernel, by decide +kernel⟩) (fun _ _ _ _ _ => (sg_name sc__law_program.nd (i := 6) rfl (by first | exact Or.inl rfl | exact Or.inr rfl))) (fun _ _ _ _ _ => sbs_nil) (fun _ _ _ _ _ => (se_popAt (se_var 1) (sa_cons (se_user f__law_blow (hr.mono (by decide)) rfl takes0 (sa_cons (se_var 0) (sa_cons (se_callB call_len sim_len rfl G.f_len bo_len (sa_cons (se_var 1) sa_nil)) sa_nil))) sa_nil)))))
  refine sn_cons ?_ ?_
  · skip
    exact s1_set (i := 4) sc__law_program.nd rfl (by first | exact Or.inl rfl | exact Or.inr rfl) (se_user f__law_blow (hr.mono (by decide)) rfl tk_cx (sa_cons (se_var 0) (sa_cons (se_callB call_len sim_len rfl G.f_len bo_len (sa_cons (se_var 3) sa_nil)) sa_nil)))
  refine sn_cons ?_ ?_
  · skip
    exact s1_asg (se_tup (sa_cons (se_ix ix_seq sim_ix (se_var 3) (se_var 4)) (sa_cons (se_ix ix_seq sim_ix (se_var 3) se_int) sa_nil))) (sgg_pair rfl rfl (sgg_sub set_list sim_setL (se_var 3) se_int) (sgg_sub set_list sim_setL (se_var 3) (se_var 4)))
  refine sn_cons ?_ ?_
  · skip
    exact s1_set (i := 5) sc__law_program.nd rfl (by first | exact Or.inl rfl | exact Or.inr rfl) (se_lst (sa_cons se_int sa_nil))
  refine sn_one ?_
  exact s1_ret (se_tup (sa_cons (se_var 2) (sa_cons (se_callTy call_tuple_of sim_tuple rfl G.f_tuple bo_tuple (sa_cons (se_var 3) sa_nil)) (sa_cons (se_trim (se_callTy call_tuple_of sim_tuple rfl G.f_tuple bo_tuple (sa_cons (se_comp (own := [("name", 7)]) rfl rfl sc__law_program.nd (si_lst rfl (se_var 3)) (show BlkOk N__law_program (defScope (topS 45)) _ _ from ⟨rfl, by decide +kernel, by decide +kernel, by decide +kernel, by decide +kernel⟩) (fun _ _ _ _ _ => (sg_name sc__law_program.nd (i := 7) rfl (by first | exact Or.inl rfl | exact Or.inr rfl))) (fun _ _ _ _ _ => sbs_nil) (fun _ _ _ _ _ => (se_user f__law_body (hr.mono (by decide)) rfl takes0 (sa_cons (se_var 0) (sa_cons (se_callB call_len sim_len rfl G.f_len bo_len (sa_cons (se_var 2) sa_nil)) (sa_cons (se_callB call_len sim_len rfl G.f_len bo_len (sa_cons (se_var 3) sa_nil)) (sa_cons se_int (sa_cons (se_var 5) sa_nil)))))))) sa_nil))) sa_nil))))

def N__law_is_word : List Str := ["thing", "sign"]
theorem sc__law_is_word : FnScope N__law_is_word ["thing"] (defScope (topS 46)) := ⟨rfl, rfl, rfl, by decide +kernel, rfl, by decide +kernel, by decide +kernel⟩
theorem bi__law_is_word : BindOk "_law_is_word" "_law_is_word" (defArgs (topS 46)) (defBody (topS 46)) (defScope (topS 46)) ["thing"] := fun _ _ _ _ _ _ us hl => match us, hl with | [_], _ => rfl
noncomputable def b__law_is_word : SS := (sCons (sIf (bOr (bNot (bVal (eOp1 (oIsi "str") (eVar 0)))) (bOr (bNot (bVal (eChain oLe oLe (eC (.int 1)) (eCall fLen (aCons (eVar 0) aNil)) (eC (.int 12))))) (bVal (eOp2 (oIn true) (eOp2 oIx (eVar 0) (eC (.int 0))) (eC (.str "abcdefghijklmnopqrstuvwxyz")))))) (sRet (eC (.bl false))) sNil)
  (sRet (eOp2 (oEq false) (eTrim (eCall fLen (aCons (eComp (iStrD (eVar 0)) (.nm 1) (bVal (eOp2 (oIn true) (eVar 1) (eC (.str "abcdefghijklmnopqrstuvwxyz0123456789")))) (eVar 1) [1]) aNil))) (eC (.int 0)))))
noncomputable def m__law_is_word : FS := fnF N__law_is_word.length b__law_is_word
theorem ok__law_is_word (G : Gf K mg) : Fn P w K mg base 1 "_law_is_word" 1 m__law_is_word := mk_fn G.d__law_is_word sc__law_is_word G.g__law_is_word bi__law_is_word fun cdv A outer s0 H E hr => by
  refine sn_cons ?_ ?_
  · skip
    refine s1_if (sb_w (sw_or (sb_not (sb_val (se_isi rfl rfl G.f_isinstance rfl G.f_str bo_str io_str (se_var 0)))) (sw_or (sb_not (sb_chain op_le op_le sim_cmp sim_cmp se_int (se_callB call_len sim_len rfl G.f_len bo_len (sa_cons (se_var 0) sa_nil)) se_int)) (sw_or1 (sb_cmp op_ninAll sim_in (se_ix ix_seq sim_ix (se_var 0) se_int) se_str (by first | exact nomark _ | rfl | with_unfolding_all rfl)))))) ?_ ?_
    · skip
      refine sn_one ?_
      exact s1_ret se_bl
    · skip
      exact sn_nil
  refine sn_one ?_
  exact s1_ret (se_cmp (op_eqD (room_u hr)) sim_eqD (se_trim (se_callB call_len sim_len rfl G.f_len bo_len (sa_cons (se_comp (own := [("sign", 1)]) rfl rfl sc__law_is_word.nd (si_str (se_var 0)) (show BlkOk N__law_is_word (defScope (topS 46)) _ _ from ⟨rfl, by decide +kernel, by decide +kernel, by decide +kernel, by decide +kernel⟩) (fun _ _ _ _ _ => (sg_name sc__law_is_word.nd (i := 1) rfl (by first | exact Or.inl rfl | exact Or.inr rfl))) (fun _ _ _ _ _ => (sbs_one (sb_cmp op_ninAll sim_in (se_var 1) se_str (by first | exact nomark _ | rfl | with_unfolding_all rfl)))) (fun _ _ _ _ _ => (se_var 1))) sa_nil))) se_int)

def N__law_is_form : List Str := ["thing", "one"]
theorem sc__law_is_form : FnScope N__law_is_form ["thing"] (defScope (topS 47)) := ⟨rfl, rfl, rfl, by decide +kernel, rfl, by decide +kernel, by decide +kernel⟩
theorem bi__law_is_form : BindOk "_law_is_form" "_law_is_form" (defArgs (topS 47)) (defBody (topS 47)) (defScope (topS 47)) ["thing"] := fun _ _ _ _ _ _ us hl => match us, hl with | [_], _ => rfl
noncomputable def b__law_is_form : SS := (sCons (sIf (bOr (bNot (bVal (eOp1 (oIsi "tuple") (eVar 0)))) (bOr (bVal (eOp2 (oEq true) (eCall fLen (aCons (eVar 0) aNil)) (eC (.int 4)))) (bVal (eOp2 oGt (eTrim (eCall fLen (aCons (eComp (iTupD (eVar 0)) (.nm 1) (bOr (bNot (bVal (eOp1 (oIsi "int") (eVar 1)))) (bVal (eOp1 (oIsi "bool") (eVar 1)))) (eVar 1) [1]) aNil))) (eC (.int 0)))))) (sRet (eC (.bl false))) sNil)
  (sRet (eAndV (eOp2 oGt (eOp2 oIx (eVar 0) (eC (.int 1))) (eC (.int 0))) (eAndV (eChain oLe oLt (eC (.int 0)) (eOp2 oIx (eVar 0) (eC (.int 0))) (eOp2 oIx (eVar 0) (eC (.int 1)))) (eOp2 (oEq true) (eOp2 oIx (eVar 0) (eC (.int 3))) (eC (.int 0)))))))
noncomputable def m__law_is_form : FS := fnF N__law_is_form.length b__law_is_form
theorem ok__law_is_form (G : Gf K mg) : Fn P w K mg base 1 "_law_is_form" 1 m__law_is_form := mk_fn G.d__law_is_form sc__law_is_form G.g__law_is_form bi__law_is_form fun cdv A outer s0 H E hr => by
  refine sn_cons ?_ ?_
  · skip
    refine s1_if (sb_w (sw_or (sb_not (sb_val (se_isi rfl rfl G.f_isinstance rfl G.f_tuple bo_tuple io_tuple (se_var 0)))) (sw_or (sb_cmp (op_neD (room_u hr)) sim_neD (se_callB call_len sim_len rfl G.f_len bo_len (sa_cons (se_var 0) sa_nil)) se_int) (sw_or1 (sb_cmp op_gt sim_cmp (se_trim (se_callB call_len sim_len rfl G.f_len bo_len (sa_cons (se_comp (own := [("one", 1)]) rfl rfl sc__law_is_form.nd (si_tup rfl (se_var 0)) (show BlkOk N__law_is_form (defScope (topS 47)) _ _ from ⟨rfl, by decide +kernel, by decide +kernel, by decide +kernel, by decide +kernel⟩) (fun _ _ _ _ _ => (sg_name sc__law_is_form.nd (i := 1) rfl (by first | exact Or.inl rfl | exact Or.inr rfl))) (fun _ _ _ _ _ => (sbs_one (sb_w (sw_or (sb_not (sb_val (se_isi rfl rfl G.f_isinstance rfl G.f_int bo_int io_int (se_var 1)))) (sw_or1 (sb_val (se_isi rfl rfl G.f_isinstance rfl G.f_bool bo_bool io_bool (se_var 1)))))))) (fun _ _ _ _ _ => (se_var 1))) sa_nil))) se_int))))) ?_ ?_
    · skip
      refine sn_one ?_
      exact s1_ret se_bl
    · skip
      exact sn_nil
  refine sn_one ?_
  exact s1_ret (se_and (se_cmp op_gt sim_cmp (se_ix ix_seq sim_ix (se_var 0) se_int) se_int) (se_and (se_chain op_le op_lt sim_cmp sim_cmp se_int (se_ix ix_seq sim_ix (se_var 0) se_int) (se_ix ix_seq sim_ix (se_var 0) se_int)) (se_one (se_cmp (op_neD (room_u hr)) sim_neD (se_ix ix_seq sim_ix (se_var 0) se_int) se_int))))

def N__law_statements : List Str := ["body", "deeds", "words", "lap", "waits", "many", "one", "word", "size", "part"]
theorem sc__law_statements : FnScope N__law_statements ["body", "deeds", "words"] (defScope (topS 48)) := ⟨rfl, rfl, rfl, by decide +kernel, rfl, by decide +kernel, by decide +kernel⟩
theorem bi__law_statements : BindOk "_law_statements" "_law_statements" (defArgs (topS 48)) (defBody (topS 48)) (defScope (topS 48)) ["body", "deeds", "words"] := fun _ _ _ _ _ _ us hl => match us, hl with | [_, _, _], _ => rfl
noncomputable def b__law_statements : SS := (sCons (sPar 4 5 (aCons (eCall fList (aCons (eVar 0) aNil)) (aCons (eC (.int 0)) aNil)))
  (sCons (sFor (iRangeD (aCons (eC (.int 4000)) aNil)) (.nm 3) (sCons (sIf (bVal (eOp2 (oEq false) (eCall fLen (aCons (eVar 4) aNil)) (eC (.int 0)))) (sRet (eVar 5)) sNil)
  (sCons (sPar 6 5 (aCons (eBM "list" mPop0 (eVar 4) aNil) (aCons (eOp2 oAdd (eVar 5) (eC (.int 1))) aNil)))
  (sCons (sIf (bOr (bNot (bVal (eOp1 (oIsi "tuple") (eVar 6)))) (bOr (bVal (eOp2 (oEq false) (eCall fLen (aCons (eVar 6) aNil)) (eC (.int 0)))) (bNot (bVal (eOp1 (oIsi "str") (eOp2 oIx (eVar 6) (eC (.int 0)))))))) (sRet (eOp1 oNeg (eC (.int 1)))) sNil)
  (sCons (sPar 7 8 (aCons (eOp2 oIx (eVar 6) (eC (.int 0))) (aCons (eCall fLen (aCons (eVar 6) aNil)) aNil)))
  (sCons (sIf (bAnd (bVal (eOp2 (oEq false) (eVar 7) (eC (.str "back")))) (bVal (eOp2 (oEq false) (eVar 8) (eC (.int 1))))) sCont sNil)
  (sCons (sIf (bAnd (bVal (eOp2 (oIn false) (eVar 7) (eTup (aCons (eC (.str "deed")) (aCons (eC (.str "call")) aNil))))) (bAnd (bVal (eOp2 (oEq false) (eVar 8) (eC (.int 2)))) (bAnd (bVal (eUser 2 m__law_whole (aCons (eOp2 oIx (eVar 6) (eC (.int 1))) (aCons (eC (.int 0)) aNil)))) (bVal (eOp2 oLt (eOp2 oIx (eVar 6) (eC (.int 1))) (eIf (bVal (eOp2 (oEq false) (eVar 7) (eC (.str "deed")))) (eVar 1) (eVar 2))))))) sCont sNil)
  (sIf (bAnd (bVal (eOp2 (oEq false) (eVar 7) (eC (.str "either")))) (bAnd (bVal (eOp2 (oEq false) (eVar 8) (eC (.int 2)))) (bAnd (bVal (eOp1 (oIsi "tuple") (eOp2 oIx (eVar 6) (eC (.int 1))))) (bAnd (bVal (eOp2 oGt (eCall fLen (aCons (eOp2 oIx (eVar 6) (eC (.int 1))) aNil)) (eC (.int 1)))) (bVal (eOp2 (oEq false) (eTrim (eCall fLen (aCons (eComp (iTupD (eOp2 oIx (eVar 6) (eC (.int 1)))) (.nm 9) (bNot (bVal (eOp1 (oIsi "tuple") (eVar 9)))) (eVar 9) [9]) aNil))) (eC (.int 0)))))))) (sFor (iTupD (eOp2 oIx (eVar 6) (eC (.int 1)))) (.nm 9) (sExpr (eBM "list" mExtend (eVar 4) (aCons (eCall fList (aCons (eVar 9) aNil)) aNil)))) (sIf (bAnd (bOr (bAnd (bVal (eOp2 (oEq false) (eVar 7) (eC (.str "loop")))) (bVal (eOp2 (oEq false) (eVar 8) (eC (.int 2))))) (bAnd (bVal (eOp2 (oEq false) (eVar 7) (eC (.str "repeat")))) (bAnd (bVal (eOp2 (oEq false) (eVar 8) (eC (.int 3)))) (bVal (eUser 2 m__law_whole (aCons (eOp2 oIx (eVar 6) (eC (.int 1))) (aCons (eC (.int 0)) aNil))))))) (bVal (eOp1 (oIsi "tuple") (eOp2 oIx (eVar 6) (eOp1 oNeg (eC (.int 1))))))) (sExpr (eBM "list" mExtend (eVar 4) (aCons (eCall fList (aCons (eOp2 oIx (eVar 6) (eOp1 oNeg (eC (.int 1)))) aNil)) aNil))) (sRet (eOp1 oNeg (eC (.int 1)))))))))))))
  (sRet (eOp1 oNeg (eC (.int 1))))))
noncomputable def m__law_statements : FS := fnF N__law_statements.length b__law_statements
theorem ok__law_statements (G : Gf K mg) (f__law_whole : Fn P w K mg base 1 "_law_whole" 2 m__law_whole) : Fn P w K mg base 2 "_law_statements" 3 m__law_statements := mk_fn G.d__law_statements sc__law_statements G.g__law_statements bi__law_statements fun cdv A outer s0 H E hr => by
  refine sn_cons ?_ ?_
  · skip
    exact s1_par (i := 4) (j := 5) rfl sc__law_statements.nd rfl rfl (by decide) rfl rfl (sa_cons (se_callTy call_list_of sim_list rfl G.f_list bo_list (sa_cons (se_var 0) sa_nil)) (sa_cons se_int sa_nil)) rfl
  refine sn_cons ?_ ?_
  · skip
    refine s1_for po_cx rfl (si_range1 rfl G.f_range (sa_cons se_int sa_nil) al_one) rfl (sg_name sc__law_statements.nd (i := 3) rfl (by first | exact Or.inl rfl | exact Or.inr rfl)) ?_
    refine sn_cons ?_ ?_
    · skip
      refine s1_if (sb_cmp (op_eqD (room_u hr)) sim_eqD (se_callB call_len sim_len rfl G.f_len bo_len (sa_cons (se_var 4) sa_nil)) se_int) ?_ ?_
      · skip
        refine sn_one ?_
        exact s1_ret (se_var 5)
      · skip
        exact sn_nil
    refine sn_cons ?_ ?_
    · skip
      exact s1_par (i := 6) (j := 5) rfl sc__law_statements.nd rfl rfl (by decide) rfl rfl (sa_cons (se_pop0 (se_var 4)) (sa_cons (se_bin op_addAll sim_add (se_var 5) se_int) sa_nil)) rfl
    refine sn_cons ?_ ?_
    · skip
      refine s1_if (sb_w (sw_or (sb_not (sb_val (se_isi rfl rfl G.f_isinstance rfl G.f_tuple bo_tuple io_tuple (se_var 6)))) (sw_or (sb_cmp (op_eqD (room_u hr)) sim_eqD (se_callB call_len sim_len rfl G.f_len bo_len (sa_cons (se_var 6) sa_nil)) se_int) (sw_or1 (sb_not (sb_val (se_isi rfl rfl G.f_isinstance rfl G.f_str bo_str io_str (se_ix ix_seq sim_ix (se_var 6) se_int)))))))) ?_ ?_
      · skip
        refine sn_one ?_
        exact s1_ret (se_un un_neg sim_neg se_int)
      · skip
        exact sn_nil
    refine sn_cons ?_ ?_
    · skip
      exact s1_par (i := 7) (j := 8) rfl sc__law_statements.nd rfl rfl (by decide) rfl rfl (sa_cons (se_ix ix_seq sim_ix (se_var 6) se_int) (sa_cons (se_callB call_len sim_len rfl G.f_len bo_len (sa_cons (se_var 6) sa_nil)) sa_nil)) rfl
    refine sn_cons ?_ ?_
    · skip
      refine s1_if (sb_w (sw_and (sb_cmp (op_eqD (room_u hr)) sim_eqD (se_var 7) se_str) (sw_and1 (sb_cmp (op_eqD (room_u hr)) sim_eqD (se_var 8) se_int)))) ?_ ?_
      · skip
        refine sn_one ?_
        exact s1_cont
      · skip
        exact sn_nil
    refine sn_cons ?_ ?_
    · skip
      refine s1_if (sb_w (sw_and (sb_cmp op_inAll sim_in (se_var 7) (se_tup (sa_cons se_str (sa_cons se_str sa_nil))) (by first | exact nomark _ | rfl | with_unfolding_all rfl)) (sw_and (sb_cmp (op_eqD (room_u hr)) sim_eqD (se_var 8) se_int) (sw_and (sb_val (se_user f__law_whole (hr.mono (by decide)) rfl tk_cx (sa_cons (se_ix ix_seq sim_ix (se_var 6) se_int) (sa_cons se_int sa_nil)))) (sw_and1 (sb_cmp op_lt sim_cmp (se_ix ix_seq sim_ix (se_var 6) se_int) (se_if (sb_cmp (op_eqD (room_u hr)) sim_eqD (se_var 7) se_str) (se_var 1) (se_var 2)))))))) ?_ ?_
      · skip
        refine sn_one ?_
        exact s1_cont
      · skip
        exact sn_nil
    refine sn_one ?_
    refine s1_if (sb_w (sw_and (sb_cmp (op_eqD (room_u hr)) sim_eqD (se_var 7) se_str) (sw_and (sb_cmp (op_eqD (room_u hr)) sim_eqD (se_var 8) se_int) (sw_and (sb_val (se_isi rfl rfl G.f_isinstance rfl G.f_tuple bo_tuple io_tuple (se_ix ix_seq sim_ix (se_var 6) se_int))) (sw_and (sb_cmp op_gt sim_cmp (se_callB call_len sim_len rfl G.f_len bo_len (sa_cons (se_ix ix_seq sim_ix (se_var 6) se_int) sa_nil)) se_int) (sw_and1 (sb_cmp (op_eqD (room_u hr)) sim_eqD (se_trim (se_callB call_len sim_len rfl G.f_len bo_len (sa_cons (se_comp (own := [("part", 9)]) rfl rfl sc__law_statements.nd (si_tup rfl (se_ix ix_seq sim_ix (se_var 6) se_int)) (show BlkOk N__law_statements (defScope (topS 48)) _ _ from ⟨rfl, by decide +kernel, by decide +kernel, by decide +kernel, by decide +kernel⟩) (fun _ _ _ _ _ => (sg_name sc__law_statements.nd (i := 9) rfl (by first | exact Or.inl rfl | exact Or.inr rfl))) (fun _ _ _ _ _ => (sbs_one (sb_not (sb_val (se_isi rfl rfl G.f_isinstance rfl G.f_tuple bo_tuple io_tuple (se_var 9)))))) (fun _ _ _ _ _ => (se_var 9))) sa_nil))) se_int))))))) ?_ ?_
    · skip
      refine sn_one ?_
      refine s1_for po_cx rfl (si_tup rfl (se_ix ix_seq sim_ix (se_var 6) se_int)) rfl (sg_name sc__law_statements.nd (i := 9) rfl (by first | exact Or.inl rfl | exact Or.inr rfl)) ?_
      refine sn_one ?_
      exact s1_expr (se_extend (se_var 4) (sa_cons (se_callTy call_list_of sim_list rfl G.f_list bo_list (sa_cons (se_var 9) sa_nil)) sa_nil))
    · skip
      refine sn_one ?_
      refine s1_if (sb_w (sw_and (sb_w (sw_or (sb_w (sw_and (sb_cmp (op_eqD (room_u hr)) sim_eqD (se_var 7) se_str) (sw_and1 (sb_cmp (op_eqD (room_u hr)) sim_eqD (se_var 8) se_int)))) (sw_or1 (sb_w (sw_and (sb_cmp (op_eqD (room_u hr)) sim_eqD (se_var 7) se_str) (sw_and (sb_cmp (op_eqD (room_u hr)) sim_eqD (se_var 8) se_int) (sw_and1 (sb_val (se_user f__law_whole (hr.mono (by decide)) rfl tk_cx (sa_cons (se_ix ix_seq sim_ix (se_var 6) se_int) (sa_cons se_int sa_nil))))))))))) (sw_and1 (sb_val (se_isi rfl rfl G.f_isinstance rfl G.f_tuple bo_tuple io_tuple (se_ix ix_seq sim_ix (se_var 6) (se_un un_neg sim_neg se_int))))))) ?_ ?_
      · skip
        refine sn_one ?_
        exact s1_expr (se_extend (se_var 4) (sa_cons (se_callTy call_list_of sim_list rfl G.f_list bo_list (sa_cons (se_ix ix_seq sim_ix (se_var 6) (se_un un_neg sim_neg se_int)) sa_nil)) sa_nil))
      · skip
        refine sn_one ?_
        exact s1_ret (se_un un_neg sim_neg se_int)
  refine sn_one ?_
  exact s1_ret (se_un un_neg sim_neg se_int)

def N__law_unlike : List Str := ["things", "at"]
theorem sc__law_unlike : FnScope N__law_unlike ["things"] (defScope (topS 49)) := ⟨rfl, rfl, rfl, by decide +kernel, rfl, by decide +kernel, by decide +kernel⟩
theorem bi__law_unlike : BindOk "_law_unlike" "_law_unlike" (defArgs (topS 49)) (defBody (topS 49)) (defScope (topS 49)) ["things"] := fun _ _ _ _ _ _ us hl => match us, hl with | [_], _ => rfl
noncomputable def b__law_unlike : SS := (sRet (eOp2 (oEq false) (eTrim (eCall fLen (aCons (eComp (iRangeD (aCons (eCall fLen (aCons (eVar 0) aNil)) aNil)) (.nm 1) (bVal (eOp2 (oIn false) (eOp2 oIx (eVar 0) (eVar 1)) (eSl (eVar 0) noPart (onPart (eVar 1))))) (eVar 1) [1]) aNil))) (eC (.int 0))))
noncomputable def m__law_unlike : FS := fnF N__law_unlike.length b__law_unlike
theorem ok__law_unlike (G : Gf K mg) : Fn P w K mg base 1 "_law_unlike" 1 m__law_unlike := mk_fn G.d__law_unlike sc__law_unlike G.g__law_unlike bi__law_unlike fun cdv A outer s0 H E hr => by
  refine sn_one ?_
  exact s1_ret (se_cmp (op_eqD (room_u hr)) sim_eqD (se_trim (se_callB call_len sim_len rfl G.f_len bo_len (sa_cons (se_comp (own := [("at", 1)]) rfl rfl sc__law_unlike.nd (si_range1 rfl G.f_range (sa_cons (se_callB call_len sim_len rfl G.f_len bo_len (sa_cons (se_var 0) sa_nil)) sa_nil) al_one) (show BlkOk N__law_unlike (defScope (topS 49)) _ _ from ⟨rfl, by decide +kernel, by decide +kernel, by decide +kernel, by decide +kernel⟩) (fun _ _ _ _ _ => (sg_name sc__law_unlike.nd (i := 1) rfl (by first | exact Or.inl rfl | exact Or.inr rfl))) (fun _ _ _ _ _ => (sbs_one (sb_cmp op_inAll sim_in (se_ix ix_seq sim_ix (se_var 0) (se_var 1)) (se_slice rfl (se_var 0) so_none (so_some (se_var 1))) (by first | exact nomark _ | rfl | with_unfolding_all rfl)))) (fun _ _ _ _ _ => (se_var 1))) sa_nil))) se_int)

def N__law_program_due : List Str := ["thing", "words", "at", "many", "deeds", "names", "bodies", "one", "body"]
theorem sc__law_program_due : FnScope N__law_program_due ["thing"] (defScope (topS 50)) := ⟨rfl, rfl, rfl, by decide +kernel, rfl, by decide +kernel, by decide +kernel⟩
theorem bi__law_program_due : BindOk "_law_program_due" "_law_program_due" (defArgs (topS 50)) (defBody (topS 50)) (defScope (topS 50)) ["thing"] := fun _ _ _ _ _ _ us hl => match us, hl with | [_], _ => rfl
noncomputable def b__law_program_due : SS := (sCons (sIf (bOr (bNot (bVal (eOp1 (oIsi "tuple") (eVar 0)))) (bVal (eOp2 (oEq true) (eCall fLen (aCons (eVar 0) aNil)) (eC (.int 3))))) (sRet (eTup (aCons (eC (.str "bad")) (aCons (eOp1 oNeg (eC (.int 1))) (aCons (eC (.str "shape")) aNil))))) sNil)
  (sCons (sTgt (.tp [4, 5, 6]) (eVar 0))
  (sCons (sIf (bOr (bNot (bVal (eOp1 (oIsi "tuple") (eVar 4)))) (bOr (bVal (eOp2 oGt (eCall fLen (aCons (eVar 4) aNil)) (eC (.int 40)))) (bVal (eOp2 oGt (eTrim (eCall fLen (aCons (eComp (iTupD (eVar 4)) (.nm 7) (bOr (bNot (bVal (eOp1 (oIsi "tuple") (eVar 7)))) (bOr (bVal (eOp2 (oEq true) (eCall fLen (aCons (eVar 7) aNil)) (eC (.int 2)))) (bNot (bVal (eUser 1 m__law_is_word (aCons (eOp2 oIx (eVar 7) (eC (.int 0))) aNil)))))) (eVar 7) [7]) aNil))) (eC (.int 0)))))) (sRet (eTup (aCons (eC (.str "bad")) (aCons (eOp1 oNeg (eC (.int 1))) (aCons (eC (.str "deeds")) aNil))))) sNil)
  (sCons (sSet 1 (eComp (iTupD (eVar 4)) (.nm 7) bYes (eOp2 oIx (eVar 7) (eC (.int 0))) [7]))
  (sCons (sIf (bNot (bVal (eUser 1 m__law_unlike (aCons (eVar 1) aNil)))) (sRet (eTup (aCons (eC (.str "bad")) (aCons (eOp1 oNeg (eC (.int 1))) (aCons (eC (.str "deeds")) aNil))))) sNil)
  (sCons (sFor (iRangeD (aCons (eCall fLen (aCons (eVar 4) aNil)) aNil)) (.nm 2) (sIf (bNot (bVal (eUser 1 m__law_is_form (aCons (eOp2 oIx (eOp2 oIx (eVar 4) (eVar 2)) (eC (.int 1))) aNil)))) (sRet (eTup (aCons (eC (.str "bad")) (aCons (eVar 2) (aCons (eC (.str "form")) aNil))))) sNil))
  (sCons (sIf (bOr (bNot (bVal (eOp1 (oIsi "tuple") (eVar 5)))) (bOr (bNot (bVal (eChain oLe oLe (eC (.int 1)) (eCall fLen (aCons (eVar 5) aNil)) (eC (.int 12))))) (bOr (bVal (eOp2 oGt (eTrim (eCall fLen (aCons (eComp (iTupD (eVar 5)) (.nm 7) (bOr (bNot (bVal (eUser 1 m__law_is_word (aCons (eVar 7) aNil)))) (bVal (eOp2 (oIn false) (eVar 7) (eVar 1)))) (eVar 7) [7]) aNil))) (eC (.int 0)))) (bNot (bVal (eUser 1 m__law_unlike (aCons (eCall fList (aCons (eVar 5) aNil)) aNil))))))) (sRet (eTup (aCons (eC (.str "bad")) (aCons (eOp1 oNeg (eC (.int 1))) (aCons (eC (.str "names")) aNil))))) sNil)
  (sCons (sIf (bVal (eOp2 (oIn true) (eC (.str "main")) (eVar 5))) (sRet (eTup (aCons (eC (.str "bad")) (aCons (eOp1 oNeg (eC (.int 1))) (aCons (eC (.str "main")) aNil))))) sNil)
  (sCons (sIf (bOr (bNot (bVal (eOp1 (oIsi "tuple") (eVar 6)))) (bOr (bVal (eOp2 (oEq true) (eCall fLen (aCons (eVar 6) aNil)) (eCall fLen (aCons (eVar 5) aNil)))) (bVal (eOp2 oGt (eTrim (eCall fLen (aCons (eComp (iTupD (eVar 6)) (.nm 7) (bNot (bVal (eOp1 (oIsi "tuple") (eVar 7)))) (eVar 7) [7]) aNil))) (eC (.int 0)))))) (sRet (eTup (aCons (eC (.str "bad")) (aCons (eOp1 oNeg (eC (.int 1))) (aCons (eC (.str "bodies")) aNil))))) sNil)
  (sCons (sSet 3 (eComp (iTupD (eVar 6)) (.nm 8) bYes (eUser 3 m__law_statements (aCons (eVar 8) (aCons (eCall fLen (aCons (eVar 4) aNil)) (aCons (eCall fLen (aCons (eVar 5) aNil)) aNil)))) [8]))
  (sRet (eIf (bVal (eOp2 (oIn false) (eOp1 oNeg (eC (.int 1))) (eVar 3))) (eTup (aCons (eC (.str "bad")) (aCons (eBM "list" mIndex (eVar 3) (aCons (eOp1 oNeg (eC (.int 1))) aNil)) (aCons (eC (.str "statement")) aNil)))) (eTup (aCons (eC (.str "told")) (aCons (eCall fSum (aCons (eVar 3) aNil)) aNil)))))))))))))))
noncomputable def m__law_program_due : FS := fnF N__law_program_due.length b__law_program_due
theorem ok__law_program_due (G : Gf K mg) (f__law_is_form : Fn P w K mg base 1 "_law_is_form" 1 m__law_is_form) (f__law_is_word : Fn P w K mg base 1 "_law_is_word" 1 m__law_is_word) (f__law_statements : Fn P w K mg base 2 "_law_statements" 3 m__law_statements) (f__law_unlike : Fn P w K mg base 1 "_law_unlike" 1 m__law_unlike) : Fn P w K mg base 3 "_law_program_due" 1 m__law_program_due := mk_fn G.d__law_program_due sc__law_program_due G.g__law_program_due bi__law_program_due fun cdv A outer s0 H E hr => by
  refine sn_cons ?_ ?_
  · skip
    refine s1_if (sb_w (sw_or (sb_not (sb_val (se_isi rfl rfl G.f_isinstance rfl G.f_tuple bo_tuple io_tuple (se_var 0)))) (sw_or1 (sb_cmp (op_neD (room_u hr)) sim_neD (se_callB call_len sim_len rfl G.f_len bo_len (sa_cons (se_var 0) sa_nil)) se_int)))) ?_ ?_
    · skip
      refine sn_one ?_
      exact s1_ret (se_tup (sa_cons se_str (sa_cons (se_un un_neg sim_neg se_int) (sa_cons se_str sa_nil))))
    · skip
      exact sn_nil
  refine sn_cons ?_ ?_
  · skip
    exact s1_tgt rfl (se_var 0) (sg_tup rfl (sgs_cons (sg_name sc__law_program_due.nd (i := 4) rfl (by first | exact Or.inl rfl | exact Or.inr rfl)) (sgs_cons (sg_name sc__law_program_due.nd (i := 5) rfl (by first | exact Or.inl rfl | exact Or.inr rfl)) (sgs_cons (sg_name sc__law_program_due.nd (i := 6) rfl (by first | exact Or.inl rfl | exact Or.inr rfl)) sgs_nil))))
  refine sn_cons ?_ ?_
  · skip
    refine s1_if (sb_w (sw_or (sb_not (sb_val (se_isi rfl rfl G.f_isinstance rfl G.f_tuple bo_tuple io_tuple (se_var 4)))) (sw_or (sb_cmp op_gt sim_cmp (se_callB call_len sim_len rfl G.f_len bo_len (sa_cons (se_var 4) sa_nil)) se_int) (sw_or1 (sb_cmp op_gt sim_cmp (se_trim (se_callB call_len sim_len rfl G.f_len bo_len (sa_cons (se_comp (own := [("one", 7)]) rfl rfl sc__law_program_due.nd (si_tup rfl (se_var 4)) (show BlkOk N__law_program_due (defScope (topS 50)) _ _ from ⟨rfl, by decide +kernel, by decide +kernel, by decide +kernel, by decide +kernel⟩) (fun _ _ _ _ _ => (sg_name sc__law_program_due.nd (i := 7) rfl (by first | exact Or.inl rfl | exact Or.inr rfl))) (fun _ _ _ _ _ => (sbs_one (sb_w (sw_or (sb_not (sb_val (se_isi rfl rfl G.f_isinstance rfl G.f_tuple bo_tuple io_tuple (se_var 7)))) (sw_or (sb_cmp (op_neD (room_u hr)) sim_neD (se_callB call_len sim_len rfl G.f_len bo_len (sa_cons (se_var 7) sa_nil)) se_int) (sw_or1 (sb_not (sb_val (se_user f__law_is_word (hr.mono (by decide)) rfl takes0 (sa_cons (se_ix ix_seq sim_ix (se_var 7) se_int) sa_nil)))))))))) (fun _ _ _ _ _ => (se_var 7))) sa_nil))) se_int))))) ?_ ?_
    · skip
      refine sn_one ?_
      exact s1_ret (se_tup (sa_cons se_str (sa_cons (se_un un_neg sim_neg se_int) (sa_cons se_str sa_nil))))
    · skip
      exact sn_nil
  refine sn_cons ?_ ?_
  · skip
    exact s1_set (i := 1) sc__law_program_due.nd rfl (by first | exact Or.inl rfl | exact Or.inr rfl) (se_comp (own := [("one", 7)]) rfl rfl sc__law_program_due.nd (si_tup rfl (se_var 4)) (show BlkOk N__law_program_due (defScope (topS 50)) _ _ from ⟨rfl, by decide +kernel, by decide +kernel, by decide +kernel, by decide +kernel⟩) (fun _ _ _ _ _ => (sg_name sc__law_program_due.nd (i := 7) rfl (by first | exact Or.inl rfl | exact Or.inr rfl))) (fun _ _ _ _ _ => sbs_nil) (fun _ _ _ _ _ => (se_ix ix_seq sim_ix (se_var 7) se_int)))
  refine sn_cons ?_ ?_
  · skip
    refine s1_if (sb_not (sb_val (se_user f__law_unlike (hr.mono (by decide)) rfl tk_cx (sa_cons (se_var 1) sa_nil)))) ?_ ?_
    · skip
      refine sn_one ?_
      exact s1_ret (se_tup (sa_cons se_str (sa_cons (se_un un_neg sim_neg se_int) (sa_cons se_str sa_nil))))
    · skip
      exact sn_nil
  refine sn_cons ?_ ?_
  · skip
    refine s1_for po_cx rfl (si_range1 rfl G.f_range (sa_cons (se_callB call_len sim_len rfl G.f_len bo_len (sa_cons (se_var 4) sa_nil)) sa_nil) al_one) rfl (sg_name sc__law_program_due.nd (i := 2) rfl (by first | exact Or.inl rfl | exact Or.inr rfl)) ?_
    refine sn_one ?_
    refine s1_if (sb_not (sb_val (se_user f__law_is_form (hr.mono (by decide)) rfl tk_cx (sa_cons (se_ix ix_seq sim_ix (se_ix ix_seq sim_ix (se_var 4) (se_var 2)) se_int) sa_nil)))) ?_ ?_
    · skip
      refine sn_one ?_
      exact s1_ret (se_tup (sa_cons se_str (sa_cons (se_var 2) (sa_cons se_str sa_nil))))
    · skip
      exact sn_nil
  refine sn_cons ?_ ?_
  · skip
    refine s1_if (sb_w (sw_or (sb_not (sb_val (se_isi rfl rfl G.f_isinstance rfl G.f_tuple bo_tuple io_tuple (se_var 5)))) (sw_or (sb_not (sb_chain op_le op_le sim_cmp sim_cmp se_int (se_callB call_len sim_len rfl G.f_len bo_len (sa_cons (se_var 5) sa_nil)) se_int)) (sw_or (sb_cmp op_gt sim_cmp (se_trim (se_callB call_len sim_len rfl G.f_len bo_len (sa_cons (se_comp (own := [("one", 7)]) rfl rfl sc__law_program_due.nd (si_tup rfl (se_var 5)) (show BlkOk N__law_program_due (defScope (topS 50)) _ _ from ⟨rfl, by decide +kernel, by decide +kernel, by decide +kernel, by decide +kernel⟩) (fun _ _ _ _ _ => (sg_name sc__law_program_due.nd (i := 7) rfl (by first | exact Or.inl rfl | exact Or.inr rfl))) (fun _ _ _ _ _ => (sbs_one (sb_w (sw_or (sb_not (sb_val (se_user f__law_is_word (hr.mono (by decide)) rfl takes0 (sa_cons (se_var 7) sa_nil)))) (sw_or1 (sb_cmp op_inAll sim_in (se_var 7) (se_var 1) (by first | exact nomark _ | rfl | with_unfolding_all rfl))))))) (fun _ _ _ _ _ => (se_var 7))) sa_nil))) se_int) (sw_or1 (sb_not (sb_val (se_user f__law_unlike (hr.mono (by decide)) rfl tk_cx (sa_cons (se_callTy call_list_of sim_list rfl G.f_list bo_list (sa_cons (se_var 5) sa_nil)) sa_nil))))))))) ?_ ?_
    · skip
      refine sn_one ?_
      exact s1_ret (se_tup (sa_cons se_str (sa_cons (se_un un_neg sim_neg se_int) (sa_cons se_str sa_nil))))
    · skip
      exact sn_nil
  refine sn_cons ?_ ?_
  · skip
    refine s1_if (sb_cmp op_ninAll sim_in se_str (se_var 5) (by first | exact nomark _ | rfl | with_unfolding_all rfl)) ?_ ?_
    · skip
      refine sn_one ?_
      exact s1_ret (se_tup (sa_cons se_str (sa_cons (se_un un_neg sim_neg se_int) (sa_cons se_str sa_nil))))
    · skip
      exact sn_nil
  refine sn_cons ?_ ?_
  · skip
    refine s1_if (sb_w (sw_or (sb_not (sb_val (se_isi rfl rfl G.f_isinstance rfl G.f_tuple bo_tuple io_tuple (se_var 6)))) (sw_or (sb_cmp (op_neD (room_u hr)) sim_neD (se_callB call_len sim_len rfl G.f_len bo_len (sa_cons (se_var 6) sa_nil)) (se_callB call_len sim_len rfl G.f_len bo_len (sa_cons (se_var 5) sa_nil))) (sw_or1 (sb_cmp op_gt sim_cmp (se_trim (se_callB call_len sim_len rfl G.f_len bo_len (sa_cons (se_comp (own := [("one", 7)]) rfl rfl sc__law_program_due.nd (si_tup rfl (se_var 6)) (show BlkOk N__law_program_due (defScope (topS 50)) _ _ from ⟨rfl, by decide +kernel, by decide +kernel, by decide +kernel, by decide +kernel⟩) (fun _ _ _ _ _ => (sg_name sc__law_program_due.nd (i := 7) rfl (by first | exact Or.inl rfl | exact Or.inr rfl))) (fun _ _ _ _ _ => (sbs_one (sb_not (sb_val (se_isi rfl rfl G.f_isinstance rfl G.f_tuple bo_tuple io_tuple (se_var 7)))))) (fun _ _ _ _ _ => (se_var 7))) sa_nil))) se_int))))) ?_ ?_
    · skip
      refine sn_one ?_
      exact s1_ret (se_tup (sa_cons se_str (sa_cons (se_un un_neg sim_neg se_int) (sa_cons se_str sa_nil))))
    · skip
      exact sn_nil
  refine sn_cons ?_ ?_
  · skip
    exact s1_comp (own := [("body", 8)]) rfl rfl sc__law_program_due.nd (i := 3) rfl rfl rfl (si_tup rfl (se_var 6)) (show BlkOk N__law_program_due (defScope (topS 50)) _ _ from ⟨rfl, by decide +kernel, by decide +kernel, by decide +kernel, by decide +kernel⟩) (fun _ _ _ _ _ => (sg_name sc__law_program_due.nd (i := 8) rfl (by first | exact Or.inl rfl | exact Or.inr rfl))) (fun _ _ _ _ _ => sbs_nil) (fun _ _ _ _ _ => (se_user f__law_statements (hr.mono (by decide)) rfl takes0 (sa_cons (se_var 8) (sa_cons (se_callB call_len sim_len rfl G.f_len bo_len (sa_cons (se_var 4) sa_nil)) (sa_cons (se_callB call_len sim_len rfl G.f_len bo_len (sa_cons (se_var 5) sa_nil)) sa_nil)))))
  refine sn_one ?_
  exact s1_ret (se_if (sb_cmp op_inAll sim_in (se_un un_neg sim_neg se_int) (se_var 3) (by first | exact nomark _ | rfl | with_unfolding_all rfl)) (se_tup (sa_cons se_str (sa_cons (se_index (se_var 3) (sa_cons (se_un un_neg sim_neg se_int) sa_nil)) (sa_cons se_str sa_nil)))) (se_tup (sa_cons se_str (sa_cons (se_callB (cr_sum rfl) sim_sum rfl G.f_sum bo_sum (sa_cons (se_var 3) sa_nil)) sa_nil))))

def N__law_code : List Str := ["forge", "words", "told", "word", "size", "rows", "at", "near", "lap"]
theorem sc__law_code : FnScope N__law_code ["forge"] (defScope (topS 51)) := ⟨rfl, rfl, rfl, by decide +kernel, rfl, by decide +kernel, by decide +kernel⟩
theorem bi__law_code : BindOk "_law_code" "_law_code" (defArgs (topS 51)) (defBody (topS 51)) (defScope (topS 51)) ["forge"] := fun _ _ _ _ _ _ us hl => match us, hl with | [_], _ => rfl
noncomputable def b__law_code : SS := (sCons (sSet 1 (eOp2 oAdd (eC (.int 1)) (eUser 2 m__law_blow (aCons (eVar 0) (aCons (eC (.int 3)) aNil)))))
  (sCons (sSet 2 (eLst aNil))
  (sCons (sFor (iRangeD (aCons (eVar 1) aNil)) (.nm 3) (sCons (sSet 4 (eOp2 oAdd (eC (.int 1)) (eUser 2 m__law_blow (aCons (eVar 0) (aCons (eC (.int 5)) aNil)))))
  (sCons (sSet 5 (eLst aNil))
  (sCons (sFor (iRangeD (aCons (eVar 4) aNil)) (.nm 6) (sCons (sSet 7 (eUser 2 m__law_blow (aCons (eVar 0) (aCons (eVar 4) aNil))))
  (sExpr (eBM "list" mAppend (eVar 5) (aCons (eOp2 oIx (eTup (aCons (eTup (aCons (eC (.str "return")) aNil)) (aCons (eTup (aCons (eC (.str "deed")) (aCons (eUser 1 m__law_form (aCons (eVar 0) aNil)) (aCons (eVar 7) aNil)))) (aCons (eTup (aCons (eC (.str "call")) (aCons (eUser 2 m__law_blow (aCons (eVar 0) (aCons (eVar 1) aNil))) (aCons (eVar 7) aNil)))) (aCons (eTup (aCons (eC (.str "choose")) (aCons (eTrim (eCall fTuple (aCons (eComp (iRangeD (aCons (eOp2 oAdd (eC (.int 2)) (eUser 2 m__law_blow (aCons (eVar 0) (aCons (eC (.int 2)) aNil)))) aNil)) (.nm 8) bYes (eUser 2 m__law_blow (aCons (eVar 0) (aCons (eVar 4) aNil))) [8]) aNil))) aNil))) aNil))))) (eUser 2 m__law_blow (aCons (eVar 0) (aCons (eC (.int 4)) aNil)))) aNil)))))
  (sExpr (eBM "list" mAppend (eVar 2) (aCons (eCall fTuple (aCons (eVar 5) aNil)) aNil)))))))
  (sRet (eCall fTuple (aCons (eVar 2) aNil))))))
noncomputable def m__law_code : FS := fnF N__law_code.length b__law_code
theorem ok__law_code (G : Gf K mg) (f__law_blow : Fn P w K mg base 1 "_law_blow" 2 m__law_blow) (f__law_form : Fn P w K mg base 2 "_law_form" 1 m__law_form) : Fn P w K mg base 3 "_law_code" 1 m__law_code := mk_fn G.d__law_code sc__law_code G.g__law_code bi__law_code fun cdv A outer s0 H E hr => by
  refine sn_cons ?_ ?_
  · skip
    exact s1_set (i := 1) sc__law_code.nd rfl (by first | exact Or.inl rfl | exact Or.inr rfl) (se_bin op_addAll sim_add se_int (se_user f__law_blow (hr.mono (by decide)) rfl tk_cx (sa_cons (se_var 0) (sa_cons se_int sa_nil))))
  refine sn_cons ?_ ?_
  · skip
    exact s1_set (i := 2) sc__law_code.nd rfl (by first | exact Or.inl rfl | exact Or.inr rfl) (se_lst sa_nil)
  refine sn_cons ?_ ?_
  · skip
    refine s1_for po_cx rfl (si_range1 rfl G.f_range (sa_cons (se_var 1) sa_nil) al_one) rfl (sg_name sc__law_code.nd (i := 3) rfl (by first | exact Or.inl rfl | exact Or.inr rfl)) ?_
    refine sn_cons ?_ ?_
    · skip
      exact s1_set (i := 4) sc__law_code.nd rfl (by first | exact Or.inl rfl | exact Or.inr rfl) (se_bin op_addAll sim_add se_int (se_user f__law_blow (hr.mono (by decide)) rfl tk_cx (sa_cons (se_var 0) (sa_cons se_int sa_nil))))
    refine sn_cons ?_ ?_
    · skip
      exact s1_set (i := 5) sc__law_code.nd rfl (by first | exact Or.inl rfl | exact Or.inr rfl) (se_lst sa_nil)
    refine sn_cons ?_ ?_
    · skip
      refine s1_for po_cx rfl (si_range1 rfl G.f_range (sa_cons (se_var 4) sa_nil) al_one) rfl (sg_name sc__law_code.nd (i := 6) rfl (by first | exact Or.inl rfl | exact Or.inr rfl)) ?_
      refine sn_cons ?_ ?_
      · skip
        exact s1_set (i := 7) sc__law_code.nd rfl (by first | exact Or.inl rfl | exact Or.inr rfl) (se_user f__law_blow (hr.mono (by decide)) rfl tk_cx (sa_cons (se_var 0) (sa_cons (se_var 4) sa_nil)))
      refine sn_one ?_
      exact s1_expr (se_append (se_var 5) (sa_cons (se_ix ix_seq sim_ix (se_tup (sa_cons (se_tup (sa_cons se_str sa_nil)) (sa_cons (se_tup (sa_cons se_str (sa_cons (se_user f__law_form (hr.mono (by decide)) rfl tk_cx (sa_cons (se_var 0) sa_nil)) (sa_cons (se_var 7) sa_nil)))) (sa_cons (se_tup (sa_cons se_str (sa_cons (se_user f__law_blow (hr.mono (by decide)) rfl tk_cx (sa_cons (se_var 0) (sa_cons (se_var 1) sa_nil))) (sa_cons (se_var 7) sa_nil)))) (sa_cons (se_tup (sa_cons se_str (sa_cons (se_trim (se_callTy call_tuple_of sim_tuple rfl G.f_tuple bo_tuple (sa_cons (se_comp (own := [("lap", 8)]) rfl rfl sc__law_code.nd (si_range1 rfl G.f_range (sa_cons (se_bin op_addAll sim_add se_int (se_user f__law_blow (hr.mono (by decide)) rfl tk_cx (sa_cons (se_var 0) (sa_cons se_int sa_nil)))) sa_nil) al_one) (show BlkOk N__law_code (defScope (topS 51)) _ _ from ⟨rfl, by decide +kernel, by decide +kernel, by decide +kernel, by decide +kernel⟩) (fun _ _ _ _ _ => (sg_name sc__law_code.nd (i := 8) rfl (by first | exact Or.inl rfl | exact Or.inr rfl))) (fun _ _ _ _ _ => sbs_nil) (fun _ _ _ _ _ => (se_user f__law_blow (hr.mono (by decide)) rfl takes0 (sa_cons (se_var 0) (sa_cons (se_var 4) sa_nil))))) sa_nil))) sa_nil))) sa_nil))))) (se_user f__law_blow (hr.mono (by decide)) rfl tk_cx (sa_cons (se_var 0) (sa_cons se_int sa_nil)))) sa_nil))
    refine sn_one ?_
    exact s1_expr (se_append (se_var 2) (sa_cons (se_callTy call_tuple_of sim_tuple rfl G.f_tuple bo_tuple (sa_cons (se_var 5) sa_nil)) sa_nil))
  refine sn_one ?_
  exact s1_ret (se_callTy call_tuple_of sim_tuple rfl G.f_tuple bo_tuple (sa_cons (se_var 2) sa_nil))

def N__law_row_word : List Str := ["row", "one"]
theorem sc__law_row_word : FnScope N__law_row_word ["row"] (defScope (topS 52)) := ⟨rfl, rfl, rfl, by decide +kernel, rfl, by decide +kernel, by decide +kernel⟩
theorem bi__law_row_word : BindOk "_law_row_word" "_law_row_word" (defArgs (topS 52)) (defBody (topS 52)) (defScope (topS 52)) ["row"] := fun _ _ _ _ _ _ us hl => match us, hl with | [_], _ => rfl
noncomputable def b__law_row_word : SS := (sCons (sIf (bOr (bNot (bVal (eOp1 (oIsi "tuple") (eVar 0)))) (bOr (bVal (eOp2 (oEq false) (eCall fLen (aCons (eVar 0) aNil)) (eC (.int 0)))) (bNot (bVal (eOp1 (oIsi "str") (eOp2 oIx (eVar 0) (eC (.int 0)))))))) (sRet (eC (.bl false))) sNil)
  (sCons (sIf (bVal (eOp2 (oEq false) (eOp2 oIx (eVar 0) (eC (.int 0))) (eC (.str "return")))) (sRet (eOp2 (oEq false) (eCall fLen (aCons (eVar 0) aNil)) (eC (.int 1)))) sNil)
  (sCons (sIf (bVal (eOp2 (oEq false) (eOp2 oIx (eVar 0) (eC (.int 0))) (eC (.str "choose")))) (sRet (eAndV (eOp2 (oEq false) (eCall fLen (aCons (eVar 0) aNil)) (eC (.int 2))) (eAndV (eOp1 (oIsi "tuple") (eOp2 oIx (eVar 0) (eC (.int 1)))) (eAndV (eOp2 oGt (eCall fLen (aCons (eOp2 oIx (eVar 0) (eC (.int 1))) aNil)) (eC (.int 1))) (eOp2 (oEq false) (eTrim (eCall fLen (aCons (eComp (iTupD (eOp2 oIx (eVar 0) (eC (.int 1)))) (.nm 1) (bOr (bNot (bVal (eOp1 (oIsi "int") (eVar 1)))) (bVal (eOp1 (oIsi "bool") (eVar 1)))) (eVar 1) [1]) aNil))) (eC (.int 0))))))) sNil)
  (sCons (sIf (bOr (bVal (eOp2 (oEq true) (eCall fLen (aCons (eVar 0) aNil)) (eC (.int 3)))) (bOr (bNot (bVal (eOp1 (oIsi "int") (eOp2 oIx (eVar 0) (eC (.int 2)))))) (bVal (eOp1 (oIsi "bool") (eOp2 oIx (eVar 0) (eC (.int 2))))))) (sRet (eC (.bl false))) sNil)
  (sRet (eOrV (eAndV (eOp2 (oEq false) (eOp2 oIx (eVar 0) (eC (.int 0))) (eC (.str "deed"))) (eOp1 (oIsi "tuple") (eOp2 oIx (eVar 0) (eC (.int 1))))) (eAndV (eOp2 (oEq false) (eOp2 oIx (eVar 0) (eC (.int 0))) (eC (.str "call"))) (eAndV (eOp1 (oIsi "int") (eOp2 oIx (eVar 0) (eC (.int 1)))) (eNotV (eOp1 (oIsi "bool") (eOp2 oIx (eVar 0) (eC (.int 1)))))))))))))
noncomputable def m__law_row_word : FS := fnF N__law_row_word.length b__law_row_word
theorem ok__law_row_word (G : Gf K mg) : Fn P w K mg base 1 "_law_row_word" 1 m__law_row_word := mk_fn G.d__law_row_word sc__law_row_word G.g__law_row_word bi__law_row_word fun cdv A outer s0 H E hr => by
  refine sn_cons ?_ ?_
  · skip
    refine s1_if (sb_w (sw_or (sb_not (sb_val (se_isi rfl rfl G.f_isinstance rfl G.f_tuple bo_tuple io_tuple (se_var 0)))) (sw_or (sb_cmp (op_eqD (room_u hr)) sim_eqD (se_callB call_len sim_len rfl G.f_len bo_len (sa_cons (se_var 0) sa_nil)) se_int) (sw_or1 (sb_not (sb_val (se_isi rfl rfl G.f_isinstance rfl G.f_str bo_str io_str (se_ix ix_seq sim_ix (se_var 0) se_int)))))))) ?_ ?_
    · skip
      refine sn_one ?_
      exact s1_ret se_bl
    · skip
      exact sn_nil
  refine sn_cons ?_ ?_
  · skip
    refine s1_if (sb_cmp (op_eqD (room_u hr)) sim_eqD (se_ix ix_seq sim_ix (se_var 0) se_int) se_str) ?_ ?_
    · skip
      refine sn_one ?_
      exact s1_ret (se_cmp (op_eqD (room_u hr)) sim_eqD (se_callB call_len sim_len rfl G.f_len bo_len (sa_cons (se_var 0) sa_nil)) se_int)
    · skip
      exact sn_nil
  refine sn_cons ?_ ?_
  · skip
    refine s1_if (sb_cmp (op_eqD (room_u hr)) sim_eqD (se_ix ix_seq sim_ix (se_var 0) se_int) se_str) ?_ ?_
    · skip
      refine sn_one ?_
      exact s1_ret (se_and (se_cmp (op_eqD (room_u hr)) sim_eqD (se_callB call_len sim_len rfl G.f_len bo_len (sa_cons (se_var 0) sa_nil)) se_int) (se_and (se_isi rfl rfl G.f_isinstance rfl G.f_tuple bo_tuple io_tuple (se_ix ix_seq sim_ix (se_var 0) se_int)) (se_and (se_cmp op_gt sim_cmp (se_callB call_len sim_len rfl G.f_len bo_len (sa_cons (se_ix ix_seq sim_ix (se_var 0) se_int) sa_nil)) se_int) (se_one (se_cmp (op_eqD (room_u hr)) sim_eqD (se_trim (se_callB call_len sim_len rfl G.f_len bo_len (sa_cons (se_comp (own := [("one", 1)]) rfl rfl sc__law_row_word.nd (si_tup rfl (se_ix ix_seq sim_ix (se_var 0) se_int)) (show BlkOk N__law_row_word (defScope (topS 52)) _ _ from ⟨rfl, by decide +kernel, by decide +kernel, by decide +kernel, by decide +kernel⟩) (fun _ _ _ _ _ => (sg_name sc__law_row_word.nd (i := 1) rfl (by first | exact Or.inl rfl | exact Or.inr rfl))) (fun _ _ _ _ _ => (sbs_one (sb_w (sw_or (sb_not (sb_val (se_isi rfl rfl G.f_isinstance rfl G.f_int bo_int io_int (se_var 1)))) (sw_or1 (sb_val (se_isi rfl rfl G.f_isinstance rfl G.f_bool bo_bool io_bool (se_var 1)))))))) (fun _ _ _ _ _ => (se_var 1))) sa_nil))) se_int)))))
    · skip
      exact sn_nil
  refine sn_cons ?_ ?_
  · skip
    refine s1_if (sb_w (sw_or (sb_cmp (op_neD (room_u hr)) sim_neD (se_callB call_len sim_len rfl G.f_len bo_len (sa_cons (se_var 0) sa_nil)) se_int) (sw_or (sb_not (sb_val (se_isi rfl rfl G.f_isinstance rfl G.f_int bo_int io_int (se_ix ix_seq sim_ix (se_var 0) se_int)))) (sw_or1 (sb_val (se_isi rfl rfl G.f_isinstance rfl G.f_bool bo_bool io_bool (se_ix ix_seq sim_ix (se_var 0) se_int))))))) ?_ ?_
    · skip
      refine sn_one ?_
      exact s1_ret se_bl
    · skip
      exact sn_nil
  refine sn_one ?_
  exact s1_ret (se_or (se_and (se_cmp (op_eqD (room_u hr)) sim_eqD (se_ix ix_seq sim_ix (se_var 0) se_int) se_str) (se_one (se_isi rfl rfl G.f_isinstance rfl G.f_tuple bo_tuple io_tuple (se_ix ix_seq sim_ix (se_var 0) se_int)))) (se_one (se_and (se_cmp (op_eqD (room_u hr)) sim_eqD (se_ix ix_seq sim_ix (se_var 0) se_int) se_str) (se_and (se_isi rfl rfl G.f_isinstance rfl G.f_int bo_int io_int (se_ix ix_seq sim_ix (se_var 0) se_int)) (se_one (se_not (se_isi rfl rfl G.f_isinstance rfl G.f_bool bo_bool io_bool (se_ix ix_seq sim_ix (se_var 0) se_int))))))))

def N__law_code_due : List Str := ["thing", "at", "rows", "row", "nexts", "one"]
theorem sc__law_code_due : FnScope N__law_code_due ["thing"] (defScope (topS 53)) := ⟨rfl, rfl, rfl, by decide +kernel, rfl, by decide +kernel, by decide +kernel⟩
theorem bi__law_code_due : BindOk "_law_code_due" "_law_code_due" (defArgs (topS 53)) (defBody (topS 53)) (defScope (topS 53)) ["thing"] := fun _ _ _ _ _ _ us hl => match us, hl with | [_], _ => rfl
noncomputable def b__law_code_due : SS := (sCons (sIf (bOr (bNot (bVal (eOp1 (oIsi "tuple") (eVar 0)))) (bOr (bNot (bVal (eChain oLe oLe (eC (.int 1)) (eCall fLen (aCons (eVar 0) aNil)) (eC (.int 12))))) (bVal (eOp2 oGt (eTrim (eCall fLen (aCons (eComp (iTupD (eVar 0)) (.nm 2) (bOr (bNot (bVal (eOp1 (oIsi "tuple") (eVar 2)))) (bVal (eOp2 (oEq false) (eCall fLen (aCons (eVar 2) aNil)) (eC (.int 0))))) (eVar 2) [2]) aNil))) (eC (.int 0)))))) (sRet (eTup (aCons (eC (.str "bad")) (aCons (eOp1 oNeg (eC (.int 1))) (aCons (eC (.str "shape")) aNil))))) sNil)
  (sCons (sFor (iRangeD (aCons (eCall fLen (aCons (eVar 0) aNil)) aNil)) (.nm 1) (sCons (sSet 2 (eOp2 oIx (eVar 0) (eVar 1)))
  (sCons (sIf (bVal (eOp2 oGt (eTrim (eCall fLen (aCons (eComp (iTupD (eVar 2)) (.nm 3) (bNot (bVal (eUser 1 m__law_row_word (aCons (eVar 3) aNil)))) (eVar 3) [3]) aNil))) (eC (.int 0)))) (sRet (eTup (aCons (eC (.str "bad")) (aCons (eVar 1) (aCons (eC (.str "row")) aNil))))) sNil)
  (sCons (sIf (bVal (eOp2 oGt (eTrim (eCall fLen (aCons (eComp (iTupD (eVar 2)) (.nm 3) (bAnd (bVal (eOp2 (oEq false) (eOp2 oIx (eVar 3) (eC (.int 0))) (eC (.str "deed")))) (bNot (bVal (eUser 1 m__law_is_form (aCons (eOp2 oIx (eVar 3) (eC (.int 1))) aNil))))) (eVar 3) [3]) aNil))) (eC (.int 0)))) (sRet (eTup (aCons (eC (.str "bad")) (aCons (eVar 1) (aCons (eC (.str "form")) aNil))))) sNil)
  (sCons (sIf (bVal (eOp2 oGt (eTrim (eCall fLen (aCons (eComp (iTupD (eVar 2)) (.nm 3) (bAnd (bVal (eOp2 (oEq false) (eOp2 oIx (eVar 3) (eC (.int 0))) (eC (.str "call")))) (bNot (bVal (eChain oLe oLt (eC (.int 0)) (eOp2 oIx (eVar 3) (eC (.int 1))) (eCall fLen (aCons (eVar 0) aNil)))))) (eVar 3) [3]) aNil))) (eC (.int 0)))) (sRet (eTup (aCons (eC (.str "bad")) (aCons (eVar 1) (aCons (eC (.str "call")) aNil))))) sNil)
  (sFor (iTupD (eVar 2)) (.nm 3) (sCons (sSet 4 (eIf (bVal (eOp2 (oEq false) (eOp2 oIx (eVar 3) (eC (.int 0))) (eC (.str "choose")))) (eOp2 oIx (eVar 3) (eC (.int 1))) (eSl (eVar 3) (onPart (eC (.int 2))) noPart)))
  (sIf (bVal (eOp2 oGt (eTrim (eCall fLen (aCons (eComp (iTupD (eVar 4)) (.nm 5) (bNot (bVal (eChain oLe oLt (eC (.int 0)) (eVar 5) (eCall fLen (aCons (eVar 2) aNil))))) (eVar 5) [5]) aNil))) (eC (.int 0)))) (sRet (eTup (aCons (eC (.str "bad")) (aCons (eVar 1) (aCons (eC (.str "next")) aNil))))) sNil))))))))
  (sRet (eTup (aCons (eC (.str "told")) (aCons (eTrim (eCall fSum (aCons (eComp (iTupD (eVar 0)) (.nm 2) bYes (eCall fLen (aCons (eVar 2) aNil)) [2]) aNil))) aNil))))))
noncomputable def m__law_code_due : FS := fnF N__law_code_due.length b__law_code_due
theorem ok__law_code_due (G : Gf K mg) (f__law_is_form : Fn P w K mg base 1 "_law_is_form" 1 m__law_is_form) (f__law_row_word : Fn P w K mg base 1 "_law_row_word" 1 m__law_row_word) : Fn P w K mg base 2 "_law_code_due" 1 m__law_code_due := mk_fn G.d__law_code_due sc__law_code_due G.g__law_code_due bi__law_code_due fun cdv A outer s0 H E hr => by
  refine sn_cons ?_ ?_
  · skip
    refine s1_if (sb_w (sw_or (sb_not (sb_val (se_isi rfl rfl G.f_isinstance rfl G.f_tuple bo_tuple io_tuple (se_var 0)))) (sw_or (sb_not (sb_chain op_le op_le sim_cmp sim_cmp se_int (se_callB call_len sim_len rfl G.f_len bo_len (sa_cons (se_var 0) sa_nil)) se_int)) (sw_or1 (sb_cmp op_gt sim_cmp (se_trim (se_callB call_len sim_len rfl G.f_len bo_len (sa_cons (se_comp (own := [("rows", 2)]) rfl rfl sc__law_code_due.nd (si_tup rfl (se_var 0)) (show BlkOk N__law_code_due (defScope (topS 53)) _ _ from ⟨rfl, by decide +kernel, by decide +kernel, by decide +kernel, by decide +kernel⟩) (fun _ _ _ _ _ => (sg_name sc__law_code_due.nd (i := 2) rfl (by first | exact Or.inl rfl | exact Or.inr rfl))) (fun _ _ _ _ _ => (sbs_one (sb_w (sw_or (sb_not (sb_val (se_isi rfl rfl G.f_isinstance rfl G.f_tuple bo_tuple io_tuple (se_var 2)))) (sw_or1 (sb_cmp (op_eqD (room_u hr)) sim_eqD (se_callB call_len sim_len rfl G.f_len bo_len (sa_cons (se_var 2) sa_nil)) se_int)))))) (fun _ _ _ _ _ => (se_var 2))) sa_nil))) se_int))))) ?_ ?_
    · skip
      refine sn_one ?_
      exact s1_ret (se_tup (sa_cons se_str (sa_cons (se_un un_neg sim_neg se_int) (sa_cons se_str sa_nil))))
    · skip
      exact sn_nil
  refine sn_cons ?_ ?_
  · skip
    refine s1_for po_cx rfl (si_range1 rfl G.f_range (sa_cons (se_callB call_len sim_len rfl G.f_len bo_len (sa_cons (se_var 0) sa_nil)) sa_nil) al_one) rfl (sg_name sc__law_code_due.nd (i := 1) rfl (by first | exact Or.inl rfl | exact Or.inr rfl)) ?_
    refine sn_cons ?_ ?_
    · skip
      exact s1_set (i := 2) sc__law_code_due.nd rfl (by first | exact Or.inl rfl | exact Or.inr rfl) (se_ix ix_seq sim_ix (se_var 0) (se_var 1))
    refine sn_cons ?_ ?_
    · skip
      refine s1_if (sb_cmp op_gt sim_cmp (se_trim (se_callB call_len sim_len rfl G.f_len bo_len (sa_cons (se_comp (own := [("row", 3)]) rfl rfl sc__law_code_due.nd (si_tup rfl (se_var 2)) (show BlkOk N__law_code_due (defScope (topS 53)) _ _ from ⟨rfl, by decide +kernel, by decide +kernel, by decide +kernel, by decide +kernel⟩) (fun _ _ _ _ _ => (sg_name sc__law_code_due.nd (i := 3) rfl (by first | exact Or.inl rfl | exact Or.inr rfl))) (fun _ _ _ _ _ => (sbs_one (sb_not (sb_val (se_user f__law_row_word (hr.mono (by decide)) rfl takes0 (sa_cons (se_var 3) sa_nil)))))) (fun _ _ _ _ _ => (se_var 3))) sa_nil))) se_int) ?_ ?_
      · skip
        refine sn_one ?_
        exact s1_ret (se_tup (sa_cons se_str (sa_cons (se_var 1) (sa_cons se_str sa_nil))))
      · skip
        exact sn_nil
    refine sn_cons ?_ ?_
    · skip
      refine s1_if (sb_cmp op_gt sim_cmp (se_trim (se_callB call_len sim_len rfl G.f_len bo_len (sa_cons (se_comp (own := [("row", 3)]) rfl rfl sc__law_code_due.nd (si_tup rfl (se_var 2)) (show BlkOk N__law_code_due (defScope (topS 53)) _ _ from ⟨rfl, by decide +kernel, by decide +kernel, by decide +kernel, by decide +kernel⟩) (fun _ _ _ _ _ => (sg_name sc__law_code_due.nd (i := 3) rfl (by first | exact Or.inl rfl | exact Or.inr rfl))) (fun _ _ _ _ _ => (sbs_one (sb_w (sw_and (sb_cmp (op_eqD (room_u hr)) sim_eqD (se_ix ix_seq sim_ix (se_var 3) se_int) se_str) (sw_and1 (sb_not (sb_val (se_user f__law_is_form (hr.mono (by decide)) rfl takes0 (sa_cons (se_ix ix_seq sim_ix (se_var 3) se_int) sa_nil))))))))) (fun _ _ _ _ _ => (se_var 3))) sa_nil))) se_int) ?_ ?_
      · skip
        refine sn_one ?_
        exact s1_ret (se_tup (sa_cons se_str (sa_cons (se_var 1) (sa_cons se_str sa_nil))))
      · skip
        exact sn_nil
    refine sn_cons ?_ ?_
    · skip
      refine s1_if (sb_cmp op_gt sim_cmp (se_trim (se_callB call_len sim_len rfl G.f_len bo_len (sa_cons (se_comp (own := [("row", 3)]) rfl rfl sc__law_code_due.nd (si_tup rfl (se_var 2)) (show BlkOk N__law_code_due (defScope (topS 53)) _ _ from ⟨rfl, by decide +kernel, by decide +kernel, by decide +kernel, by decide +kernel⟩) (fun _ _ _ _ _ => (sg_name sc__law_code_due.nd (i := 3) rfl (by first | exact Or.inl rfl | exact Or.inr rfl))) (fun _ _ _ _ _ => (sbs_one (sb_w (sw_and (sb_cmp (op_eqD (room_u hr)) sim_eqD (se_ix ix_seq sim_ix (se_var 3) se_int) se_str) (sw_and1 (sb_not (sb_chain op_le op_lt sim_cmp sim_cmp se_int (se_ix ix_seq sim_ix (se_var 3) se_int) (se_callB call_len sim_len rfl G.f_len bo_len (sa_cons (se_var 0) sa_nil))))))))) (fun _ _ _ _ _ => (se_var 3))) sa_nil))) se_int) ?_ ?_
      · skip
        refine sn_one ?_
        exact s1_ret (se_tup (sa_cons se_str (sa_cons (se_var 1) (sa_cons se_str sa_nil))))
      · skip
        exact sn_nil
    refine sn_one ?_
    refine s1_for po_cx rfl (si_tup rfl (se_var 2)) rfl (sg_name sc__law_code_due.nd (i := 3) rfl (by first | exact Or.inl rfl | exact Or.inr rfl)) ?_
    refine sn_cons ?_ ?_
    · skip
      exact s1_set (i := 4) sc__law_code_due.nd rfl (by first | exact Or.inl rfl | exact Or.inr rfl) (se_if (sb_cmp (op_eqD (room_u hr)) sim_eqD (se_ix ix_seq sim_ix (se_var 3) se_int) se_str) (se_ix ix_seq sim_ix (se_var 3) se_int) (se_slice rfl (se_var 3) (so_some se_int) so_none))
    refine sn_one ?_
    refine s1_if (sb_cmp op_gt sim_cmp (se_trim (se_callB call_len sim_len rfl G.f_len bo_len (sa_cons (se_comp (own := [("one", 5)]) rfl rfl sc__law_code_due.nd (si_tup rfl (se_var 4)) (show BlkOk N__law_code_due (defScope (topS 53)) _ _ from ⟨rfl, by decide +kernel, by decide +kernel, by decide +kernel, by decide +kernel⟩) (fun _ _ _ _ _ => (sg_name sc__law_code_due.nd (i := 5) rfl (by first | exact Or.inl rfl | exact Or.inr rfl))) (fun _ _ _ _ _ => (sbs_one (sb_not (sb_chain op_le op_lt sim_cmp sim_cmp se_int (se_var 5) (se_callB call_len sim_len rfl G.f_len bo_len (sa_cons (se_var 2) sa_nil)))))) (fun _ _ _ _ _ => (se_var 5))) sa_nil))) se_int) ?_ ?_
    · skip
      refine sn_one ?_
      exact s1_ret (se_tup (sa_cons se_str (sa_cons (se_var 1) (sa_cons se_str sa_nil))))
    · skip
      exact sn_nil
  refine sn_one ?_
  exact s1_ret (se_tup (sa_cons se_str (sa_cons (se_trim (se_callB (cr_sum rfl) sim_sum rfl G.f_sum bo_sum (sa_cons (se_comp (own := [("rows", 2)]) rfl rfl sc__law_code_due.nd (si_tup rfl (se_var 0)) (show BlkOk N__law_code_due (defScope (topS 53)) _ _ from ⟨rfl, by decide +kernel, by decide +kernel, by decide +kernel, by decide +kernel⟩) (fun _ _ _ _ _ => (sg_name sc__law_code_due.nd (i := 2) rfl (by first | exact Or.inl rfl | exact Or.inr rfl))) (fun _ _ _ _ _ => sbs_nil) (fun _ _ _ _ _ => (se_callB call_len sim_len rfl G.f_len bo_len (sa_cons (se_var 2) sa_nil)))) sa_nil))) sa_nil)))

def N__law_heard : List Str := ["call", "thing", "why"]
theorem sc__law_heard : FnScope N__law_heard ["call", "thing"] (defScope (topS 54)) := ⟨rfl, rfl, rfl, by decide +kernel, rfl, by decide +kernel, by decide +kernel⟩
theorem bi__law_heard : BindOk "_law_heard" "_law_heard" (defArgs (topS 54)) (defBody (topS 54)) (defScope (topS 54)) ["call", "thing"] := fun _ _ _ _ _ _ us hl => match us, hl with | [_, _], _ => rfl
noncomputable def b__law_heard : SS := (sTry (sRet (eTup (aCons (eC (.str "told")) (aCons (eIf (bVal (eOp2 (oEq false) (eVar 0) (eC (.str "program")))) (eUser 1 m_check_program (aCons (eVar 1) aNil)) (eUser 1 m_check_code (aCons (eVar 1) aNil))) aNil)))) [⟨tab__law_heard, (some 2), (sCons (sIf (bOr (bNot (bVal (eOp1 (oIsX tab__law_heard_DataError) (eVar 2)))) (bOr (bNot (bVal (eOp1 (oIsX tab__law_heard_PassError) (eVar 2)))) (bVal (eOp2 (oEq true) (eOp1 (oIsX tab__law_heard_BadProgram) (eVar 2)) (eOp2 (oEq false) (eVar 0) (eC (.str "program"))))))) (sRet (eTup (aCons (eC (.str "other")) (aCons (eC (.int 0)) (aCons (eC (.str "")) aNil))))) sNil)
  (sRet (eTup (aCons (eC (.str "bad")) (aCons (eOp1 (oFld "at") (eVar 2)) (aCons (eOp1 (oFld "word") (eVar 2)) aNil))))))⟩])
noncomputable def m__law_heard : FS := fnF N__law_heard.length b__law_heard
theorem ok__law_heard (G : Gf K mg) (f_check_code : Fn P w K mg base 7 "check_code" 1 m_check_code) (f_check_program : Fn P w K mg base 43 "check_program" 1 m_check_program) : Fn P w K mg base 44 "_law_heard" 2 m__law_heard := mk_fn G.d__law_heard sc__law_heard G.g__law_heard bi__law_heard fun cdv A outer s0 H E hr => by
  refine sn_one ?_
  refine s1_try (css := [[.ref (He.ga K "BadProgram"), .ref (He.ga K "BadCode")]]) rfl rfl tk_cx (fun W1 pn1 xe1 tk1 po1 => ?_) (cl_as (.two ⟨rfl, by decide, .inl G.g_BadProgram⟩ ⟨rfl, by decide, .inl G.g_BadCode⟩ rfl rfl) sc__law_heard.nd (i := 2) rfl rfl (fun a1 oe1 c1 dd1 pn1 hz hf hm1 => ?_) .nil) rfl (ex__law_heard G)
  · skip
    refine sn_one ?_
    exact s1_ret (se_tup (sa_cons se_str (sa_cons (se_if (sb_cmp (op_eqD (room_u hr)) sim_eqD (se_var 0) se_str) (se_user f_check_program (hr.mono (by decide)) rfl tk1 (sa_cons (se_var 1) sa_nil)) (se_user f_check_code (hr.mono (by decide)) rfl tk1 (sa_cons (se_var 1) sa_nil))) sa_nil)))
  · skip
    refine sn_cons ?_ ?_
    · skip
      refine s1_if (sb_w (sw_or (sb_not (sb_val (se_isx (ec_of__law_heard G hm1) hz hf rfl G.f_isinstance rfl G.g_DataError (kit__law_heard_DataError G hm1) (se_var 2)))) (sw_or (sb_not (sb_val (se_isx (ec_of__law_heard G hm1) hz hf rfl G.f_isinstance rfl G.g_PassError (kit__law_heard_PassError G hm1) (se_var 2)))) (sw_or1 (sb_cmp (op_neD (by have z := room_u hr; exact z)) sim_neD (se_isx (ec_of__law_heard G hm1) hz hf rfl G.f_isinstance rfl G.g_BadProgram (kit__law_heard_BadProgram G hm1) (se_var 2)) (se_cmp (op_eqD (by have z := room_u hr; exact z)) sim_eqD (se_var 0) se_str)))))) ?_ ?_
      · skip
        refine sn_one ?_
        exact s1_ret (se_tup (sa_cons se_str (sa_cons se_int (sa_cons se_str sa_nil))))
      · skip
        exact sn_nil
    refine sn_one ?_
    exact s1_ret (se_tup (sa_cons se_str (sa_cons (se_xf (xf_of__law_heard G hm1) (na__law_heard_at G hm1) hz hf (se_var 2)) (sa_cons (se_xf (xf_of__law_heard G hm1) (na__law_heard_word G hm1) hz hf (se_var 2)) sa_nil))))

def N__law_right : List Str := ["call", "thing", "told", "due"]
theorem sc__law_right : FnScope N__law_right ["call", "thing"] (defScope (topS 55)) := ⟨rfl, rfl, rfl, by decide +kernel, rfl, by decide +kernel, by decide +kernel⟩
theorem bi__law_right : BindOk "_law_right" "_law_right" (defArgs (topS 55)) (defBody (topS 55)) (defScope (topS 55)) ["call", "thing"] := fun _ _ _ _ _ _ us hl => match us, hl with | [_, _], _ => rfl
noncomputable def b__law_right : SS := (sCons (sPar 2 3 (aCons (eUser 2 m__law_heard (aCons (eVar 0) (aCons (eVar 1) aNil))) (aCons (eIf (bVal (eOp2 (oEq false) (eVar 0) (eC (.str "program")))) (eUser 1 m__law_program_due (aCons (eVar 1) aNil)) (eUser 1 m__law_code_due (aCons (eVar 1) aNil))) aNil)))
  (sCons (sIf (bOr (bVal (eOp2 (oEq true) (eCall fLen (aCons (eVar 2) aNil)) (eCall fLen (aCons (eVar 3) aNil)))) (bOr (bVal (eOp2 (oEq true) (eOp2 oIx (eVar 2) (eC (.int 0))) (eOp2 oIx (eVar 3) (eC (.int 0))))) (bOr (bNot (bVal (eOp1 (oIsi "int") (eOp2 oIx (eVar 2) (eC (.int 1)))))) (bOr (bVal (eOp1 (oIsi "bool") (eOp2 oIx (eVar 2) (eC (.int 1))))) (bVal (eOp2 (oEq true) (eOp2 oIx (eVar 2) (eC (.int 1))) (eOp2 oIx (eVar 3) (eC (.int 1))))))))) (sRet (eC (.bl false))) sNil)
  (sRet (eOrV (eOp2 (oEq false) (eCall fLen (aCons (eVar 3) aNil)) (eC (.int 2))) (eAndV (eOp1 (oIsi "str") (eOp2 oIx (eVar 2) (eC (.int 2)))) (eOp2 (oEq false) (eOp2 oIx (eVar 2) (eC (.int 2))) (eOp2 oIx (eVar 3) (eC (.int 2)))))))))
noncomputable def m__law_right : FS := fnF N__law_right.length b__law_right
theorem ok__law_right (G : Gf K mg) (f__law_code_due : Fn P w K mg base 2 "_law_code_due" 1 m__law_code_due) (f__law_heard : Fn P w K mg base 44 "_law_heard" 2 m__law_heard) (f__law_program_due : Fn P w K mg base 3 "_law_program_due" 1 m__law_program_due) : Fn P w K mg base 45 "_law_right" 2 m__law_right := mk_fn G.d__law_right sc__law_right G.g__law_right bi__law_right fun cdv A outer s0 H E hr => by
  refine sn_cons ?_ ?_
  · skip
    exact s1_par (i := 2) (j := 3) rfl sc__law_right.nd rfl rfl (by decide) rfl rfl (sa_cons (se_user f__law_heard (hr.mono (by decide)) rfl tk_cx (sa_cons (se_var 0) (sa_cons (se_var 1) sa_nil))) (sa_cons (se_if (sb_cmp (op_eqD (room_u hr)) sim_eqD (se_var 0) se_str) (se_user f__law_program_due (hr.mono (by decide)) rfl tk_cx (sa_cons (se_var 1) sa_nil)) (se_user f__law_code_due (hr.mono (by decide)) rfl tk_cx (sa_cons (se_var 1) sa_nil))) sa_nil)) rfl
  refine sn_cons ?_ ?_
  · skip
    refine s1_if (sb_w (sw_or (sb_cmp (op_neD (room_u hr)) sim_neD (se_callB call_len sim_len rfl G.f_len bo_len (sa_cons (se_var 2) sa_nil)) (se_callB call_len sim_len rfl G.f_len bo_len (sa_cons (se_var 3) sa_nil))) (sw_or (sb_cmp (op_neD (room_u hr)) sim_neD (se_ix ix_seq sim_ix (se_var 2) se_int) (se_ix ix_seq sim_ix (se_var 3) se_int)) (sw_or (sb_not (sb_val (se_isi rfl rfl G.f_isinstance rfl G.f_int bo_int io_int (se_ix ix_seq sim_ix (se_var 2) se_int)))) (sw_or (sb_val (se_isi rfl rfl G.f_isinstance rfl G.f_bool bo_bool io_bool (se_ix ix_seq sim_ix (se_var 2) se_int))) (sw_or1 (sb_cmp (op_neD (room_u hr)) sim_neD (se_ix ix_seq sim_ix (se_var 2) se_int) (se_ix ix_seq sim_ix (se_var 3) se_int)))))))) ?_ ?_
    · skip
      refine sn_one ?_
      exact s1_ret se_bl
    · skip
      exact sn_nil
  refine sn_one ?_
  exact s1_ret (se_or (se_cmp (op_eqD (room_u hr)) sim_eqD (se_callB call_len sim_len rfl G.f_len bo_len (sa_cons (se_var 3) sa_nil)) se_int) (se_one (se_and (se_isi rfl rfl G.f_isinstance rfl G.f_str bo_str io_str (se_ix ix_seq sim_ix (se_var 2) se_int)) (se_one (se_cmp (op_eqD (room_u hr)) sim_eqD (se_ix ix_seq sim_ix (se_var 2) se_int) (se_ix ix_seq sim_ix (se_var 3) se_int))))))

def N__law_bent : List Str := ["forge", "thing", "odds", "lap", "kind", "fresh", "path", "here", "at", "above"]
theorem sc__law_bent : FnScope N__law_bent ["forge", "thing"] (defScope (topS 56)) := ⟨rfl, rfl, rfl, by decide +kernel, rfl, by decide +kernel, by decide +kernel⟩
theorem bi__law_bent : BindOk "_law_bent" "_law_bent" (defArgs (topS 56)) (defBody (topS 56)) (defScope (topS 56)) ["forge", "thing"] := fun _ _ _ _ _ _ us hl => match us, hl with | [_, _], _ => rfl
noncomputable def b__law_bent : SS := (sCons (sSet 2 (eTup (aCons (eC .non) (aCons (eC (.bl true)) (aCons (eC (.bl false)) (aCons (eC (.int 0)) (aCons (eC (.int 1)) (aCons (eOp1 oNeg (eC (.int 1))) (aCons (eC (.int 7)) (aCons (eOp2 oPow (eC (.int 10)) (eC (.int 50))) (aCons (eC (.str "main")) (aCons (eC (.str "a")) (aCons (eC (.str "Abc")) (aCons (eC (.str "deed")) (aCons (eC (.str "back")) (aCons (eC (.str "")) (aCons (eTup aNil) (aCons (eTup (aCons (eC (.int 1)) aNil)) (aCons (eTup (aCons (eC (.str "back")) aNil)) (aCons (eTup (aCons (eC (.str "deed")) (aCons (eC (.int 0)) aNil))) (aCons (eTup (aCons (eC (.str "call")) (aCons (eC (.int 0)) aNil))) (aCons (eTup (aCons (eC (.str "repeat")) (aCons (eOp1 oNeg (eC (.int 1))) (aCons (eTup aNil) aNil)))) (aCons (eTup (aCons (eC (.str "either")) (aCons (eTup (aCons (eTup aNil) aNil)) aNil))) (aCons (eTup (aCons (eC (.str "loop")) (aCons (eLst aNil) aNil))) (aCons (eTup (aCons (eC (.int 0)) (aCons (eC (.int 1)) (aCons (eC (.int 0)) (aCons (eC (.int 1)) aNil))))) (aCons (eTup (aCons (eC (.int 0)) (aCons (eC (.int 0)) (aCons (eC (.int 0)) (aCons (eC (.int 0)) aNil))))) (aCons (eTup (aCons (eC (.int 2)) (aCons (eC (.int 2)) (aCons (eC (.int 0)) (aCons (eC (.int 1)) aNil))))) (aCons (eTup (aCons (eC (.int 0)) (aCons (eC (.int 1)) (aCons (eC (.int 0)) (aCons (eC (.int 0)) aNil))))) (aCons (eLst aNil) (aCons (eTup (aCons (eC (.str "return")) aNil)) aNil))))))))))))))))))))))))))))))
  (sCons (sPar 6 7 (aCons (eLst aNil) (aCons (eVar 1) aNil)))
  (sCons (sFor (iRangeD (aCons (eC (.int 7)) aNil)) (.nm 3) (sCons (sIf (bOr (bNot (bVal (eOp1 (oIsi "tuple") (eVar 7)))) (bOr (bVal (eOp2 (oEq false) (eCall fLen (aCons (eVar 7) aNil)) (eC (.int 0)))) (bAnd (bVal (eOp2 oGt (eVar 3) (eC (.int 0)))) (bVal (eOp2 (oEq false) (eUser 2 m__law_blow (aCons (eVar 0) (aCons (eC (.int 6)) aNil))) (eC (.int 0))))))) sBreak sNil)
  (sCons (sSet 8 (eUser 2 m__law_blow (aCons (eVar 0) (aCons (eCall fLen (aCons (eVar 7) aNil)) aNil))))
  (sCons (sExpr (eBM "list" mAppend (eVar 6) (aCons (eTup (aCons (eVar 7) (aCons (eVar 8) aNil))) aNil)))
  (sSet 7 (eOp2 oIx (eVar 7) (eVar 8)))))))
  (sCons (sSet 4 (eUser 2 m__law_blow (aCons (eVar 0) (aCons (eC (.int 6)) aNil))))
  (sCons (sSet 5 (eOp2 oMulA (eTup (aCons (eOp2 oIx (eVar 2) (eUser 2 m__law_blow (aCons (eVar 0) (aCons (eCall fLen (aCons (eVar 2) aNil)) aNil)))) aNil)) (eCall fInt (aCons (eOp2 oLt (eVar 4) (eC (.int 3))) aNil))))
  (sCons (sIf (bVal (eOp2 (oEq false) (eVar 4) (eC (.int 3)))) (sSet 5 (eTup (aCons (eIf (bVal (eOp1 (oIsi "tuple") (eVar 7))) (eCall fList (aCons (eVar 7) aNil)) (eTup (aCons (eVar 7) aNil))) aNil))) (sIf (bVal (eOp2 (oEq false) (eVar 4) (eC (.int 4)))) (sSet 5 (eTup (aCons (eVar 7) (aCons (eVar 7) aNil)))) sNil))
  (sCons (sFor (iLstD (eOp1 oRev (eVar 6))) (.tp [9, 8]) (sSet 5 (eTup (aCons (eOp2 oAdd (eOp2 oAdd (eSl (eVar 9) noPart (onPart (eVar 8))) (eVar 5)) (eSl (eVar 9) (onPart (eOp2 oAdd (eVar 8) (eC (.int 1)))) noPart)) aNil))))
  (sRet (eIf (bVal (eOp2 (oEq false) (eCall fLen (aCons (eVar 5) aNil)) (eC (.int 1)))) (eOp2 oIx (eVar 5) (eC (.int 0))) (eC .non))))))))))
noncomputable def m__law_bent : FS := fnF N__law_bent.length b__law_bent
theorem ok__law_bent (G : Gf K mg) (f__law_blow : Fn P w K mg base 1 "_law_blow" 2 m__law_blow) : Fn P w K mg base 2 "_law_bent" 2 m__law_bent := mk_fn G.d__law_bent sc__law_bent G.g__law_bent bi__law_bent fun cdv A outer s0 H E hr => by
  refine sn_cons ?_ ?_
  · skip
    exact s1_set (i := 2) sc__law_bent.nd rfl (by first | exact Or.inl rfl | exact Or.inr rfl) (se_tup (sa_cons se_non (sa_cons se_bl (sa_cons se_bl (sa_cons se_int (sa_cons se_int (sa_cons (se_un un_neg sim_neg se_int) (sa_cons se_int (sa_cons (se_bin op_pow sim_ints se_int se_int) (sa_cons se_str (sa_cons se_str (sa_cons se_str (sa_cons se_str (sa_cons se_str (sa_cons se_str (sa_cons (se_tup sa_nil) (sa_cons (se_tup (sa_cons se_int sa_nil)) (sa_cons (se_tup (sa_cons se_str sa_nil)) (sa_cons (se_tup (sa_cons se_str (sa_cons se_int sa_nil))) (sa_cons (se_tup (sa_cons se_str (sa_cons se_int sa_nil))) (sa_cons (se_tup (sa_cons se_str (sa_cons (se_un un_neg sim_neg se_int) (sa_cons (se_tup sa_nil) sa_nil)))) (sa_cons (se_tup (sa_cons se_str (sa_cons (se_tup (sa_cons (se_tup sa_nil) sa_nil)) sa_nil))) (sa_cons (se_tup (sa_cons se_str (sa_cons (se_lst sa_nil) sa_nil))) (sa_cons (se_tup (sa_cons se_int (sa_cons se_int (sa_cons se_int (sa_cons se_int sa_nil))))) (sa_cons (se_tup (sa_cons se_int (sa_cons se_int (sa_cons se_int (sa_cons se_int sa_nil))))) (sa_cons (se_tup (sa_cons se_int (sa_cons se_int (sa_cons se_int (sa_cons se_int sa_nil))))) (sa_cons (se_tup (sa_cons se_int (sa_cons se_int (sa_cons se_int (sa_cons se_int sa_nil))))) (sa_cons (se_lst sa_nil) (sa_cons (se_tup (sa_cons se_str sa_nil)) sa_nil)))))))))))))))))))))))))))))
  refine sn_cons ?_ ?_
  · skip
    exact s1_par (i := 6) (j := 7) rfl sc__law_bent.nd rfl rfl (by decide) rfl rfl (sa_cons (se_lst sa_nil) (sa_cons (se_var 1) sa_nil)) rfl
  refine sn_cons ?_ ?_
  · skip
    refine s1_for po_cx rfl (si_range1 rfl G.f_range (sa_cons se_int sa_nil) al_one) rfl (sg_name sc__law_bent.nd (i := 3) rfl (by first | exact Or.inl rfl | exact Or.inr rfl)) ?_
    refine sn_cons ?_ ?_
    · skip
      refine s1_if (sb_w (sw_or (sb_not (sb_val (se_isi rfl rfl G.f_isinstance rfl G.f_tuple bo_tuple io_tuple (se_var 7)))) (sw_or (sb_cmp (op_eqD (room_u hr)) sim_eqD (se_callB call_len sim_len rfl G.f_len bo_len (sa_cons (se_var 7) sa_nil)) se_int) (sw_or1 (sb_w (sw_and (sb_cmp op_gt sim_cmp (se_var 3) se_int) (sw_and1 (sb_cmp (op_eqD (room_u hr)) sim_eqD (se_user f__law_blow (hr.mono (by decide)) rfl tk_cx (sa_cons (se_var 0) (sa_cons se_int sa_nil))) se_int)))))))) ?_ ?_
      · skip
        refine sn_one ?_
        exact s1_break
      · skip
        exact sn_nil
    refine sn_cons ?_ ?_
    · skip
      exact s1_set (i := 8) sc__law_bent.nd rfl (by first | exact Or.inl rfl | exact Or.inr rfl) (se_user f__law_blow (hr.mono (by decide)) rfl tk_cx (sa_cons (se_var 0) (sa_cons (se_callB call_len sim_len rfl G.f_len bo_len (sa_cons (se_var 7) sa_nil)) sa_nil)))
    refine sn_cons ?_ ?_
    · skip
      exact s1_expr (se_append (se_var 6) (sa_cons (se_tup (sa_cons (se_var 7) (sa_cons (se_var 8) sa_nil))) sa_nil))
    refine sn_one ?_
    exact s1_set (i := 7) sc__law_bent.nd rfl (by first | exact Or.inl rfl | exact Or.inr rfl) (se_ix ix_seq sim_ix (se_var 7) (se_var 8))
  refine sn_cons ?_ ?_
  · skip
    exact s1_set (i := 4) sc__law_bent.nd rfl (by first | exact Or.inl rfl | exact Or.inr rfl) (se_user f__law_blow (hr.mono (by decide)) rfl tk_cx (sa_cons (se_var 0) (sa_cons se_int sa_nil)))
  refine sn_cons ?_ ?_
  · skip
    exact s1_set (i := 5) sc__law_bent.nd rfl (by first | exact Or.inl rfl | exact Or.inr rfl) (se_bin op_mulAll sim_mulA (se_tup (sa_cons (se_ix ix_seq sim_ix (se_var 2) (se_user f__law_blow (hr.mono (by decide)) rfl tk_cx (sa_cons (se_var 0) (sa_cons (se_callB call_len sim_len rfl G.f_len bo_len (sa_cons (se_var 2) sa_nil)) sa_nil)))) sa_nil)) (se_callTy call_int1 sim_int rfl G.f_int bo_int (sa_cons (se_cmp op_lt sim_cmp (se_var 4) se_int) sa_nil)))
  refine sn_cons ?_ ?_
  · skip
    refine s1_if (sb_cmp (op_eqD (room_u hr)) sim_eqD (se_var 4) se_int) ?_ ?_
    · skip
      refine sn_one ?_
      exact s1_set (i := 5) sc__law_bent.nd rfl (by first | exact Or.inl rfl | exact Or.inr rfl) (se_tup (sa_cons (se_if (sb_val (se_isi rfl rfl G.f_isinstance rfl G.f_tuple bo_tuple io_tuple (se_var 7))) (se_callTy call_list_of sim_list rfl G.f_list bo_list (sa_cons (se_var 7) sa_nil)) (se_tup (sa_cons (se_var 7) sa_nil))) sa_nil))
    · skip
      refine sn_one ?_
      refine s1_if (sb_cmp (op_eqD (room_u hr)) sim_eqD (se_var 4) se_int) ?_ ?_
      · skip
        refine sn_one ?_
        exact s1_set (i := 5) sc__law_bent.nd rfl (by first | exact Or.inl rfl | exact Or.inr rfl) (se_tup (sa_cons (se_var 7) (sa_cons (se_var 7) sa_nil)))
      · skip
        exact sn_nil
  refine sn_cons ?_ ?_
  · skip
    refine s1_for po_cx rfl (si_lst rfl (se_rev rfl (se_var 6))) rfl (sg_tup rfl (sgs_cons (sg_name sc__law_bent.nd (i := 9) rfl (by first | exact Or.inl rfl | exact Or.inr rfl)) (sgs_cons (sg_name sc__law_bent.nd (i := 8) rfl (by first | exact Or.inl rfl | exact Or.inr rfl)) sgs_nil))) ?_
    refine sn_one ?_
    exact s1_set (i := 5) sc__law_bent.nd rfl (by first | exact Or.inl rfl | exact Or.inr rfl) (se_tup (sa_cons (se_bin op_addAll sim_add (se_bin op_addAll sim_add (se_slice rfl (se_var 9) so_none (so_some (se_var 8))) (se_var 5)) (se_slice rfl (se_var 9) (so_some (se_bin op_addAll sim_add (se_var 8) se_int)) so_none)) sa_nil))
  refine sn_one ?_
  exact s1_ret (se_if (sb_cmp (op_eqD (room_u hr)) sim_eqD (se_callB call_len sim_len rfl G.f_len bo_len (sa_cons (se_var 5) sa_nil)) se_int) (se_ix ix_seq sim_ix (se_var 5) se_int) se_non)

def N__law_many : List Str := ["forge", "row", "words", "deeds", "thing", "at"]
theorem sc__law_many : FnScope N__law_many ["forge"] (defScope (topS 57)) := ⟨rfl, rfl, rfl, by decide +kernel, rfl, by decide +kernel, by decide +kernel⟩
theorem bi__law_many : BindOk "_law_many" "_law_many" (defArgs (topS 57)) (defBody (topS 57)) (defScope (topS 57)) ["forge"] := fun _ _ _ _ _ _ us hl => match us, hl with | [_], _ => rfl
noncomputable def b__law_many : SS := (sCons (sFor (iTupD (eTup (aCons (eTup (aCons (eC (.int 12)) (aCons (eC (.int 40)) aNil))) (aCons (eTup (aCons (eC (.int 13)) (aCons (eC (.int 2)) aNil))) (aCons (eTup (aCons (eC (.int 3)) (aCons (eC (.int 41)) aNil))) (aCons (eTup (aCons (eC (.int 12)) (aCons (eC (.int 41)) aNil))) aNil)))))) (.tp [2, 3]) (sCons (sSet 4 (eTup (aCons (eTrim (eCall fTuple (aCons (eComp (iRangeD (aCons (eVar 3) aNil)) (.nm 5) bYes (eTup (aCons (eOp2 oAdd (eC (.str "d")) (eCall fStrI (aCons (eVar 5) aNil))) (aCons (eTup (aCons (eC (.int 0)) (aCons (eC (.int 1)) (aCons (eVar 5) (aCons (eC (.int 1)) aNil))))) aNil))) [5]) aNil))) (aCons (eOp2 oAdd (eTup (aCons (eC (.str "main")) aNil)) (eTrim (eCall fTuple (aCons (eComp (iRangeD (aCons (eOp2 oSub (eVar 2) (eC (.int 1))) aNil)) (.nm 5) bYes (eOp2 oAdd (eC (.str "w")) (eCall fStrI (aCons (eVar 5) aNil))) [5]) aNil)))) (aCons (eOp2 oMulA (eTup (aCons (eTup aNil) aNil)) (eVar 2)) aNil)))))
  (sIf (bNot (bVal (eUser 2 m__law_right (aCons (eC (.str "program")) (aCons (eVar 4) aNil))))) (sRet (eC (.bl false))) sNil)))
  (sCons (sSet 1 (eTup (aCons (eTup (aCons (eC (.str "return")) aNil)) aNil)))
  (sRet (eAndV (eUser 2 m__law_right (aCons (eC (.str "code")) (aCons (eOp2 oMulA (eTup (aCons (eVar 1) aNil)) (eC (.int 12))) aNil))) (eAndV (eUser 2 m__law_right (aCons (eC (.str "code")) (aCons (eOp2 oMulA (eTup (aCons (eVar 1) aNil)) (eC (.int 13))) aNil))) (eUser 2 m__law_right (aCons (eC (.str "code")) (aCons (eOp2 oMulA (eTup (aCons (eOp2 oMulA (eVar 1) (eC (.int 40))) aNil)) (eC (.int 2))) aNil))))))))
noncomputable def m__law_many : FS := fnF N__law_many.length b__law_many
theorem ok__law_many (G : Gf K mg) (f__law_right : Fn P w K mg base 45 "_law_right" 2 m__law_right) : Fn P w K mg base 46 "_law_many" 1 m__law_many := mk_fn G.d__law_many sc__law_many G.g__law_many bi__law_many fun cdv A outer s0 H E hr => by
  refine sn_cons ?_ ?_
  · skip
    refine s1_for po_cx rfl (si_tup rfl (se_tup (sa_cons (se_tup (sa_cons se_int (sa_cons se_int sa_nil))) (sa_cons (se_tup (sa_cons se_int (sa_cons se_int sa_nil))) (sa_cons (se_tup (sa_cons se_int (sa_cons se_int sa_nil))) (sa_cons (se_tup (sa_cons se_int (sa_cons se_int sa_nil))) sa_nil)))))) rfl (sg_tup rfl (sgs_cons (sg_name sc__law_many.nd (i := 2) rfl (by first | exact Or.inl rfl | exact Or.inr rfl)) (sgs_cons (sg_name sc__law_many.nd (i := 3) rfl (by first | exact Or.inl rfl | exact Or.inr rfl)) sgs_nil))) ?_
    refine sn_cons ?_ ?_
    · skip
      exact s1_set (i := 4) sc__law_many.nd rfl (by first | exact Or.inl rfl | exact Or.inr rfl) (se_tup (sa_cons (se_trim (se_callTy call_tuple_of sim_tuple rfl G.f_tuple bo_tuple (sa_cons (se_comp (own := [("at", 5)]) rfl rfl sc__law_many.nd (si_range1 rfl G.f_range (sa_cons (se_var 3) sa_nil) al_one) (show BlkOk N__law_many (defScope (topS 57)) _ _ from ⟨rfl, by decide +kernel, by decide +kernel, by decide +kernel, by decide +kernel⟩) (fun _ _ _ _ _ => (sg_name sc__law_many.nd (i := 5) rfl (by first | exact Or.inl rfl | exact Or.inr rfl))) (fun _ _ _ _ _ => sbs_nil) (fun _ _ _ _ _ => (se_tup (sa_cons (se_bin op_addAll sim_add se_str (se_callTy call_str_int sim_strI rfl G.f_str bo_str (sa_cons (se_var 5) sa_nil))) (sa_cons (se_tup (sa_cons se_int (sa_cons se_int (sa_cons (se_var 5) (sa_cons se_int sa_nil))))) sa_nil))))) sa_nil))) (sa_cons (se_bin op_addAll sim_add (se_tup (sa_cons se_str sa_nil)) (se_trim (se_callTy call_tuple_of sim_tuple rfl G.f_tuple bo_tuple (sa_cons (se_comp (own := [("at", 5)]) rfl rfl sc__law_many.nd (si_range1 rfl G.f_range (sa_cons (se_bin op_sub sim_sub (se_var 2) se_int) sa_nil) al_one) (show BlkOk N__law_many (defScope (topS 57)) _ _ from ⟨rfl, by decide +kernel, by decide +kernel, by decide +kernel, by decide +kernel⟩) (fun _ _ _ _ _ => (sg_name sc__law_many.nd (i := 5) rfl (by first | exact Or.inl rfl | exact Or.inr rfl))) (fun _ _ _ _ _ => sbs_nil) (fun _ _ _ _ _ => (se_bin op_addAll sim_add se_str (se_callTy call_str_int sim_strI rfl G.f_str bo_str (sa_cons (se_var 5) sa_nil))))) sa_nil)))) (sa_cons (se_bin op_mulAll sim_mulA (se_tup (sa_cons (se_tup sa_nil) sa_nil)) (se_var 2)) sa_nil))))
    refine sn_one ?_
    refine s1_if (sb_not (sb_val (se_user f__law_right (hr.mono (by decide)) rfl tk_cx (sa_cons se_str (sa_cons (se_var 4) sa_nil))))) ?_ ?_
    · skip
      refine sn_one ?_
      exact s1_ret se_bl
    · skip
      exact sn_nil
  refine sn_cons ?_ ?_
  · skip
    exact s1_set (i := 1) sc__law_many.nd rfl (by first | exact Or.inl rfl | exact Or.inr rfl) (se_tup (sa_cons (se_tup (sa_cons se_str sa_nil)) sa_nil))
  refine sn_one ?_
  exact s1_ret (se_and (se_user f__law_right (hr.mono (by decide)) rfl tk_cx (sa_cons se_str (sa_cons (se_bin op_mulAll sim_mulA (se_tup (sa_cons (se_var 1) sa_nil)) se_int) sa_nil))) (se_and (se_user f__law_right (hr.mono (by decide)) rfl tk_cx (sa_cons se_str (sa_cons (se_bin op_mulAll sim_mulA (se_tup (sa_cons (se_var 1) sa_nil)) se_int) sa_nil))) (se_one (se_user f__law_right (hr.mono (by decide)) rfl tk_cx (sa_cons se_str (sa_cons (se_bin op_mulAll sim_mulA (se_tup (sa_cons (se_bin op_mulAll sim_mulA (se_var 1) se_int) sa_nil)) se_int) sa_nil))))))

def N_law : List Str := ["script", "forge", "lap", "things", "dues", "at", "codes", "form", "deeds", "names", "call", "thing", "turn", "other", "bent"]
theorem sc_law : FnScope N_law ["script"] (defScope (topS 58)) := ⟨rfl, rfl, rfl, by decide +kernel, rfl, by decide +kernel, by decide +kernel⟩
theorem bi_law : BindOk "law" "law" (defArgs (topS 58)) (defBody (topS 58)) (defScope (topS 58)) ["script"] := fun _ _ _ _ _ _ us hl => match us, hl with | [_], _ => rfl
noncomputable def b_law : SS := (sCons (sSet 1 (eUser 1 m__law_forge (aCons (eVar 0) aNil)))
  (sCons (sFor (iRangeD (aCons (eC (.int 3)) aNil)) (.nm 2) (sFor (iTupD (eTup (aCons (eTup (aCons (eC (.str "program")) (aCons (eUser 1 m__law_program (aCons (eVar 1) aNil)) aNil))) (aCons (eTup (aCons (eC (.str "code")) (aCons (eUser 1 m__law_code (aCons (eVar 1) aNil)) aNil))) aNil)))) (.tp [10, 11]) (sCons (sIf (bNot (bVal (eUser 2 m__law_right (aCons (eVar 10) (aCons (eVar 11) aNil))))) (sRet (eC (.bl false))) sNil)
  (sCons (sFor (iRangeD (aCons (eC (.int 12)) aNil)) (.nm 12) (sCons (sSet 14 (eUser 2 m__law_bent (aCons (eVar 1) (aCons (eVar 11) aNil))))
  (sIf (bOr (bNot (bVal (eUser 2 m__law_right (aCons (eVar 10) (aCons (eVar 14) aNil))))) (bAnd (bVal (eOp2 oGt (eVar 12) (eC (.int 7)))) (bNot (bVal (eUser 2 m__law_right (aCons (eVar 10) (aCons (eUser 2 m__law_bent (aCons (eVar 1) (aCons (eVar 14) aNil))) aNil))))))) (sRet (eC (.bl false))) sNil)))
  (sFor (iTupD (eTup (aCons (eCall fList (aCons (eVar 11) aNil)) (aCons (eOp1 oRev (eVar 11)) (aCons (eOp2 oAdd (eVar 11) (eVar 11)) (aCons (eSl (eVar 11) noPart (onPart (eOp1 oNeg (eC (.int 1))))) (aCons (eC .non) (aCons (eC (.str "main")) (aCons (eTup aNil) (aCons (eTup (aCons (eVar 11) aNil)) aNil)))))))))) (.nm 13) (sIf (bNot (bVal (eUser 2 m__law_right (aCons (eVar 10) (aCons (eVar 13) aNil))))) (sRet (eC (.bl false))) sNil))))))
  (sCons (sTgt (.tp [7, 8, 9]) (eTup (aCons (eTup (aCons (eC (.int 0)) (aCons (eC (.int 2)) (aCons (eC (.int 0)) (aCons (eC (.int 1)) aNil))))) (aCons (eTup (aCons (eTup (aCons (eC (.str "f")) (aCons (eTup (aCons (eC (.int 0)) (aCons (eC (.int 2)) (aCons (eC (.int 0)) (aCons (eC (.int 1)) aNil))))) aNil))) aNil)) (aCons (eTup (aCons (eC (.str "main")) (aCons (eC (.str "g")) aNil))) aNil)))))
  (sCons (sSet 3 (eTup (aCons (eTup (aCons (eVar 8) (aCons (eVar 9) (aCons (eTup (aCons (eTup (aCons (eTup (aCons (eC (.str "deed")) (aCons (eC (.int 0)) aNil))) aNil)) (aCons (eTup aNil) aNil))) aNil)))) (aCons (eTup (aCons (eVar 8) (aCons (eVar 9) aNil))) (aCons (eTup (aCons (eOp2 oMulA (eVar 8) (eC (.int 2))) (aCons (eTup (aCons (eC (.str "g")) aNil)) (aCons (eTup aNil) aNil)))) (aCons (eTup (aCons (eTup (aCons (eTup (aCons (eC (.str "f")) (aCons (eTup (aCons (eC (.int 2)) (aCons (eC (.int 2)) (aCons (eC (.int 0)) (aCons (eC (.int 1)) aNil))))) aNil))) aNil)) (aCons (eTup (aCons (eC (.str "g")) aNil)) (aCons (eTup aNil) aNil)))) (aCons (eTup (aCons (eTup (aCons (eTup (aCons (eC (.str "f")) (aCons (eTup (aCons (eC (.int 0)) (aCons (eC (.int 0)) (aCons (eC (.int 0)) (aCons (eC (.int 0)) aNil))))) aNil))) aNil)) (aCons (eVar 9) (aCons (eTup aNil) aNil)))) (aCons (eTup (aCons (eVar 8) (aCons (eTup (aCons (eC (.str "f")) (aCons (eC (.str "main")) aNil))) (aCons (eTup aNil) aNil)))) (aCons (eTup (aCons (eVar 8) (aCons (eTup (aCons (eC (.str "g")) aNil)) (aCons (eTup aNil) aNil)))) (aCons (eTup (aCons (eVar 8) (aCons (eVar 9) (aCons (eTup (aCons (eTup aNil) aNil)) aNil)))) (aCons (eTup (aCons (eVar 8) (aCons (eVar 9) (aCons (eTup (aCons (eTup aNil) (aCons (eTup (aCons (eTup (aCons (eC (.str "deed")) (aCons (eC (.int 1)) aNil))) aNil)) aNil))) aNil)))) (aCons (eTup (aCons (eVar 8) (aCons (eVar 9) (aCons (eTup (aCons (eTup (aCons (eTup (aCons (eC (.str "either")) (aCons (eTup (aCons (eTup aNil) aNil)) aNil))) aNil)) (aCons (eTup (aCons (eTup (aCons (eC (.str "call")) (aCons (eC (.int 2)) aNil))) aNil)) aNil))) aNil)))) (aCons (eTup (aCons (eTup aNil) (aCons (eTup (aCons (eC (.str "main")) aNil)) (aCons (eTup (aCons (eTup (aCons (eTup (aCons (eC (.str "loop")) (aCons (eTup (aCons (eTup (aCons (eC (.str "back")) aNil)) (aCons (eTup (aCons (eC (.str "repeat")) (aCons (eC (.int 0)) (aCons (eTup (aCons (eTup (aCons (eC (.str "back")) aNil)) aNil)) aNil)))) aNil))) aNil))) aNil)) aNil)) aNil)))) (aCons (eTup (aCons (eTup (aCons (eLst (aCons (eC (.str "f")) (aCons (eVar 7) aNil))) aNil)) (aCons (eVar 9) (aCons (eTup (aCons (eTup aNil) (aCons (eTup aNil) aNil))) aNil)))) (aCons (eTup (aCons (eVar 8) (aCons (eVar 9) (aCons (eTup (aCons (eTup (aCons (eTup (aCons (eC (.str "repeat")) (aCons (eC (.bl true)) (aCons (eTup aNil) aNil)))) aNil)) (aCons (eTup aNil) aNil))) aNil)))) (aCons (eTup (aCons (eVar 8) (aCons (eTup (aCons (eC (.str "main")) (aCons (eC (.str "main")) aNil))) (aCons (eTup (aCons (eTup aNil) (aCons (eTup aNil) aNil))) aNil)))) (aCons (eTup (aCons (eTup (aCons (eTup (aCons (eC (.str "f")) (aCons (eVar 7) (aCons (eC (.int 0)) aNil)))) aNil)) (aCons (eTup (aCons (eC (.str "g")) aNil)) (aCons (eTup aNil) aNil)))) aNil)))))))))))))))))
  (sCons (sSet 4 (eTup (aCons (eTup (aCons (eC (.str "told")) (aCons (eC (.int 1)) aNil))) (aCons (eTup (aCons (eC (.str "bad")) (aCons (eOp1 oNeg (eC (.int 1))) (aCons (eC (.str "shape")) aNil)))) (aCons (eTup (aCons (eC (.str "bad")) (aCons (eOp1 oNeg (eC (.int 1))) (aCons (eC (.str "deeds")) aNil)))) (aCons (eTup (aCons (eC (.str "bad")) (aCons (eC (.int 0)) (aCons (eC (.str "form")) aNil)))) (aCons (eTup (aCons (eC (.str "bad")) (aCons (eC (.int 0)) (aCons (eC (.str "form")) aNil)))) (aCons (eTup (aCons (eC (.str "bad")) (aCons (eOp1 oNeg (eC (.int 1))) (aCons (eC (.str "names")) aNil)))) (aCons (eTup (aCons (eC (.str "bad")) (aCons (eOp1 oNeg (eC (.int 1))) (aCons (eC (.str "main")) aNil)))) (aCons (eTup (aCons (eC (.str "bad")) (aCons (eOp1 oNeg (eC (.int 1))) (aCons (eC (.str "bodies")) aNil)))) (aCons (eTup (aCons (eC (.str "bad")) (aCons (eC (.int 1)) (aCons (eC (.str "statement")) aNil)))) (aCons (eTup (aCons (eC (.str "bad")) (aCons (eC (.int 0)) (aCons (eC (.str "statement")) aNil)))) (aCons (eTup (aCons (eC (.str "told")) (aCons (eC (.int 4)) aNil))) (aCons (eTup (aCons (eC (.str "bad")) (aCons (eOp1 oNeg (eC (.int 1))) (aCons (eC (.str "deeds")) aNil)))) (aCons (eTup (aCons (eC (.str "bad")) (aCons (eC (.int 0)) (aCons (eC (.str "statement")) aNil)))) (aCons (eTup (aCons (eC (.str "bad")) (aCons (eOp1 oNeg (eC (.int 1))) (aCons (eC (.str "names")) aNil)))) (aCons (eTup (aCons (eC (.str "bad")) (aCons (eOp1 oNeg (eC (.int 1))) (aCons (eC (.str "deeds")) aNil)))) aNil)))))))))))))))))
  (sCons (sFor (iRangeD (aCons (eCall fLen (aCons (eVar 3) aNil)) aNil)) (.nm 5) (sIf (bOr (bVal (eOp2 (oEq true) (eUser 2 m__law_heard (aCons (eC (.str "program")) (aCons (eOp2 oIx (eVar 3) (eVar 5)) aNil))) (eOp2 oIx (eVar 4) (eVar 5)))) (bVal (eOp2 (oEq true) (eUser 1 m__law_program_due (aCons (eOp2 oIx (eVar 3) (eVar 5)) aNil)) (eOp2 oIx (eVar 4) (eVar 5))))) (sRet (eC (.bl false))) sNil))
  (sCons (sSet 6 (eTup (aCons (eTup (aCons (eTup (aCons (eTup (aCons (eC (.str "deed")) (aCons (eVar 7) (aCons (eC (.int 1)) aNil)))) (aCons (eTup (aCons (eC (.str "return")) aNil)) aNil))) aNil)) (aCons (eTup (aCons (eTup (aCons (eTup (aCons (eC (.str "deed")) (aCons (eTup (aCons (eC (.int 2)) (aCons (eC (.int 2)) (aCons (eC (.int 0)) (aCons (eC (.int 1)) aNil))))) (aCons (eC (.int 1)) aNil)))) (aCons (eTup (aCons (eC (.str "return")) aNil)) aNil))) aNil)) (aCons (eTup aNil) (aCons (eTup (aCons (eTup aNil) aNil)) (aCons (eTup (aCons (eTup (aCons (eTup (aCons (eC (.str "choose")) (aCons (eTup (aCons (eC (.int 0)) aNil)) aNil))) aNil)) aNil)) (aCons (eTup (aCons (eTup (aCons (eTup (aCons (eC (.str "call")) (aCons (eC (.int 1)) (aCons (eC (.int 9)) aNil)))) (aCons (eTup (aCons (eC (.str "deed")) (aCons (eTup (aCons (eC (.int 1)) aNil)) (aCons (eC (.int 0)) aNil)))) aNil))) aNil)) (aCons (eTup (aCons (eTup (aCons (eTup (aCons (eC (.str "call")) (aCons (eC (.int 1)) (aCons (eC (.int 1)) aNil)))) aNil)) aNil)) (aCons (eTup (aCons (eTup (aCons (eTup (aCons (eC (.str "return")) aNil)) aNil)) (aCons (eTup (aCons (eTup (aCons (eC (.str "choose")) (aCons (eTup (aCons (eC (.int 0)) (aCons (eC (.int 1)) aNil))) aNil))) aNil)) aNil))) (aCons (eTup (aCons (eTup (aCons (eTup (aCons (eC (.str "deed")) (aCons (eLst (aCons (eC (.int 0)) (aCons (eC (.int 1)) (aCons (eC (.int 0)) (aCons (eC (.int 1)) aNil))))) (aCons (eC (.int 0)) aNil)))) aNil)) aNil)) (aCons (eTup (aCons (eTup (aCons (eTup (aCons (eC (.str "call")) (aCons (eC (.bl true)) (aCons (eC (.int 0)) aNil)))) aNil)) aNil)) (aCons (eTup (aCons (eTup (aCons (eTup (aCons (eC (.str "return")) (aCons (eC (.int 0)) aNil))) aNil)) aNil)) aNil)))))))))))))
  (sCons (sSet 4 (eTup (aCons (eTup (aCons (eC (.str "told")) (aCons (eC (.int 2)) aNil))) (aCons (eTup (aCons (eC (.str "bad")) (aCons (eC (.int 0)) (aCons (eC (.str "form")) aNil)))) (aCons (eTup (aCons (eC (.str "bad")) (aCons (eOp1 oNeg (eC (.int 1))) (aCons (eC (.str "shape")) aNil)))) (aCons (eTup (aCons (eC (.str "bad")) (aCons (eOp1 oNeg (eC (.int 1))) (aCons (eC (.str "shape")) aNil)))) (aCons (eTup (aCons (eC (.str "bad")) (aCons (eC (.int 0)) (aCons (eC (.str "row")) aNil)))) (aCons (eTup (aCons (eC (.str "bad")) (aCons (eC (.int 0)) (aCons (eC (.str "form")) aNil)))) (aCons (eTup (aCons (eC (.str "bad")) (aCons (eC (.int 0)) (aCons (eC (.str "call")) aNil)))) (aCons (eTup (aCons (eC (.str "bad")) (aCons (eC (.int 1)) (aCons (eC (.str "next")) aNil)))) (aCons (eTup (aCons (eC (.str "bad")) (aCons (eC (.int 0)) (aCons (eC (.str "row")) aNil)))) (aCons (eTup (aCons (eC (.str "bad")) (aCons (eC (.int 0)) (aCons (eC (.str "row")) aNil)))) (aCons (eTup (aCons (eC (.str "bad")) (aCons (eC (.int 0)) (aCons (eC (.str "row")) aNil)))) aNil)))))))))))))
  (sCons (sFor (iRangeD (aCons (eCall fLen (aCons (eVar 6) aNil)) aNil)) (.nm 5) (sIf (bOr (bVal (eOp2 (oEq true) (eUser 2 m__law_heard (aCons (eC (.str "code")) (aCons (eOp2 oIx (eVar 6) (eVar 5)) aNil))) (eOp2 oIx (eVar 4) (eVar 5)))) (bVal (eOp2 (oEq true) (eUser 1 m__law_code_due (aCons (eOp2 oIx (eVar 6) (eVar 5)) aNil)) (eOp2 oIx (eVar 4) (eVar 5))))) (sRet (eC (.bl false))) sNil))
  (sRet (eUser 1 m__law_many (aCons (eVar 1) aNil))))))))))))
noncomputable def m_law : FS := fnF N_law.length b_law
theorem ok_law (G : Gf K mg) (f__law_bent : Fn P w K mg base 2 "_law_bent" 2 m__law_bent) (f__law_code : Fn P w K mg base 3 "_law_code" 1 m__law_code) (f__law_code_due : Fn P w K mg base 2 "_law_code_due" 1 m__law_code_due) (f__law_forge : Fn P w K mg base 1 "_law_forge" 1 m__law_forge) (f__law_heard : Fn P w K mg base 44 "_law_heard" 2 m__law_heard) (f__law_many : Fn P w K mg base 46 "_law_many" 1 m__law_many) (f__law_program : Fn P w K mg base 42 "_law_program" 1 m__law_program) (f__law_program_due : Fn P w K mg base 3 "_law_program_due" 1 m__law_program_due) (f__law_right : Fn P w K mg base 45 "_law_right" 2 m__law_right) : Fn P w K mg base 47 "law" 1 m_law := mk_fn G.d_law sc_law G.g_law bi_law fun cdv A outer s0 H E hr => by
  refine sn_cons ?_ ?_
  · skip
    exact s1_set (i := 1) sc_law.nd rfl (by first | exact Or.inl rfl | exact Or.inr rfl) (se_user f__law_forge (hr.mono (by decide)) rfl tk_cx (sa_cons (se_var 0) sa_nil))
  refine sn_cons ?_ ?_
  · skip
    refine s1_for po_cx rfl (si_range1 rfl G.f_range (sa_cons se_int sa_nil) al_one) rfl (sg_name sc_law.nd (i := 2) rfl (by first | exact Or.inl rfl | exact Or.inr rfl)) ?_
    refine sn_one ?_
    refine s1_for po_cx rfl (si_tup rfl (se_tup (sa_cons (se_tup (sa_cons se_str (sa_cons (se_user f__law_program (hr.mono (by decide)) rfl tk_cx (sa_cons (se_var 1) sa_nil)) sa_nil))) (sa_cons (se_tup (sa_cons se_str (sa_cons (se_user f__law_code (hr.mono (by decide)) rfl tk_cx (sa_cons (se_var 1) sa_nil)) sa_nil))) sa_nil)))) rfl (sg_tup rfl (sgs_cons (sg_name sc_law.nd (i := 10) rfl (by first | exact Or.inl rfl | exact Or.inr rfl)) (sgs_cons (sg_name sc_law.nd (i := 11) rfl (by first | exact Or.inl rfl | exact Or.inr rfl)) sgs_nil))) ?_
    refine sn_cons ?_ ?_
    · skip
      refine s1_if (sb_not (sb_val (se_user f__law_right (hr.mono (by decide)) rfl tk_cx (sa_cons (se_var 10) (sa_cons (se_var 11) sa_nil))))) ?_ ?_
      · skip
        refine sn_one ?_
        exact s1_ret se_bl
      · skip
        exact sn_nil
    refine sn_cons ?_ ?_
    · skip
      refine s1_for po_cx rfl (si_range1 rfl G.f_range (sa_cons se_int sa_nil) al_one) rfl (sg_name sc_law.nd (i := 12) rfl (by first | exact Or.inl rfl | exact Or.inr rfl)) ?_
      refine sn_cons ?_ ?_
      · skip
        exact s1_set (i := 14) sc_law.nd rfl (by first | exact Or.inl rfl | exact Or.inr rfl) (se_user f__law_bent (hr.mono (by decide)) rfl tk_cx (sa_cons (se_var 1) (sa_cons (se_var 11) sa_nil)))
      refine sn_one ?_
      refine s1_if (sb_w (sw_or (sb_not (sb_val (se_user f__law_right (hr.mono (by decide)) rfl tk_cx (sa_cons (se_var 10) (sa_cons (se_var 14) sa_nil))))) (sw_or1 (sb_w (sw_and (sb_cmp op_gt sim_cmp (se_var 12) se_int) (sw_and1 (sb_not (sb_val (se_user f__law_right (hr.mono (by decide)) rfl tk_cx (sa_cons (se_var 10) (sa_cons (se_user f__law_bent (hr.mono (by decide)) rfl tk_cx (sa_cons (se_var 1) (sa_cons (se_var 14) sa_nil))) sa_nil))))))))))) ?_ ?_
      · skip
        refine sn_one ?_
        exact s1_ret se_bl
      · skip
        exact sn_nil
    refine sn_one ?_
    refine s1_for po_cx rfl (si_tup rfl (se_tup (sa_cons (se_callTy call_list_of sim_list rfl G.f_list bo_list (sa_cons (se_var 11) sa_nil)) (sa_cons (se_rev rfl (se_var 11)) (sa_cons (se_bin op_addAll sim_add (se_var 11) (se_var 11)) (sa_cons (se_slice rfl (se_var 11) so_none (so_some (se_un un_neg sim_neg se_int))) (sa_cons se_non (sa_cons se_str (sa_cons (se_tup sa_nil) (sa_cons (se_tup (sa_cons (se_var 11) sa_nil)) sa_nil)))))))))) rfl (sg_name sc_law.nd (i := 13) rfl (by first | exact Or.inl rfl | exact Or.inr rfl)) ?_
    refine sn_one ?_
    refine s1_if (sb_not (sb_val (se_user f__law_right (hr.mono (by decide)) rfl tk_cx (sa_cons (se_var 10) (sa_cons (se_var 13) sa_nil))))) ?_ ?_
    · skip
      refine sn_one ?_
      exact s1_ret se_bl
    · skip
      exact sn_nil
  refine sn_cons ?_ ?_
  · skip
    exact s1_tgt rfl (se_tup (sa_cons (se_tup (sa_cons se_int (sa_cons se_int (sa_cons se_int (sa_cons se_int sa_nil))))) (sa_cons (se_tup (sa_cons (se_tup (sa_cons se_str (sa_cons (se_tup (sa_cons se_int (sa_cons se_int (sa_cons se_int (sa_cons se_int sa_nil))))) sa_nil))) sa_nil)) (sa_cons (se_tup (sa_cons se_str (sa_cons se_str sa_nil))) sa_nil)))) (sg_tup rfl (sgs_cons (sg_name sc_law.nd (i := 7) rfl (by first | exact Or.inl rfl | exact Or.inr rfl)) (sgs_cons (sg_name sc_law.nd (i := 8) rfl (by first | exact Or.inl rfl | exact Or.inr rfl)) (sgs_cons (sg_name sc_law.nd (i := 9) rfl (by first | exact Or.inl rfl | exact Or.inr rfl)) sgs_nil))))
  refine sn_cons ?_ ?_
  · skip
    exact s1_set (i := 3) sc_law.nd rfl (by first | exact Or.inl rfl | exact Or.inr rfl) (se_tup (sa_cons (se_tup (sa_cons (se_var 8) (sa_cons (se_var 9) (sa_cons (se_tup (sa_cons (se_tup (sa_cons (se_tup (sa_cons se_str (sa_cons se_int sa_nil))) sa_nil)) (sa_cons (se_tup sa_nil) sa_nil))) sa_nil)))) (sa_cons (se_tup (sa_cons (se_var 8) (sa_cons (se_var 9) sa_nil))) (sa_cons (se_tup (sa_cons (se_bin op_mulAll sim_mulA (se_var 8) se_int) (sa_cons (se_tup (sa_cons se_str sa_nil)) (sa_cons (se_tup sa_nil) sa_nil)))) (sa_cons (se_tup (sa_cons (se_tup (sa_cons (se_tup (sa_cons se_str (sa_cons (se_tup (sa_cons se_int (sa_cons se_int (sa_cons se_int (sa_cons se_int sa_nil))))) sa_nil))) sa_nil)) (sa_cons (se_tup (sa_cons se_str sa_nil)) (sa_cons (se_tup sa_nil) sa_nil)))) (sa_cons (se_tup (sa_cons (se_tup (sa_cons (se_tup (sa_cons se_str (sa_cons (se_tup (sa_cons se_int (sa_cons se_int (sa_cons se_int (sa_cons se_int sa_nil))))) sa_nil))) sa_nil)) (sa_cons (se_var 9) (sa_cons (se_tup sa_nil) sa_nil)))) (sa_cons (se_tup (sa_cons (se_var 8) (sa_cons (se_tup (sa_cons se_str (sa_cons se_str sa_nil))) (sa_cons (se_tup sa_nil) sa_nil)))) (sa_cons (se_tup (sa_cons (se_var 8) (sa_cons (se_tup (sa_cons se_str sa_nil)) (sa_cons (se_tup sa_nil) sa_nil)))) (sa_cons (se_tup (sa_cons (se_var 8) (sa_cons (se_var 9) (sa_cons (se_tup (sa_cons (se_tup sa_nil) sa_nil)) sa_nil)))) (sa_cons (se_tup (sa_cons (se_var 8) (sa_cons (se_var 9) (sa_cons (se_tup (sa_cons (se_tup sa_nil) (sa_cons (se_tup (sa_cons (se_tup (sa_cons se_str (sa_cons se_int sa_nil))) sa_nil)) sa_nil))) sa_nil)))) (sa_cons (se_tup (sa_cons (se_var 8) (sa_cons (se_var 9) (sa_cons (se_tup (sa_cons (se_tup (sa_cons (se_tup (sa_cons se_str (sa_cons (se_tup (sa_cons (se_tup sa_nil) sa_nil)) sa_nil))) sa_nil)) (sa_cons (se_tup (sa_cons (se_tup (sa_cons se_str (sa_cons se_int sa_nil))) sa_nil)) sa_nil))) sa_nil)))) (sa_cons (se_tup (sa_cons (se_tup sa_nil) (sa_cons (se_tup (sa_cons se_str sa_nil)) (sa_cons (se_tup (sa_cons (se_tup (sa_cons (se_tup (sa_cons se_str (sa_cons (se_tup (sa_cons (se_tup (sa_cons se_str sa_nil)) (sa_cons (se_tup (sa_cons se_str (sa_cons se_int (sa_cons (se_tup (sa_cons (se_tup (sa_cons se_str sa_nil)) sa_nil)) sa_nil)))) sa_nil))) sa_nil))) sa_nil)) sa_nil)) sa_nil)))) (sa_cons (se_tup (sa_cons (se_tup (sa_cons (se_lst (sa_cons se_str (sa_cons (se_var 7) sa_nil))) sa_nil)) (sa_cons (se_var 9) (sa_cons (se_tup (sa_cons (se_tup sa_nil) (sa_cons (se_tup sa_nil) sa_nil))) sa_nil)))) (sa_cons (se_tup (sa_cons (se_var 8) (sa_cons (se_var 9) (sa_cons (se_tup (sa_cons (se_tup (sa_cons (se_tup (sa_cons se_str (sa_cons se_bl (sa_cons (se_tup sa_nil) sa_nil)))) sa_nil)) (sa_cons (se_tup sa_nil) sa_nil))) sa_nil)))) (sa_cons (se_tup (sa_cons (se_var 8) (sa_cons (se_tup (sa_cons se_str (sa_cons se_str sa_nil))) (sa_cons (se_tup (sa_cons (se_tup sa_nil) (sa_cons (se_tup sa_nil) sa_nil))) sa_nil)))) (sa_cons (se_tup (sa_cons (se_tup (sa_cons (se_tup (sa_cons se_str (sa_cons (se_var 7) (sa_cons se_int sa_nil)))) sa_nil)) (sa_cons (se_tup (sa_cons se_str sa_nil)) (sa_cons (se_tup sa_nil) sa_nil)))) sa_nil))))))))))))))))
  refine sn_cons ?_ ?_
  · skip
    exact s1_set (i := 4) sc_law.nd rfl (by first | exact Or.inl rfl | exact Or.inr rfl) (se_tup (sa_cons (se_tup (sa_cons se_str (sa_cons se_int sa_nil))) (sa_cons (se_tup (sa_cons se_str (sa_cons (se_un un_neg sim_neg se_int) (sa_cons se_str sa_nil)))) (sa_cons (se_tup (sa_cons se_str (sa_cons (se_un un_neg sim_neg se_int) (sa_cons se_str sa_nil)))) (sa_cons (se_tup (sa_cons se_str (sa_cons se_int (sa_cons se_str sa_nil)))) (sa_cons (se_tup (sa_cons se_str (sa_cons se_int (sa_cons se_str sa_nil)))) (sa_cons (se_tup (sa_cons se_str (sa_cons (se_un un_neg sim_neg se_int) (sa_cons se_str sa_nil)))) (sa_cons (se_tup (sa_cons se_str (sa_cons (se_un un_neg sim_neg se_int) (sa_cons se_str sa_nil)))) (sa_cons (se_tup (sa_cons se_str (sa_cons (se_un un_neg sim_neg se_int) (sa_cons se_str sa_nil)))) (sa_cons (se_tup (sa_cons se_str (sa_cons se_int (sa_cons se_str sa_nil)))) (sa_cons (se_tup (sa_cons se_str (sa_cons se_int (sa_cons se_str sa_nil)))) (sa_cons (se_tup (sa_cons se_str (sa_cons se_int sa_nil))) (sa_cons (se_tup (sa_cons se_str (sa_cons (se_un un_neg sim_neg se_int) (sa_cons se_str sa_nil)))) (sa_cons (se_tup (sa_cons se_str (sa_cons se_int (sa_cons se_str sa_nil)))) (sa_cons (se_tup (sa_cons se_str (sa_cons (se_un un_neg sim_neg se_int) (sa_cons se_str sa_nil)))) (sa_cons (se_tup (sa_cons se_str (sa_cons (se_un un_neg sim_neg se_int) (sa_cons se_str sa_nil)))) sa_nil))))))))))))))))
  refine sn_cons ?_ ?_
  · skip
    refine s1_for po_cx rfl (si_range1 rfl G.f_range (sa_cons (se_callB call_len sim_len rfl G.f_len bo_len (sa_cons (se_var 3) sa_nil)) sa_nil) al_one) rfl (sg_name sc_law.nd (i := 5) rfl (by first | exact Or.inl rfl | exact Or.inr rfl)) ?_
    refine sn_one ?_
    refine s1_if (sb_w (sw_or (sb_cmp (op_neD (room_u hr)) sim_neD (se_user f__law_heard (hr.mono (by decide)) rfl tk_cx (sa_cons se_str (sa_cons (se_ix ix_seq sim_ix (se_var 3) (se_var 5)) sa_nil))) (se_ix ix_seq sim_ix (se_var 4) (se_var 5))) (sw_or1 (sb_cmp (op_neD (room_u hr)) sim_neD (se_user f__law_program_due (hr.mono (by decide)) rfl tk_cx (sa_cons (se_ix ix_seq sim_ix (se_var 3) (se_var 5)) sa_nil)) (se_ix ix_seq sim_ix (se_var 4) (se_var 5)))))) ?_ ?_
    · skip
      refine sn_one ?_
      exact s1_ret se_bl
    · skip
      exact sn_nil
  refine sn_cons ?_ ?_
  · skip
    exact s1_set (i := 6) sc_law.nd rfl (by first | exact Or.inl rfl | exact Or.inr rfl) (se_tup (sa_cons (se_tup (sa_cons (se_tup (sa_cons (se_tup (sa_cons se_str (sa_cons (se_var 7) (sa_cons se_int sa_nil)))) (sa_cons (se_tup (sa_cons se_str sa_nil)) sa_nil))) sa_nil)) (sa_cons (se_tup (sa_cons (se_tup (sa_cons (se_tup (sa_cons se_str (sa_cons (se_tup (sa_cons se_int (sa_cons se_int (sa_cons se_int (sa_cons se_int sa_nil))))) (sa_cons se_int sa_nil)))) (sa_cons (se_tup (sa_cons se_str sa_nil)) sa_nil))) sa_nil)) (sa_cons (se_tup sa_nil) (sa_cons (se_tup (sa_cons (se_tup sa_nil) sa_nil)) (sa_cons (se_tup (sa_cons (se_tup (sa_cons (se_tup (sa_cons se_str (sa_cons (se_tup (sa_cons se_int sa_nil)) sa_nil))) sa_nil)) sa_nil)) (sa_cons (se_tup (sa_cons (se_tup (sa_cons (se_tup (sa_cons se_str (sa_cons se_int (sa_cons se_int sa_nil)))) (sa_cons (se_tup (sa_cons se_str (sa_cons (se_tup (sa_cons se_int sa_nil)) (sa_cons se_int sa_nil)))) sa_nil))) sa_nil)) (sa_cons (se_tup (sa_cons (se_tup (sa_cons (se_tup (sa_cons se_str (sa_cons se_int (sa_cons se_int sa_nil)))) sa_nil)) sa_nil)) (sa_cons (se_tup (sa_cons (se_tup (sa_cons (se_tup (sa_cons se_str sa_nil)) sa_nil)) (sa_cons (se_tup (sa_cons (se_tup (sa_cons se_str (sa_cons (se_tup (sa_cons se_int (sa_cons se_int sa_nil))) sa_nil))) sa_nil)) sa_nil))) (sa_cons (se_tup (sa_cons (se_tup (sa_cons (se_tup (sa_cons se_str (sa_cons (se_lst (sa_cons se_int (sa_cons se_int (sa_cons se_int (sa_cons se_int sa_nil))))) (sa_cons se_int sa_nil)))) sa_nil)) sa_nil)) (sa_cons (se_tup (sa_cons (se_tup (sa_cons (se_tup (sa_cons se_str (sa_cons se_bl (sa_cons se_int sa_nil)))) sa_nil)) sa_nil)) (sa_cons (se_tup (sa_cons (se_tup (sa_cons (se_tup (sa_cons se_str (sa_cons se_int sa_nil))) sa_nil)) sa_nil)) sa_nil))))))))))))
  refine sn_cons ?_ ?_
  · skip
    exact s1_set (i := 4) sc_law.nd rfl (by first | exact Or.inl rfl | exact Or.inr rfl) (se_tup (sa_cons (se_tup (sa_cons se_str (sa_cons se_int sa_nil))) (sa_cons (se_tup (sa_cons se_str (sa_cons se_int (sa_cons se_str sa_nil)))) (sa_cons (se_tup (sa_cons se_str (sa_cons (se_un un_neg sim_neg se_int) (sa_cons se_str sa_nil)))) (sa_cons (se_tup (sa_cons se_str (sa_cons (se_un un_neg sim_neg se_int) (sa_cons se_str sa_nil)))) (sa_cons (se_tup (sa_cons se_str (sa_cons se_int (sa_cons se_str sa_nil)))) (sa_cons (se_tup (sa_cons se_str (sa_cons se_int (sa_cons se_str sa_nil)))) (sa_cons (se_tup (sa_cons se_str (sa_cons se_int (sa_cons se_str sa_nil)))) (sa_cons (se_tup (sa_cons se_str (sa_cons se_int (sa_cons se_str sa_nil)))) (sa_cons (se_tup (sa_cons se_str (sa_cons se_int (sa_cons se_str sa_nil)))) (sa_cons (se_tup (sa_cons se_str (sa_cons se_int (sa_cons se_str sa_nil)))) (sa_cons (se_tup (sa_cons se_str (sa_cons se_int (sa_cons se_str sa_nil)))) sa_nil))))))))))))
  refine sn_cons ?_ ?_
  · skip
    refine s1_for po_cx rfl (si_range1 rfl G.f_range (sa_cons (se_callB call_len sim_len rfl G.f_len bo_len (sa_cons (se_var 6) sa_nil)) sa_nil) al_one) rfl (sg_name sc_law.nd (i := 5) rfl (by first | exact Or.inl rfl | exact Or.inr rfl)) ?_
    refine sn_one ?_
    refine s1_if (sb_w (sw_or (sb_cmp (op_neD (room_u hr)) sim_neD (se_user f__law_heard (hr.mono (by decide)) rfl tk_cx (sa_cons se_str (sa_cons (se_ix ix_seq sim_ix (se_var 6) (se_var 5)) sa_nil))) (se_ix ix_seq sim_ix (se_var 4) (se_var 5))) (sw_or1 (sb_cmp (op_neD (room_u hr)) sim_neD (se_user f__law_code_due (hr.mono (by decide)) rfl tk_cx (sa_cons (se_ix ix_seq sim_ix (se_var 6) (se_var 5)) sa_nil)) (se_ix ix_seq sim_ix (se_var 4) (se_var 5)))))) ?_ ?_
    · skip
      refine sn_one ?_
      exact s1_ret se_bl
    · skip
      exact sn_nil
  refine sn_one ?_
  exact s1_ret (se_user f__law_many (hr.mono (by decide)) rfl tk_cx (sa_cons (se_var 1) sa_nil))

end
end Kl

set_option Elab.async false
set_option linter.all false
set_option maxRecDepth 100000
set_option maxHeartbeats 1000000
set_option autoImplicit false
namespace Kl
open PySem PySem.Spec PyProof.Rows L2 Sm
def isInteger : D → Bool
  | .int _ => true
  | _ => false
theorem v_is_integer {h : Hs} {d : D} (w : Wf h d) : m_is_integer [d] h = .ok (.bl (isInteger d)) h := by
  apply fn_val
  simp [bodyF, b_is_integer, N_is_integer, w]
  cases d <;> simp [isI, isB, isInteger]
def isNum : D → Bool
  | .int i => decide (0 ≤ i)
  | _ => false
theorem v_is_number {h : Hs} {d : D} (w : Wf h d) : m_is_number [d] h = .ok (.bl (isNum d)) h := by
  apply fn_val
  simp [bodyF, b_is_number, N_is_number, v_is_integer w]
  cases d <;> simp [isInteger, isNum]
def isIn (lo hi : Int) : D → Bool
  | .int i => decide (lo ≤ i ∧ i ≤ hi)
  | _ => false
theorem v_integer_within {h : Hs} {d : D} {lo hi : Int} (w : Wf h d) : m_integer_within [d, .int lo, .int hi] h = .ok (.bl (isIn lo hi d)) h := by
  apply fn_val
  simp [bodyF, b_integer_within, N_integer_within, v_is_integer w]
  cases d <;> simp [isInteger, isIn]
  rename_i i
  by_cases z : lo ≤ i <;> simp [z]
def isTup (k : Int) : D → Bool
  | .tup xs => decide ((xs.length : Int) = k)
  | _ => false
theorem v_is_tuple {h : Hs} {d : D} {k : Int} (w : Wf h d) : m_is_tuple [d, .int k] h = .ok (.bl (isTup k d)) h := by
  apply fn_val
  simp [bodyF, b_is_tuple, N_is_tuple, w]
  cases d <;> simp [isT, isTup]
def isText (s : Str) : D → Bool
  | .str t => decide (t = s)
  | _ => false
theorem v_is_text {h : Hs} {d : D} {s : Str} (w : Wf h d) (o : okS s = true) : m_is_text [d, .str s] h = .ok (.bl (isText s d)) h := by
  apply fn_val
  simp [bodyF, b_is_text, N_is_text, w]
  cases d <;> simp [isS, isText]
  rename_i t
  simp only [Wf, WfN] at w
  simp [q_eqS w o]
abbrev tL : Str := "abcdefghijklmnopqrstuvwxyz"
abbrev tF : Str := "0123456789"
def okC (c : Nat) : Bool := inS tL c || inS tF c
def isWordS (s : Str) : Bool := match s.cps.toList with
  | [] => false
  | c :: cs => decide ((c :: cs).length ≤ 12) && (inS tL c && (c :: cs).all okC)
def isWord : D → Bool
  | .str s => isWordS s
  | _ => false
def okSign : D → Bool
  | .str s => s.cps.toList.all okC
  | _ => false
theorem all_signs (s : Str) : (Sm.signs s).all okSign = s.cps.toList.all okC := by
  unfold Sm.signs
  rw [List.all_map]
  congr 1
  funext c
  simp [okSign]
theorem mem_signs {s : Str} {d : D} (h : d ∈ Sm.signs s) : ∃ c, d = .str ⟨#[c]⟩ := by
  unfold Sm.signs at h
  rw [List.mem_map] at h
  obtain ⟨c, _, e⟩ := h
  exact ⟨c, e.symm⟩
theorem ix_sign {h : Hs} {s : Str} {c : Nat} {cs : List Nat} (o : okS s = true) (e : s.cps.toList = c :: cs) : oIx (.str s) (.int 0) h = .ok (.str ⟨#[c]⟩) h := by
  have l := of_decide_eq_true (Bool.and_eq_true_iff.mp o).2
  simp [oIx, l, e, atI_zero]
theorem len_cps (s : Str) : s.length = s.cps.toList.length := by simp [Str.length]
theorem len_signs (s : Str) : (Sm.signs s).length = s.length := by simp [Sm.signs, Str.length]
theorem v_is_word {h : Hs} {d : D} (w : Wf h d) : m_is_word [d] h = .ok (.bl (isWord d)) h := by
  apply fn_val
  cases d with
  | str s =>
    have o : okS s = true := by simpa only [Wf, WfN] using w
    simp [bodyF, b_is_word, N_is_word, w, isS, q_lenW o]
    cases e : s.cps.toList with
    | nil =>
      have l : s.length = 0 := by rw [len_cps, e]; rfl
      simp [l, isWord, isWordS, e]
    | cons c cs =>
      have l : s.length = cs.length + 1 := by rw [len_cps, e]; rfl
      have k : (1 : Int) ≤ (s.length : Int) := by omega
      by_cases k2 : (s.length : Int) ≤ 12
      · have k3 : cs.length + 1 ≤ 12 := by omega
        simp [k, k2, ix_sign o e, in_one]
        cases k4 : inS tL c
        · simp [isWord, isWordS, e, k4]
        · simp
          rw [all_comp okSign rfl (fun _ => trivial) (by rw [len_signs]; omega) ?_]
          · simp [all_signs, isWord, isWordS, e, k3, k4]
          · intro d hd l
            obtain ⟨c', rfl⟩ := mem_signs hd
            refine ⟨_, rfl, ?_⟩
            simp [wipeD, in_one, okSign, okC]
            cases inS tL c' <;> simp
      · have k3 : ¬ (cs.length + 1 ≤ 12) := by omega
        simp [k, k2, isWord, isWordS, e, k3]
  | _ => simp [bodyF, b_is_word, N_is_word, w, isS, isWord]
abbrev tA : Str := "abcdefghijklmnopqrstuvwxyz0123456789"
theorem okC_A (c : Nat) : inS tA c = okC c := by
  have e : (tA).cps.toList = (tL).cps.toList ++ (tF).cps.toList := by decide +kernel
  unfold okC inS
  rw [e, Bool.eq_iff_iff]
  simp only [List.mem_append, decide_eq_true_eq, Bool.or_eq_true]
theorem no_filter (ds : List D) (p : D → Bool) : decide (((ds.filter fun d => !p d).length : Int) = 0) = ds.all p := by
  rw [Bool.eq_iff_iff, decide_eq_true_eq, List.all_eq_true]
  have : ((ds.filter fun d => !p d).length : Int) = 0 ↔ (ds.filter fun d => !p d) = [] := by
    rw [← List.length_eq_zero_iff]
    omega
  rw [this, List.filter_eq_nil_iff]
  simp
theorem v_law_is_word {h : Hs} {d : D} (w : Wf h d) : m__law_is_word [d] h = .ok (.bl (isWord d)) h := by
  apply fn_val
  cases d with
  | str s =>
    have o : okS s = true := by simpa only [Wf, WfN] using w
    simp [bodyF, b__law_is_word, N__law_is_word, w, isS, q_lenW o]
    cases e : s.cps.toList with
    | nil =>
      have l : s.length = 0 := by rw [len_cps, e]; rfl
      simp [l, isWord, isWordS, e]
    | cons c cs =>
      have l : s.length = cs.length + 1 := by rw [len_cps, e]; rfl
      have k : (1 : Int) ≤ (s.length : Int) := by omega
      by_cases k2 : (s.length : Int) ≤ 12
      · have k3 : cs.length + 1 ≤ 12 := by omega
        simp [k, k2, ix_sign o e, nin_one]
        cases k4 : inS tL c
        · simp [isWord, isWordS, e, k4]
        · simp
          obtain ⟨n, e1, e2, _⟩ := len_comp (h := h) (src := iStrD (eVar 0)) (t := .nm 1) (cond := bVal (eOp2 (oIn true) (eVar 1) (eC (.str tA)))) (el := eVar 1) (vs := [1]) (σ := [some (.str s), none]) okSign rfl (fun _ => trivial) (by rw [len_signs]; omega) (fun d hd l => by
            obtain ⟨c', rfl⟩ := mem_signs hd
            refine ⟨_, rfl, ?_, ?_⟩
            · have := okC_A c'
              simp [wipeD, nin_one, okSign, this]
            · simp [wipeD])
          rw [e1]
          simp [e2, all_signs, isWord, isWordS, e, k3, k4]
      · have k3 : ¬ (cs.length + 1 ≤ 12) := by omega
        simp [k, k2, isWord, isWordS, e, k3]
  | _ => simp [bodyF, b__law_is_word, N__law_is_word, w, isS, isWord]
theorem Wf.len5 {h : Hs} {xs : List D} (w : Wf h (.tup xs)) : xs.length ≤ 100000 := Nat.le_trans (WfN.len w) (by decide)
theorem v_is_lot {h : Hs} {a b : Int} : m_is_lot [.tup [.int a, .int b]] h = .ok (.bl (decide (0 ≤ b) && (decide (b = 0) || (decide (0 ≤ a) && decide (a < b))))) h := by
  apply fn_val
  have w : Wf h (.tup [.int a, .int b]) := by simp [Wf, WfN, WfL]
  simp [bodyF, b_is_lot, N_is_lot, v_is_tuple w, isTup]
  rw [all_comp isInteger rfl (fun _ => trivial) (by simp) ?_]
  · simp [isInteger]
    by_cases z : b < 0
    · have z2 : ¬ 0 ≤ b := by omega
      simp [z, z2]
    · have z2 : 0 ≤ b := by omega
      simp [z, z2]
      by_cases z3 : b = 0
      · simp [z3]
      · by_cases z4 : 0 ≤ a <;> simp [z3, z4]
  · intro d hd l
    refine ⟨_, rfl, ?_⟩
    have := v_is_integer (h := h ++ [.lst l]) (WfN.app (WfN.mem w hd))
    simp [wipeD, this]
def formG : D → Bool
  | .tup [.int a, .int b, .int _, .int e] => decide (0 ≤ b) && ((decide (b = 0) || (decide (0 ≤ a) && decide (a < b))) && decide (e = 0 ↔ b = 0))
  | _ => false
theorem v_check_form {h : Hs} {d : D} (w : Wf h d) : (formG d = true ∧ ∃ b, m_check_form [d] h = .ok (.int b) h) ∨ (formG d = false ∧ ∃ fs, m_check_form [d] h = .exc "BadForm" fs h) := by
  have key : ∀ {r : Res D}, bodyF N_check_form.length b_check_form [d] h = r → ((formG d = true ∧ ∃ b, r = .ok (.int b) h) ∨ (formG d = false ∧ ∃ fs, r = .exc "BadForm" fs h)) → (formG d = true ∧ ∃ b, m_check_form [d] h = .ok (.int b) h) ∨ (formG d = false ∧ ∃ fs, m_check_form [d] h = .exc "BadForm" fs h) := by
    intro r e q
    rcases q with ⟨q, b, er⟩ | ⟨q, fs, er⟩
    · exact .inl ⟨q, b, fn_val (e.trans er)⟩
    · exact .inr ⟨q, fs, fn_exc (e.trans er)⟩
  refine key rfl ?_
  simp [bodyF, b_check_form, N_check_form, v_is_tuple w]
  cases d with
  | tup xs =>
    by_cases l : xs.length = 4
    · match xs, l with
      | [a, b, c, e], _ =>
        have wa := v_is_integer (h := h) (WfN.mem w (d := a) (by simp))
        have wb := v_is_integer (h := h) (WfN.mem w (d := b) (by simp))
        have wc := v_is_integer (h := h) (WfN.mem w (d := c) (by simp))
        have we := v_is_integer (h := h) (WfN.mem w (d := e) (by simp))
        simp [isTup, pairsFrom, forG, wa, wb, wc, we]
        cases a with
        | int a =>
          cases b with
          | int b =>
            cases c with
            | int c =>
              cases e with
              | int e =>
                have cut : ∀ b e : Int, oSl (.tup [.int a, .int b, .int c, .int e]) none (some 2) h = .ok (.tup [.int a, .int b]) h := fun _ _ => rfl
                simp [isInteger, cut, v_is_lot, formG, wa, wb, wc, we]
                by_cases z : b < 0
                · have z2 : ¬ 0 ≤ b := by omega
                  simp [z, z2]
                · have z2 : 0 ≤ b := by omega
                  simp [z, z2]
                  by_cases z3 : b = 0
                  · by_cases z4 : e = 0 <;> simp [z3, z4, cut, v_is_lot]
                  · by_cases z4 : e = 0 <;> by_cases z5 : 0 ≤ a <;> by_cases z6 : a < b <;> simp [z2, z3, z4, z5, z6, cut, v_is_lot]
              | _ => simp [isInteger, formG, wa, wb, wc, we]
            | _ => simp [isInteger, formG, wa, wb, wc, we]
          | _ => simp [isInteger, formG, wa, wb, wc, we]
        | _ => simp [isInteger, formG, wa, wb, wc, we]
    · have l2 : ¬ ((xs.length : Int) = 4) := by omega
      have f : formG (.tup xs) = false := by
        unfold formG
        split
        · rename_i e
          cases e
          simp at l
        · rfl
      simp [isTup, l2, f]
  | _ => simp [isTup, formG]
theorem v_is_form {h : Hs} {d : D} (w : Wf h d) : m_is_form [d] h = .ok (.bl (formG d)) h := by
  apply fn_val
  rcases v_check_form w with ⟨f, b, e⟩ | ⟨f, fs, e⟩
  · simp [bodyF, b_is_form, N_is_form, sTry, e, f]
  · have t : tab_is_form (Str.ofString "BadForm") = some true := by decide +kernel
    simp [bodyF, b_is_form, N_is_form, sTry, e, f, handle, t, leave_rt (d := .bl false) rfl]
def formD : D → Bool
  | .tup [.int a, .int b, .int _, .int e] => decide (0 < b) && (decide (0 ≤ a) && (decide (a < b) && decide (e ≠ 0)))
  | _ => false
theorem formG_of {d : D} (g : formG d = true) : ∃ a b c e, d = .tup [.int a, .int b, .int c, .int e] ∧ formD d = decide (b ≠ 0) := by
  unfold formG at g
  split at g
  · rename_i a b c e
    refine ⟨a, b, c, e, rfl, ?_⟩
    simp only [Bool.and_eq_true, Bool.or_eq_true, decide_eq_true_eq] at g
    simp only [formD]
    rw [Bool.eq_iff_iff]
    simp only [Bool.and_eq_true, decide_eq_true_eq]
    omega
  · cases g
theorem formD_G {d : D} (g : formG d = false) : formD d = false := by
  unfold formD
  split
  · rename_i a b c e
    simp only [formG] at g
    rw [Bool.eq_false_iff] at g ⊢
    simp only [ne_eq, Bool.and_eq_true, Bool.or_eq_true, decide_eq_true_eq] at g ⊢
    omega
  · rfl
theorem v_is_deed_form {h : Hs} {d : D} (w : Wf h d) : m_is_deed_form [d] h = .ok (.bl (formD d)) h := by
  apply fn_val
  simp [bodyF, b_is_deed_form, N_is_deed_form, v_is_form w]
  cases g : formG d with
  | true =>
    obtain ⟨a, b, c, e, rfl, f⟩ := formG_of g
    simp [f]
  | false => simp [formD_G g]
def isGe (k : Int) : D → Bool
  | .int i => decide (k ≤ i)
  | _ => false
theorem v_law_whole {h : Hs} {d : D} {k : Int} (w : Wf h d) : m__law_whole [d, .int k] h = .ok (.bl (isGe k d)) h := by
  apply fn_val
  simp [bodyF, b__law_whole, N__law_whole, w]
  cases d <;> simp [isI, isB, isGe]
theorem v_law_is_form {h : Hs} {d : D} (w : Wf h d) : m__law_is_form [d] h = .ok (.bl (formD d)) h := by
  apply fn_val
  simp [bodyF, b__law_is_form, N__law_is_form, w]
  cases d with
  | tup xs =>
    simp [isT]
    by_cases l : xs.length = 4
    · have l' : (xs.length : Int) = 4 := by omega
      obtain ⟨n, e1, e2, e3⟩ := len_comp (h := h) (src := iTupD (eVar 0)) (t := .nm 1) (cond := bOr (bNot (bVal (eOp1 (oIsi "int") (eVar 1)))) (bVal (eOp1 (oIsi "bool") (eVar 1)))) (el := eVar 1) (vs := [1]) (σ := [some (.tup xs), none]) (ds := xs) isInteger rfl (fun _ => trivial) (Wf.len5 w) (fun d hd l => by
        refine ⟨_, rfl, ?_, ?_⟩
        · have wd : Wf (h ++ [.lst l]) d := WfN.app (WfN.mem w hd)
          simp [wipeD, wd]
          cases d <;> simp [isI, isB, isInteger]
        · simp [wipeD])
      rw [e1]
      simp [l', e3]
      match xs, l with
      | [a, b, c, e], _ =>
        cases a with
        | int a =>
          cases b with
          | int b =>
            cases c with
            | int c =>
              cases e with
              | int e =>
                simp [isInteger, formD]
                by_cases z : 0 < b <;> by_cases z2 : 0 ≤ a <;> by_cases z3 : a < b <;> simp [z, z2, z3]
              | _ => simp [isInteger, formD]
            | _ => simp [isInteger, formD]
          | _ => simp [isInteger, formD]
        | _ => simp [isInteger, formD]
    · have l' : ¬ (xs.length : Int) = 4 := by omega
      have f : formD (.tup xs) = false := by
        unfold formD
        split
        · rename_i e
          cases e
          simp at l
        · rfl
      simp [l', f]
  | _ => simp [isT, formD]
end Kl

set_option Elab.async false
set_option linter.all false
set_option maxRecDepth 100000
set_option maxHeartbeats 1000000
set_option autoImplicit false
namespace Kl
open PySem PySem.Spec PyProof.Rows L2 Sm
theorem len_compJ {src : IS} {t : Tg} {cond : BS} {el : ES} {vs : List Nat} {σ : Lo} {ds : List D} {G : Hs → Prop} {h : Hs} (p : D → Bool) (hs : src σ h = .ok (ds, G) h) (hG : ∀ h', G h') (hl : ds.length ≤ 100000)
    (he : ∀ d ∈ ds, ∀ g, ∃ σ1 g', t.put d (wipeD σ vs) = some σ1 ∧ cond σ1 (h ++ g) = .ok (!p d) ((h ++ g) ++ g') ∧ ∃ x, ∀ h', el σ1 h' = .ok x h') :
    ∃ n : Nat, eTrim (eCall fLen (aCons (eComp src t cond el vs) aNil)) σ h = .ok (.int n) h ∧ (decide (n = 0) = ds.all p) ∧ (decide (0 < n) = !ds.all p) := by
  have key : ∀ (ds acc : List D) (j : Hs), acc.length + ds.length ≤ 100000 → (∀ d ∈ ds, ∀ g, ∃ σ1 g', t.put d (wipeD σ vs) = some σ1 ∧ cond σ1 (h ++ g) = .ok (!p d) ((h ++ g) ++ g') ∧ ∃ x, ∀ h', el σ1 h' = .ok x h') →
      ∃ (r : List D) (j' : Hs), compG t cond el G h.length (wipeD σ vs) ds (h ++ .lst acc :: j) = .ok () (h ++ .lst (acc ++ r) :: j') ∧ r.length = (ds.filter fun d => !p d).length := by
    intro ds
    induction ds with
    | nil =>
      intro acc j _ _
      refine ⟨[], j, ?_, rfl⟩
      unfold compG
      rw [if_pos (hG _)]
      simp
    | cons d ds ih =>
      intro acc j hl he
      obtain ⟨σ1, g', h1, h2, x, h3⟩ := he d List.mem_cons_self (.lst acc :: j)
      have he' : ∀ e ∈ ds, _ := fun e hq => he e (List.mem_cons_of_mem _ hq)
      have asc : (h ++ C.lst acc :: j) ++ g' = h ++ .lst acc :: (j ++ g') := by simp
      unfold compG
      rw [if_pos (hG _)]
      simp only [h1, h2, Res.strict_ok, Res.bind_ok]
      rw [asc]
      cases hp : p d with
      | true =>
        obtain ⟨r, j', e1, e2⟩ := ih acc (j ++ g') (by simp at hl; omega) he'
        refine ⟨r, j', ?_, by rw [e2, List.filter_cons]; simp [hp]⟩
        simpa using e1
      | false =>
        have hset : (h ++ C.lst acc :: (j ++ g')).set h.length (.lst (acc ++ [x])) = h ++ .lst (acc ++ [x]) :: (j ++ g') := by
          rw [List.set_append_right _ _ (Nat.le_refl _)]
          simp
        have hat : (h ++ C.lst acc :: (j ++ g'))[h.length]? = some (.lst acc) := by rw [List.getElem?_append_right (Nat.le_refl _)]; simp
        obtain ⟨r, j', e1, e2⟩ := ih (acc ++ [x]) (j ++ g') (by simp at hl ⊢; omega) he'
        refine ⟨x :: r, j', ?_, by rw [List.length_cons, e2, List.filter_cons]; simp [hp]⟩
        simp only [Bool.not_false, if_true, h3, Res.strict_ok, Res.bind_ok, hat]
        rw [if_pos (by simp at hl; omega), hset, e1]
        simp
  obtain ⟨r, j, e1, e2⟩ := key ds [] [] (by simpa using hl) he
  refine ⟨r.length, ?_, ?_, ?_⟩
  · rw [q_trim, q_call, q_cons]
    unfold eComp
    rw [hs]
    simp only [Res.bind_ok]
    rw [e1]
    have hat : (h ++ C.lst ([] ++ r) :: j)[h.length]? = some (.lst r) := by rw [List.getElem?_append_right (Nat.le_refl _)]; simp
    simp only [Res.bind_ok, q_nil, fLen, seqD, hat]
    exact gc_app rfl
  · rw [e2, Bool.eq_iff_iff, decide_eq_true_eq, List.all_eq_true, List.length_eq_zero_iff, List.filter_eq_nil_iff]
    simp
  · rw [e2, Bool.eq_iff_iff, decide_eq_true_eq, Bool.not_eq_true', Nat.pos_iff_ne_zero, ne_eq, List.length_eq_zero_iff, List.filter_eq_nil_iff, Bool.eq_false_iff, ne_eq, List.all_eq_true]
    simp
theorem flatL_strs : ∀ ss : List Str, flatL (ss.map D.str) = some (ss.map V.str)
  | [] => rfl
  | s :: ss => by simp [flatL, D.flat, flatL_strs ss]
theorem inV_strs (s : Str) (ss : List Str) : inV (.str s) (ss.map V.str) = decide (s ∈ ss) := by
  unfold inV
  rw [List.any_map, Bool.eq_iff_iff, List.any_eq_true, decide_eq_true_eq]
  constructor
  · rintro ⟨x, hx, e⟩
    have : x = s := eq_of_beq e
    exact this ▸ hx
  · intro hs
    exact ⟨s, hs, beq_self_eq_true s⟩
theorem in_strs {h : Hs} {d : D} {s : Str} {ss : List Str} (e : seqD h d = some (ss.map D.str)) : oIn false (.str s) d h = .ok (.bl (decide (s ∈ ss))) h := by
  have hd : ∀ t, d ≠ .str t := fun t z => by subst z; simp [seqD] at e
  unfold oIn
  split
  · exact absurd rfl (hd _)
  · simp [D.flat, e, flatL_strs, inV_strs]
theorem nin_strs {h : Hs} {d : D} {s : Str} {ss : List Str} (e : seqD h d = some (ss.map D.str)) : oIn true (.str s) d h = .ok (.bl (!decide (s ∈ ss))) h := by
  have hd : ∀ t, d ≠ .str t := fun t z => by subst z; simp [seqD] at e
  unfold oIn
  split
  · exact absurd rfl (hd _)
  · simp [D.flat, e, flatL_strs, inV_strs]
theorem cut_take (xs : List D) (i : Nat) : Sm.cutD xs none (some (i : Int)) = xs.take i := by
  unfold Sm.cutD
  rw [HT.sIx_none, HT.sIx_nat]
  simp
theorem below62 {k : Nat} (l : k ≤ 100000) : (k : Int) < (2 : Int) ^ 62 := by
  have e : (2 : Int) ^ 62 = 4611686018427387904 := by decide
  rw [e]
  omega
theorem above62 {k : Nat} : -(2 : Int) ^ 62 ≤ (k : Int) := Int.le_trans (by decide) (Int.natCast_nonneg k)
theorem src_int {a : AS} {σ : Lo} {h : Hs} {j : Int} (e : a σ h = .ok [.int j] h) (c : -(2 ^ 62) ≤ j ∧ j < 2 ^ 62) : iRangeD a σ h = .ok (Sm.intsFrom 0 j.toNat, fun (_ : Hs) => True) h := by
  unfold iRangeD
  rw [e, Res.bind_ok]
  exact if_pos c
theorem src_range {a : AS} {σ : Lo} {h : Hs} {k : Nat} (e : a σ h = .ok [.int (k : Int)] h) (l : k ≤ 100000) : iRangeD a σ h = .ok (Sm.intsFrom 0 k, fun (_ : Hs) => True) h := by
  have q := src_int e ⟨above62, below62 l⟩
  rw [Int.toNat_natCast] at q
  exact q
theorem v_unlike {h : Hs} {n : Nat} {ss : List Str} (e : h[n]? = some (.lst (ss.map D.str))) (l : ss.length ≤ 1000) : m__law_unlike [.ref n] h = .ok (.bl (decide ss.Nodup)) h := by
  apply fn_val
  simp [bodyF, b__law_unlike, N__law_unlike]
  have src : iRangeD (aCons (eCall fLen (aCons (eVar 0) aNil)) aNil) [some (D.ref n), none] h = .ok (Sm.intsFrom 0 ss.length, fun (_ : Hs) => True) h := src_range (by simp [fLen, seqD, e]) (by omega)
  obtain ⟨k, e1, e2, _⟩ := len_compJ (h := h) (src := iRangeD (aCons (eCall fLen (aCons (eVar 0) aNil)) aNil)) (t := .nm 1) (cond := bVal (eOp2 (oIn false) (eOp2 oIx (eVar 0) (eVar 1)) (eSl (eVar 0) noPart (onPart (eVar 1))))) (el := eVar 1) (vs := [1])
    (σ := [some (.ref n), none]) (fun d => match d with | .int i => !decide (ss.getD i.toNat Str.empty ∈ ss.take i.toNat) | _ => true) src (fun _ => trivial) (by simp [Sm.intsFrom]; omega) (fun d hd g => by
      unfold Sm.intsFrom at hd
      rw [List.mem_map] at hd
      obtain ⟨i, hi, rfl⟩ := hd
      have hi := List.mem_range.mp hi
      have hat : (h ++ g)[n]? = some (.lst (ss.map D.str)) := by rw [List.getElem?_append_left (List.getElem?_eq_some_iff.mp e).1]; exact e
      have hx : atI (ss.map D.str) ((i : Nat) : Int) = some (.str (ss.getD i Str.empty)) := atI_get (by rw [List.getElem?_map, List.getD_eq_getElem?_getD, List.getElem?_eq_getElem hi] <;> rfl)
      refine ⟨_, [.lst ((ss.take i).map D.str)], rfl, ?_, .int (i : Int), fun h' => ?_⟩
      · simp [wipeD, oIx, seqD, hat, hx, oSl]
        rw [cut_take, ← List.map_take]
        rw [in_strs (ss := ss.take i)]
        · simp
        · simp only [seqD]
          rw [← List.append_assoc]
          have := at_end (h := h ++ g) (c := C.lst ((ss.take i).map D.str))
          rw [List.length_append] at this
          rw [this]
      · simp [wipeD])
  rw [e1]
  simp [e2]
  rw [Bool.eq_iff_iff, List.all_eq_true, decide_eq_true_eq]
  constructor
  · intro q
    rw [List.Nodup, List.pairwise_iff_getElem]
    intro i j hi hj hij eij
    have := q (.int (j : Int)) (by unfold Sm.intsFrom; rw [List.mem_map]; exact ⟨j, List.mem_range.mpr hj, by simp⟩)
    simp [List.getD_eq_getElem?_getD, List.getElem?_eq_getElem hj] at this
    apply this
    rw [← eij, List.mem_take_iff_getElem]
    exact ⟨i, by omega, rfl⟩
  · intro q d hd
    unfold Sm.intsFrom at hd
    rw [List.mem_map] at hd
    obtain ⟨j, hj, rfl⟩ := hd
    have hj := List.mem_range.mp hj
    simp [List.getD_eq_getElem?_getD, List.getElem?_eq_getElem hj]
    intro z
    rw [List.mem_take_iff_getElem] at z
    obtain ⟨i, hi, ei⟩ := z
    exact List.pairwise_iff_getElem.mp q i j (by omega) hj (by omega) ei
theorem dcnt_eq : ∀ (xs seen : List Str) (n : Nat), dcnt seen xs n = n + xs.length ↔ ((∀ x ∈ xs, x ∉ seen) ∧ xs.Nodup)
  | [], seen, n => by simp [dcnt]
  | x :: xs, seen, n => by
    unfold dcnt
    by_cases hx : x ∈ seen
    · have : (seen.any (· == x)) = true := List.any_eq_true.mpr ⟨x, hx, beq_self_eq_true x⟩
      rw [if_pos this]
      have := dcnt_le xs (seen ++ [x]) n
      constructor
      · intro q
        rw [List.length_cons] at q
        omega
      · intro q
        exact absurd hx (q.1 x List.mem_cons_self)
    · have : ¬ (seen.any (· == x)) = true := fun q => by
        obtain ⟨y, hy, e⟩ := List.any_eq_true.mp q
        exact hx (eq_of_beq e ▸ hy)
      rw [if_neg this]
      have ih := dcnt_eq xs (seen ++ [x]) (n + 1)
      rw [List.length_cons, show n + (xs.length + 1) = n + 1 + xs.length from by omega, ih, List.nodup_cons]
      constructor
      · rintro ⟨a, b⟩
        refine ⟨fun y hy => ?_, fun z => (a x z) (by simp), b⟩
        rcases List.mem_cons.mp hy with e | e
        · exact e ▸ hx
        · exact fun z => a y e (by simp [z])
      · rintro ⟨a, b, c⟩
        refine ⟨fun y hy z => ?_, c⟩
        rcases List.mem_append.mp z with z | z
        · exact a y (List.mem_cons_of_mem _ hy) z
        · have : y = x := by simpa using z
          exact b (this ▸ hy)
def strOf : D → Str
  | .str s => s
  | _ => Str.empty
theorem words_strs : ∀ {xs : List D}, xs.all isWord = true → xs = (xs.map strOf).map D.str
  | [], _ => rfl
  | d :: xs, q => by
    rw [List.all_cons, Bool.and_eq_true] at q
    rw [List.map_cons, List.map_cons, ← words_strs q.2]
    cases d with
    | str s => rfl
    | _ => simp [isWord] at q
theorem strsD_map : ∀ ss : List Str, strsD (ss.map D.str) = some ss
  | [] => rfl
  | s :: ss => by simp [strsD, strsD_map ss]
def wordsOk (lo hi : Int) : D → Bool
  | .tup xs => decide (lo ≤ (xs.length : Int)) && (decide ((xs.length : Int) ≤ hi) && (xs.all isWord && decide (xs.map strOf).Nodup))
  | _ => false
theorem v_are_words {h : Hs} {d : D} {lo hi : Int} (w : Wf h d) : m_are_words [d, .int lo, .int hi] h = .ok (.bl (wordsOk lo hi d)) h := by
  apply fn_val
  simp [bodyF, b_are_words, N_are_words, w]
  cases d with
  | tup xs =>
    simp [isT]
    by_cases a : lo ≤ (xs.length : Int)
    · by_cases b : (xs.length : Int) ≤ hi
      · simp [a, b]
        rw [all_comp isWord rfl (fun _ => trivial) (Wf.len5 w) (fun d hd l => ⟨_, rfl, by simp [wipeD, v_is_word (WfN.app (WfN.mem w hd))]⟩)]
        cases q : xs.all isWord with
        | false => simp [wordsOk, a, b, q]
        | true =>
          have e := words_strs q
          have l : (xs.map strOf).length = xs.length := by simp
          have l2 := WfN.len w
          have o : oLenSet (.tup xs) h = .ok (.int (dcnt [] (xs.map strOf) 0 : Nat)) h := by
            unfold oLenSet
            rw [e]
            simp only [strsD_map]
            rw [← e, if_pos (by rw [l]; omega)]
          have k := dcnt_eq (xs.map strOf) [] 0
          rw [Nat.zero_add, l] at k
          simp [o, wordsOk, a, b, q]
          by_cases n : (xs.map strOf).Nodup
          · have := k.mpr ⟨by simp, n⟩
            simp [n, this]
          · have : ¬ dcnt [] (xs.map strOf) 0 = xs.length := fun z => n (k.mp z).2
            simp [n]
            omega
      · simp [a, b, wordsOk]
    · simp [a, wordsOk]
  | _ => simp [isT, wordsOk]
end Kl

set_option Elab.async false
set_option linter.all false
set_option maxRecDepth 100000
set_option maxHeartbeats 1000000
set_option autoImplicit false
namespace Kl
open PySem PySem.Spec PyProof.Rows L2 Sm
def nameOf : D → D
  | .tup (x :: _) => x
  | _ => .non
def deedsOk : D → Bool
  | .tup xs => xs.all (isTup 2) && wordsOk 0 40 (.tup (xs.map nameOf))
  | _ => false
theorem isTup2 {d : D} (q : isTup 2 d = true) : ∃ x y, d = .tup [x, y] := by
  cases d with
  | tup xs =>
    simp only [isTup, decide_eq_true_eq] at q
    match xs, q with
    | [x, y], _ => exact ⟨x, y, rfl⟩
    | [], q => simp at q
    | [_], q => simp at q
    | _ :: _ :: _ :: _, q => simp at q; omega
  | _ => simp [isTup] at q
theorem wf_names {h : Hs} {xs : List D} (w : Wf h (.tup xs)) (q : xs.all (isTup 2) = true) : Wf h (.tup (xs.map nameOf)) := by
  have l := WfN.len w
  simp only [Wf, WfN, List.length_map]
  refine ⟨l, wfL_iff.mpr fun d hd => ?_⟩
  rw [List.mem_map] at hd
  obtain ⟨e, he, rfl⟩ := hd
  obtain ⟨x, y, rfl⟩ := isTup2 (List.all_eq_true.mp q e he)
  exact WfN.mem (WfN.mem w he) (by simp [nameOf])
theorem v_are_deeds {h : Hs} {d : D} (w : Wf h d) : m_are_deeds [d] h = .ok (.bl (deedsOk d)) h := by
  apply fn_val
  simp [bodyF, b_are_deeds, N_are_deeds, w]
  cases d with
  | tup xs =>
    simp [isT]
    rw [all_comp (isTup 2) rfl (fun _ => trivial) (Wf.len5 w) (fun d hd l => ⟨_, rfl, by simp [wipeD, v_is_tuple (WfN.app (WfN.mem w hd))]⟩)]
    cases q : xs.all (isTup 2) with
    | false => simp [deedsOk, q]
    | true =>
      have wn := wf_names w q
      simp
      rw [tup_comp nameOf rfl (fun _ => trivial) (Wf.len5 w) (by have := low_wf wn; simpa only [D.low] using this) (fun d hd l => ⟨_, rfl, by
        obtain ⟨x, y, rfl⟩ := isTup2 (List.all_eq_true.mp q d hd)
        simp [wipeD, nameOf]⟩)]
      simp [v_are_words wn, deedsOk, q]
  | _ => simp [isT, deedsOk]
def namesRes (ds : List D) (names : D) : Option Str := match names with
  | .tup ns => if wordsOk 1 12 names = true ∧ ∀ d ∈ ds, strOf (nameOf d) ∉ ns.map strOf then (if ("main" : Str) ∈ ns.map strOf then none else some ("main" : Str)) else some ("names" : Str)
  | _ => some ("names" : Str)
theorem deeds_all {ds : List D} (q : deedsOk (.tup ds) = true) : ∀ d ∈ ds, ∃ s y, d = .tup [.str s, y] := by
  simp only [deedsOk, Bool.and_eq_true] at q
  intro d hd
  obtain ⟨x, y, rfl⟩ := isTup2 (List.all_eq_true.mp q.1 d hd)
  have q2 := q.2
  simp only [wordsOk, Bool.and_eq_true] at q2
  have := List.all_eq_true.mp q2.2.2.1 x (List.mem_map.mpr ⟨_, hd, rfl⟩)
  cases x with
  | str s => exact ⟨s, y, rfl⟩
  | _ => simp [isWord] at this
def nwD : Option Str → D
  | none => .non
  | some s => .str s
theorem v_names_word {h : Hs} {ds : List D} {names : D} (w : Wf h (.tup ds)) (wn : Wf h names) (q : deedsOk (.tup ds) = true) : m_names_word [.tup ds, names] h = .ok (nwD (namesRes ds names)) h := by
  apply fn_val
  simp [bodyF, b_names_word, N_names_word, v_are_words wn]
  cases k : wordsOk 1 12 names with
  | false =>
    cases names <;> simp [namesRes, k, nwD]
  | true =>
    cases names with
    | tup ns =>
      have k2 := k
      simp only [wordsOk, Bool.and_eq_true] at k2
      have e := words_strs k2.2.2.1
      simp
      rw [any_comp (fun d => decide (strOf (nameOf d) ∈ ns.map strOf)) rfl (fun _ => trivial) (Wf.len5 w) (fun d hd l => ⟨_, rfl, by
        obtain ⟨s, y, rfl⟩ := deeds_all q d hd
        simp [wipeD, nameOf, -List.mem_map]
        rw [in_strs (ss := ns.map strOf) (by simp only [seqD]; rw [← e])]
        rfl⟩)]
      by_cases z : ∀ d ∈ ds, strOf (nameOf d) ∉ ns.map strOf
      · have z2 : (ds.any fun d => decide (strOf (nameOf d) ∈ ns.map strOf)) = false := by
          rw [List.any_eq_false]
          intro d hd
          simpa using z d hd
        rw [z2]
        simp
        rw [in_strs (ss := ns.map strOf) (by simp only [seqD]; rw [← e])]
        by_cases m : ("main" : Str) ∈ ns.map strOf
        · have : namesRes ds (.tup ns) = none := by unfold namesRes; simp only; rw [if_pos ⟨k, z⟩, if_pos m]
          rw [this, decide_eq_true m]
          simp [nwD]
        · have : namesRes ds (.tup ns) = some ("main" : Str) := by unfold namesRes; simp only; rw [if_pos ⟨k, z⟩, if_neg m]
          rw [this, decide_eq_false m]
          simp [nwD]
      · have z2 : (ds.any fun d => decide (strOf (nameOf d) ∈ ns.map strOf)) = true := by
          rw [List.any_eq_true]
          by_cases z3 : ∃ d, d ∈ ds ∧ strOf (nameOf d) ∈ ns.map strOf
          · obtain ⟨d, a, b⟩ := z3
            exact ⟨d, a, decide_eq_true b⟩
          · exact absurd (fun d hd hm => z3 ⟨d, hd, hm⟩) z
        have : namesRes ds (.tup ns) = some ("names" : Str) := by unfold namesRes; simp only; rw [if_neg fun c => z c.2]
        rw [z2, this]
        simp [nwD]
    | _ => simp [wordsOk] at k
end Kl

set_option Elab.async false
set_option linter.all false
set_option maxRecDepth 100000
set_option maxHeartbeats 1000000
set_option autoImplicit false
namespace Kl
open PySem PySem.Spec PyProof.Rows L2 Sm
mutual
def dep : D → Nat
  | .tup xs => depL xs + 1
  | _ => 0
def depL : List D → Nat
  | [] => 0
  | x :: xs => max (dep x) (depL xs)
end
theorem dep_mem : ∀ {xs : List D} {d : D}, d ∈ xs → dep d ≤ depL xs
  | x :: xs, d, h => by
    simp only [depL]
    rcases List.mem_cons.mp h with e | e
    · subst e; omega
    · have := dep_mem e; omega
mutual
def stOk (a b : Int) : D → Bool
  | .tup xs => stL a b xs
  | _ => false
def stL (a b : Int) : List D → Bool
  | [] => false
  | [w] => isText "back" w
  | w :: x :: r => if isText "deed" w then r.isEmpty && isIn 0 (a - 1) x else if isText "call" w then r.isEmpty && isIn 0 (b - 1) x else if isText "either" w then r.isEmpty && bodiesOk a b x
    else if isText "loop" w then r.isEmpty && bodyOk a b x else if isText "repeat" w then isNum x && oneBody a b r else false
def oneBody (a b : Int) : List D → Bool
  | [] => false
  | y :: r => bodyOk a b y && r.isEmpty
def bodyOk (a b : Int) : D → Bool
  | .tup xs => allSt a b xs
  | _ => false
def allSt (a b : Int) : List D → Bool
  | [] => true
  | x :: xs => stOk a b x && allSt a b xs
def bodiesOk (a b : Int) : D → Bool
  | .tup xs => decide (2 ≤ xs.length) && allBody a b xs
  | _ => false
def allBody (a b : Int) : List D → Bool
  | [] => true
  | x :: xs => bodyOk a b x && allBody a b xs
end
theorem allSt_eq (a b : Int) : ∀ xs : List D, allSt a b xs = xs.all (stOk a b)
  | [] => rfl
  | x :: xs => by simp only [allSt, List.all_cons, allSt_eq a b xs]
theorem allBody_eq (a b : Int) : ∀ xs : List D, allBody a b xs = xs.all (bodyOk a b)
  | [] => rfl
  | x :: xs => by simp only [allBody, List.all_cons, allBody_eq a b xs]
theorem isText_inj {s t : Str} {w : D} (h : isText s w = true) (k : isText t w = true) : s = t := by
  cases w with
  | str u => simp only [isText, decide_eq_true_eq] at h k; exact h ▸ k
  | _ => simp [isText] at h
@[simp] theorem ok_deed : okS "deed" = true := by decide +kernel
@[simp] theorem ok_call : okS "call" = true := by decide +kernel
@[simp] theorem ok_either : okS "either" = true := by decide +kernel
@[simp] theorem ok_loop : okS "loop" = true := by decide +kernel
@[simp] theorem ok_repeat : okS "repeat" = true := by decide +kernel
@[simp] theorem ok_back : okS "back" = true := by decide +kernel
theorem not_text {s t : Str} {w : D} (h : isText s w = true) (ne : s ≠ t := by decide +kernel) : isText t w = false := by
  cases e : isText t w with
  | false => rfl
  | true => exact absurd (isText_inj h e) ne
theorem v_stmts (a b : Int) : ∀ (k : Nat) (h : Hs) (d : D), Wf h d → dep d < k → m_is_statement k [.int a, .int b, d] h = .ok (.bl (stOk a b d)) h ∧ m_is_body k [.int a, .int b, d] h = .ok (.bl (bodyOk a b d)) h ∧ m_are_bodies k [.int a, .int b, d] h = .ok (.bl (bodiesOk a b d)) h
  | 0, _, _, _, hd => by omega
  | k + 1, h, d, w, hd => by
    refine ⟨?_, ?_, ?_⟩
    · show fnF _ _ _ _ = _
      apply fn_val
      simp [bodyF, b_is_statement, N_is_statement, w]
      cases d with
      | tup xs =>
        simp [isT]
        simp only [dep] at hd
        match xs, w, hd with
        | [], w, hd => simp [stOk, stL]
        | [x], w, hd =>
          have wx : Wf h x := WfN.mem w (by simp)
          have t1 := v_is_text (s := "deed") wx ok_deed
          have t2 := v_is_text (s := "call") wx ok_call
          have t3 := v_is_text (s := "either") wx ok_either
          have t4 := v_is_text (s := "loop") wx ok_loop
          have t5 := v_is_text (s := "repeat") wx ok_repeat
          have t6 := v_is_text (s := "back") wx ok_back
          simp [t1, stOk, stL]
          cases e1 : isText "deed" x with
          | true => simp [not_text e1 (t := "back")]
          | false =>
            simp [t2]
            cases e2 : isText "call" x with
            | true => simp [not_text e2 (t := "back")]
            | false =>
              simp [t3]
              cases e3 : isText "either" x with
              | true => simp [not_text e3 (t := "back")]
              | false =>
                simp [t4]
                cases e4 : isText "loop" x with
                | true => simp [not_text e4 (t := "back")]
                | false =>
                  simp [t5]
                  cases e5 : isText "repeat" x with
                  | true => simp [not_text e5 (t := "back")]
                  | false => simp [t6]
        | x :: y :: r, w, hd =>
          have wx : Wf h x := WfN.mem w (by simp)
          have wy : Wf h y := WfN.mem w (by simp)
          have hy : dep y < k := by
            have := dep_mem (xs := x :: y :: r) (d := y) (by simp)
            omega
          obtain ⟨_, i1, i2⟩ := v_stmts a b k h y wy hy
          have t1 := v_is_text (s := "deed") wx ok_deed
          have t2 := v_is_text (s := "call") wx ok_call
          have t3 := v_is_text (s := "either") wx ok_either
          have t4 := v_is_text (s := "loop") wx ok_loop
          have t5 := v_is_text (s := "repeat") wx ok_repeat
          have t6 := v_is_text (s := "back") wx ok_back
          have w1 := v_integer_within (lo := 0) (hi := a - 1) wy
          have w2 := v_integer_within (lo := 0) (hi := b - 1) wy
          have w3 := v_is_number wy
          have l2 : ((r.length : Int) + 1 + 1 = 2) ↔ r = [] := by
            rw [← List.length_eq_zero_iff]; omega
          simp [t1, stOk, stL]
          cases e1 : isText "deed" x with
          | true =>
            by_cases z : r = [] <;> simp [l2, z, w1]
          | false =>
            simp [t2]
            cases e2 : isText "call" x with
            | true => by_cases z : r = [] <;> simp [l2, z, w2]
            | false =>
              simp [t3]
              cases e3 : isText "either" x with
              | true => by_cases z : r = [] <;> simp [l2, z, i2]
              | false =>
                simp [t4]
                cases e4 : isText "loop" x with
                | true => by_cases z : r = [] <;> simp [l2, z, i1]
                | false =>
                  simp [t5]
                  cases e5 : isText "repeat" x with
                  | true =>
                    simp
                    match r, w, hd with
                    | [], w, hd => simp [oneBody]
                    | [u], w, hd =>
                      have wu : Wf h u := WfN.mem w (by simp)
                      have hu : dep u < k := by
                        have := dep_mem (xs := [x, y, u]) (d := u) (by simp)
                        omega
                      obtain ⟨_, i3, _⟩ := v_stmts a b k h u wu hu
                      simp [w3, i3, oneBody]
                      cases isNum y <;> simp
                    | u :: v :: r', w, hd =>
                      have : ¬ ((r'.length : Int) + 1 + 1 + 1 + 1 = 3) := by omega
                      simp [this, oneBody]
                  | false =>
                    have : ¬ ((r.length : Int) + 1 + 1 = 1) := by omega
                    simp [this]
      | _ => simp [isT, stOk]
    · show fnF _ _ _ _ = _
      apply fn_val
      simp [bodyF, b_is_body, N_is_body, w]
      cases d with
      | tup xs =>
        simp [isT]
        rw [all_comp (stOk a b) rfl (fun _ => trivial) (Wf.len5 w) (fun e he l => ⟨_, rfl, by
          have he' : dep e < k := by
            have := dep_mem he
            simp only [dep] at hd
            omega
          simp [wipeD, (v_stmts a b k (h ++ [.lst l]) e (WfN.app (WfN.mem w he)) he').1]⟩)]
        simp [bodyOk, allSt_eq]
      | _ => simp [isT, bodyOk]
    · show fnF _ _ _ _ = _
      apply fn_val
      simp [bodyF, b_are_bodies, N_are_bodies, w]
      cases d with
      | tup xs =>
        simp [isT]
        by_cases l2 : 2 ≤ (xs.length : Int)
        · have l2' : 2 ≤ xs.length := by omega
          simp [l2]
          rw [all_comp (bodyOk a b) rfl (fun _ => trivial) (Wf.len5 w) (fun e he l => ⟨_, rfl, by
            have he' : dep e < k := by
              have := dep_mem he
              simp only [dep] at hd
              omega
            simp [wipeD, (v_stmts a b k (h ++ [.lst l]) e (WfN.app (WfN.mem w he)) he').2.1]⟩)]
          simp [bodiesOk, allBody_eq, l2']
        · have l2' : ¬ 2 ≤ xs.length := by omega
          simp [l2, bodiesOk, l2']
      | _ => simp [isT, bodiesOk]
end Kl

set_option Elab.async false
set_option linter.all false
set_option maxRecDepth 100000
set_option maxHeartbeats 1000000
set_option autoImplicit false
namespace Kl
open PySem PySem.Spec PyProof.Rows L2 Sm
mutual
def stCnt : D → Nat
  | .tup xs => itCnt xs
  | _ => 1
def itCnt : List D → Nat
  | [] => 1
  | [_] => 1
  | w :: x :: r => 1 + (if isText "either" w then bodiesCnt x else if isText "loop" w then bodyCnt x else if isText "repeat" w then oneCnt r else 0)
def oneCnt : List D → Nat
  | [] => 0
  | y :: _ => bodyCnt y
def bodyCnt : D → Nat
  | .tup xs => sumSt xs
  | _ => 0
def sumSt : List D → Nat
  | [] => 0
  | x :: xs => stCnt x + sumSt xs
def bodiesCnt : D → Nat
  | .tup xs => sumBody xs
  | _ => 0
def sumBody : List D → Nat
  | [] => 0
  | x :: xs => bodyCnt x + sumBody xs
end
theorem isText_eq {s : Str} {w : D} (h : isText s w = true) : w = .str s := by
  cases w with
  | str u => simp only [isText, decide_eq_true_eq] at h; rw [h]
  | _ => simp [isText] at h
theorem st_cases {a b : Int} {d : D} (h : stOk a b d = true) : d = .tup [.str "back"] ∨ (∃ x, d = .tup [.str "deed", x] ∧ isIn 0 (a - 1) x = true) ∨ (∃ x, d = .tup [.str "call", x] ∧ isIn 0 (b - 1) x = true) ∨ (∃ x, d = .tup [.str "either", x] ∧ bodiesOk a b x = true) ∨
    (∃ x, d = .tup [.str "loop", x] ∧ bodyOk a b x = true) ∨ (∃ n x, d = .tup [.str "repeat", n, x] ∧ isNum n = true ∧ bodyOk a b x = true) := by
  cases d with
  | tup xs =>
    simp only [stOk] at h
    match xs, h with
    | [w], h => simp only [stL] at h; rw [isText_eq h]; exact .inl rfl
    | w :: x :: r, h =>
      simp only [stL] at h
      split at h
      · rename_i e
        rw [Bool.and_eq_true, List.isEmpty_iff] at h
        rw [isText_eq e, h.1]
        exact .inr (.inl ⟨x, rfl, h.2⟩)
      · split at h
        · rename_i e
          rw [Bool.and_eq_true, List.isEmpty_iff] at h
          rw [isText_eq e, h.1]
          exact .inr (.inr (.inl ⟨x, rfl, h.2⟩))
        · split at h
          · rename_i e
            rw [Bool.and_eq_true, List.isEmpty_iff] at h
            rw [isText_eq e, h.1]
            exact .inr (.inr (.inr (.inl ⟨x, rfl, h.2⟩)))
          · split at h
            · rename_i e
              rw [Bool.and_eq_true, List.isEmpty_iff] at h
              rw [isText_eq e, h.1]
              exact .inr (.inr (.inr (.inr (.inl ⟨x, rfl, h.2⟩))))
            · split at h
              · rename_i e
                rw [Bool.and_eq_true] at h
                match r, h with
                | [], h => simp [oneBody] at h
                | y :: r, h =>
                  simp only [oneBody, Bool.and_eq_true, List.isEmpty_iff] at h
                  rw [isText_eq e, h.2.2]
                  exact .inr (.inr (.inr (.inr (.inr ⟨x, y, rfl, h.1, h.2.1⟩))))
              · cases h
  | _ => simp [stOk] at h
@[simp] theorem t_deed_deed : isText "deed" (.str "deed") = true := by decide +kernel
@[simp] theorem t_deed_call : isText "deed" (.str "call") = false := by decide +kernel
@[simp] theorem u_deed_call : (("deed" : Str) = "call") = False := eq_false (by decide +kernel)
@[simp] theorem t_deed_either : isText "deed" (.str "either") = false := by decide +kernel
@[simp] theorem u_deed_either : (("deed" : Str) = "either") = False := eq_false (by decide +kernel)
@[simp] theorem t_deed_loop : isText "deed" (.str "loop") = false := by decide +kernel
@[simp] theorem u_deed_loop : (("deed" : Str) = "loop") = False := eq_false (by decide +kernel)
@[simp] theorem t_deed_repeat : isText "deed" (.str "repeat") = false := by decide +kernel
@[simp] theorem u_deed_repeat : (("deed" : Str) = "repeat") = False := eq_false (by decide +kernel)
@[simp] theorem t_deed_back : isText "deed" (.str "back") = false := by decide +kernel
@[simp] theorem u_deed_back : (("deed" : Str) = "back") = False := eq_false (by decide +kernel)
@[simp] theorem t_call_deed : isText "call" (.str "deed") = false := by decide +kernel
@[simp] theorem u_call_deed : (("call" : Str) = "deed") = False := eq_false (by decide +kernel)
@[simp] theorem t_call_call : isText "call" (.str "call") = true := by decide +kernel
@[simp] theorem t_call_either : isText "call" (.str "either") = false := by decide +kernel
@[simp] theorem u_call_either : (("call" : Str) = "either") = False := eq_false (by decide +kernel)
@[simp] theorem t_call_loop : isText "call" (.str "loop") = false := by decide +kernel
@[simp] theorem u_call_loop : (("call" : Str) = "loop") = False := eq_false (by decide +kernel)
@[simp] theorem t_call_repeat : isText "call" (.str "repeat") = false := by decide +kernel
@[simp] theorem u_call_repeat : (("call" : Str) = "repeat") = False := eq_false (by decide +kernel)
@[simp] theorem t_call_back : isText "call" (.str "back") = false := by decide +kernel
@[simp] theorem u_call_back : (("call" : Str) = "back") = False := eq_false (by decide +kernel)
@[simp] theorem t_either_deed : isText "either" (.str "deed") = false := by decide +kernel
@[simp] theorem u_either_deed : (("either" : Str) = "deed") = False := eq_false (by decide +kernel)
@[simp] theorem t_either_call : isText "either" (.str "call") = false := by decide +kernel
@[simp] theorem u_either_call : (("either" : Str) = "call") = False := eq_false (by decide +kernel)
@[simp] theorem t_either_either : isText "either" (.str "either") = true := by decide +kernel
@[simp] theorem t_either_loop : isText "either" (.str "loop") = false := by decide +kernel
@[simp] theorem u_either_loop : (("either" : Str) = "loop") = False := eq_false (by decide +kernel)
@[simp] theorem t_either_repeat : isText "either" (.str "repeat") = false := by decide +kernel
@[simp] theorem u_either_repeat : (("either" : Str) = "repeat") = False := eq_false (by decide +kernel)
@[simp] theorem t_either_back : isText "either" (.str "back") = false := by decide +kernel
@[simp] theorem u_either_back : (("either" : Str) = "back") = False := eq_false (by decide +kernel)
@[simp] theorem t_loop_deed : isText "loop" (.str "deed") = false := by decide +kernel
@[simp] theorem u_loop_deed : (("loop" : Str) = "deed") = False := eq_false (by decide +kernel)
@[simp] theorem t_loop_call : isText "loop" (.str "call") = false := by decide +kernel
@[simp] theorem u_loop_call : (("loop" : Str) = "call") = False := eq_false (by decide +kernel)
@[simp] theorem t_loop_either : isText "loop" (.str "either") = false := by decide +kernel
@[simp] theorem u_loop_either : (("loop" : Str) = "either") = False := eq_false (by decide +kernel)
@[simp] theorem t_loop_loop : isText "loop" (.str "loop") = true := by decide +kernel
@[simp] theorem t_loop_repeat : isText "loop" (.str "repeat") = false := by decide +kernel
@[simp] theorem u_loop_repeat : (("loop" : Str) = "repeat") = False := eq_false (by decide +kernel)
@[simp] theorem t_loop_back : isText "loop" (.str "back") = false := by decide +kernel
@[simp] theorem u_loop_back : (("loop" : Str) = "back") = False := eq_false (by decide +kernel)
@[simp] theorem t_repeat_deed : isText "repeat" (.str "deed") = false := by decide +kernel
@[simp] theorem u_repeat_deed : (("repeat" : Str) = "deed") = False := eq_false (by decide +kernel)
@[simp] theorem t_repeat_call : isText "repeat" (.str "call") = false := by decide +kernel
@[simp] theorem u_repeat_call : (("repeat" : Str) = "call") = False := eq_false (by decide +kernel)
@[simp] theorem t_repeat_either : isText "repeat" (.str "either") = false := by decide +kernel
@[simp] theorem u_repeat_either : (("repeat" : Str) = "either") = False := eq_false (by decide +kernel)
@[simp] theorem t_repeat_loop : isText "repeat" (.str "loop") = false := by decide +kernel
@[simp] theorem u_repeat_loop : (("repeat" : Str) = "loop") = False := eq_false (by decide +kernel)
@[simp] theorem t_repeat_repeat : isText "repeat" (.str "repeat") = true := by decide +kernel
@[simp] theorem t_repeat_back : isText "repeat" (.str "back") = false := by decide +kernel
@[simp] theorem u_repeat_back : (("repeat" : Str) = "back") = False := eq_false (by decide +kernel)
@[simp] theorem t_back_deed : isText "back" (.str "deed") = false := by decide +kernel
@[simp] theorem u_back_deed : (("back" : Str) = "deed") = False := eq_false (by decide +kernel)
@[simp] theorem t_back_call : isText "back" (.str "call") = false := by decide +kernel
@[simp] theorem u_back_call : (("back" : Str) = "call") = False := eq_false (by decide +kernel)
@[simp] theorem t_back_either : isText "back" (.str "either") = false := by decide +kernel
@[simp] theorem u_back_either : (("back" : Str) = "either") = False := eq_false (by decide +kernel)
@[simp] theorem t_back_loop : isText "back" (.str "loop") = false := by decide +kernel
@[simp] theorem u_back_loop : (("back" : Str) = "loop") = False := eq_false (by decide +kernel)
@[simp] theorem t_back_repeat : isText "back" (.str "repeat") = false := by decide +kernel
@[simp] theorem u_back_repeat : (("back" : Str) = "repeat") = False := eq_false (by decide +kernel)
@[simp] theorem t_back_back : isText "back" (.str "back") = true := by decide +kernel
theorem sumSt_map : ∀ xs : List D, sumSt xs = (xs.map stCnt).sum
  | [] => rfl
  | x :: xs => by simp only [sumSt, List.map_cons, List.sum_cons, sumSt_map xs]
theorem sumBody_map : ∀ xs : List D, sumBody xs = (xs.map bodyCnt).sum
  | [] => rfl
  | x :: xs => by simp only [sumBody, List.map_cons, List.sum_cons, sumBody_map xs]
theorem sum_cast (f : D → Nat) : ∀ xs : List D, (xs.map fun d => ((f d : Nat) : Int)).sum = (((xs.map f).sum : Nat) : Int)
  | [] => rfl
  | x :: xs => by simp [sum_cast f xs]
theorem last2 (x y : D) {h : Hs} : oIx (.tup [x, y]) (.int (-1)) h = .ok y h := q_ixT rfl
theorem last3 (x y z : D) {h : Hs} : oIx (.tup [x, y, z]) (.int (-1)) h = .ok z h := q_ixT rfl
theorem lr_in {h : Hs} (s : Str) : oIn false (.str s) (.tup [.str "loop", .str "repeat"]) h = .ok (.bl (decide (s ∈ (["loop", "repeat"] : List Str)))) h := in_strs (ss := ["loop", "repeat"]) rfl
theorem ok_str {s : Str} {h : Hs} {xs : List D} (w : Wf h (.tup (.str s :: xs))) : okS s = true := by
  have := WfN.mem w (d := .str s) (by simp)
  simpa only [Wf, WfN] using this
theorem v_count_in (a b : Int) : ∀ (k : Nat) (h : Hs) (d : D), Wf h d → dep d < k → bodyOk a b d = true → m_count_in k [d] h = .ok (.int (bodyCnt d : Nat)) h
  | 0, _, _, _, hd, _ => by omega
  | k + 1, h, d, w, hd, ok => by
    cases d with
    | tup xs =>
      simp only [bodyOk, allSt_eq] at ok
      simp only [dep] at hd
      show fnF _ _ _ _ = _
      apply fn_val
      simp [bodyF, b_count_in, N_count_in]
      have step : ∀ (ys : List D) (m : Int) (u v : Option D), (∀ y ∈ ys, y ∈ xs) → ∃ u' v',
          forG (.nm 2) (sIf (bVal (eOp2 (oEq false) (eOp2 oIx (eVar 2) (eC (.int 0))) (eC (.str "either")))) (sAug 1 oAddA (eTrim (eCall fSum (aCons (eComp (iTupD (eOp2 oIx (eVar 2) (eC (.int 1)))) (.nm 3) bYes (eUser 1 (m_count_in k) (aCons (eVar 3) aNil)) [3]) aNil)))) (sIf (bVal (eOp2 (oIn false) (eOp2 oIx (eVar 2) (eC (.int 0))) (eTup (aCons (eC (.str "loop")) (aCons (eC (.str "repeat")) aNil))))) (sAug 1 oAddA (eUser 1 (m_count_in k) (aCons (eOp2 oIx (eVar 2) (eOp1 oNeg (eC (.int 1)))) aNil))) sNil))
            (fun _ => True) ys [some (.tup xs), some (.int m), u, v] h = .nx [some (.tup xs), some (.int (m + ((sumSt ys : Nat) : Int) - (ys.length : Nat))), u', v'] h := by
        intro ys
        induction ys with
        | nil =>
          intro m u v _
          exact ⟨u, v, by simp [forG, sumSt]⟩
        | cons y ys ih =>
          intro m u v hm
          have hy : y ∈ xs := hm y List.mem_cons_self
          have wy : Wf h y := WfN.mem w hy
          have dy : dep y ≤ depL xs := dep_mem hy
          have sy := List.all_eq_true.mp ok y hy
          have ih' := fun (m : Int) (u v : Option D) => ih m u v fun z hz => hm z (List.mem_cons_of_mem _ hz)
          have fin : ∀ (c : Nat) (u v : Option D), stCnt y = 1 + c → ∃ u' v', forG (.nm 2) (sIf (bVal (eOp2 (oEq false) (eOp2 oIx (eVar 2) (eC (.int 0))) (eC (.str "either")))) (sAug 1 oAddA (eTrim (eCall fSum (aCons (eComp (iTupD (eOp2 oIx (eVar 2) (eC (.int 1)))) (.nm 3) bYes (eUser 1 (m_count_in k) (aCons (eVar 3) aNil)) [3]) aNil)))) (sIf (bVal (eOp2 (oIn false) (eOp2 oIx (eVar 2) (eC (.int 0))) (eTup (aCons (eC (.str "loop")) (aCons (eC (.str "repeat")) aNil))))) (sAug 1 oAddA (eUser 1 (m_count_in k) (aCons (eOp2 oIx (eVar 2) (eOp1 oNeg (eC (.int 1)))) aNil))) sNil))
              (fun _ => True) ys [some (.tup xs), some (.int (m + (c : Int))), u, v] h = .nx [some (.tup xs), some (.int (m + ((sumSt (y :: ys) : Nat) : Int) - ((y :: ys).length : Nat))), u', v'] h := by
            intro c u v hc
            obtain ⟨u', v', e⟩ := ih' (m + (c : Int)) u v
            refine ⟨u', v', ?_⟩
            rw [e]
            have : m + (c : Int) + ((sumSt ys : Nat) : Int) - (ys.length : Nat) = m + ((sumSt (y :: ys) : Nat) : Int) - ((y :: ys).length : Nat) := by
              simp only [sumSt, hc, List.length_cons]
              omega
            rw [this]
          unfold forG
          rcases st_cases sy with rfl | ⟨x, rfl, q⟩ | ⟨x, rfl, q⟩ | ⟨x, rfl, q⟩ | ⟨x, rfl, q⟩ | ⟨n, x, rfl, _, q⟩
          · simp [q_eqS ok_back ok_either, lr_in]
            have := fin 0 (some (.tup [.str "back"])) v rfl
            simpa using this
          · simp [q_eqS ok_deed ok_either, lr_in]
            have := fin 0 (some (.tup [.str "deed", x])) v (by simp [stCnt, itCnt, bodiesCnt, oneCnt])
            simpa using this
          · simp [q_eqS ok_call ok_either, lr_in]
            have := fin 0 (some (.tup [.str "call", x])) v (by simp [stCnt, itCnt, bodiesCnt, oneCnt])
            simpa using this
          · cases x with
            | tup ps =>
              simp only [bodiesOk, allBody_eq, Bool.and_eq_true] at q
              have wx : Wf h (.tup ps) := WfN.mem wy (by simp)
              have dx : dep (.tup ps) < dep (.tup [.str "either", .tup ps]) := by
                have := dep_mem (xs := [.str "either", .tup ps]) (d := .tup ps) (by simp)
                simp only [dep] at this ⊢
                omega
              simp [q_eqS ok_either ok_either]
              rw [sum_comp (fun d => ((bodyCnt d : Nat) : Int)) (ds := ps) (G := fun _ => True) (by simp) (fun _ => trivial) (Wf.len5 wx) (fun e he l => ⟨_, rfl, by
                have hk : dep e < k := by
                  have := dep_mem he
                  simp only [dep] at dx dy
                  omega
                simp [wipeD, v_count_in a b k _ e (WfN.app (WfN.mem wx he)) hk (List.all_eq_true.mp q.2 e he)]⟩)]
              simp [oAddA]
              have := fin (sumBody ps) (some (.tup [.str "either", .tup ps])) v (by simp [stCnt, itCnt, bodiesCnt, oneCnt])
              rw [sum_cast, ← sumBody_map]
              exact this
            | _ => simp [bodiesOk] at q
          · have hk : dep x < k := by
              have := dep_mem (xs := [.str "loop", x]) (d := x) (by simp)
              simp only [dep] at dy
              omega
            have wx : Wf h x := WfN.mem wy (by simp)
            simp [q_eqS ok_loop ok_either, lr_in, last2, oAddA, v_count_in a b k h x wx hk q]
            exact fin (bodyCnt x) (some (.tup [.str "loop", x])) v (by simp [stCnt, itCnt, bodiesCnt, oneCnt])
          · have hk : dep x < k := by
              have := dep_mem (xs := [.str "repeat", n, x]) (d := x) (by simp)
              simp only [dep] at dy
              omega
            have wx : Wf h x := WfN.mem wy (by simp)
            simp [q_eqS ok_repeat ok_either, lr_in, last3, oAddA, v_count_in a b k h x wx hk q]
            exact fin (bodyCnt x) (some (.tup [.str "repeat", n, x])) v (by simp [stCnt, itCnt, bodiesCnt, oneCnt])
      obtain ⟨u', v', e⟩ := step xs (xs.length : Nat) none none fun _ z => z
      rw [e]
      simp [bodyCnt]
      omega
    | _ => simp [bodyOk] at ok
end Kl

set_option Elab.async false
set_option linter.all false
set_option maxRecDepth 100000
set_option maxHeartbeats 1000000
set_option autoImplicit false
namespace Kl
open PySem PySem.Spec PyProof.Rows L2 Sm
noncomputable def lsB : SS := (sCons (sIf (bVal (eOp2 (oEq false) (eCall fLen (aCons (eVar 4) aNil)) (eC (.int 0)))) (sRet (eVar 5)) sNil)
  (sCons (sPar 6 5 (aCons (eBM "list" mPop0 (eVar 4) aNil) (aCons (eOp2 oAdd (eVar 5) (eC (.int 1))) aNil)))
  (sCons (sIf (bOr (bNot (bVal (eOp1 (oIsi "tuple") (eVar 6)))) (bOr (bVal (eOp2 (oEq false) (eCall fLen (aCons (eVar 6) aNil)) (eC (.int 0)))) (bNot (bVal (eOp1 (oIsi "str") (eOp2 oIx (eVar 6) (eC (.int 0)))))))) (sRet (eOp1 oNeg (eC (.int 1)))) sNil)
  (sCons (sPar 7 8 (aCons (eOp2 oIx (eVar 6) (eC (.int 0))) (aCons (eCall fLen (aCons (eVar 6) aNil)) aNil)))
  (sCons (sIf (bAnd (bVal (eOp2 (oEq false) (eVar 7) (eC (.str "back")))) (bVal (eOp2 (oEq false) (eVar 8) (eC (.int 1))))) sCont sNil)
  (sCons (sIf (bAnd (bVal (eOp2 (oIn false) (eVar 7) (eTup (aCons (eC (.str "deed")) (aCons (eC (.str "call")) aNil))))) (bAnd (bVal (eOp2 (oEq false) (eVar 8) (eC (.int 2)))) (bAnd (bVal (eUser 2 m__law_whole (aCons (eOp2 oIx (eVar 6) (eC (.int 1))) (aCons (eC (.int 0)) aNil)))) (bVal (eOp2 oLt (eOp2 oIx (eVar 6) (eC (.int 1))) (eIf (bVal (eOp2 (oEq false) (eVar 7) (eC (.str "deed")))) (eVar 1) (eVar 2))))))) sCont sNil)
  (sIf (bAnd (bVal (eOp2 (oEq false) (eVar 7) (eC (.str "either")))) (bAnd (bVal (eOp2 (oEq false) (eVar 8) (eC (.int 2)))) (bAnd (bVal (eOp1 (oIsi "tuple") (eOp2 oIx (eVar 6) (eC (.int 1))))) (bAnd (bVal (eOp2 oGt (eCall fLen (aCons (eOp2 oIx (eVar 6) (eC (.int 1))) aNil)) (eC (.int 1)))) (bVal (eOp2 (oEq false) (eTrim (eCall fLen (aCons (eComp (iTupD (eOp2 oIx (eVar 6) (eC (.int 1)))) (.nm 9) (bNot (bVal (eOp1 (oIsi "tuple") (eVar 9)))) (eVar 9) [9]) aNil))) (eC (.int 0)))))))) (sFor (iTupD (eOp2 oIx (eVar 6) (eC (.int 1)))) (.nm 9) (sExpr (eBM "list" mExtend (eVar 4) (aCons (eCall fList (aCons (eVar 9) aNil)) aNil)))) (sIf (bAnd (bOr (bAnd (bVal (eOp2 (oEq false) (eVar 7) (eC (.str "loop")))) (bVal (eOp2 (oEq false) (eVar 8) (eC (.int 2))))) (bAnd (bVal (eOp2 (oEq false) (eVar 7) (eC (.str "repeat")))) (bAnd (bVal (eOp2 (oEq false) (eVar 8) (eC (.int 3)))) (bVal (eUser 2 m__law_whole (aCons (eOp2 oIx (eVar 6) (eC (.int 1))) (aCons (eC (.int 0)) aNil))))))) (bVal (eOp1 (oIsi "tuple") (eOp2 oIx (eVar 6) (eOp1 oNeg (eC (.int 1))))))) (sExpr (eBM "list" mExtend (eVar 4) (aCons (eCall fList (aCons (eOp2 oIx (eVar 6) (eOp1 oNeg (eC (.int 1)))) aNil)) aNil))) (sRet (eOp1 oNeg (eC (.int 1))))))))))))
theorem ls_eq : b__law_statements = sCons (sPar 4 5 (aCons (eCall fList (aCons (eVar 0) aNil)) (aCons (eC (.int 0)) aNil))) (sCons (sFor (iRangeD (aCons (eC (.int 4000)) aNil)) (.nm 3) lsB) (sRet (eOp1 oNeg (eC (.int 1))))) := rfl
theorem at_mid {h j : Hs} {c : C} : (h ++ c :: j)[h.length]? = some c := by rw [List.getElem?_append_right (Nat.le_refl _)]; simp
theorem set_mid {h j : Hs} {c c' : C} : (h ++ c :: j).set h.length c' = h ++ c' :: j := by
  rw [List.set_append_right _ _ (Nat.le_refl _)]
  simp
def items : D → List D
  | .tup l => l
  | _ => []
def expand (a b : Int) : D → Option (List D)
  | .tup [.str w] => if w = "back" then some [] else none
  | .tup [.str w, x] => if w = "deed" then (if isIn 0 (a - 1) x = true then some [] else none) else if w = "call" then (if isIn 0 (b - 1) x = true then some [] else none) else if w = "either" then (match x with
      | .tup ps => if 2 ≤ ps.length ∧ ps.all isT = true then some (ps.flatMap items) else none
      | _ => none) else if w = "loop" then (match x with
      | .tup l => some l
      | _ => none) else none
  | .tup [.str w, x, y] => if w = "repeat" ∧ isGe 0 x = true then (match y with
      | .tup l => some l
      | _ => none) else none
  | _ => none
mutual
def nodes : D → Nat
  | .tup xs => nodesL xs + 1
  | _ => 1
def nodesL : List D → Nat
  | [] => 0
  | x :: xs => nodes x + nodesL xs
end
theorem nodesL_app : ∀ xs ys : List D, nodesL (xs ++ ys) = nodesL xs + nodesL ys
  | [], ys => by simp [nodesL]
  | x :: xs, ys => by simp only [List.cons_append, nodesL, nodesL_app xs ys]; omega
theorem nodes_pos (d : D) : 1 ≤ nodes d := by cases d <;> simp [nodes]
theorem len_nodes : ∀ xs : List D, xs.length ≤ nodesL xs
  | [] => Nat.le_refl _
  | x :: xs => by
    have := len_nodes xs
    have := nodes_pos x
    simp only [List.length_cons, nodesL]
    omega
theorem nodes_items : ∀ ps : List D, nodesL (ps.flatMap items) ≤ nodesL ps
  | [] => by simp [nodesL]
  | p :: ps => by
    have := nodes_items ps
    have h1 : nodesL (items p) ≤ nodes p := by
      cases p with
      | tup l => simp [items, nodes]
      | _ => simp [items, nodesL]
    rw [List.flatMap_cons, nodesL_app]
    simp only [nodesL]
    omega
theorem expand_cases {a b : Int} {d : D} {l : List D} (e : expand a b d = some l) : (d = .tup [.str "back"] ∧ l = []) ∨ (∃ x, d = .tup [.str "deed", x] ∧ isIn 0 (a - 1) x = true ∧ l = []) ∨ (∃ x, d = .tup [.str "call", x] ∧ isIn 0 (b - 1) x = true ∧ l = []) ∨
    (∃ ps, d = .tup [.str "either", .tup ps] ∧ 2 ≤ ps.length ∧ ps.all isT = true ∧ l = ps.flatMap items) ∨ (d = .tup [.str "loop", .tup l]) ∨ (∃ x, d = .tup [.str "repeat", x, .tup l] ∧ isGe 0 x = true) := by
  unfold expand at e
  split at e
  · split at e
    · rename_i w hw; subst hw; cases e; exact .inl ⟨rfl, rfl⟩
    · cases e
  · split at e
    · rename_i w x hw
      split at e
      · rename_i q; subst hw; cases e; exact .inr (.inl ⟨x, rfl, q, rfl⟩)
      · cases e
    · split at e
      · rename_i w x _ hw
        split at e
        · rename_i q; subst hw; cases e; exact .inr (.inr (.inl ⟨x, rfl, q, rfl⟩))
        · cases e
      · split at e
        · rename_i w x _ _ hw
          split at e
          · split at e
            · rename_i ps q
              subst hw; cases e; exact .inr (.inr (.inr (.inl ⟨ps, rfl, q.1, q.2, rfl⟩)))
            · cases e
          · cases e
        · split at e
          · rename_i w x _ _ _ hw
            split at e
            · rename_i l'
              subst hw; cases e; exact .inr (.inr (.inr (.inr (.inl rfl))))
            · cases e
          · cases e
  · split at e
    · rename_i w x y q
      split at e
      · rename_i l'
        obtain ⟨q1, q2⟩ := q
        subst q1; cases e; exact .inr (.inr (.inr (.inr (.inr ⟨x, rfl, q2⟩))))
      · cases e
    · cases e
  · cases e
theorem sumSt_app : ∀ xs ys : List D, sumSt (xs ++ ys) = sumSt xs + sumSt ys
  | [], ys => by simp [sumSt]
  | x :: xs, ys => by simp only [List.cons_append, sumSt, sumSt_app xs ys]; omega
theorem flat_items (a b : Int) : ∀ ps : List D, ps.all isT = true → (ps.flatMap items).all (stOk a b) = ps.all (bodyOk a b) ∧ sumSt (ps.flatMap items) = sumBody ps
  | [], _ => ⟨rfl, rfl⟩
  | p :: ps, q => by
    rw [List.all_cons, Bool.and_eq_true] at q
    obtain ⟨e1, e2⟩ := flat_items a b ps q.2
    cases p with
    | tup l =>
      rw [List.flatMap_cons, List.all_append, List.all_cons, e1, sumSt_app, e2]
      simp only [items, bodyOk, allSt_eq, sumBody, bodyCnt]
      exact ⟨trivial, trivial⟩
    | _ => simp [isT] at q
theorem isNum_Ge : ∀ x : D, isNum x = isGe 0 x := fun x => by cases x <;> rfl
theorem ex_some {a b : Int} {d : D} {l : List D} (e : expand a b d = some l) : stOk a b d = l.all (stOk a b) ∧ stCnt d = 1 + sumSt l ∧ nodesL l < nodes d := by
  rcases expand_cases e with ⟨rfl, rfl⟩ | ⟨x, rfl, q, rfl⟩ | ⟨x, rfl, q, rfl⟩ | ⟨ps, rfl, q1, q2, rfl⟩ | rfl | ⟨x, rfl, q⟩
  · simp [stOk, stL, stCnt, itCnt, sumSt, nodes, nodesL]
  · simp [stOk, stL, stCnt, itCnt, sumSt, nodes, nodesL, q]
  · simp [stOk, stL, stCnt, itCnt, sumSt, nodes, nodesL, q]
  · obtain ⟨e1, e2⟩ := flat_items a b ps q2
    have := nodes_items ps
    simp only [stOk, stL, stCnt, itCnt, t_either_either, t_deed_either, t_call_either, if_true, Bool.false_eq_true, if_false, List.isEmpty_nil, Bool.true_and, bodiesOk, allBody_eq, e1, e2, bodiesCnt, nodes, nodesL, decide_eq_true q1]
    refine ⟨trivial, trivial, ?_⟩
    omega
  · simp [stOk, stL, stCnt, itCnt, bodyOk, allSt_eq, bodyCnt, nodes, nodesL]
    omega
  · simp [stOk, stL, stCnt, itCnt, oneBody, oneCnt, bodyOk, allSt_eq, bodyCnt, nodes, nodesL, isNum_Ge, q]
    omega
theorem ex_none {a b : Int} {d : D} (e : expand a b d = none) : stOk a b d = false := by
  cases s : stOk a b d with
  | false => rfl
  | true =>
    rcases st_cases s with rfl | ⟨x, rfl, q⟩ | ⟨x, rfl, q⟩ | ⟨x, rfl, q⟩ | ⟨x, rfl, q⟩ | ⟨n, x, rfl, q1, q⟩
    · simp [expand] at e
    · simp [expand, q] at e
    · simp [expand, q] at e
    · cases x with
      | tup ps =>
        simp only [bodiesOk, allBody_eq, Bool.and_eq_true, decide_eq_true_eq] at q
        have t : ps.all isT = true := List.all_eq_true.mpr fun p hp => by
          have := List.all_eq_true.mp q.2 p hp
          cases p with
          | tup l => rfl
          | _ => simp [bodyOk] at this
        simp only [expand, u_either_deed, u_either_call, if_false, if_true, t, and_true] at e
        rw [if_pos q.1] at e
        cases e
      | _ => simp [bodiesOk] at q
    · cases x with
      | tup l => simp [expand] at e
      | _ => simp [bodyOk] at q
    · cases x with
      | tup l => rw [isNum_Ge] at q1; simp [expand, q1] at e
      | _ => simp [bodyOk] at q
theorem ex_wf {a b : Int} {h : Hs} {d : D} {l : List D} (w : Wf h d) (e : expand a b d = some l) : ∀ x ∈ l, Wf h x := by
  rcases expand_cases e with ⟨rfl, rfl⟩ | ⟨x, rfl, q, rfl⟩ | ⟨x, rfl, q, rfl⟩ | ⟨ps, rfl, q1, q2, rfl⟩ | rfl | ⟨x, rfl, q⟩
  · simp
  · simp
  · simp
  · intro x hx
    rw [List.mem_flatMap] at hx
    obtain ⟨p, hp, hx⟩ := hx
    have wp := WfN.mem (WfN.mem w (d := .tup ps) (by simp)) hp
    cases p with
    | tup m => exact WfN.mem wp hx
    | _ => simp [items] at hx
  · exact fun x hx => WfN.mem (WfN.mem w (d := .tup l) (by simp)) hx
  · exact fun x' hx => WfN.mem (WfN.mem w (d := .tup l) (by simp)) hx
end Kl

set_option Elab.async false
set_option linter.all false
set_option maxRecDepth 100000
set_option maxHeartbeats 2000000
set_option autoImplicit false
namespace Kl
open PySem PySem.Spec PyProof.Rows L2 Sm
abbrev lsS (body : D) (a b : Int) (lap : Option D) (n : Nat) (m : Int) (u6 u7 u8 u9 : Option D) : Lo := [some body, some (.int a), some (.int b), lap, some (.ref n), some (.int m), u6, u7, u8, u9]
@[simp] theorem dc_in {h : Hs} (s : Str) : oIn false (.str s) (.tup [.str "deed", .str "call"]) h = .ok (.bl (decide (s ∈ (["deed", "call"] : List Str)))) h := in_strs (ss := ["deed", "call"]) rfl
theorem ext_ok {h j : Hs} {W l : List D} (z : W.length + l.length ≤ 100000) : mExtend (.ref h.length) [.ref (h ++ .lst W :: j).length] ((h ++ .lst W :: j) ++ [.lst l]) = .ok .non (h ++ .lst (W ++ l) :: (j ++ [.lst l])) := by
  have e1 : ((h ++ C.lst W :: j) ++ [C.lst l])[h.length]? = some (.lst W) := by rw [List.append_assoc]; exact at_mid
  have e2 := at_end (h := h ++ C.lst W :: j) (c := .lst l)
  unfold mExtend
  simp only [e1, e2]
  rw [if_pos z, List.append_assoc]
  show Res.ok D.non ((h ++ C.lst W :: (j ++ [C.lst l])).set h.length (.lst (W ++ l))) = _
  rw [set_mid]
theorem okT_mid {h j : Hs} {W : List D} : okT "list" (h ++ .lst W :: j) (.ref h.length) = true := by
  simp only [okT, at_mid]
  rfl
theorem word_cases (s : Str) : s = "back" ∨ s = "deed" ∨ s = "call" ∨ s = "either" ∨ s = "loop" ∨ s = "repeat" ∨ (s ≠ "back" ∧ s ≠ "deed" ∧ s ≠ "call" ∧ s ≠ "either" ∧ s ≠ "loop" ∧ s ≠ "repeat") := by
  by_cases a : s = "back"
  · exact .inl a
  by_cases b : s = "deed"
  · exact .inr (.inl b)
  by_cases c : s = "call"
  · exact .inr (.inr (.inl c))
  by_cases d : s = "either"
  · exact .inr (.inr (.inr (.inl d)))
  by_cases e : s = "loop"
  · exact .inr (.inr (.inr (.inr (.inl e))))
  by_cases f : s = "repeat"
  · exact .inr (.inr (.inr (.inr (.inr (.inl f)))))
  exact .inr (.inr (.inr (.inr (.inr (.inr ⟨a, b, c, d, e, f⟩)))))
theorem ext_parts {body : D} {a b : Int} {h : Hs} {lap : Option D} {m : Int} {u6 u7 u8 : Option D} : ∀ (ps W : List D) (j : Hs) (u9 : Option D), ps.all isT = true → W.length + (ps.flatMap items).length ≤ 100000 → ∃ j' u9',
    forG (.nm 9) (sExpr (eBM "list" mExtend (eVar 4) (aCons (eCall fList (aCons (eVar 9) aNil)) aNil))) (fun _ => True) ps (lsS body a b lap h.length m u6 u7 u8 u9) (h ++ .lst W :: j) = .nx (lsS body a b lap h.length m u6 u7 u8 u9') (h ++ .lst (W ++ ps.flatMap items) :: j')
  | [], W, j, u9, _, _ => ⟨j, u9, by simp [forG]⟩
  | p :: ps, W, j, u9, q, z => by
    rw [List.all_cons, Bool.and_eq_true] at q
    cases p with
    | tup l =>
      rw [List.flatMap_cons, List.length_append] at z
      simp only [items] at z
      obtain ⟨j', u9', e⟩ := ext_parts (body := body) (a := a) (b := b) (h := h) (lap := lap) (m := m) (u6 := u6) (u7 := u7) (u8 := u8) ps (W ++ l) (j ++ [.lst l]) (some (.tup l)) q.2 (by rw [List.length_append]; omega)
      refine ⟨j', u9', ?_⟩
      unfold forG
      have x := ext_ok (h := h) (j := j) (W := W) (l := l) (by omega)
      simp [okT_mid, fList, seqD]
      simp only [List.append_assoc, List.cons_append, List.length_append, List.length_cons] at x ⊢
      simp only [x, onR_ok, Out.turn_nx]
      rw [e]
      simp [items, List.append_assoc]
    | _ => simp [isT] at q
theorem pop_ok {h j : Hs} {W : List D} {d : D} : mPop0 (.ref h.length) [] (h ++ .lst (W ++ [d]) :: j) = .ok d (h ++ .lst W :: j) := by
  unfold mPop0 mPop
  simp only [if_true, at_mid, List.length_append, List.length_cons, List.length_nil]
  have e : (W ++ [d])[W.length + (0 + 1) - 1]? = some d := by
    rw [show W.length + (0 + 1) - 1 = W.length from by omega, List.getElem?_append_right (Nat.le_refl _)]
    simp
  rw [e]
  simp only [set_mid, List.dropLast_concat]
theorem ls_empty {body : D} {a b : Int} {h j : Hs} {lap : Option D} {m : Int} {u6 u7 u8 u9 : Option D} : lsB (lsS body a b lap h.length m u6 u7 u8 u9) (h ++ .lst [] :: j) = .rt (.int m) (h ++ .lst [] :: j) := by
  simp [lsB, fLen, seqD, at_mid]
theorem ls_step {body : D} {a b : Int} {h j : Hs} {lap : Option D} {m : Int} {u6 u7 u8 u9 : Option D} {W : List D} {d : D} (w : Wf h d) (z : W.length + nodes d ≤ 100000) : match expand a b d with
    | none => lsB (lsS body a b lap h.length m u6 u7 u8 u9) (h ++ .lst (W ++ [d]) :: j) = .rt (.int (-1)) (h ++ .lst W :: j)
    | some l => ∃ v6 v7 v8 v9 j', lsB (lsS body a b lap h.length m u6 u7 u8 u9) (h ++ .lst (W ++ [d]) :: j) = .nx (lsS body a b lap h.length (m + 1) v6 v7 v8 v9) (h ++ .lst (W ++ l) :: j') ∨
        lsB (lsS body a b lap h.length m u6 u7 u8 u9) (h ++ .lst (W ++ [d]) :: j) = .ct (lsS body a b lap h.length (m + 1) v6 v7 v8 v9) (h ++ .lst (W ++ l) :: j') := by
  have wH : Wf (h ++ .lst W :: j) d := WfN.app w
  have nz : ¬ ((W.length : Int) + 1 = 0) := by omega
  have start : lsB (lsS body a b lap h.length m u6 u7 u8 u9) (h ++ .lst (W ++ [d]) :: j) = lsB (lsS body a b lap h.length m u6 u7 u8 u9) (h ++ .lst (W ++ [d]) :: j) := rfl
  simp [lsB, fLen, seqD, at_mid, nz, okT_mid, pop_ok]
  cases d with
  | tup xs =>
    simp only [isi_tuple wH, isT, Res.bind_ok, Bool.not_true]
    match xs, w, wH, z with
    | [], w, wH, z => simp [expand, fLen, seqD]
    | x :: r, w, wH, z =>
      have wx : Wf (h ++ .lst W :: j) x := WfN.mem wH (by simp)
      have nz2 : ¬ ((r.length : Int) + 1 = 0) := by omega
      simp [fLen, seqD, nz2, wx]
      cases x with
      | str s =>
        have os : okS s = true := by simpa only [Wf, WfN] using wx
        simp [isS]
        match r, w, wH, z with
        | [], w, wH, z => rcases word_cases s with rfl | rfl | rfl | rfl | rfl | rfl | ⟨n0, n1, n2, n3, n4, n5⟩ <;> simp [expand, *]
        | [x], w, wH, z =>
          have wy : Wf (h ++ .lst W :: j) x := WfN.mem wH (by simp)
          have wh := v_law_whole (k := 0) wy
          rcases word_cases s with rfl | rfl | rfl | rfl | rfl | rfl | ⟨n0, n1, n2, n3, n4, n5⟩
          · simp [expand]
          · simp [expand, wh]
            cases x with
            | int i => by_cases q1 : 0 ≤ i <;> by_cases q2 : i < a <;> simp [isGe, isIn, q1, q2, show (i ≤ a - 1) ↔ i < a by omega]
            | _ => simp [isGe, isIn]
          · simp [expand, wh]
            cases x with
            | int i => by_cases q1 : 0 ≤ i <;> by_cases q2 : i < b <;> simp [isGe, isIn, q1, q2, show (i ≤ b - 1) ↔ i < b by omega]
            | _ => simp [isGe, isIn]
          · simp [expand, wy, -List.all_eq_true]
            cases x with
            | tup ps =>
              have it : isT (.tup ps) = true := rfl
              simp [it, fLen, seqD, -List.all_eq_true]
              by_cases k : 1 < ps.length
              · have k2 : 2 ≤ ps.length := k
                have ki : (1 : Int) < (ps.length : Int) := by omega
                simp [ki, k2, -List.all_eq_true]
                have wps : Wf h (.tup ps) := WfN.mem w (by simp)
                obtain ⟨n, e1, e2, _⟩ := len_comp (h := h ++ .lst W :: j) (src := iTupD (eOp2 oIx (eVar 6) (eC (.int 1)))) (t := .nm 9) (cond := bNot (bVal (eOp1 (oIsi "tuple") (eVar 9)))) (el := eVar 9) (vs := [9])
                  (σ := [some body, some (.int a), some (.int b), lap, some (.ref h.length), some (.int (m + 1)), some (.tup [.str "either", .tup ps]), some (.str "either"), some (.int 2), u9]) (ds := ps) isT (G := fun _ => True) (by simp) (fun _ => trivial) (Wf.len5 wps) (fun d hd l => by
                    have wd : Wf ((h ++ .lst W :: j) ++ [.lst l]) d := WfN.app (WfN.app (WfN.mem wps hd))
                    rw [List.append_assoc, List.cons_append] at wd
                    refine ⟨_, rfl, ?_, ?_⟩
                    · simp [wipeD, isi_tuple wd]
                    · simp [wipeD])
                rw [e1]
                simp [e2, -List.all_eq_true]
                cases q : ps.all isT with
                | false => simp
                | true =>
                  obtain ⟨j', u9', e⟩ := ext_parts (body := body) (a := a) (b := b) (h := h) (lap := lap) (m := m + 1) (u6 := some (.tup [.str "either", .tup ps])) (u7 := some (.str "either")) (u8 := some (.int 2)) ps W j u9 q (by
                    have := nodes_items ps
                    have := len_nodes (ps.flatMap items)
                    simp [nodes, nodesL] at z
                    omega)
                  simp only [if_true]
                  exact ⟨_, _, _, _, _, .inl e⟩
              · have k2 : ¬ 2 ≤ ps.length := k
                have ki : ¬ (1 : Int) < (ps.length : Int) := by omega
                simp [ki, k2]
            | _ => simp [isT]
          · simp [expand, last2, wy]
            cases x with
            | tup l =>
              have x := ext_ok (h := h) (j := j) (W := W) (l := l) (by simp [nodes, nodesL] at z; have := len_nodes l; omega)
              simp [isT, okT_mid, fList, seqD]
              simp only [List.append_assoc, List.cons_append, List.length_append, List.length_cons] at x ⊢
              simp only [x, onR_ok]
              exact ⟨_, _, _, _, _, .inl rfl⟩
            | _ => simp [isT]
          · simp [expand, wy]
          · simp [expand, *]
        | [x, y], w, wH, z =>
          have wx2 : Wf (h ++ .lst W :: j) x := WfN.mem wH (by simp)
          have wy : Wf (h ++ .lst W :: j) y := WfN.mem wH (by simp)
          have wh := v_law_whole (k := 0) wx2
          rcases word_cases s with rfl | rfl | rfl | rfl | rfl | rfl | ⟨n0, n1, n2, n3, n4, n5⟩
          · simp [expand]
          · simp [expand]
          · simp [expand]
          · simp [expand]
          · simp [expand]
          · simp [expand, wh]
            cases q : isGe 0 x with
            | false => simp
            | true =>
              simp [last3, wy]
              cases y with
              | tup l =>
                have x := ext_ok (h := h) (j := j) (W := W) (l := l) (by simp [nodes, nodesL] at z; have := len_nodes l; omega)
                simp [isT, okT_mid, fList, seqD]
                simp only [List.append_assoc, List.cons_append, List.length_append, List.length_cons] at x ⊢
                simp only [x, onR_ok]
                exact ⟨_, _, _, _, _, .inl rfl⟩
              | _ => simp [isT]
          · simp [expand, *]
        | x :: y :: u :: r, w, wH, z =>
          have k1 : ¬ ((r.length : Int) + 1 + 1 + 1 + 1 = 1) := by omega
          have k2 : ¬ ((r.length : Int) + 1 + 1 + 1 + 1 = 2) := by omega
          have k3 : ¬ ((r.length : Int) + 1 + 1 + 1 + 1 = 3) := by omega
          rcases word_cases s with rfl | rfl | rfl | rfl | rfl | rfl | ⟨n0, n1, n2, n3, n4, n5⟩ <;> simp [expand, *]
      | _ => cases r with
        | nil => simp [isS, expand]
        | cons y r => cases r with
          | nil => simp [isS, expand]
          | cons z r => cases r <;> simp [isS, expand]
  | _ => simp [wH, isT, expand]
end Kl

set_option Elab.async false
set_option linter.all false
set_option maxRecDepth 100000
set_option maxHeartbeats 2000000
set_option autoImplicit false
namespace Kl
open PySem PySem.Spec PyProof.Rows L2 Sm
theorem ls_run {body : D} {a b : Int} {h : Hs} : ∀ (laps : List D) (W : List D) (m : Int) (j : Hs) (lap u6 u7 u8 u9 : Option D), (∀ x ∈ W, Wf h x) → nodesL W ≤ 50000 →
    (W.all (stOk a b) = true → sumSt W < laps.length → ∃ g, forG (.nm 3) lsB (fun _ => True) laps (lsS body a b lap h.length m u6 u7 u8 u9) (h ++ .lst W :: j) = .rt (.int (m + (sumSt W : Nat))) (h ++ g)) ∧
    (W.all (stOk a b) = false → ∃ g, forG (.nm 3) lsB (fun _ => True) laps (lsS body a b lap h.length m u6 u7 u8 u9) (h ++ .lst W :: j) = .rt (.int (-1)) (h ++ g) ∨ ∃ σ', forG (.nm 3) lsB (fun _ => True) laps (lsS body a b lap h.length m u6 u7 u8 u9) (h ++ .lst W :: j) = .nx σ' (h ++ g))
  | [], W, m, j, lap, u6, u7, u8, u9, hw, hz => ⟨fun _ l => by simp at l, fun _ => ⟨_, .inr ⟨_, by unfold forG; simp; exact ⟨rfl, rfl⟩⟩⟩⟩
  | d :: laps, W, m, j, lap, u6, u7, u8, u9, hw, hz => by
    have put : (Tg.nm 3).put d (lsS body a b lap h.length m u6 u7 u8 u9) = some (lsS body a b (some d) h.length m u6 u7 u8 u9) := rfl
    rcases List.eq_nil_or_concat W with rfl | ⟨W', x, rfl⟩
    · refine ⟨fun _ _ => ⟨.lst [] :: j, ?_⟩, fun q => by simp at q⟩
      unfold forG
      rw [if_pos trivial, put]
      simp only [ls_empty, Out.turn_rt, sumSt]
      simp
    · have wx : Wf h x := hw x (by simp)
      have hw' : ∀ y ∈ W', Wf h y := fun y hy => hw y (by simp [hy])
      rw [List.concat_eq_append] at hz ⊢
      have nz := nodesL_app W' [x]
      simp only [nodesL] at nz
      have lz := len_nodes W'
      have st := ls_step (body := body) (a := a) (b := b) (h := h) (j := j) (lap := some d) (m := m) (u6 := u6) (u7 := u7) (u8 := u8) (u9 := u9) (W := W') wx (by omega)
      have al : (W' ++ [x]).all (stOk a b) = (W'.all (stOk a b) && stOk a b x) := by rw [List.all_append]; simp
      have sm : sumSt (W' ++ [x]) = sumSt W' + stCnt x := by rw [sumSt_app]; simp [sumSt]
      cases e : expand a b x with
      | none =>
        rw [e] at st
        simp only at st
        have nx := ex_none e
        refine ⟨fun q => absurd (by rw [← q, al, nx, Bool.and_false] : true = false) (by decide), fun _ => ⟨.lst W' :: j, .inl ?_⟩⟩
        unfold forG
        rw [if_pos trivial, put]
        simp only [st, Out.turn_rt]
      | some l =>
        rw [e] at st
        simp only at st
        obtain ⟨v6, v7, v8, v9, j', st⟩ := st
        obtain ⟨o1, o2, o3⟩ := ex_some e
        have nl : nodesL (W' ++ l) ≤ 50000 := by rw [nodesL_app]; omega
        have wl : ∀ y ∈ W' ++ l, Wf h y := fun y hy => by
          rcases List.mem_append.mp hy with hy | hy
          · exact hw' y hy
          · exact ex_wf wx e y hy
        obtain ⟨iA, iB⟩ := ls_run laps (W' ++ l) (m + 1) j' (some d) v6 v7 v8 v9 wl nl
        have al2 : (W' ++ l).all (stOk a b) = (W' ++ [x]).all (stOk a b) := by rw [al, List.all_append, o1]
        have sm2 : sumSt (W' ++ [x]) = 1 + sumSt (W' ++ l) := by rw [sm, sumSt_app, o2]; omega
        have un : forG (.nm 3) lsB (fun _ => True) (d :: laps) (lsS body a b lap h.length m u6 u7 u8 u9) (h ++ .lst (W' ++ [x]) :: j) = forG (.nm 3) lsB (fun _ => True) laps (lsS body a b (some d) h.length (m + 1) v6 v7 v8 v9) (h ++ .lst (W' ++ l) :: j') := by
          rw [forG, if_pos trivial, put]
          rcases st with st | st <;> simp only [st, Out.turn_nx, Out.turn_ct]
        rw [un, ← al2, sm2]
        refine ⟨fun q lt => ?_, iB⟩
        obtain ⟨g, eg⟩ := iA q (by rw [List.length_cons] at lt; omega)
        refine ⟨g, ?_⟩
        rw [eg]
        have : m + 1 + ((sumSt (W' ++ l) : Nat) : Int) = m + ((1 + sumSt (W' ++ l) : Nat) : Int) := by omega
        rw [this]
theorem src_4000 {σ : Lo} {h : Hs} : iRangeD (aCons (eC (.int 4000)) aNil) σ h = .ok (Sm.intsFrom 0 4000, fun (_ : Hs) => True) h := src_range (k := 4000) rfl (by decide)
theorem v_law_statements {a b : Int} {h : Hs} {xs : List D} (w : Wf h (.tup xs)) (hz : nodesL xs ≤ 50000) (hs : allSt a b xs = true → sumSt xs < 4000) :
    m__law_statements [.tup xs, .int a, .int b] h = .ok (.int (if allSt a b xs = true then ((sumSt xs : Nat) : Int) else -1)) h := by
  obtain ⟨iA, iB⟩ := ls_run (body := .tup xs) (a := a) (b := b) (h := h) (Sm.intsFrom 0 4000) xs 0 [] none none none none none (fun x hx => WfN.mem w hx) hz
  have len : (Sm.intsFrom 0 4000).length = 4000 := by simp [Sm.intsFrom]
  unfold m__law_statements
  rw [ls_eq]
  cases q : allSt a b xs with
  | true =>
    have q2 := q
    rw [allSt_eq] at q2
    obtain ⟨g, e⟩ := iA q2 (by rw [len]; exact hs q)
    refine fn_app (g := g) ?_ rfl
    simp [bodyF, N__law_statements, fList, seqD, src_4000]
    rw [e]
    simp
  | false =>
    have q2 := q
    rw [allSt_eq] at q2
    obtain ⟨g, e⟩ := iB q2
    refine fn_app (g := g) ?_ rfl
    simp [bodyF, N__law_statements, fList, seqD, src_4000]
    rcases e with e | ⟨σ', e⟩
    · rw [e]
      simp
    · rw [e]
      simp
end Kl

set_option Elab.async false
set_option linter.all false
set_option maxRecDepth 100000
set_option maxHeartbeats 2000000
set_option autoImplicit false
namespace Kl
open PySem PySem.Spec PyProof.Rows L2 Sm
inductive PR where
  | told (n : Int) | bad (at_ : Int) (w : Str)
def firstBad (p : D → Bool) : Nat → List D → Option Nat
  | _, [] => none
  | i, x :: xs => if p x = true then firstBad p (i + 1) xs else some i
theorem enum_loop {t : Tg} {B : SS} {S : Option D → Option D → Lo} {h : Hs} {E : Nat → Lo → Out} {p : D → Bool} (hp : ∀ i d u v, t.put (.tup [.int i, d]) (S u v) = some (S (some (.int i)) (some d))) (hE : ∀ k σ K, (E k σ).turn K = E k σ) : ∀ (xs : List D) (i : Nat) (u v : Option D),
    (∀ d ∈ xs, ∀ i : Nat, (p d = true → B (S (some (.int i)) (some d)) h = .nx (S (some (.int i)) (some d)) h) ∧ (p d = false → B (S (some (.int i)) (some d)) h = E i (S (some (.int i)) (some d)))) →
    (firstBad p i xs = none → ∃ u' v', forG t B (fun _ => True) (pairsFrom i xs) (S u v) h = .nx (S u' v') h) ∧ (∀ k, firstBad p i xs = some k → ∃ σ, forG t B (fun _ => True) (pairsFrom i xs) (S u v) h = E k σ)
  | [], i, u, v, _ => ⟨fun _ => ⟨u, v, by unfold pairsFrom forG; rw [if_pos trivial]⟩, fun k e => by simp [firstBad] at e⟩
  | d :: xs, i, u, v, hB => by
    obtain ⟨b1, b2⟩ := hB d List.mem_cons_self i
    obtain ⟨i1, i2⟩ := enum_loop hp hE xs (i + 1) (some (.int i)) (some d) fun e he => hB e (List.mem_cons_of_mem _ he)
    unfold pairsFrom firstBad
    rw [forG, if_pos trivial, hp]
    cases q : p d with
    | true =>
      simp only [if_true, b1 q, Out.turn_nx]
      exact ⟨i1, i2⟩
    | false =>
      simp only [Bool.false_eq_true, if_false, b2 q, hE]
      refine ⟨fun z => (by cases z), fun k z => by cases z; exact ⟨_, rfl⟩⟩
theorem ints_cons (lo : Int) (n : Nat) : Sm.intsFrom lo (n + 1) = .int lo :: Sm.intsFrom (lo + 1) n := by
  unfold Sm.intsFrom
  rw [List.range_succ_eq_map, List.map_cons, List.map_map]
  congr 1
  · simp
  · apply List.map_congr_left
    intro k _
    simp only [Function.comp]
    congr 1
    omega
theorem range_loop {s : Nat} {B : SS} {S : Option D → Lo} {h : Hs} {E : Nat → Lo → Out} {p : D → Bool} (hp : ∀ d u, (Tg.nm s).put d (S u) = some (S (some d))) (hE : ∀ k σ K, (E k σ).turn K = E k σ) : ∀ (xs : List D) (i : Nat) (u : Option D),
    (∀ k x, xs[k]? = some x → (p x = true → B (S (some (.int ((i + k : Nat) : Int)))) h = .nx (S (some (.int ((i + k : Nat) : Int)))) h) ∧ (p x = false → B (S (some (.int ((i + k : Nat) : Int)))) h = E (i + k) (S (some (.int ((i + k : Nat) : Int)))))) →
    (firstBad p i xs = none → ∃ u', forG (.nm s) B (fun _ => True) (Sm.intsFrom (i : Int) xs.length) (S u) h = .nx (S u') h) ∧ (∀ k, firstBad p i xs = some k → ∃ σ, forG (.nm s) B (fun _ => True) (Sm.intsFrom (i : Int) xs.length) (S u) h = E k σ)
  | [], i, u, _ => ⟨fun _ => ⟨u, by show forG _ _ _ [] _ _ = _; unfold forG; rw [if_pos trivial]⟩, fun k e => by simp [firstBad] at e⟩
  | d :: xs, i, u, hB => by
    obtain ⟨b1, b2⟩ := hB 0 d rfl
    rw [Nat.add_zero] at b1 b2
    obtain ⟨i1, i2⟩ := range_loop hp hE xs (i + 1) (some (.int i)) fun k x e => by
      have := hB (k + 1) x (by simpa using e)
      rw [show i + (k + 1) = i + 1 + k from by omega] at this
      exact this
    rw [List.length_cons, ints_cons, show ((i : Int) + 1) = ((i + 1 : Nat) : Int) from by omega]
    unfold firstBad
    rw [forG, if_pos trivial, hp]
    cases q : p d with
    | true =>
      simp only [if_true, b1 q, Out.turn_nx]
      exact ⟨i1, i2⟩
    | false =>
      simp only [Bool.false_eq_true, if_false, b2 q, hE]
      refine ⟨fun z => (by cases z), fun k z => by cases z; exact ⟨_, rfl⟩⟩
def formOf : D → D
  | .tup [_, y] => y
  | _ => .non
def lenT : D → Int
  | .tup xs => (xs.length : Nat)
  | _ => 0
def progR : D → PR
  | .tup [.tup ds, names, bodies] => if deedsOk (.tup ds) = true then (match firstBad (fun d => formD (formOf d)) 0 ds with
      | some i => .bad i "form"
      | none => match namesRes ds names with
        | some w => .bad (-1) w
        | none => match bodies with
          | .tup bs => if (bs.length : Int) = lenT names ∧ bs.all isT = true then (match firstBad (bodyOk (ds.length : Nat) (lenT names)) 0 bs with
              | some i => .bad i "statement"
              | none => .told (sumBody bs : Nat)) else .bad (-1) "bodies"
          | _ => .bad (-1) "bodies") else .bad (-1) "deeds"
  | .tup [_, _, _] => .bad (-1) "deeds"
  | _ => .bad (-1) "shape"
def checked (h : Hs) : PR → Res D
  | .told n => .ok (.int n) h
  | .bad i w => .exc "BadProgram" [("word", .str w), ("at", .int i)] h
theorem chk_val {N : Nat} {s : SS} {ds : List D} {h : Hs} {r : PR} (e : bodyF N s ds h = checked h r) : fnF N s ds h = checked h r := by
  cases r with
  | told n => exact fn_val e
  | bad i w => exact fn_exc e
theorem names_tup {ds : List D} {names : D} (e : namesRes ds names = none) : ∃ ns, names = .tup ns := by
  cases names with
  | tup ns => exact ⟨ns, rfl⟩
  | _ => simp [namesRes] at e
theorem firstBad_all {p : D → Bool} : ∀ {xs : List D} {i : Nat}, firstBad p i xs = none → ∀ x ∈ xs, p x = true
  | [], _, _ => by simp
  | x :: xs, i, e => by
    unfold firstBad at e
    split at e
    · rename_i q
      intro y hy
      rcases List.mem_cons.mp hy with z | z
      · exact z ▸ q
      · exact firstBad_all e y z
    · cases e
theorem v_check_program {h : Hs} {d : D} (w : Wf h d) (hd : dep d < 40) : m_check_program [d] h = checked h (progR d) := by
  apply chk_val
  simp [bodyF, b_check_program, N_check_program, v_is_tuple w]
  cases d with
  | tup xs =>
    by_cases l : xs.length = 3
    · match xs, l with
      | [deeds, names, bodies], _ =>
        have wd : Wf h deeds := WfN.mem w (by simp)
        have wn : Wf h names := WfN.mem w (by simp)
        have wb : Wf h bodies := WfN.mem w (by simp)
        simp [isTup, v_are_deeds wd]
        cases q : deedsOk deeds with
        | false =>
          cases deeds with
          | tup ds => simp [progR, q, checked]
          | _ => simp [progR, checked]
        | true =>
          cases deeds with
          | tup ds =>
            have dall := deeds_all q
            simp
            have F := enum_loop (t := .tp [5, 6]) (B := sIf (bNot (bVal (eUser 1 m_is_deed_form (aCons (eOp2 oIx (eVar 6) (eC (.int 1))) aNil)))) (sRaise "BadProgram" ["at", "word"] (aCons (eVar 5) (aCons (eC (.str "form")) aNil))) sNil)
              (S := fun u v => [some (.tup [.tup ds, names, bodies]), none, some (.tup ds), some names, some bodies, u, v, none]) (h := h)
              (E := fun k σ => .exc "BadProgram" [("word", .str "form"), ("at", .int (k : Nat))] σ h)
              (p := fun d => formD (formOf d)) (fun _ _ _ _ => rfl) (fun _ _ _ => rfl) ds 0 none none (fun d hd i => by
                obtain ⟨s, y, rfl⟩ := dall d hd
                have wy : Wf h y := WfN.mem (WfN.mem wd hd) (by simp)
                refine ⟨fun q => ?_, fun q => ?_⟩
                · simp [formOf] at q
                  simp [v_is_deed_form wy, q]
                · simp [formOf] at q
                  simp [v_is_deed_form wy, q])
            cases f1 : firstBad (fun d => formD (formOf d)) 0 ds with
            | some k =>
              obtain ⟨σ, e⟩ := F.2 k f1
              rw [e]
              simp [progR, q, f1, checked]
            | none =>
              obtain ⟨u1, v1, e⟩ := F.1 f1
              rw [e]
              simp [v_names_word wd wn q]
              cases f2 : namesRes ds names with
              | some w => simp [nwD, oIsN, progR, q, f1, f2, checked]
              | none =>
                obtain ⟨ns, rfl⟩ := names_tup f2
                simp [nwD, oIsN, v_is_tuple wb]
                cases bodies with
                | tup bs =>
                  by_cases lb : (bs.length : Int) = (ns.length : Int)
                  · have lb2 : bs.length = ns.length := by omega
                    simp [isTup, lb2]
                    rw [all_comp isT rfl (fun _ => trivial) (Wf.len5 wb) (fun d hd l => ⟨_, rfl, by
                      have := isi_tuple (WfN.app (g := [.lst l]) (WfN.mem wb hd))
                      simp [wipeD, this]⟩)]
                    cases q3 : bs.all isT with
                    | false =>
                      have : progR (.tup [.tup ds, .tup ns, .tup bs]) = .bad (-1) "bodies" := by
                        simp only [progR, q, f1, f2, if_true]
                        rw [if_neg (by rw [q3]; simp)]
                      simp [this, checked]
                    | true =>
                      have G := enum_loop (t := .tp [5, 7]) (B := sIf (bNot (bVal (eUser 3 (m_is_body 40) (aCons (eCall fLen (aCons (eVar 2) aNil)) (aCons (eCall fLen (aCons (eVar 3) aNil)) (aCons (eVar 7) aNil)))))) (sRaise "BadProgram" ["at", "word"] (aCons (eVar 5) (aCons (eC (.str "statement")) aNil))) sNil)
                        (S := fun u v => [some (.tup [.tup ds, .tup ns, .tup bs]), some .non, some (.tup ds), some (.tup ns), some (.tup bs), u, v1, v]) (h := h)
                        (E := fun k σ => .exc "BadProgram" [("word", .str "statement"), ("at", .int (k : Nat))] σ h)
                        (p := bodyOk (ds.length : Nat) (ns.length : Nat)) (fun _ _ _ _ => rfl) (fun _ _ _ => rfl) bs 0 u1 none (fun d hb i => by
                          have wy : Wf h d := WfN.mem wb hb
                          have hk : dep d < 40 := by
                            have a1 := dep_mem hb
                            have a2 := dep_mem (xs := [.tup ds, .tup ns, .tup bs]) (d := .tup bs) (by simp)
                            simp only [dep] at a2 hd
                            omega
                          have vb := (v_stmts (ds.length : Nat) (ns.length : Nat) 40 h d wy hk).2.1
                          refine ⟨fun q => ?_, fun q => ?_⟩
                          · simp [vb, q]
                          · simp [vb, q])
                      cases f3 : firstBad (bodyOk (ds.length : Nat) (ns.length : Nat)) 0 bs with
                      | some k =>
                        obtain ⟨σ, e⟩ := G.2 k f3
                        have : progR (.tup [.tup ds, .tup ns, .tup bs]) = .bad (k : Nat) "statement" := by
                          have f4 : firstBad (bodyOk (ds.length : Nat) (lenT (.tup ns))) 0 bs = _ := f3
                          simp only [progR, q, f1, f2, if_true]
                          rw [if_pos ⟨lb, q3⟩, f4]
                        simp [this, checked]
                        rw [e]
                        simp
                      | none =>
                        obtain ⟨u2, v2, e⟩ := G.1 f3
                        have : progR (.tup [.tup ds, .tup ns, .tup bs]) = .told (sumBody bs : Nat) := by
                          have f4 : firstBad (bodyOk (ds.length : Nat) (lenT (.tup ns))) 0 bs = _ := f3
                          simp only [progR, q, f1, f2, if_true]
                          rw [if_pos ⟨lb, q3⟩, f4]
                        simp [this, checked]
                        rw [e]
                        simp
                        rw [sum_comp (fun d => ((bodyCnt d : Nat) : Int)) rfl (fun _ => trivial) (Wf.len5 wb) (fun d hb l => ⟨_, rfl, by
                          have wy : Wf (h ++ [.lst l]) d := WfN.app (WfN.mem wb hb)
                          have hk : dep d < 40 := by
                            have a1 := dep_mem hb
                            have a2 := dep_mem (xs := [.tup ds, .tup ns, .tup bs]) (d := .tup bs) (by simp)
                            simp only [dep] at a2 hd
                            omega
                          simp [wipeD, v_count_in (ds.length : Nat) (ns.length : Nat) 40 _ d wy hk (firstBad_all f3 d hb)]⟩)]
                        rw [sum_cast, ← sumBody_map]
                        simp
                  · have lb2 : ¬ bs.length = ns.length := by omega
                    simp [isTup, lb, lb2, progR, q, f1, f2, checked, lenT]
                | _ => simp [isTup, progR, q, f1, f2, checked]
          | _ => simp [deedsOk] at q
    · have l2 : ¬ ((xs.length : Int) = 3) := by omega
      have f : progR (.tup xs) = .bad (-1) "shape" := by
        unfold progR
        split
        · rename_i e; cases e; simp at l
        · rename_i e; cases e; simp at l
        · rfl
      simp [isTup, l2, f, checked]
  | _ => simp [isTup, progR, checked]
end Kl

set_option Elab.async false
set_option linter.all false
set_option maxRecDepth 100000
set_option maxHeartbeats 4000000
set_option autoImplicit false
namespace Kl
open PySem PySem.Spec PyProof.Rows L2 Sm
def dueR : PR → D
  | .told n => .tup [.str "told", .int n]
  | .bad i w => .tup [.str "bad", .int i, .str w]
theorem low_due (n : Nat) (r : PR) : (dueR r).low n = true := by cases r <;> simp [dueR, D.low, lowL]
def namesS (ds : List D) : List Str := ds.map fun d => strOf (nameOf d)
theorem deeds_eq (ds : List D) : deedsOk (.tup ds) = (ds.all (fun d => isTup 2 d && isWord (nameOf d)) && (decide ((ds.length : Int) ≤ 40) && decide (namesS ds).Nodup)) := by
  have a1 : ds.all (fun d => isTup 2 d && isWord (nameOf d)) = (ds.all (isTup 2) && (ds.map nameOf).all isWord) := by
    rw [List.all_map]
    induction ds with
    | nil => rfl
    | cons d ds ih =>
      simp only [List.all_cons, ih, Function.comp]
      cases isTup 2 d <;> cases isWord (nameOf d) <;> cases ds.all (isTup 2) <;> rfl
  have a2 : (ds.map nameOf).map strOf = namesS ds := by rw [List.map_map]; rfl
  simp only [deedsOk, wordsOk, List.length_map, a1, a2]
  have z : decide ((0 : Int) ≤ (ds.length : Int)) = true := decide_eq_true (by omega)
  rw [z]
  cases ds.all (isTup 2) <;> cases (ds.map nameOf).all isWord <;> cases decide ((ds.length : Int) ≤ 40) <;> cases decide (namesS ds).Nodup <;> rfl
theorem deeds_names {ds : List D} (q : ds.all (fun d => isTup 2 d && isWord (nameOf d)) = true) : ds.map nameOf = (namesS ds).map D.str := by
  unfold namesS
  rw [List.map_map]
  apply List.map_congr_left
  intro d hd
  have := List.all_eq_true.mp q d hd
  rw [Bool.and_eq_true] at this
  have w := this.2
  cases e : nameOf d with
  | str s => simp [e, strOf]
  | _ => rw [e] at w; simp [isWord] at w
theorem names_eq (ds ns : List D) : (wordsOk 1 12 (.tup ns) = true ∧ ∀ d ∈ ds, strOf (nameOf d) ∉ ns.map strOf) ↔ ((1 ≤ (ns.length : Int) ∧ (ns.length : Int) ≤ 12) ∧ ns.all (fun o => isWord o && !decide (strOf o ∈ namesS ds)) = true ∧ (ns.map strOf).Nodup) := by
  simp only [wordsOk, Bool.and_eq_true, decide_eq_true_eq, List.all_eq_true, Bool.not_eq_true', decide_eq_false_iff_not]
  constructor
  · rintro ⟨⟨a, b, c, e⟩, f⟩
    refine ⟨⟨a, b⟩, fun o ho => ⟨c o ho, fun hm => ?_⟩, e⟩
    unfold namesS at hm
    rw [List.mem_map] at hm
    obtain ⟨d, hd, ed⟩ := hm
    exact f d hd (ed ▸ List.mem_map.mpr ⟨o, ho, rfl⟩)
  · rintro ⟨⟨a, b⟩, c, e⟩
    refine ⟨⟨a, b, fun o ho => (c o ho).1, e⟩, fun d hd hm => ?_⟩
    rw [List.mem_map] at hm
    obtain ⟨o, ho, eo⟩ := hm
    exact (c o ho).2 (eo ▸ List.mem_map.mpr ⟨d, hd, rfl⟩)
theorem firstBad_idx (p : D → Bool) : ∀ (xs : List D) (i : Nat), firstBad p i xs = (xs.findIdx? fun x => !p x).map (· + i)
  | [], i => rfl
  | x :: xs, i => by
    unfold firstBad
    rw [List.findIdx?_cons, firstBad_idx p xs (i + 1)]
    cases p x with
    | true =>
      simp
      cases List.findIdx? (fun x => !p x) xs with
      | none => rfl
      | some k => simp; omega
    | false => simp
def tellB (a b : Int) (x : D) : Int := if bodyOk a b x = true then ((bodyCnt x : Nat) : Int) else -1
theorem flatL_ints {α : Type} (f : α → Int) : ∀ l : List α, flatL (l.map fun x => D.int (f x)) = some (l.map fun x => V.int (f x))
  | [] => rfl
  | x :: l => by simp [flatL, D.flat, flatL_ints f l]
theorem tell_eq (a b : Int) (x : D) : (tellB a b x == -1) = !bodyOk a b x := by
  unfold tellB
  cases bodyOk a b x with
  | true =>
    simp only [if_true, Bool.not_true]
    exact beq_eq_false_iff_ne.mpr (by omega)
  | false => rfl
theorem idx_tell (a b : Int) (xs : List D) : idxD (xs.map fun x => V.int (tellB a b x)) (.int (-1)) = xs.findIdx? fun x => !bodyOk a b x := by
  unfold idxD
  rw [List.findIdx?_map]
  congr 1
  funext x
  exact tell_eq a b x
theorem in_tell {h : Hs} {n : Nat} {a b : Int} {xs : List D} (e : h[n]? = some (.lst (xs.map fun x => D.int (tellB a b x)))) : oIn false (.int (-1)) (.ref n) h = .ok (.bl (xs.any fun x => !bodyOk a b x)) h := by
  simp [oIn, D.flat, seqD, e, flatL_ints, inV]
  congr 1
  funext x
  exact tell_eq a b x
theorem index_tell {h : Hs} {n k : Nat} {a b : Int} {xs : List D} (e : h[n]? = some (.lst (xs.map fun x => D.int (tellB a b x)))) (f : (xs.findIdx? fun x => !bodyOk a b x) = some k) : mIndex (.ref n) [.int (-1)] h = .ok (.int (k : Nat)) h := by
  simp [mIndex, D.flat, lstD, e, flatL_ints, idx_tell, f]
theorem sum_val {a b : Int} {xs : List D} (f : ∀ x ∈ xs, bodyOk a b x = true) : (xs.map (tellB a b)).sum = ((sumBody xs : Nat) : Int) := by
  rw [sumBody_map, ← sum_cast]
  congr 1
  apply List.map_congr_left
  intro x hx
  unfold tellB
  rw [if_pos (f x hx)]
theorem sum_tell {h : Hs} {n : Nat} {a b : Int} {xs : List D} (e : h[n]? = some (.lst (xs.map fun x => D.int (tellB a b x)))) (f : ∀ x ∈ xs, bodyOk a b x = true) : fSum [.ref n] h = .ok (.int (sumBody xs : Nat)) h := by
  have : (xs.map (tellB a b)).sum = ((sumBody xs : Nat) : Int) := by
    rw [sumBody_map, ← sum_cast]
    congr 1
    apply List.map_congr_left
    intro x hx
    unfold tellB
    rw [if_pos (f x hx)]
  simp [fSum, lstD, e, intsD_map, this]
theorem due_app {N : Nat} {s : SS} {ds : List D} {h g : Hs} {r : PR} (e : bodyF N s ds h = .ok (dueR r) (h ++ g)) : fnF N s ds h = .ok (dueR r) h := fn_app e (low_due _ r)
theorem due_same {N : Nat} {s : SS} {ds : List D} {h : Hs} {r : PR} (e : bodyF N s ds h = .ok (dueR r) h) : fnF N s ds h = .ok (dueR r) h := fn_val e
theorem list_app {h : Hs} {xs : List D} : fList [.tup xs] h = .ok (.ref h.length) (h ++ [.lst xs]) := rfl
noncomputable def dueT3 : SS := sCons (sSet 3 (eComp (iTupD (eVar 6)) (.nm 8) bYes (eUser 3 m__law_statements (aCons (eVar 8) (aCons (eCall fLen (aCons (eVar 4) aNil)) (aCons (eCall fLen (aCons (eVar 5) aNil)) aNil)))) [8])) (sRet (eIf (bVal (eOp2 (oIn false) (eOp1 oNeg (eC (.int 1))) (eVar 3))) (eTup (aCons (eC (.str "bad")) (aCons (eBM "list" mIndex (eVar 3) (aCons (eOp1 oNeg (eC (.int 1))) aNil)) (aCons (eC (.str "statement")) aNil)))) (eTup (aCons (eC (.str "told")) (aCons (eCall fSum (aCons (eVar 3) aNil)) aNil)))))
noncomputable def dueT2 : SS := sCons (sIf (bOr (bNot (bVal (eOp1 (oIsi "tuple") (eVar 5)))) (bOr (bNot (bVal (eChain oLe oLe (eC (.int 1)) (eCall fLen (aCons (eVar 5) aNil)) (eC (.int 12))))) (bOr (bVal (eOp2 oGt (eTrim (eCall fLen (aCons (eComp (iTupD (eVar 5)) (.nm 7) (bOr (bNot (bVal (eUser 1 m__law_is_word (aCons (eVar 7) aNil)))) (bVal (eOp2 (oIn false) (eVar 7) (eVar 1)))) (eVar 7) [7]) aNil))) (eC (.int 0)))) (bNot (bVal (eUser 1 m__law_unlike (aCons (eCall fList (aCons (eVar 5) aNil)) aNil))))))) (sRet (eTup (aCons (eC (.str "bad")) (aCons (eOp1 oNeg (eC (.int 1))) (aCons (eC (.str "names")) aNil))))) sNil) (sCons (sIf (bVal (eOp2 (oIn true) (eC (.str "main")) (eVar 5))) (sRet (eTup (aCons (eC (.str "bad")) (aCons (eOp1 oNeg (eC (.int 1))) (aCons (eC (.str "main")) aNil))))) sNil) (sCons (sIf (bOr (bNot (bVal (eOp1 (oIsi "tuple") (eVar 6)))) (bOr (bVal (eOp2 (oEq true) (eCall fLen (aCons (eVar 6) aNil)) (eCall fLen (aCons (eVar 5) aNil)))) (bVal (eOp2 oGt (eTrim (eCall fLen (aCons (eComp (iTupD (eVar 6)) (.nm 7) (bNot (bVal (eOp1 (oIsi "tuple") (eVar 7)))) (eVar 7) [7]) aNil))) (eC (.int 0)))))) (sRet (eTup (aCons (eC (.str "bad")) (aCons (eOp1 oNeg (eC (.int 1))) (aCons (eC (.str "bodies")) aNil))))) sNil) dueT3))
noncomputable def dueT1 : SS := sCons (sFor (iRangeD (aCons (eCall fLen (aCons (eVar 4) aNil)) aNil)) (.nm 2) (sIf (bNot (bVal (eUser 1 m__law_is_form (aCons (eOp2 oIx (eOp2 oIx (eVar 4) (eVar 2)) (eC (.int 1))) aNil)))) (sRet (eTup (aCons (eC (.str "bad")) (aCons (eVar 2) (aCons (eC (.str "form")) aNil))))) sNil)) dueT2
theorem due_eq : b__law_program_due = sCons (sIf (bOr (bNot (bVal (eOp1 (oIsi "tuple") (eVar 0)))) (bVal (eOp2 (oEq true) (eCall fLen (aCons (eVar 0) aNil)) (eC (.int 3))))) (sRet (eTup (aCons (eC (.str "bad")) (aCons (eOp1 oNeg (eC (.int 1))) (aCons (eC (.str "shape")) aNil))))) sNil) (sCons (sTgt (.tp [4, 5, 6]) (eVar 0)) (sCons (sIf (bOr (bNot (bVal (eOp1 (oIsi "tuple") (eVar 4)))) (bOr (bVal (eOp2 oGt (eCall fLen (aCons (eVar 4) aNil)) (eC (.int 40)))) (bVal (eOp2 oGt (eTrim (eCall fLen (aCons (eComp (iTupD (eVar 4)) (.nm 7) (bOr (bNot (bVal (eOp1 (oIsi "tuple") (eVar 7)))) (bOr (bVal (eOp2 (oEq true) (eCall fLen (aCons (eVar 7) aNil)) (eC (.int 2)))) (bNot (bVal (eUser 1 m__law_is_word (aCons (eOp2 oIx (eVar 7) (eC (.int 0))) aNil)))))) (eVar 7) [7]) aNil))) (eC (.int 0)))))) (sRet (eTup (aCons (eC (.str "bad")) (aCons (eOp1 oNeg (eC (.int 1))) (aCons (eC (.str "deeds")) aNil))))) sNil) (sCons (sSet 1 (eComp (iTupD (eVar 4)) (.nm 7) bYes (eOp2 oIx (eVar 7) (eC (.int 0))) [7])) (sCons (sIf (bNot (bVal (eUser 1 m__law_unlike (aCons (eVar 1) aNil)))) (sRet (eTup (aCons (eC (.str "bad")) (aCons (eOp1 oNeg (eC (.int 1))) (aCons (eC (.str "deeds")) aNil))))) sNil) dueT1)))) := rfl
abbrev duS (thing : D) (n : Nat) (at_ : Option D) (many : Option D) (ds : List D) (names bodies : D) : Lo := [some thing, some (.ref n), at_, many, some (.tup ds), some names, some bodies, none, none]
theorem due_3 {thing : D} {h : Hs} {n : Nat} {at_ : Option D} {ds ns bs : List D} (wb : Wf h (.tup bs)) (hz : nodes (.tup bs) ≤ 50000) (hc : ∀ x ∈ bs, ∀ a b, bodyOk a b x = true → bodyCnt x < 4000) (bt : bs.all isT = true) :
    ∃ g, dueT3 (duS thing n at_ none ds (.tup ns) (.tup bs)) h = .rt (dueR (match firstBad (bodyOk (ds.length : Nat) (ns.length : Nat)) 0 bs with
      | some i => .bad (i : Nat) "statement"
      | none => .told (sumBody bs : Nat))) (h ++ g) := by
  have wc := eComp_all (h := h) (src := iTupD (eVar 6)) (t := .nm 8) (el := eUser 3 m__law_statements (aCons (eVar 8) (aCons (eCall fLen (aCons (eVar 4) aNil)) (aCons (eCall fLen (aCons (eVar 5) aNil)) aNil)))) (vs := [8]) (σ := duS thing n at_ none ds (.tup ns) (.tup bs)) (ds := bs) (fun x => .int (tellB (ds.length : Nat) (ns.length : Nat) x)) (G := fun _ => True) (by simp) (fun _ => trivial) (Wf.len5 wb) (fun d hd l => ⟨_, rfl, by
    have wd : Wf (h ++ [.lst l]) d := WfN.app (WfN.mem wb hd)
    cases d with
    | tup xs =>
      have z : nodesL xs ≤ 50000 := by
        have : ∀ (l : List D), D.tup xs ∈ l → nodesL xs ≤ nodesL l := by
          intro l
          induction l with
          | nil => simp
          | cons y l ih =>
            intro hm
            rcases List.mem_cons.mp hm with e | e
            · subst e; simp [nodes, nodesL]; omega
            · have := ih e; simp only [nodesL]; omega
        have := this bs hd
        simp only [nodes] at hz
        omega
      have c := hc _ hd (ds.length : Nat) (ns.length : Nat)
      simp only [bodyCnt, bodyOk] at c
      by_cases q : allSt (ds.length : Nat) (ns.length : Nat) xs = true <;> simp [wipeD, v_law_statements (a := (ds.length : Nat)) (b := (ns.length : Nat)) wd z c, tellB, bodyOk, bodyCnt, q]
    | _ => have := List.all_eq_true.mp bt _ hd; simp [isT] at this⟩)
  refine ⟨[.lst (bs.map fun x => .int (tellB (ds.length : Nat) (ns.length : Nat) x))], ?_⟩
  have e0 : (h ++ [C.lst (bs.map fun x => .int (tellB (ds.length : Nat) (ns.length : Nat) x))])[h.length]? = some (.lst (bs.map fun x => .int (tellB (ds.length : Nat) (ns.length : Nat) x))) := at_end
  simp [dueT3]
  rw [wc]
  have it := in_tell e0
  cases f : firstBad (bodyOk (ds.length : Nat) (ns.length : Nat)) 0 bs with
  | some k =>
    have f2 := firstBad_idx (bodyOk (ds.length : Nat) (ns.length : Nat)) bs 0
    rw [f] at f2
    have f3 : (bs.findIdx? fun x => !bodyOk (ds.length : Nat) (ns.length : Nat) x) = some k := by
      cases z : bs.findIdx? fun x => !bodyOk (ds.length : Nat) (ns.length : Nat) x with
      | none => rw [z] at f2; cases f2
      | some m => rw [z] at f2; simp at f2; rw [f2]
    have an : (bs.any fun x => !bodyOk (ds.length : Nat) (ns.length : Nat) x) = true := by
      rw [List.any_eq_true]
      obtain ⟨hl, hx, _⟩ := List.findIdx?_eq_some_iff_getElem.mp f3
      exact ⟨bs[k], List.getElem_mem hl, hx⟩
    have ok : okT "list" (h ++ [C.lst (bs.map fun x => .int (tellB (ds.length : Nat) (ns.length : Nat) x))]) (.ref h.length) = true := by simp only [okT, e0]; rfl
    rw [an] at it
    simp [it, ok, index_tell e0 f3, dueR]
  | none =>
    have all := firstBad_all f
    have an : (bs.any fun x => !bodyOk (ds.length : Nat) (ns.length : Nat) x) = false := by
      rw [List.any_eq_false]
      intro x hx
      simp [all x hx]
    rw [an] at it
    simp [it, sum_val all, dueR]
theorem due_2 {thing : D} {h : Hs} {n : Nat} {at_ : Option D} {ds : List D} {names bodies : D} (e0 : h[n]? = some (.lst ((namesS ds).map D.str))) (wn : Wf h names) (wb : Wf h bodies) (hz : nodes bodies ≤ 50000) (hc : ∀ bs, bodies = .tup bs → ∀ x ∈ bs, ∀ a b, bodyOk a b x = true → bodyCnt x < 4000) :
    ∃ g, dueT2 (duS thing n at_ none ds names bodies) h = .rt (dueR (match namesRes ds names with
        | some w => .bad (-1) w
        | none => match bodies with
          | .tup bs => if (bs.length : Int) = lenT names ∧ bs.all isT = true then (match firstBad (bodyOk (ds.length : Nat) (lenT names)) 0 bs with
              | some i => .bad (i : Nat) "statement"
              | none => .told (sumBody bs : Nat)) else .bad (-1) "bodies"
          | _ => .bad (-1) "bodies")) (h ++ g) := by
  cases names with
  | tup ns =>
    have key := names_eq ds ns
    by_cases c1 : 1 ≤ (ns.length : Int)
    · by_cases c2 : (ns.length : Int) ≤ 12
      · obtain ⟨m1, e1, _, e3⟩ := len_comp (h := h) (src := iTupD (eVar 5)) (t := .nm 7) (cond := bOr (bNot (bVal (eUser 1 m__law_is_word (aCons (eVar 7) aNil)))) (bVal (eOp2 (oIn false) (eVar 7) (eVar 1)))) (el := eVar 7) (vs := [7])
          (σ := duS thing n at_ none ds (.tup ns) bodies) (ds := ns) (fun o => isWord o && !decide (strOf o ∈ namesS ds)) (G := fun _ => True) (by simp) (fun _ => trivial) (Wf.len5 wn) (fun d hd l => by
            have we : Wf (h ++ [.lst l]) d := WfN.app (WfN.mem wn hd)
            have e0' : (h ++ [C.lst l])[n]? = some (.lst ((namesS ds).map D.str)) := by rw [List.getElem?_append_left (List.getElem?_eq_some_iff.mp e0).1]; exact e0
            refine ⟨_, rfl, ?_, ?_⟩
            · simp [wipeD, v_law_is_word we]
              cases d with
              | str s =>
                cases isWord (.str s) with
                | false => simp
                | true =>
                  simp [in_strs (h := h ++ [C.lst l]) (d := .ref n) (s := s) (ss := namesS ds) (by simp only [seqD, e0']), strOf]
                  exact decide_eq_decide.mpr Iff.rfl
              | _ => simp [isWord]
            · simp [wipeD])
        cases q1 : ns.all (fun o => isWord o && !decide (strOf o ∈ namesS ds)) with
        | false =>
          have : namesRes ds (.tup ns) = some ("names" : Str) := by
            simp only [namesRes]
            rw [if_neg fun z => by have := (key.mp z).2.1; rw [q1] at this; cases this]
          rw [this]
          refine ⟨[], ?_⟩
          simp [dueT2, isi_tuple wn, isT, c1, c2]
          rw [e1]
          simp [e3, q1, dueR]
        | true =>
          have ws : ns.all isWord = true := List.all_eq_true.mpr fun o ho => by
            have := List.all_eq_true.mp q1 o ho
            rw [Bool.and_eq_true] at this
            exact this.1
          have ens := words_strs ws
          have un := v_unlike (h := h ++ [.lst ns]) (n := h.length) (ss := ns.map strOf) (by rw [← ens]; exact at_end) (by have := WfN.len wn; simpa using this)
          by_cases nd : (ns.map strOf).Nodup
          · have g1 := key.mpr ⟨⟨c1, c2⟩, q1, nd⟩
            have nm := nin_strs (h := h ++ [.lst ns]) (d := .tup ns) (s := "main") (ss := ns.map strOf) (by simp only [seqD]; rw [← ens])
            by_cases mm : ("main" : Str) ∈ ns.map strOf
            · have nr : namesRes ds (.tup ns) = none := by
                simp only [namesRes]
                rw [if_pos g1, if_pos mm]
              rw [nr]
              rw [decide_eq_true mm] at nm
              have wb2 : Wf (h ++ [.lst ns]) bodies := WfN.app wb
              cases bodies with
              | tup bs =>
                by_cases lb : bs.length = ns.length
                · have lbi : (bs.length : Int) = (ns.length : Int) := by omega
                  obtain ⟨m2, e5, _, e6⟩ := len_comp (h := h ++ [.lst ns]) (src := iTupD (eVar 6)) (t := .nm 7) (cond := bNot (bVal (eOp1 (oIsi "tuple") (eVar 7)))) (el := eVar 7) (vs := [7]) (σ := duS thing n at_ none ds (.tup ns) (.tup bs)) (ds := bs) isT (G := fun _ => True) (by simp) (fun _ => trivial) (Wf.len5 wb) (fun d hd l => by
                    have we : Wf ((h ++ [.lst ns]) ++ [.lst l]) d := WfN.app (WfN.mem wb2 hd)
                    rw [List.append_assoc] at we
                    refine ⟨_, rfl, ?_, ?_⟩
                    · simp [wipeD]
                      simp at we
                      rw [isi_tuple we]
                      rfl
                    · simp [wipeD])
                  cases bt : bs.all isT with
                  | false =>
                    refine ⟨[.lst ns], ?_⟩
                    dsimp only
                    rw [if_neg (fun z => by have := z.2; rw [bt] at this; cases this)]
                    simp [dueT2, isi_tuple wn, isT, c1, c2]
                    rw [e1]
                    simp [e3, q1, list_app, un, nd, nm, isi_tuple wb2, isT, lb]
                    rw [e5]
                    simp [e6, bt, dueR]
                  | true =>
                    obtain ⟨g, e7⟩ := due_3 (thing := thing) (h := h ++ [.lst ns]) (n := n) (at_ := at_) (ds := ds) (ns := ns) (bs := bs) wb2 hz (hc bs rfl) bt
                    refine ⟨.lst ns :: g, ?_⟩
                    dsimp only
                    rw [if_pos ⟨(lbi : _ = lenT (.tup ns)), bt⟩]
                    simp [dueT2, isi_tuple wn, isT, c1, c2]
                    rw [e1]
                    simp [e3, q1, list_app, un, nd, nm, isi_tuple wb2, isT, lb]
                    rw [e5]
                    simp [e6, bt]
                    rw [e7]
                    simp
                    rfl
                · have lbi : ¬ (bs.length : Int) = (ns.length : Int) := by omega
                  refine ⟨[.lst ns], ?_⟩
                  dsimp only
                  rw [if_neg (fun z => lbi z.1)]
                  simp [dueT2, isi_tuple wn, isT, c1, c2]
                  rw [e1]
                  simp [e3, q1, list_app, un, nd, nm, isi_tuple wb2, isT, lb, lbi, dueR]
              | _ =>
                refine ⟨[.lst ns], ?_⟩
                simp [dueT2, isi_tuple wn, isT, c1, c2]
                rw [e1]
                simp [e3, q1, list_app, un, nd, nm, isi_tuple wb2, isT, dueR]
            · have nr : namesRes ds (.tup ns) = some ("main" : Str) := by
                simp only [namesRes]
                rw [if_pos g1, if_neg mm]
              rw [nr]
              rw [decide_eq_false mm] at nm
              refine ⟨[.lst ns], ?_⟩
              simp [dueT2, isi_tuple wn, isT, c1, c2]
              rw [e1]
              simp [e3, q1, list_app, un, nd, nm, dueR, -List.mem_map]
          · have nr : namesRes ds (.tup ns) = some ("names" : Str) := by
              simp only [namesRes]
              rw [if_neg fun z => nd (key.mp z).2.2]
            rw [nr]
            refine ⟨[.lst ns], ?_⟩
            simp [dueT2, isi_tuple wn, isT, c1, c2]
            rw [e1]
            simp [e3, q1, list_app, un, nd, dueR]
      · have nr : namesRes ds (.tup ns) = some ("names" : Str) := by
          simp only [namesRes]
          rw [if_neg fun z => c2 (key.mp z).1.2]
        rw [nr]
        refine ⟨[], ?_⟩
        simp [dueT2, isi_tuple wn, isT, c1, c2, dueR]
    · have nr : namesRes ds (.tup ns) = some ("names" : Str) := by
        simp only [namesRes]
        rw [if_neg fun z => c1 (key.mp z).1.1]
      rw [nr]
      refine ⟨[], ?_⟩
      simp [dueT2, isi_tuple wn, isT, c1, dueR]
  | _ =>
    refine ⟨[], ?_⟩
    simp [dueT2, isi_tuple wn, isT, namesRes, dueR]
theorem due_1 {thing : D} {h : Hs} {n : Nat} {ds : List D} {names bodies : D} (q : deedsOk (.tup ds) = true) (e0 : h[n]? = some (.lst ((namesS ds).map D.str))) (wd : Wf h (.tup ds)) (wn : Wf h names) (wb : Wf h bodies) (hz : nodes bodies ≤ 50000) (hc : ∀ bs, bodies = .tup bs → ∀ x ∈ bs, ∀ a b, bodyOk a b x = true → bodyCnt x < 4000) :
    ∃ g, dueT1 (duS thing n none none ds names bodies) h = .rt (dueR (progR (.tup [.tup ds, names, bodies]))) (h ++ g) := by
  have dall := deeds_all q
  have F := range_loop (s := 2) (B := (sIf (bNot (bVal (eUser 1 m__law_is_form (aCons (eOp2 oIx (eOp2 oIx (eVar 4) (eVar 2)) (eC (.int 1))) aNil)))) (sRet (eTup (aCons (eC (.str "bad")) (aCons (eVar 2) (aCons (eC (.str "form")) aNil))))) sNil))
    (S := fun u => duS thing n u none ds names bodies) (h := h) (E := fun k _ => .rt (.tup [.str "bad", .int (k : Nat), .str "form"]) h) (p := fun d => formD (formOf d)) (fun _ _ => rfl) (fun _ _ _ => rfl) ds 0 none (fun k x e => by
      rw [Nat.zero_add]
      obtain ⟨s, y, rfl⟩ := dall x (List.mem_of_getElem? e)
      have wy : Wf h y := WfN.mem (WfN.mem wd (List.mem_of_getElem? e)) (by simp)
      have ix : oIx (.tup ds) (.int (k : Nat)) h = .ok (.tup [.str s, y]) h := q_ixT (atI_get e)
      refine ⟨fun q => ?_, fun q => ?_⟩
      · simp [formOf] at q
        simp [ix, v_law_is_form wy, q]
      · simp [formOf] at q
        simp [ix, v_law_is_form wy, q])
  have src : iRangeD (aCons (eCall fLen (aCons (eVar 4) aNil)) aNil) (duS thing n none none ds names bodies) h = .ok (Sm.intsFrom 0 ds.length, fun (_ : Hs) => True) h := src_range (by simp) (Wf.len5 wd)
  have run : dueT1 (duS thing n none none ds names bodies) h = (forG (.nm 2) ((sIf (bNot (bVal (eUser 1 m__law_is_form (aCons (eOp2 oIx (eOp2 oIx (eVar 4) (eVar 2)) (eC (.int 1))) aNil)))) (sRet (eTup (aCons (eC (.str "bad")) (aCons (eVar 2) (aCons (eC (.str "form")) aNil))))) sNil)) (fun _ => True) (Sm.intsFrom ((0 : Nat) : Int) ds.length) (duS thing n none none ds names bodies) h).next dueT2 := by
    unfold dueT1
    rw [q_scons, q_for, src]
    rfl
  rw [run]
  cases f1 : firstBad (fun d => formD (formOf d)) 0 ds with
  | some k =>
    obtain ⟨σ, e⟩ := F.2 k f1
    refine ⟨[], ?_⟩
    rw [e]
    have : progR (.tup [.tup ds, names, bodies]) = .bad (k : Nat) "form" := by simp only [progR, q, f1, if_true]
    rw [this]
    simp [dueR]
  | none =>
    obtain ⟨u, e⟩ := F.1 f1
    rw [e, Out.next_nx]
    obtain ⟨g, e2⟩ := due_2 (thing := thing) (at_ := u) (ds := ds) e0 wn wb hz hc
    refine ⟨g, ?_⟩
    rw [e2]
    simp only [progR, q, f1, if_true]
    try (cases namesRes ds names with
      | some w => rfl
      | none => cases bodies <;> rfl)
end Kl

set_option Elab.async false
set_option linter.all false
set_option maxRecDepth 100000
set_option maxHeartbeats 4000000
set_option autoImplicit false
namespace Kl
open PySem PySem.Spec PyProof.Rows L2 Sm
theorem due_0 (T : SS) {h g : Hs} {R : D} {ds : List D} {names bodies : D} (w : Wf h (.tup [.tup ds, names, bodies])) (wd : Wf h (.tup ds)) (nd : (namesS ds).Nodup) (c : ds.all (fun d => isTup 2 d && isWord (nameOf d)) = true) (c40 : ¬ (40 : Int) < (ds.length : Int)) {n1 : Nat}
    (e1 : eTrim (eCall fLen (aCons (eComp (iTupD (eVar 4)) (.nm 7) (bOr (bNot (bVal (eOp1 (oIsi "tuple") (eVar 7)))) (bOr (bVal (eOp2 (oEq true) (eCall fLen (aCons (eVar 7) aNil)) (eC (.int 2)))) (bNot (bVal (eUser 1 m__law_is_word (aCons (eOp2 oIx (eVar 7) (eC (.int 0))) aNil)))))) (eVar 7) [7]) aNil)) [some (.tup [.tup ds, names, bodies]), none, none, none, some (.tup ds), some names, some bodies, none, none] h = .ok (.int (n1 : Nat)) h)
    (e3 : decide (0 < n1) = !ds.all fun d => isTup 2 d && isWord (nameOf d))
    (wc : eComp (iTupD (eVar 4)) (.nm 7) bYes (eOp2 oIx (eVar 7) (eC (.int 0))) [7] [some (.tup [.tup ds, names, bodies]), none, none, none, some (.tup ds), some names, some bodies, none, none] h = .ok (.ref h.length) (h ++ [.lst ((namesS ds).map D.str)]))
    (un : m__law_unlike [.ref h.length] (h ++ [.lst ((namesS ds).map D.str)]) = .ok (.bl (decide (namesS ds).Nodup)) (h ++ [.lst ((namesS ds).map D.str)]))
    (hT : T (duS (.tup [.tup ds, names, bodies]) h.length none none ds names bodies) (h ++ [.lst ((namesS ds).map D.str)]) = .rt R g) :
    bodyF 9 (sCons (sIf (bOr (bNot (bVal (eOp1 (oIsi "tuple") (eVar 0)))) (bVal (eOp2 (oEq true) (eCall fLen (aCons (eVar 0) aNil)) (eC (.int 3))))) (sRet (eTup (aCons (eC (.str "bad")) (aCons (eOp1 oNeg (eC (.int 1))) (aCons (eC (.str "shape")) aNil))))) sNil) (sCons (sTgt (.tp [4, 5, 6]) (eVar 0)) (sCons (sIf (bOr (bNot (bVal (eOp1 (oIsi "tuple") (eVar 4)))) (bOr (bVal (eOp2 oGt (eCall fLen (aCons (eVar 4) aNil)) (eC (.int 40)))) (bVal (eOp2 oGt (eTrim (eCall fLen (aCons (eComp (iTupD (eVar 4)) (.nm 7) (bOr (bNot (bVal (eOp1 (oIsi "tuple") (eVar 7)))) (bOr (bVal (eOp2 (oEq true) (eCall fLen (aCons (eVar 7) aNil)) (eC (.int 2)))) (bNot (bVal (eUser 1 m__law_is_word (aCons (eOp2 oIx (eVar 7) (eC (.int 0))) aNil)))))) (eVar 7) [7]) aNil))) (eC (.int 0)))))) (sRet (eTup (aCons (eC (.str "bad")) (aCons (eOp1 oNeg (eC (.int 1))) (aCons (eC (.str "deeds")) aNil))))) sNil) (sCons (sSet 1 (eComp (iTupD (eVar 4)) (.nm 7) bYes (eOp2 oIx (eVar 7) (eC (.int 0))) [7])) (sCons (sIf (bNot (bVal (eUser 1 m__law_unlike (aCons (eVar 1) aNil)))) (sRet (eTup (aCons (eC (.str "bad")) (aCons (eOp1 oNeg (eC (.int 1))) (aCons (eC (.str "deeds")) aNil))))) sNil) T))))) [.tup [.tup ds, names, bodies]] h = .ok R g := by
  simp [bodyF, isi_tuple w, isi_tuple wd, isT, c40]
  rw [e1]
  simp [e3, c]
  rw [wc]
  simp [un, nd]
  rw [hT]
theorem v_law_program_due {h : Hs} {d : D} (w : Wf h d) (hz : nodes d ≤ 50000) (hc : ∀ ds ns bs, d = .tup [ds, ns, .tup bs] → ∀ x ∈ bs, ∀ a b, bodyOk a b x = true → bodyCnt x < 4000) : m__law_program_due [d] h = .ok (dueR (progR d)) h := by
  cases d with
  | tup xs =>
    by_cases l : xs.length = 3
    · match xs, l with
      | [deeds, names, bodies], _ =>
        have wd : Wf h deeds := WfN.mem w (by simp)
        have wn : Wf h names := WfN.mem w (by simp)
        have wb : Wf h bodies := WfN.mem w (by simp)
        cases deeds with
        | tup ds =>
          obtain ⟨n1, e1, _, e3⟩ := len_comp (h := h) (src := iTupD (eVar 4)) (t := .nm 7) (cond := bOr (bNot (bVal (eOp1 (oIsi "tuple") (eVar 7)))) (bOr (bVal (eOp2 (oEq true) (eCall fLen (aCons (eVar 7) aNil)) (eC (.int 2)))) (bNot (bVal (eUser 1 m__law_is_word (aCons (eOp2 oIx (eVar 7) (eC (.int 0))) aNil)))))) (el := eVar 7) (vs := [7])
            (σ := [some (.tup [.tup ds, names, bodies]), none, none, none, some (.tup ds), some names, some bodies, none, none]) (ds := ds) (fun d => isTup 2 d && isWord (nameOf d)) (G := fun _ => True) (by simp) (fun _ => trivial) (Wf.len5 wd) (fun d hd l => by
              have we : Wf (h ++ [.lst l]) d := WfN.app (WfN.mem wd hd)
              refine ⟨_, rfl, ?_, ?_⟩
              · simp [wipeD, isi_tuple we]
                cases d with
                | tup ys =>
                  by_cases k : ys.length = 2
                  · match ys, k with
                    | [x, y], _ =>
                      have wx : Wf (h ++ [.lst l]) x := WfN.mem we (by simp)
                      simp [isT, isTup, nameOf, v_law_is_word wx]
                  · have k2 : ¬ (ys.length : Int) = 2 := by omega
                    simp [isT, isTup, k, k2]
                | _ => simp [isT, isTup]
              · simp [wipeD])
          by_cases c : ds.all (fun d => isTup 2 d && isWord (nameOf d)) = true ∧ (ds.length : Int) ≤ 40
          · have nm := deeds_names c.1
            have c40 : ¬ (40 : Int) < (ds.length : Int) := by omega
            have lw : (namesS ds).length ≤ 1000 := by have := WfN.len wd; simpa [namesS] using this
            have wc := eComp_all (h := h) (src := iTupD (eVar 4)) (t := .nm 7) (el := eOp2 oIx (eVar 7) (eC (.int 0))) (vs := [7]) (σ := [some (.tup [.tup ds, names, bodies]), none, none, none, some (.tup ds), some names, some bodies, none, none]) (ds := ds) nameOf (G := fun _ => True) (by simp) (fun _ => trivial) (Wf.len5 wd) (fun d hd l => ⟨_, rfl, by
              have := List.all_eq_true.mp c.1 d hd
              rw [Bool.and_eq_true] at this
              obtain ⟨x, y, rfl⟩ := isTup2 this.1
              simp [wipeD, nameOf]⟩)
            rw [nm] at wc
            have un := v_unlike (h := h ++ [.lst ((namesS ds).map D.str)]) at_end lw
            by_cases nd : (namesS ds).Nodup
            · have q : deedsOk (.tup ds) = true := by rw [deeds_eq, c.1, decide_eq_true c.2, decide_eq_true nd]; rfl
              have zb : nodes bodies ≤ 50000 := by simp only [nodes, nodesL] at hz; omega
              obtain ⟨g, e5⟩ := due_1 (thing := .tup [.tup ds, names, bodies]) (h := h ++ [.lst ((namesS ds).map D.str)]) (n := h.length) (ds := ds) (names := names) (bodies := bodies) q at_end (WfN.app wd) (WfN.app wn) (WfN.app wb) zb (fun bs eb => hc _ _ bs (by rw [eb]))
              refine due_app (g := .lst ((namesS ds).map D.str) :: g) ?_
              rw [due_eq]
              refine due_0 dueT1 w wd nd c.1 c40 e1 e3 wc un ?_
              rw [e5, List.append_assoc]
              rfl
            · have q : deedsOk (.tup ds) = false := by rw [deeds_eq, decide_eq_false nd, Bool.and_false, Bool.and_false]
              have : progR (.tup [.tup ds, names, bodies]) = .bad (-1) "deeds" := by simp only [progR, q]; rfl
              rw [this]
              apply due_app (g := [.lst ((namesS ds).map D.str)])
              simp [bodyF, b__law_program_due, N__law_program_due, isi_tuple w, isi_tuple wd, isT, c40]
              rw [e1]
              simp [e3, c.1]
              rw [wc]
              simp [un, nd, dueR]
          · have q : deedsOk (.tup ds) = false := by
              rw [deeds_eq]
              by_cases c1 : ds.all (fun d => isTup 2 d && isWord (nameOf d)) = true
              · have : ¬ (ds.length : Int) ≤ 40 := fun z => c ⟨c1, z⟩
                rw [decide_eq_false this, Bool.false_and, Bool.and_false]
              · rw [Bool.not_eq_true] at c1
                rw [c1, Bool.false_and]
            have : progR (.tup [.tup ds, names, bodies]) = .bad (-1) "deeds" := by simp only [progR, q]; rfl
            rw [this]
            apply due_same
            simp [bodyF, b__law_program_due, N__law_program_due, isi_tuple w, isi_tuple wd, isT]
            by_cases c40 : (40 : Int) < (ds.length : Int)
            · simp [c40, dueR]
            · have c1 : ds.all (fun d => isTup 2 d && isWord (nameOf d)) = false := by
                rw [← Bool.not_eq_true]
                exact fun z => c ⟨z, by omega⟩
              simp [c40]
              rw [e1]
              simp [e3, c1, dueR]
        | _ =>
          apply due_same
          simp [bodyF, b__law_program_due, N__law_program_due, isi_tuple w, isi_tuple wd, isT, dueR, progR]
    · have l2 : ¬ ((xs.length : Int) = 3) := by omega
      have f : progR (.tup xs) = .bad (-1) "shape" := by
        unfold progR
        split
        · rename_i e; cases e; simp at l
        · rename_i e; cases e; simp at l
        · rfl
      apply due_same
      simp [bodyF, b__law_program_due, N__law_program_due, isi_tuple w, isT, l2, f, dueR]
  | _ =>
    apply due_same
    simp [bodyF, b__law_program_due, N__law_program_due, w, isT, dueR, progR]
end Kl

set_option Elab.async false
set_option linter.all false
set_option maxRecDepth 100000
set_option maxHeartbeats 2000000
set_option autoImplicit false
namespace Kl
open PySem PySem.Spec PyProof.Rows L2 Sm
theorem filter_all (p g : D → Bool) : ∀ ds : List D, (ds.filter p).all g = ds.all fun d => !p d || g d
  | [] => rfl
  | d :: ds => by
    rw [List.filter_cons, List.all_cons, ← filter_all p g ds]
    cases p d <;> simp
theorem all_compC {src : IS} {t : Tg} {cond : BS} {el : ES} {vs : List Nat} {σ : Lo} {h : Hs} {ds : List D} {G : Hs → Prop} (p g : D → Bool) (hs : src σ h = .ok (ds, G) h) (hG : ∀ l, G (h ++ [.lst l])) (hl : ds.length ≤ 100000)
    (he : ∀ d ∈ ds, ∀ l, ∃ σ1, t.put d (wipeD σ vs) = some σ1 ∧ cond σ1 (h ++ [.lst l]) = .ok (p d) (h ++ [.lst l]) ∧ (p d = true → el σ1 (h ++ [.lst l]) = .ok (.bl (g d)) (h ++ [.lst l]))) :
    eTrim (eCall fAll (aCons (eComp src t cond el vs) aNil)) σ h = .ok (.bl (ds.all fun d => !p d || g d)) h := by
  rw [q_trim, q_call, q_cons, eComp_map p (fun d => .bl (g d)) hs hG hl he]
  simp only [Res.bind_ok, q_nil, q_allR, gc_bl]
  rw [filter_all]
def nextsOk : D → Bool
  | .tup xs => decide (2 ≤ xs.length) && xs.all isInteger
  | _ => false
def rowOk : D → Bool
  | .tup [w] => isText "return" w
  | .tup [w, x] => isText "choose" w && nextsOk x
  | .tup [w, x, y] => (isText "call" w && (isInteger x && isInteger y)) || (isText "deed" w && (isT x && isInteger y))
  | _ => false
@[simp] theorem ok_choose : okS "choose" = true := by decide +kernel
@[simp] theorem ok_return : okS "return" = true := by decide +kernel
theorem v_are_nexts {h : Hs} {d : D} (w : Wf h d) : m_are_nexts [d] h = .ok (.bl (nextsOk d)) h := by
  apply fn_val
  simp [bodyF, b_are_nexts, N_are_nexts, w]
  cases d with
  | tup xs =>
    by_cases l : 2 ≤ xs.length
    · have li : (2 : Int) ≤ (xs.length : Int) := by omega
      simp [isT, li]
      rw [all_comp isInteger rfl (fun _ => trivial) (Wf.len5 w) (fun d hd l => ⟨_, rfl, by simp [wipeD, v_is_integer (WfN.app (WfN.mem w hd))]⟩)]
      simp [nextsOk, l]
    · have li : ¬ (2 : Int) ≤ (xs.length : Int) := by omega
      simp [isT, li, nextsOk, l]
  | _ => simp [isT, nextsOk]
theorem v_is_row {h : Hs} {d : D} (w : Wf h d) : m_is_row [d] h = .ok (.bl (rowOk d)) h := by
  apply fn_val
  simp [bodyF, b_is_row, N_is_row, w]
  cases d with
  | tup xs =>
    simp [isT]
    match xs, w with
    | [], w => simp [rowOk]
    | x :: r, w =>
      have wx : Wf h x := WfN.mem w (by simp)
      have t1 := v_is_text (s := "choose") wx ok_choose
      have t2 := v_is_text (s := "return") wx ok_return
      have t3 := v_is_text (s := "call") wx ok_call
      have t4 := v_is_text (s := "deed") wx ok_deed
      have nz : ¬ ((r.length : Int) + 1 = 0) := by omega
      simp [t1, nz]
      cases e1 : isText "choose" x with
      | true =>
        have z2 := not_text (t := "return") e1
        have z3 := not_text (t := "call") e1
        have z4 := not_text (t := "deed") e1
        match r, w with
        | [], w => simp [rowOk, e1, z2]
        | [y], w =>
          have wy : Wf h y := WfN.mem w (by simp)
          simp [rowOk, e1, v_are_nexts wy]
        | [y, u], w => simp [rowOk, z3, z4]
        | y :: u :: v :: r, w =>
          have : ¬ ((r.length : Int) + 1 + 1 + 1 + 1 = 2) := by omega
          simp [rowOk, this]
      | false =>
        simp [t2]
        cases e2 : isText "return" x with
        | true =>
          have z3 := not_text (t := "call") e2
          have z4 := not_text (t := "deed") e2
          match r, w with
          | [], w => simp [rowOk, e2]
          | [y], w => simp [rowOk, e1]
          | [y, u], w => simp [rowOk, z3, z4]
          | y :: u :: v :: r, w =>
            have : ¬ ((r.length : Int) + 1 + 1 + 1 + 1 = 1) := by omega
            simp [rowOk, this]
        | false =>
          simp [t3]
          cases e3 : isText "call" x with
          | true =>
            have z4 := not_text (t := "deed") e3
            match r, w with
            | [], w => simp [rowOk, e2]
            | [y], w => simp [rowOk, e1]
            | [y, u], w =>
              have wy : Wf h y := WfN.mem w (by simp)
              have wu : Wf h u := WfN.mem w (by simp)
              simp [rowOk, e3, z4, v_is_integer wy, v_is_integer wu]
              cases isInteger y <;> simp
            | y :: u :: v :: r, w =>
              have : ¬ ((r.length : Int) + 1 + 1 + 1 + 1 = 3) := by omega
              simp [rowOk, this]
          | false =>
            simp [t4]
            cases e4 : isText "deed" x with
            | true =>
              match r, w with
              | [], w => simp [rowOk, e2]
              | [y], w => simp [rowOk, e1]
              | [y, u], w =>
                have wy : Wf h y := WfN.mem w (by simp)
                have wu : Wf h u := WfN.mem w (by simp)
                simp [rowOk, e3, e4, wy, v_is_integer wu]
                cases isT y <;> simp
              | y :: u :: v :: r, w =>
                have : ¬ ((r.length : Int) + 1 + 1 + 1 + 1 = 3) := by omega
                simp [rowOk, this]
            | false =>
              match r, w with
              | [], w => simp [rowOk, e2]
              | [y], w => simp [rowOk, e1]
              | [y, u], w => simp [rowOk, e3, e4]
              | y :: u :: v :: r, w => simp [rowOk]
  | _ => simp [isT, rowOk]
theorem row_cases {d : D} (q : rowOk d = true) : d = .tup [.str "return"] ∨ (∃ xs, d = .tup [.str "choose", .tup xs] ∧ 2 ≤ xs.length ∧ xs.all isInteger = true) ∨ (∃ i j, d = .tup [.str "call", .int i, .int j]) ∨ (∃ f j, d = .tup [.str "deed", .tup f, .int j]) := by
  unfold rowOk at q
  split at q
  · rw [isText_eq q]; exact .inl rfl
  · rename_i w x
    rw [Bool.and_eq_true] at q
    rw [isText_eq q.1]
    cases x with
    | tup xs =>
      simp only [nextsOk, Bool.and_eq_true, decide_eq_true_eq] at q
      exact .inr (.inl ⟨xs, rfl, q.2.1, q.2.2⟩)
    | _ => simp [nextsOk] at q
  · rename_i w x y
    rw [Bool.or_eq_true, Bool.and_eq_true, Bool.and_eq_true, Bool.and_eq_true, Bool.and_eq_true] at q
    rcases q with ⟨a, b, c⟩ | ⟨a, b, c⟩
    · rw [isText_eq a]
      cases x with
      | int i =>
        cases y with
        | int j => exact .inr (.inr (.inl ⟨i, j, rfl⟩))
        | _ => simp [isInteger] at c
      | _ => simp [isInteger] at b
    · rw [isText_eq a]
      cases x with
      | tup f =>
        cases y with
        | int j => exact .inr (.inr (.inr ⟨f, j, rfl⟩))
        | _ => simp [isInteger] at c
      | _ => simp [isT] at b
  · cases q
def hdOf : D → D
  | .tup (w :: _) => w
  | _ => .non
def atOne : D → D
  | .tup (_ :: x :: _) => x
  | _ => .non
def nextsD : D → List D
  | .tup [_, .tup xs] => xs
  | .tup [_, _, j] => [j]
  | _ => []
def rowsRes (many : Int) (rows : List D) : Option Str :=
  if rows.all rowOk = true then (if rows.all (fun r => !isText "deed" (hdOf r) || formD (atOne r)) = true then (if rows.all (fun r => !isText "call" (hdOf r) || isIn 0 (many - 1) (atOne r)) = true then
    (if rows.all (fun r => (nextsD r).all (isIn 0 ((rows.length : Nat) - 1))) = true then none else some ("next" : Str)) else some ("call" : Str)) else some ("form" : Str)) else some ("row" : Str)
@[simp] theorem u_return_deed : (("return" : Str) = "deed") = False := eq_false (by decide +kernel)
@[simp] theorem u_choose_deed : (("choose" : Str) = "deed") = False := eq_false (by decide +kernel)
@[simp] theorem u_return_call : (("return" : Str) = "call") = False := eq_false (by decide +kernel)
@[simp] theorem u_choose_call : (("choose" : Str) = "call") = False := eq_false (by decide +kernel)
@[simp] theorem u_return_choose : (("return" : Str) = "choose") = False := eq_false (by decide +kernel)
@[simp] theorem u_choose_return : (("choose" : Str) = "return") = False := eq_false (by decide +kernel)
@[simp] theorem u_call_choose : (("call" : Str) = "choose") = False := eq_false (by decide +kernel)
@[simp] theorem u_deed_choose : (("deed" : Str) = "choose") = False := eq_false (by decide +kernel)
@[simp] theorem u_call_return : (("call" : Str) = "return") = False := eq_false (by decide +kernel)
@[simp] theorem u_deed_return : (("deed" : Str) = "return") = False := eq_false (by decide +kernel)
@[simp] theorem t_deed_return : isText "deed" (.str "return") = false := by decide +kernel
@[simp] theorem t_deed_choose : isText "deed" (.str "choose") = false := by decide +kernel
@[simp] theorem t_call_return : isText "call" (.str "return") = false := by decide +kernel
@[simp] theorem t_call_choose : isText "call" (.str "choose") = false := by decide +kernel
theorem v_nexts_of {h : Hs} {d : D} (q : rowOk d = true) : m_nexts_of [d] h = .ok (.tup (nextsD d)) h := by
  apply fn_val
  rcases row_cases q with rfl | ⟨xs, rfl, _⟩ | ⟨i, j, rfl⟩ | ⟨f, j, rfl⟩ <;> simp [bodyF, b_nexts_of, N_nexts_of, nextsD]
theorem wf_nexts {h : Hs} {d : D} (w : Wf h d) (q : rowOk d = true) : Wf h (.tup (nextsD d)) ∧ (nextsD d).all isInteger = true := by
  rcases row_cases q with rfl | ⟨xs, rfl, _, q2⟩ | ⟨i, j, rfl⟩ | ⟨f, j, rfl⟩
  · simp [nextsD, Wf, WfN, WfL]
  · exact ⟨WfN.mem w (by simp [nextsD]), q2⟩
  · simp [nextsD, Wf, WfN, WfL, isInteger]
  · simp [nextsD, Wf, WfN, WfL, isInteger]
theorem next_loop {many : Int} {rows : List D} {h : Hs} (w : Wf h (.tup rows)) (q : rows.all rowOk = true) : ∀ (rs : List D) (u v : Option D), (∀ r ∈ rs, r ∈ rows) → ∃ u' v', forG (.nm 2) (sIf (bNot (bVal (eTrim (eCall fAll (aCons (eComp (iTupD (eUser 1 m_nexts_of (aCons (eVar 2) aNil))) (.nm 3) bYes (eUser 3 m_integer_within (aCons (eVar 3) (aCons (eC (.int 0)) (aCons (eOp2 oSub (eCall fLen (aCons (eVar 1) aNil)) (eC (.int 1))) aNil)))) [3]) aNil))))) (sRet (eC (.str "next"))) sNil)
      (fun _ => True) rs [some (.int many), some (.tup rows), u, v] h = if rs.all (fun r => (nextsD r).all (isIn 0 ((rows.length : Nat) - 1))) = true then .nx [some (.int many), some (.tup rows), u', v'] h else .rt (.str "next") h
  | [], u, v, _ => ⟨u, v, by unfold forG; simp⟩
  | r :: rs, u, v, hm => by
    have hr : r ∈ rows := hm r List.mem_cons_self
    have ro := List.all_eq_true.mp q r hr
    obtain ⟨wn, ni⟩ := wf_nexts (WfN.mem w hr) ro
    obtain ⟨u', v', e⟩ := next_loop w q rs (some r) v fun z hz => hm z (List.mem_cons_of_mem _ hz)
    refine ⟨u', v', ?_⟩
    unfold forG
    simp only [q_nm, if_true]
    have c := all_comp (h := h) (src := iTupD (eUser 1 m_nexts_of (aCons (eVar 2) aNil))) (t := .nm 3) (el := eUser 3 m_integer_within (aCons (eVar 3) (aCons (eC (.int 0)) (aCons (eOp2 oSub (eCall fLen (aCons (eVar 1) aNil)) (eC (.int 1))) aNil)))) (vs := [3]) (σ := [some (.int many), some (.tup rows), some r, v]) (ds := nextsD r) (G := fun _ => True) (isIn 0 ((rows.length : Nat) - 1)) (by simp [v_nexts_of ro]) (fun _ => trivial) (Wf.len5 wn)
      (fun d hd l => ⟨_, rfl, by simp [wipeD, v_integer_within (WfN.app (g := [.lst l]) (WfN.mem wn hd))]⟩)
    simp only [List.set_cons_succ, List.set_cons_zero, q_sif, q_not, q_val, c, Res.bind_ok, onR_ok]
    rw [List.all_cons]
    cases (nextsD r).all (isIn 0 ((rows.length : Nat) - 1)) with
    | true => simpa using e
    | false => simp
theorem v_rows_word {h : Hs} {many : Int} {rows : List D} (w : Wf h (.tup rows)) : m_rows_word [.int many, .tup rows] h = .ok (nwD (rowsRes many rows)) h := by
  apply fn_val
  simp [bodyF, b_rows_word, N_rows_word]
  rw [all_comp rowOk rfl (fun _ => trivial) (Wf.len5 w) (fun d hd l => ⟨_, rfl, by simp [wipeD, v_is_row (WfN.app (WfN.mem w hd))]⟩)]
  cases q : rows.all rowOk with
  | false => simp only [rowsRes, q]; simp [nwD]
  | true =>
    simp
    rw [all_compC (fun r => isText "deed" (hdOf r)) (fun r => formD (atOne r)) rfl (fun _ => trivial) (Wf.len5 w) (fun d hd l => ⟨_, rfl, by
      have wd := WfN.app (g := [.lst l]) (WfN.mem w hd)
      rcases row_cases (List.all_eq_true.mp q d hd) with rfl | ⟨xs, rfl, _⟩ | ⟨i, j, rfl⟩ | ⟨f, j, rfl⟩
      · simp [wipeD, hdOf]
      · simp [wipeD, hdOf]
      · simp [wipeD, hdOf]
      · have wf : Wf (h ++ [.lst l]) (.tup f) := WfN.mem wd (by simp)
        simp [wipeD, hdOf, atOne, v_is_deed_form wf]⟩)]
    cases q2 : rows.all (fun r => !isText "deed" (hdOf r) || formD (atOne r)) with
    | false => simp only [rowsRes, q, q2]; simp [nwD]
    | true =>
      simp
      rw [all_compC (fun r => isText "call" (hdOf r)) (fun r => isIn 0 (many - 1) (atOne r)) rfl (fun _ => trivial) (Wf.len5 w) (fun d hd l => ⟨_, rfl, by
        have wd := WfN.app (g := [.lst l]) (WfN.mem w hd)
        rcases row_cases (List.all_eq_true.mp q d hd) with rfl | ⟨xs, rfl, _⟩ | ⟨i, j, rfl⟩ | ⟨f, j, rfl⟩
        · simp [wipeD, hdOf]
        · simp [wipeD, hdOf]
        · have wi : Wf (h ++ [.lst l]) (.int i) := WfN.mem wd (by simp)
          simp [wipeD, hdOf, atOne, v_integer_within wi]
        · simp [wipeD, hdOf]⟩)]
      cases q3 : rows.all (fun r => !isText "call" (hdOf r) || isIn 0 (many - 1) (atOne r)) with
      | false => simp only [rowsRes, q, q2, q3]; simp [nwD]
      | true =>
        simp
        obtain ⟨u', v', e⟩ := next_loop (many := many) w q rows none none fun _ z => z
        rw [e]
        cases q4 : rows.all (fun r => (nextsD r).all (isIn 0 ((rows.length : Nat) - 1))) with
        | false => simp only [rowsRes, q, q2, q3, q4]; simp [nwD]
        | true => simp only [rowsRes, q, q2, q3, q4]; simp [nwD]
end Kl

set_option Elab.async false
set_option linter.all false
set_option maxRecDepth 100000
set_option maxHeartbeats 2000000
set_option autoImplicit false
namespace Kl
open PySem PySem.Spec PyProof.Rows L2 Sm
def firstW (p : D → Option Str) : Nat → List D → Option (Nat × Str)
  | _, [] => none
  | i, x :: xs => match p x with
    | some w => some (i, w)
    | none => firstW p (i + 1) xs
def rowsW (many : Int) : D → Option Str
  | .tup rows => rowsRes many rows
  | _ => none
def rowsShape (r : D) : Bool := isT r && decide (0 < lenT r)
def lenN : D → Nat
  | .tup xs => xs.length
  | _ => 0
def codeR : D → PR
  | .tup xs => if 1 ≤ (xs.length : Int) ∧ (xs.length : Int) ≤ 12 ∧ xs.all rowsShape = true then (match firstW (rowsW (xs.length : Nat)) 0 xs with
      | some (i, w) => .bad (i : Nat) w
      | none => .told ((xs.map lenN).sum : Nat)) else .bad (-1) "shape"
  | _ => .bad (-1) "shape"
def checkedC (h : Hs) : PR → Res D
  | .told n => .ok (.int n) h
  | .bad i w => .exc "BadCode" [("word", .str w), ("at", .int i)] h
theorem chkC_val {N : Nat} {s : SS} {ds : List D} {h : Hs} {r : PR} (e : bodyF N s ds h = checkedC h r) : fnF N s ds h = checkedC h r := by
  cases r with
  | told n => exact fn_val e
  | bad i w => exact fn_exc e
theorem code_loop {thing : D} {xs : List D} {h : Hs} (et : thing = .tup xs) (w : Wf h thing) : ∀ (rs : List D) (i : Nat) (u v x : Option D), (∀ r ∈ rs, r ∈ xs ∧ isT r = true) → ∃ u' v' x', forG (.tp [1, 2]) (sCons (sSet 3 (eUser 2 m_rows_word (aCons (eCall fLen (aCons (eVar 0) aNil)) (aCons (eVar 2) aNil)))) (sIf (bVal (eOp2 (oIsN true) (eVar 3) (eC .non))) (sRaise "BadCode" ["at", "word"] (aCons (eVar 1) (aCons (eVar 3) aNil))) sNil))
      (fun _ => True) (pairsFrom i rs) [some thing, u, v, x] h = match firstW (rowsW (xs.length : Nat)) i rs with
        | none => .nx [some thing, u', v', x'] h
        | some (k, w) => .exc "BadCode" [("word", .str w), ("at", .int (k : Nat))] [some thing, u', v', x'] h
  | [], i, u, v, x, _ => ⟨u, v, x, by unfold pairsFrom forG firstW; simp⟩
  | r :: rs, i, u, v, x, hm => by
    obtain ⟨hr, ht⟩ := hm r List.mem_cons_self
    subst et
    cases r with
    | tup rows =>
      have wr := v_rows_word (many := (xs.length : Nat)) (WfN.mem w hr)
      unfold pairsFrom forG firstW
      cases q : rowsRes (xs.length : Nat) rows with
      | some s =>
        refine ⟨some (.int (i : Nat)), some (.tup rows), some (.str s), ?_⟩
        rw [q] at wr
        simp [wr, nwD, oIsN, rowsW, q]
      | none =>
        obtain ⟨u', v', x', e⟩ := code_loop rfl w rs (i + 1) (some (.int (i : Nat))) (some (.tup rows)) (some .non) fun z hz => hm z (List.mem_cons_of_mem _ hz)
        refine ⟨u', v', x', ?_⟩
        rw [q] at wr
        simp [wr, nwD, oIsN, rowsW, q]
        simpa using e
    | _ => simp [isT] at ht
theorem v_check_code {h : Hs} {d : D} (w : Wf h d) : m_check_code [d] h = checkedC h (codeR d) := by
  apply chkC_val
  simp [bodyF, b_check_code, N_check_code, w]
  cases d with
  | tup xs =>
    by_cases c1 : 1 ≤ (xs.length : Int)
    · by_cases c2 : (xs.length : Int) ≤ 12
      · simp [isT, c1, c2]
        rw [all_comp rowsShape rfl (fun _ => trivial) (Wf.len5 w) (fun d hd l => ⟨_, rfl, by
          have wd := WfN.app (g := [.lst l]) (WfN.mem w hd)
          have := isi_tuple wd
          simp [wipeD, this]
          cases d <;> simp [isT, rowsShape, lenT]⟩)]
        cases q : xs.all rowsShape with
        | false =>
          have : codeR (.tup xs) = .bad (-1) "shape" := by
            simp only [codeR]
            rw [if_neg fun z => by have := z.2.2; rw [q] at this; cases this]
          simp [this, checkedC]
        | true =>
          have all : ∀ r ∈ xs, r ∈ xs ∧ isT r = true := fun r hr => ⟨hr, by
            have := List.all_eq_true.mp q r hr
            unfold rowsShape at this
            exact (Bool.and_eq_true_iff.mp this).1⟩
          obtain ⟨u', v', x', e⟩ := code_loop rfl w xs 0 none none none all
          have cr : codeR (.tup xs) = (match firstW (rowsW (xs.length : Nat)) 0 xs with
              | some (i, w) => .bad (i : Nat) w
              | none => .told ((xs.map lenN).sum : Nat)) := by
            simp only [codeR]
            rw [if_pos ⟨c1, c2, q⟩]
          rw [cr]
          simp
          rw [e]
          cases f : firstW (rowsW (xs.length : Nat)) 0 xs with
          | some p =>
            obtain ⟨k, s⟩ := p
            simp [checkedC]
          | none =>
            simp
            rw [sum_comp (fun r => ((lenN r : Nat) : Int)) rfl (fun _ => trivial) (Wf.len5 w) (fun d hd l => ⟨_, rfl, by
              have := (all d hd).2
              cases d with
              | tup rows => simp [wipeD, lenN]
              | _ => simp [isT] at this⟩)]
            rw [sum_cast]
            simp [checkedC]
      · have : codeR (.tup xs) = .bad (-1) "shape" := by
          simp only [codeR]
          rw [if_neg fun z => c2 z.2.1]
        simp [isT, c1, c2, this, checkedC]
    · have : codeR (.tup xs) = .bad (-1) "shape" := by
        simp only [codeR]
        rw [if_neg fun z => c1 z.1]
      simp [isT, c1, this, checkedC]
  | _ => simp [isT, codeR, checkedC]
theorem v_law_row_word {h : Hs} {d : D} (w : Wf h d) : m__law_row_word [d] h = .ok (.bl (rowOk d)) h := by
  apply fn_val
  simp [bodyF, b__law_row_word, N__law_row_word, w]
  cases d with
  | tup xs =>
    simp [isT]
    match xs, w with
    | [], w => simp [rowOk]
    | x :: r, w =>
      have wx : Wf h x := WfN.mem w (by simp)
      have nz : ¬ ((r.length : Int) + 1 = 0) := by omega
      simp [wx, nz]
      cases x with
      | str s =>
        have os : okS s = true := by simpa only [Wf, WfN] using wx
        simp [isS]
        by_cases e1 : s = "return"
        · subst e1
          match r, w with
          | [], w => simp [rowOk, isText]
          | [y], w => simp [rowOk, isText]
          | [y, u], w => simp [rowOk, isText]
          | y :: u :: v :: r, w =>
            have : ¬ ((r.length : Int) + 1 + 1 + 1 + 1 = 1) := by omega
            simp [rowOk, this]
        · by_cases e2 : s = "choose"
          · subst e2
            match r, w with
            | [], w => simp [rowOk, isText]
            | [y], w =>
              have wy : Wf h y := WfN.mem w (by simp)
              simp [wy]
              cases y with
              | tup ns =>
                by_cases l2 : 1 < ns.length
                · obtain ⟨n, e5, e6, _⟩ := len_comp (h := h) (src := iTupD (eOp2 oIx (eVar 0) (eC (.int 1)))) (t := .nm 1) (cond := bOr (bNot (bVal (eOp1 (oIsi "int") (eVar 1)))) (bVal (eOp1 (oIsi "bool") (eVar 1)))) (el := eVar 1) (vs := [1]) (σ := [some (.tup [.str "choose", .tup ns]), none]) (ds := ns) isInteger (G := fun _ => True) (by simp) (fun _ => trivial) (Wf.len5 wy) (fun d hd l => by
                    refine ⟨_, rfl, ?_, ?_⟩
                    · have wd : Wf (h ++ [.lst l]) d := WfN.app (WfN.mem wy hd)
                      simp [wipeD, wd]
                      cases d <;> simp [isI, isB, isInteger]
                    · simp [wipeD])
                  have l2i : (1 : Int) < (ns.length : Int) := by omega
                  have l3 : 2 ≤ ns.length := l2
                  simp [isT, l2i]
                  rw [e5]
                  simp [e6, rowOk, isText, nextsOk, l3]
                · have l2i : ¬ (1 : Int) < (ns.length : Int) := by omega
                  have l3 : ¬ 2 ≤ ns.length := l2
                  simp [isT, l2i, rowOk, isText, nextsOk, l3]
              | _ => simp [isT, rowOk, isText, nextsOk]
            | [y, u], w => simp [rowOk, isText]
            | y :: u :: v :: r, w =>
              have : ¬ ((r.length : Int) + 1 + 1 + 1 + 1 = 2) := by omega
              simp [rowOk, this]
          · simp [q_eqS os, e1, e2]
            match r, w with
            | [], w => simp [rowOk, isText, e1]
            | [y], w => simp [rowOk, isText, e2]
            | [y, u], w =>
              have wy : Wf h y := WfN.mem w (by simp)
              have wu : Wf h u := WfN.mem w (by simp)
              simp [wu, rowOk, isText]
              cases u with
              | int j =>
                simp [isI, isB, isInteger]
                by_cases e3 : s = "deed"
                · subst e3
                  simp [wy]
                  cases isT y <;> simp
                · by_cases e4 : s = "call"
                  · subst e4
                    simp [wy]
                    cases y <;> simp [isI, isB, isInteger]
                  · simp [q_eqS os, e3, e4]
              | _ => simp [isI, isB, isInteger]
            | y :: u :: v :: r, w =>
              have : ¬ ((r.length : Int) + 1 + 1 + 1 + 1 = 3) := by omega
              simp [rowOk, this]
      | _ =>
        match r, w with
        | [], w => simp [isS, rowOk, isText]
        | [y], w => simp [isS, rowOk, isText]
        | [y, u], w => simp [isS, rowOk, isText]
        | y :: u :: v :: r, w => simp [isS, rowOk]
  | _ => simp [isT, rowOk]
end Kl

set_option Elab.async false
set_option linter.all false
set_option maxRecDepth 100000
set_option maxHeartbeats 4000000
set_option autoImplicit false
namespace Kl
open PySem PySem.Spec PyProof.Rows L2 Sm
noncomputable def cdI : SS := (sCons (sSet 4 (eIf (bVal (eOp2 (oEq false) (eOp2 oIx (eVar 3) (eC (.int 0))) (eC (.str "choose")))) (eOp2 oIx (eVar 3) (eC (.int 1))) (eSl (eVar 3) (onPart (eC (.int 2))) noPart)))
  (sIf (bVal (eOp2 oGt (eTrim (eCall fLen (aCons (eComp (iTupD (eVar 4)) (.nm 5) (bNot (bVal (eChain oLe oLt (eC (.int 0)) (eVar 5) (eCall fLen (aCons (eVar 2) aNil))))) (eVar 5) [5]) aNil))) (eC (.int 0)))) (sRet (eTup (aCons (eC (.str "bad")) (aCons (eVar 1) (aCons (eC (.str "next")) aNil))))) sNil))
noncomputable def cdO : SS := sCons (sSet 2 (eOp2 oIx (eVar 0) (eVar 1))) (sCons (sIf (bVal (eOp2 oGt (eTrim (eCall fLen (aCons (eComp (iTupD (eVar 2)) (.nm 3) (bNot (bVal (eUser 1 m__law_row_word (aCons (eVar 3) aNil)))) (eVar 3) [3]) aNil))) (eC (.int 0)))) (sRet (eTup (aCons (eC (.str "bad")) (aCons (eVar 1) (aCons (eC (.str "row")) aNil))))) sNil) (sCons (sIf (bVal (eOp2 oGt (eTrim (eCall fLen (aCons (eComp (iTupD (eVar 2)) (.nm 3) (bAnd (bVal (eOp2 (oEq false) (eOp2 oIx (eVar 3) (eC (.int 0))) (eC (.str "deed")))) (bNot (bVal (eUser 1 m__law_is_form (aCons (eOp2 oIx (eVar 3) (eC (.int 1))) aNil))))) (eVar 3) [3]) aNil))) (eC (.int 0)))) (sRet (eTup (aCons (eC (.str "bad")) (aCons (eVar 1) (aCons (eC (.str "form")) aNil))))) sNil) (sCons (sIf (bVal (eOp2 oGt (eTrim (eCall fLen (aCons (eComp (iTupD (eVar 2)) (.nm 3) (bAnd (bVal (eOp2 (oEq false) (eOp2 oIx (eVar 3) (eC (.int 0))) (eC (.str "call")))) (bNot (bVal (eChain oLe oLt (eC (.int 0)) (eOp2 oIx (eVar 3) (eC (.int 1))) (eCall fLen (aCons (eVar 0) aNil)))))) (eVar 3) [3]) aNil))) (eC (.int 0)))) (sRet (eTup (aCons (eC (.str "bad")) (aCons (eVar 1) (aCons (eC (.str "call")) aNil))))) sNil) (sFor (iTupD (eVar 2)) (.nm 3) cdI))))
theorem cd_eq : b__law_code_due = sCons (sIf (bOr (bNot (bVal (eOp1 (oIsi "tuple") (eVar 0)))) (bOr (bNot (bVal (eChain oLe oLe (eC (.int 1)) (eCall fLen (aCons (eVar 0) aNil)) (eC (.int 12))))) (bVal (eOp2 oGt (eTrim (eCall fLen (aCons (eComp (iTupD (eVar 0)) (.nm 2) (bOr (bNot (bVal (eOp1 (oIsi "tuple") (eVar 2)))) (bVal (eOp2 (oEq false) (eCall fLen (aCons (eVar 2) aNil)) (eC (.int 0))))) (eVar 2) [2]) aNil))) (eC (.int 0)))))) (sRet (eTup (aCons (eC (.str "bad")) (aCons (eOp1 oNeg (eC (.int 1))) (aCons (eC (.str "shape")) aNil))))) sNil) (sCons (sFor (iRangeD (aCons (eCall fLen (aCons (eVar 0) aNil)) aNil)) (.nm 1) cdO) (sRet (eTup (aCons (eC (.str "told")) (aCons (eTrim (eCall fSum (aCons (eComp (iTupD (eVar 0)) (.nm 2) bYes (eCall fLen (aCons (eVar 2) aNil)) [2]) aNil))) aNil))))) := rfl
theorem cut_r {h : Hs} (x : D) : oSl (.tup [x]) (some 2) none h = .ok (.tup []) h := rfl
theorem cut_j {h : Hs} (x y j : D) : oSl (.tup [x, y, j]) (some 2) none h = .ok (.tup [j]) h := rfl
theorem isIn_lt {n : Nat} (i : Int) : isIn 0 ((n : Int) - 1) (.int i) = (decide (0 ≤ i) && decide (i < (n : Int))) := by
  simp only [isIn]
  rw [Bool.eq_iff_iff]
  simp only [Bool.and_eq_true, decide_eq_true_eq]
  omega
theorem cd_inner {thing : D} {k : Nat} {rows : List D} {h : Hs} (w : Wf h (.tup rows)) (q : rows.all rowOk = true) : ∀ (rs : List D) (u v x : Option D), (∀ r ∈ rs, r ∈ rows) → ∃ u' v' x', forG (.nm 3) cdI
      (fun _ => True) rs [some thing, some (.int (k : Nat)), some (.tup rows), u, v, x] h = if rs.all (fun r => (nextsD r).all (isIn 0 ((rows.length : Nat) - 1))) = true then .nx [some thing, some (.int (k : Nat)), some (.tup rows), u', v', x'] h else .rt (.tup [.str "bad", .int (k : Nat), .str "next"]) h
  | [], u, v, x, _ => ⟨u, v, x, by unfold forG; simp⟩
  | r :: rs, u, v, x, hm => by
    have hr : r ∈ rows := hm r List.mem_cons_self
    have ro := List.all_eq_true.mp q r hr
    obtain ⟨wn, ni⟩ := wf_nexts (WfN.mem w hr) ro
    obtain ⟨u', v', x', e⟩ := cd_inner w q rs (some r) (some (.tup (nextsD r))) x fun z hz => hm z (List.mem_cons_of_mem _ hz)
    refine ⟨u', v', x', ?_⟩
    obtain ⟨n, c1, _, c3⟩ := len_comp (h := h) (src := iTupD (eVar 4)) (t := .nm 5) (cond := bNot (bVal (eChain oLe oLt (eC (.int 0)) (eVar 5) (eCall fLen (aCons (eVar 2) aNil))))) (el := eVar 5) (vs := [5]) (σ := [some thing, some (.int (k : Nat)), some (.tup rows), some r, some (.tup (nextsD r)), x]) (ds := nextsD r) (G := fun _ => True) (isIn 0 ((rows.length : Nat) - 1)) (by simp) (fun _ => trivial) (Wf.len5 wn)
      (fun d hd l => by
        have di := List.all_eq_true.mp ni d hd
        cases d with
        | int i =>
          refine ⟨_, rfl, ?_, ?_⟩
          · rw [isIn_lt]
            simp [wipeD]
            cases decide (0 ≤ i) <;> simp
          · simp [wipeD]
        | _ => simp [isInteger] at di)
    have st : (sSet 4 (eIf (bVal (eOp2 (oEq false) (eOp2 oIx (eVar 3) (eC (.int 0))) (eC (.str "choose")))) (eOp2 oIx (eVar 3) (eC (.int 1))) (eSl (eVar 3) (onPart (eC (.int 2))) noPart))) [some thing, some (.int (k : Nat)), some (.tup rows), some r, v, x] h = .nx [some thing, some (.int (k : Nat)), some (.tup rows), some r, some (.tup (nextsD r)), x] h := by
      rcases row_cases ro with rfl | ⟨xs, rfl, _⟩ | ⟨i, j, rfl⟩ | ⟨f, j, rfl⟩ <;> simp [nextsD, cut_r, cut_j]
    unfold forG cdI
    simp only [q_nm, if_true, List.set_cons_succ, List.set_cons_zero, q_scons, st, Out.next_nx, q_sif, q_val, q_op2, c1, Res.bind_ok, q_c, q_gt, onR_ok]
    rw [List.all_cons]
    have c4 : decide (0 < (n : Int)) = !(nextsD r).all (isIn 0 ((rows.length : Nat) - 1)) := by
      rw [← c3]
      exact decide_eq_decide.mpr (by omega)
    rw [c4]
    cases (nextsD r).all (isIn 0 ((rows.length : Nat) - 1)) with
    | true => simpa [cdI] using e
    | false => simp
theorem all_or (p q : D → Bool) (ds : List D) : (ds.all fun d => !(p d && !q d)) = ds.all fun d => !p d || q d := by
  congr 1
  funext d
  cases p d <;> cases q d <;> rfl
theorem cd_outer {thing : D} {xs : List D} {k : Nat} {rows : List D} {h : Hs} {u v x y : Option D} (et : thing = .tup xs) (e : xs[k]? = some (.tup rows)) (w : Wf h thing) : ∃ u' v' x', cdO [some thing, some (.int (k : Nat)), y, u, v, x] h = match rowsRes (xs.length : Nat) rows with
    | none => .nx [some thing, some (.int (k : Nat)), some (.tup rows), u', v', x'] h
    | some s => .rt (.tup [.str "bad", .int (k : Nat), .str s]) h := by
  subst et
  have wr : Wf h (.tup rows) := WfN.mem w (List.mem_of_getElem? e)
  have ix : oIx (.tup xs) (.int (k : Nat)) h = .ok (.tup rows) h := q_ixT (atI_get e)
  obtain ⟨n1, c1, _, c3⟩ := len_comp (h := h) (src := iTupD (eVar 2)) (t := .nm 3) (cond := bNot (bVal (eUser 1 m__law_row_word (aCons (eVar 3) aNil)))) (el := eVar 3) (vs := [3]) (σ := [some (.tup xs), some (.int (k : Nat)), some (.tup rows), u, v, x]) (ds := rows) (G := fun _ => True) rowOk (by simp) (fun _ => trivial) (Wf.len5 wr)
      (fun d hd l => ⟨_, rfl, by simp [wipeD, v_law_row_word (WfN.app (g := [.lst l]) (WfN.mem wr hd))], by simp [wipeD]⟩)
  have gt0 : ∀ {n : Nat} {b : Bool}, decide (0 < n) = b → decide ((0 : Int) < (n : Int)) = b := fun {n b} z => by
    rw [← z]
    exact decide_eq_decide.mpr (by omega)
  unfold cdO
  simp only [q_scons, q_set, q_op2, q_var, List.getElem?_cons_zero, List.getElem?_cons_succ, Res.bind_ok, ix, onR_ok, List.set_cons_succ, List.set_cons_zero, Out.next_nx, q_sif, q_val, c1, q_c, q_gt, gt0 c3]
  cases q : rows.all rowOk with
  | false =>
    refine ⟨u, v, x, ?_⟩
    simp [rowsRes, q, -List.all_eq_true]
  | true =>
    obtain ⟨n2, d1, _, d3⟩ := len_comp (h := h) (src := iTupD (eVar 2)) (t := .nm 3) (cond := bAnd (bVal (eOp2 (oEq false) (eOp2 oIx (eVar 3) (eC (.int 0))) (eC (.str "deed")))) (bNot (bVal (eUser 1 m__law_is_form (aCons (eOp2 oIx (eVar 3) (eC (.int 1))) aNil))))) (el := eVar 3) (vs := [3]) (σ := [some (.tup xs), some (.int (k : Nat)), some (.tup rows), u, v, x]) (ds := rows) (G := fun _ => True)
      (fun r => !(isText "deed" (hdOf r) && !formD (atOne r))) (by simp) (fun _ => trivial) (Wf.len5 wr) (fun d hd l => by
        have wd := WfN.app (g := [.lst l]) (WfN.mem wr hd)
        refine ⟨_, rfl, ?_, by simp [wipeD]⟩
        rcases row_cases (List.all_eq_true.mp q d hd) with rfl | ⟨ys, rfl, _⟩ | ⟨i, j, rfl⟩ | ⟨f, j, rfl⟩
        · simp [wipeD, hdOf]
        · simp [wipeD, hdOf]
        · simp [wipeD, hdOf]
        · have wf : Wf (h ++ [.lst l]) (.tup f) := WfN.mem wd (by simp)
          simp [wipeD, hdOf, atOne, v_law_is_form wf])
    rw [all_or] at d3
    simp only [Bool.not_true, Bool.false_eq_true, if_false, q_snil, Out.next_nx, q_sif, q_scons, q_val, q_op2, d1, q_c, Res.bind_ok, q_gt, gt0 d3, onR_ok]
    cases q2 : rows.all (fun r => !isText "deed" (hdOf r) || formD (atOne r)) with
    | false =>
      refine ⟨u, v, x, ?_⟩
      simp [rowsRes, q, q2, -List.all_eq_true]
    | true =>
      obtain ⟨n3, f1, _, f3⟩ := len_comp (h := h) (src := iTupD (eVar 2)) (t := .nm 3) (cond := bAnd (bVal (eOp2 (oEq false) (eOp2 oIx (eVar 3) (eC (.int 0))) (eC (.str "call")))) (bNot (bVal (eChain oLe oLt (eC (.int 0)) (eOp2 oIx (eVar 3) (eC (.int 1))) (eCall fLen (aCons (eVar 0) aNil)))))) (el := eVar 3) (vs := [3]) (σ := [some (.tup xs), some (.int (k : Nat)), some (.tup rows), u, v, x]) (ds := rows) (G := fun _ => True)
        (fun r => !(isText "call" (hdOf r) && !isIn 0 ((xs.length : Nat) - 1) (atOne r))) (by simp) (fun _ => trivial) (Wf.len5 wr) (fun d hd l => by
          refine ⟨_, rfl, ?_, by simp [wipeD]⟩
          rcases row_cases (List.all_eq_true.mp q d hd) with rfl | ⟨ys, rfl, _⟩ | ⟨i, j, rfl⟩ | ⟨f, j, rfl⟩
          · simp [wipeD, hdOf]
          · simp [wipeD, hdOf]
          · simp only [hdOf, atOne, isIn_lt]
            simp [wipeD]
            cases decide (0 ≤ i) <;> simp
          · simp [wipeD, hdOf])
      rw [all_or] at f3
      simp only [Bool.not_true, Bool.false_eq_true, if_false, q_snil, Out.next_nx, q_sif, q_scons, q_val, q_op2, f1, q_c, Res.bind_ok, q_gt, gt0 f3, onR_ok]
      cases q3 : rows.all (fun r => !isText "call" (hdOf r) || isIn 0 ((xs.length : Nat) - 1) (atOne r)) with
      | false =>
        refine ⟨u, v, x, ?_⟩
        simp [rowsRes, q, q2, q3, -List.all_eq_true]
      | true =>
        obtain ⟨u', v', x', e4⟩ := cd_inner (thing := .tup xs) (k := k) wr q rows u v x fun _ z => z
        refine ⟨u', v', x', ?_⟩
        simp only [Bool.not_true, Bool.false_eq_true, if_false, q_snil, Out.next_nx, q_for, q_itup, q_var, List.getElem?_cons_zero, List.getElem?_cons_succ, Res.bind_ok, onR_ok]
        rw [e4]
        cases q4 : rows.all (fun r => (nextsD r).all (isIn 0 ((rows.length : Nat) - 1))) <;> simp [rowsRes, q, q2, q3, q4, -List.all_eq_true]
end Kl

set_option Elab.async false
set_option linter.all false
set_option maxRecDepth 100000
set_option maxHeartbeats 4000000
set_option autoImplicit false
namespace Kl
open PySem PySem.Spec PyProof.Rows L2 Sm
theorem cd_loop {thing : D} {xs : List D} {h : Hs} (et : thing = .tup xs) (w : Wf h thing) : ∀ (rs : List D) (i : Nat) (y z u v x : Option D), (∀ k r, rs[k]? = some r → xs[i + k]? = some r ∧ isT r = true) → ∃ y' z' u' v' x', forG (.nm 1) cdO (fun _ => True) (Sm.intsFrom (i : Int) rs.length) [some thing, y, z, u, v, x] h = match firstW (rowsW (xs.length : Nat)) i rs with
    | none => .nx [some thing, y', z', u', v', x'] h
    | some (k, s) => .rt (.tup [.str "bad", .int (k : Nat), .str s]) h
  | [], i, y, z, u, v, x, _ => ⟨y, z, u, v, x, by show forG _ _ _ [] _ _ = _; unfold forG firstW; simp⟩
  | r :: rs, i, y, z, u, v, x, hm => by
    obtain ⟨hr, ht⟩ := hm 0 r rfl
    rw [Nat.add_zero] at hr
    cases r with
    | tup rows =>
      obtain ⟨u1, v1, x1, e1⟩ := cd_outer (u := u) (v := v) (x := x) (y := z) et hr w
      rw [List.length_cons, ints_cons, show ((i : Int) + 1) = ((i + 1 : Nat) : Int) from by omega]
      unfold forG firstW
      simp only [q_nm, if_true, List.set_cons_succ, List.set_cons_zero, e1, rowsW]
      cases q : rowsRes (xs.length : Nat) rows with
      | some s => exact ⟨y, z, u, v, x, by simp⟩
      | none =>
        obtain ⟨y', z', u', v', x', e⟩ := cd_loop et w rs (i + 1) (some (.int (i : Nat))) (some (.tup rows)) u1 v1 x1 fun k r' hk => by
          have := hm (k + 1) r' (by simpa using hk)
          rw [show i + (k + 1) = i + 1 + k from by omega] at this
          exact this
        exact ⟨y', z', u', v', x', by simpa using e⟩
    | _ => simp [isT] at ht
def outR : Out → Res D
  | .rt d h' => .ok d h'
  | .nx _ h' => .ok .non h'
  | .exc c fs _ h' => .exc c fs h'
  | _ => .bad
theorem cdue_0 (L : SS) {xs : List D} {h : Hs} {n : Nat} {o : Out} (w : Wf h (.tup xs)) (c1 : 1 ≤ (xs.length : Int)) (c2 : (xs.length : Int) ≤ 12)
    (e1 : eTrim (eCall fLen (aCons (eComp (iTupD (eVar 0)) (.nm 2) (bOr (bNot (bVal (eOp1 (oIsi "tuple") (eVar 2)))) (bVal (eOp2 (oEq false) (eCall fLen (aCons (eVar 2) aNil)) (eC (.int 0))))) (eVar 2) [2]) aNil)) [some (.tup xs), none, none, none, none, none] h = .ok (.int (n : Nat)) h) (e3 : decide (0 < n) = false)
    (hL : L [some (.tup xs), none, none, none, none, none] h = o) : bodyF 6 (sCons (sIf (bOr (bNot (bVal (eOp1 (oIsi "tuple") (eVar 0)))) (bOr (bNot (bVal (eChain oLe oLe (eC (.int 1)) (eCall fLen (aCons (eVar 0) aNil)) (eC (.int 12))))) (bVal (eOp2 oGt (eTrim (eCall fLen (aCons (eComp (iTupD (eVar 0)) (.nm 2) (bOr (bNot (bVal (eOp1 (oIsi "tuple") (eVar 2)))) (bVal (eOp2 (oEq false) (eCall fLen (aCons (eVar 2) aNil)) (eC (.int 0))))) (eVar 2) [2]) aNil))) (eC (.int 0)))))) (sRet (eTup (aCons (eC (.str "bad")) (aCons (eOp1 oNeg (eC (.int 1))) (aCons (eC (.str "shape")) aNil))))) sNil) (sCons L (sRet (eTup (aCons (eC (.str "told")) (aCons (eTrim (eCall fSum (aCons (eComp (iTupD (eVar 0)) (.nm 2) bYes (eCall fLen (aCons (eVar 2) aNil)) [2]) aNil))) aNil)))))) [.tup xs] h = outR (o.next (sRet (eTup (aCons (eC (.str "told")) (aCons (eTrim (eCall fSum (aCons (eComp (iTupD (eVar 0)) (.nm 2) bYes (eCall fLen (aCons (eVar 2) aNil)) [2]) aNil))) aNil))))) := by
  subst hL
  simp [bodyF, isi_tuple w, isT, c1, c2]
  rw [e1]
  simp at e3
  simp [e3]
  rfl
theorem v_law_code_due {h : Hs} {d : D} (w : Wf h d) : m__law_code_due [d] h = .ok (dueR (codeR d)) h := by
  cases d with
  | tup xs =>
    by_cases c1 : 1 ≤ (xs.length : Int)
    · by_cases c2 : (xs.length : Int) ≤ 12
      · obtain ⟨n, e1, _, e3⟩ := len_comp (h := h) (src := iTupD (eVar 0)) (t := .nm 2) (cond := bOr (bNot (bVal (eOp1 (oIsi "tuple") (eVar 2)))) (bVal (eOp2 (oEq false) (eCall fLen (aCons (eVar 2) aNil)) (eC (.int 0))))) (el := eVar 2) (vs := [2]) (σ := [some (.tup xs), none, none, none, none, none]) (ds := xs) (G := fun _ => True) rowsShape (by simp) (fun _ => trivial) (Wf.len5 w) (fun d hd l => by
          have wd := WfN.app (g := [.lst l]) (WfN.mem w hd)
          have := isi_tuple wd
          refine ⟨_, rfl, ?_, by simp [wipeD]⟩
          simp [wipeD, this]
          cases d with
          | tup rows =>
            simp [isT, rowsShape, lenT]
            cases rows <;> simp
          | _ => simp [isT, rowsShape])
        cases q : xs.all rowsShape with
        | false =>
          have : codeR (.tup xs) = .bad (-1) "shape" := by
            simp only [codeR]
            rw [if_neg fun z => by have := z.2.2; rw [q] at this; cases this]
          rw [this]
          apply due_same
          simp [bodyF, b__law_code_due, N__law_code_due, isi_tuple w, isT, c1, c2]
          rw [e1]
          simp [e3, q, dueR]
        | true =>
          have all : ∀ (k : Nat) r, xs[k]? = some r → xs[0 + k]? = some r ∧ isT r = true := fun k r hr => ⟨by rw [Nat.zero_add]; exact hr, by
            have := List.all_eq_true.mp q r (List.mem_of_getElem? hr)
            unfold rowsShape at this
            exact (Bool.and_eq_true_iff.mp this).1⟩
          obtain ⟨y', z', u', v', x', e⟩ := cd_loop rfl w xs 0 none none none none none all
          have cr : codeR (.tup xs) = (match firstW (rowsW (xs.length : Nat)) 0 xs with
              | some (i, w) => .bad (i : Nat) w
              | none => .told ((xs.map lenN).sum : Nat)) := by
            simp only [codeR]
            rw [if_pos ⟨c1, c2, q⟩]
            try rfl
          have src : iRangeD (aCons (eCall fLen (aCons (eVar 0) aNil)) aNil) [some (.tup xs), none, none, none, none, none] h = .ok (Sm.intsFrom 0 xs.length, fun (_ : Hs) => True) h := src_range (by simp) (Wf.len5 w)
          rw [cr]
          apply due_same
          rw [cd_eq]
          have run : sFor (iRangeD (aCons (eCall fLen (aCons (eVar 0) aNil)) aNil)) (.nm 1) cdO [some (.tup xs), none, none, none, none, none] h = match firstW (rowsW (xs.length : Nat)) 0 xs with
              | none => .nx [some (.tup xs), y', z', u', v', x'] h
              | some (k, s) => .rt (.tup [.str "bad", .int (k : Nat), .str s]) h := by
            rw [q_for, src]
            exact e
          refine (cdue_0 _ w c1 c2 e1 (by rw [e3, q]; rfl) run).trans ?_
          cases f : firstW (rowsW (xs.length : Nat)) 0 xs with
          | some p =>
            obtain ⟨k, s⟩ := p
            simp [dueR, outR]
          | none =>
            simp
            rw [sum_comp (fun r => ((lenN r : Nat) : Int)) rfl (fun _ => trivial) (Wf.len5 w) (fun d hd l => ⟨_, rfl, by
              have := List.all_eq_true.mp q d hd
              cases d with
              | tup rows => simp [wipeD, lenN]
              | _ => simp [rowsShape, isT] at this⟩)]
            rw [sum_cast]
            simp [dueR, outR]
      · have : codeR (.tup xs) = .bad (-1) "shape" := by
          simp only [codeR]
          rw [if_neg fun z => c2 z.2.1]
        rw [this]
        apply due_same
        simp [bodyF, b__law_code_due, N__law_code_due, isi_tuple w, isT, c1, c2, dueR]
    · have : codeR (.tup xs) = .bad (-1) "shape" := by
        simp only [codeR]
        rw [if_neg fun z => c1 z.1]
      rw [this]
      apply due_same
      simp [bodyF, b__law_code_due, N__law_code_due, isi_tuple w, isT, c1, dueR]
  | _ =>
    apply due_same
    simp [bodyF, b__law_code_due, N__law_code_due, w, isT, codeR, dueR]
end Kl

set_option Elab.async false
set_option linter.all false
set_option maxRecDepth 100000
set_option maxHeartbeats 4000000
set_option autoImplicit false
namespace Kl
open PySem PySem.Spec PyProof.Rows L2 Sm
@[simp] theorem ok_program : okS "program" = true := by decide +kernel
@[simp] theorem ok_code : okS "code" = true := by decide +kernel
@[simp] theorem ok_bad : okS "bad" = true := by decide +kernel
@[simp] theorem ok_told : okS "told" = true := by decide +kernel
@[simp] theorem u_code_program : (("code" : Str) = "program") = False := eq_false (by decide +kernel)
theorem th1 : tab__law_heard "BadProgram" = some true := by decide +kernel
theorem th2 : tab__law_heard "BadCode" = some true := by decide +kernel
theorem td1 : tab__law_heard_DataError "BadProgram" = some true := by decide +kernel
theorem td2 : tab__law_heard_DataError "BadCode" = some true := by decide +kernel
theorem tp1 : tab__law_heard_PassError "BadProgram" = some true := by decide +kernel
theorem tp2 : tab__law_heard_PassError "BadCode" = some true := by decide +kernel
theorem tb1 : tab__law_heard_BadProgram "BadProgram" = some true := by decide +kernel
theorem tb2 : tab__law_heard_BadProgram "BadCode" = some false := by decide +kernel
theorem lk_at {c : Str} {h : Hs} {i w : D} : oFld "at" (.exc c ["word", "at"] [w, i]) h = .ok i h := by
  have e : (("at" : Str) == ("word" : Str)) = false := by decide +kernel
  simp [oFld, List.lookup_cons, e]
theorem lk_word {c : Str} {h : Hs} {i w : D} : oFld "word" (.exc c ["word", "at"] [w, i]) h = .ok w h := by
  simp [oFld, List.lookup_cons]
theorem heard_p {h : Hs} {d : D} (w : Wf h d) (hd : dep d < 40) : m__law_heard [.str "program", d] h = .ok (dueR (progR d)) h := by
  apply due_same
  have e := v_check_program w hd
  simp [bodyF, b__law_heard, N__law_heard, sTry, e]
  cases r : progR d with
  | told n => simp [checked, dueR]
  | bad i s => simp [checked, dueR, handle, th1, oIsX, td1, tp1, tb1, lk_at, lk_word, leave_rt (d := .tup [.str "bad", .int i, .str s]) rfl]
theorem heard_c {h : Hs} {d : D} (w : Wf h d) : m__law_heard [.str "code", d] h = .ok (dueR (codeR d)) h := by
  apply due_same
  have e := v_check_code w
  simp [bodyF, b__law_heard, N__law_heard, sTry, e]
  cases r : codeR d with
  | told n => simp [checkedC, dueR]
  | bad i s => simp [checkedC, dueR, handle, th2, oIsX, td2, tp2, tb2, lk_at, lk_word, leave_rt (d := .tup [.str "bad", .int i, .str s]) rfl]
def PR.ok : PR → Prop
  | .told _ => True
  | .bad _ w => okS w = true
theorem namesRes_ok {ds : List D} {names : D} {s : Str} (e : namesRes ds names = some s) : okS s = true := by
  unfold namesRes at e
  split at e
  · split at e
    · split at e
      · cases e
      · cases e; decide +kernel
    · cases e; decide +kernel
  · cases e; decide +kernel
theorem bad_ok {i : Int} {s : Str} (h : okS s = true) : (PR.bad i s).ok := h
theorem progR_ok (d : D) : (progR d).ok := by
  unfold progR
  split
  · split
    · split
      · exact bad_ok (by decide +kernel)
      · split
        · rename_i e; exact namesRes_ok e
        · split
          · split
            · split
              · exact bad_ok (by decide +kernel)
              · trivial
            · exact bad_ok (by decide +kernel)
          · exact bad_ok (by decide +kernel)
    · exact bad_ok (by decide +kernel)
  · exact bad_ok (by decide +kernel)
  · exact bad_ok (by decide +kernel)
theorem rowsRes_ok {many : Int} {rows : List D} {s : Str} (e : rowsRes many rows = some s) : okS s = true := by
  unfold rowsRes at e
  split at e
  · split at e
    · split at e
      · split at e
        · cases e
        · cases e; decide +kernel
      · cases e; decide +kernel
    · cases e; decide +kernel
  · cases e; decide +kernel
theorem firstW_ok {p : D → Option Str} (hp : ∀ x s, p x = some s → okS s = true) : ∀ {xs : List D} {i k : Nat} {s : Str}, firstW p i xs = some (k, s) → okS s = true
  | [], _, _, _, e => by simp [firstW] at e
  | x :: xs, i, k, s, e => by
    unfold firstW at e
    split at e
    · rename_i w q
      cases e
      exact hp x s q
    · exact firstW_ok hp e
theorem codeR_ok (d : D) : (codeR d).ok := by
  unfold codeR
  split
  · split
    · split
      · rename_i e
        refine firstW_ok (fun x s q => ?_) e
        unfold rowsW at q
        split at q
        · exact rowsRes_ok q
        · cases q
      · trivial
    · exact bad_ok (by decide +kernel)
  · exact bad_ok (by decide +kernel)
theorem right_of {h : Hs} {call : Str} {d : D} {r : PR} (o : r.ok) (c : call = "program" ∨ call = "code") (e1 : m__law_heard [.str call, d] h = .ok (dueR r) h) (e2 : call = "program" → m__law_program_due [d] h = .ok (dueR r) h) (e3 : call = "code" → m__law_code_due [d] h = .ok (dueR r) h) :
    m__law_right [.str call, d] h = .ok (.bl true) h := by
  apply fn_val
  rcases c with rfl | rfl
  · have e2 := e2 rfl
    cases r with
    | told n => simp [bodyF, b__law_right, N__law_right, e1, e2, dueR, oIsi, tyD, isiTab]
    | bad i s =>
      have os : okS s = true := o
      simp [bodyF, b__law_right, N__law_right, e1, e2, dueR, oIsi, tyD, isiTab, os]
  · have e3 := e3 rfl
    cases r with
    | told n => simp [bodyF, b__law_right, N__law_right, e1, e3, dueR, oIsi, tyD, isiTab]
    | bad i s =>
      have os : okS s = true := o
      simp [bodyF, b__law_right, N__law_right, e1, e3, dueR, oIsi, tyD, isiTab, os]
structure PgOk (h : Hs) (d : D) : Prop where
  wf : Wf h d
  dp : dep d < 40
  nd : nodes d ≤ 50000
  ct : ∀ ds ns bs, d = .tup [ds, ns, .tup bs] → ∀ x ∈ bs, ∀ a b, bodyOk a b x = true → bodyCnt x < 4000
theorem right_p {h : Hs} {d : D} (p : PgOk h d) : m__law_right [.str "program", d] h = .ok (.bl true) h :=
  right_of (progR_ok d) (.inl rfl) (heard_p p.wf p.dp) (fun _ => v_law_program_due p.wf p.nd p.ct) (fun z => absurd z (by decide +kernel))
theorem right_c {h : Hs} {d : D} (w : Wf h d) : m__law_right [.str "code", d] h = .ok (.bl true) h :=
  right_of (codeR_ok d) (.inr rfl) (heard_c w) (fun z => absurd z (by decide +kernel)) (fun _ => v_law_code_due w)
end Kl

set_option Elab.async false
set_option linter.all false
set_option maxRecDepth 100000
set_option maxHeartbeats 1000000
set_option autoImplicit false
namespace Kl
open PySem PySem.Spec PyProof.Rows L2 Sm
theorem gc_len {h h' : Hs} {d : D} (l : h'.length = h.length) : gc h (.ok d h') = .ok d h' := by
  unfold gc
  dsimp only
  split
  · rw [← l, List.take_length]
  · rfl
structure Up (S : Nat → Prop) (h h' : Hs) : Prop where
  le : h.length ≤ h'.length
  same : ∀ i : Nat, i < h.length → ¬ S i → h'[i]? = h[i]?
  ls : ∀ (i : Nat) (xs : List D), h[i]? = some (C.lst xs) → ∃ ys, h'[i]? = some (C.lst ys)
theorem Up.refl (S : Nat → Prop) (h : Hs) : Up S h h := ⟨Nat.le_refl _, fun _ _ _ => rfl, fun _ xs e => ⟨xs, e⟩⟩
theorem Up.trans {S : Nat → Prop} {h h1 h2 : Hs} (a : Up S h h1) (b : Up S h1 h2) : Up S h h2 := ⟨Nat.le_trans a.le b.le, fun i l s => by rw [b.same i (Nat.lt_of_lt_of_le l a.le) s, a.same i l s], fun i xs e => let ⟨ys, f⟩ := a.ls i xs e; b.ls i ys f⟩
theorem Up.mono {S T : Nat → Prop} {h h' : Hs} (a : Up S h h') (w : ∀ i, S i → T i) : Up T h h' := ⟨a.le, fun i l s => a.same i l fun z => s (w i z), a.ls⟩
theorem Up.app {S : Nat → Prop} (h g : Hs) : Up S h (h ++ g) := ⟨by simp, fun i l _ => List.getElem?_append_left l, fun i xs e => ⟨xs, by rw [List.getElem?_append_left (List.getElem?_eq_some_iff.mp e).1]; exact e⟩⟩
theorem Up.set {S : Nat → Prop} {h : Hs} {n : Nat} {c : C} (s : S n) (l : ∀ xs, h[n]? = some (.lst xs) → ∃ ys, c = .lst ys) : Up S h (h.set n c) := by
  refine ⟨by simp, fun i l z => List.getElem?_set_ne fun (e : n = i) => z (e ▸ s), fun i xs e => ?_⟩
  by_cases z : n = i
  · subst z
    obtain ⟨ys, rfl⟩ := l xs e
    exact ⟨ys, by rw [List.getElem?_set_self (List.getElem?_eq_some_iff.mp e).1]⟩
  · exact ⟨xs, by rw [List.getElem?_set_ne z]; exact e⟩
theorem Up.keep {S : Nat → Prop} {h h' : Hs} (a : Up S h h') {i : Nat} {c : C} (e : h[i]? = some c) (s : ¬ S i) : h'[i]? = some c := by rw [a.same i (List.getElem?_eq_some_iff.mp e).1 s]; exact e
theorem gc_up {S : Nat → Prop} {h h' : Hs} {d : D} (u : Up S h h') : ∃ h2, gc h (.ok d h') = .ok d h2 ∧ Up S h h2 ∧ ∀ i, i < h.length → h2[i]? = h'[i]? := by
  unfold gc
  dsimp only
  split
  · refine ⟨_, rfl, ⟨by rw [List.length_take]; have := u.le; omega, fun i l s => ?_, fun i xs e => ?_⟩, fun i l => List.getElem?_take_of_lt l⟩
    · rw [List.getElem?_take_of_lt l]; exact u.same i l s
    · rw [List.getElem?_take_of_lt (List.getElem?_eq_some_iff.mp e).1]; exact u.ls i xs e
  · exact ⟨_, rfl, u, fun _ _ => rfl⟩
mutual
theorem Up.wf {S : Nat → Prop} {h h' : Hs} (u : Up S h h') {m : Nat} : ∀ {d : D}, WfN m h d → WfN m h' d
  | .non, w => by simp only [WfN] at *
  | .bl _, w => by simp only [WfN] at *
  | .int _, w => by simp only [WfN] at *
  | .str _, w => by simp only [WfN] at *; exact w
  | .ref n, w => by
    simp only [WfN] at *
    obtain ⟨xs, e⟩ := w
    exact u.ls n xs e
  | .tup xs, w => by simp only [WfN] at *; exact ⟨w.1, u.wfL w.2⟩
  | .fl _, w => by simp only [WfN] at *
  | .exc _ _ _, w => by simp only [WfN] at *
theorem Up.wfL {S : Nat → Prop} {h h' : Hs} (u : Up S h h') {m : Nat} : ∀ {ds : List D}, WfL m h ds → WfL m h' ds
  | [], w => by simp only [WfL] at *
  | d :: ds, w => by simp only [WfL] at *; exact ⟨u.wf w.1, u.wfL w.2⟩
end
abbrev fgD (e : Nat) (ht b : Int) : C := .dict [(.inr "embers", .ref e), (.inr "heat", .int ht), (.inr "blows", .int b)]
def Fg (h : Hs) (n e k : Nat) : Prop := ∃ (ht b : Int) (xs : List Int), h[n]? = some (fgD e ht b) ∧ h[e]? = some (.lst (xs.map .int)) ∧ xs ≠ [] ∧ xs.length ≤ 100 ∧ (∀ x ∈ xs, 0 ≤ x ∧ x ≤ 2000000) ∧ 0 ≤ ht ∧ ht < 2000000 ∧ 0 ≤ b ∧ b + k ≤ 1000000
theorem Fg.less {h : Hs} {n e k k' : Nat} (f : Fg h n e k) (l : k' ≤ k) : Fg h n e k' := by
  obtain ⟨ht, b, xs, h1, h2, h3, h4, h5, h6, h7, h8, h9⟩ := f
  exact ⟨ht, b, xs, h1, h2, h3, h4, h5, h6, h7, h8, by omega⟩
theorem dget {h : Hs} {n : Nat} {kvs : List (Key × D)} {s : Str} {d : D} (e : h[n]? = some (.dict kvs)) (g : getK kvs (.inr s) = some d) : oDget (.ref n) (.str s) h = .ok d h := by
  unfold oDget
  simp [dictD, e, keyD, g]
theorem log_small {i : Int} {m : Nat} (a : 0 ≤ i) (l : i < (m : Int)) (z : m ≤ 2 ^ 60 := by decide) : i.natAbs.log2 < 60 := by
  by_cases y : i.natAbs = 0
  · rw [y]; decide
  · exact (Nat.log2_lt y).mpr (by omega)
theorem mulS {h : Hs} {i j : Int} (a : 0 ≤ i) (l : i < 2 ^ 60) (a' : 0 ≤ j) (l' : j < 2 ^ 60) : oMulA (.int i) (.int j) h = .ok (.int (i * j)) h := by
  have h1 := log_small (m := 2 ^ 60) a (by simpa using l) (by decide)
  have h2 := log_small (m := 2 ^ 60) a' (by simpa using l') (by decide)
  simp only [oMulA]
  rw [if_pos (by unfold CMulW; omega)]
theorem modS {h : Hs} {i j : Int} (a : 0 < j) : oMod (.int i) (.int j) h = .ok (.int (i % j)) h := by
  simp only [oMod, oInts]
  rw [if_pos a]
theorem div11 {h : Hs} {i : Int} : oDiv (.int i) (.int 11) h = .ok (.int (i / 11)) h := by
  simp only [oDiv, oInts]
  rw [if_pos (by unfold CDivW; decide)]
theorem ixR {h : Hs} {e : Nat} {ys : List D} {i : Int} {d : D} (q : h[e]? = some (.lst ys)) (g : atI ys i = some d) : oIx (.ref e) (.int i) h = .ok d h := by
  simp [oIx, seqD, q, g]
theorem lenR {h : Hs} {e : Nat} {ys : List D} (q : h[e]? = some (.lst ys)) : fLen [.ref e] h = .ok (.int (ys.length : Nat)) h := by
  simp [fLen, seqD, q]
theorem sq_small {b : Int} (a : 0 ≤ b) (l : b ≤ 1000001) : b * b ≤ 1000001 * 1000001 := Int.mul_le_mul l l a (by decide)
theorem v_blow {h : Hs} {n e k : Nat} {many : Int} (f : Fg h n e (k + 1)) (hm : 0 < many) : ∃ (v : Int) (c : C), m__law_blow [.ref n, .int many] h = .ok (.int v) (h.set n c) ∧ 0 ≤ v ∧ v < many ∧ Fg (h.set n c) n e k ∧ Up (· = n) h (h.set n c) := by
  obtain ⟨ht, b, xs, h1, h2, h3, h4, h5, h6, h7, h8, h9⟩ := f
  have hn := (List.getElem?_eq_some_iff.mp h1).1
  have ne : n ≠ e := fun z => by subst z; rw [h1] at h2; simp at h2
  have pos : 0 < xs.length := by cases xs with
    | nil => exact absurd rfl h3
    | cons _ _ => simp
  let c1 : C := fgD e ht (b + 1)
  have g1 : (h.set n c1)[n]? = some c1 := by rw [List.getElem?_set_self hn]
  have g2 : (h.set n c1)[e]? = some (.lst (xs.map .int)) := by rw [List.getElem?_set_ne ne]; exact h2
  let j : Int := (b + 1) % (xs.length : Int)
  have j0 : 0 ≤ j := Int.emod_nonneg _ (by omega)
  have j1 : j < xs.length := Int.emod_lt_of_pos _ (by omega)
  have jl : j.toNat < xs.length := by omega
  have eat : atI (xs.map D.int) j = some (.int xs[j.toNat]) := by
    have := atI_get (xs := xs.map D.int) (i := j.toNat) (d := .int xs[j.toNat]) (by simp [jl])
    rwa [Int.toNat_of_nonneg j0] at this
  have ex := h5 _ (List.getElem_mem jl)
  let ht' : Int := (ht * 1607 + xs[j.toNat] * 13 + (b + 1) * (b + 1) * 5) % 1999159
  have t0 : 0 ≤ ht' := Int.emod_nonneg _ (by decide)
  have t1 : ht' < 1999159 := Int.emod_lt_of_pos _ (by decide)
  have sq := sq_small (b := b + 1) (by omega) (by omega)
  have sq0 : 0 ≤ (b + 1) * (b + 1) := Int.mul_nonneg (by omega) (by omega)
  refine ⟨ht' / 11 % many, fgD e ht' (b + 1), ?_, Int.emod_nonneg _ (by omega), Int.emod_lt_of_pos _ hm, ⟨ht', b + 1, xs, by rw [List.getElem?_set_self hn], by rw [List.getElem?_set_ne ne]; exact h2, h3, h4, h5, t0, by omega, by omega, by omega⟩, Up.set rfl fun ys z => by rw [h1] at z; simp at z⟩
  unfold m__law_blow fnF
  have body : bodyF N__law_blow.length b__law_blow [.ref n, .int many] h = .ok (.int (ht' / 11 % many)) (h.set n (fgD e ht' (b + 1))) := by
    have p1 : oDget (.ref n) (.str "blows") h = .ok (.int b) h := dget h1 rfl
    have p2 : putD [(.inr "embers", .ref e), (.inr "heat", .int ht), (.inr "blows", .int b)] (.inr "blows") (.int (b + 1)) = [(.inr "embers", .ref e), (.inr "heat", .int ht), (.inr "blows", .int (b + 1))] := rfl
    have p3 : oDget (.ref n) (.str "heat") (h.set n c1) = .ok (.int ht) (h.set n c1) := dget g1 rfl
    have p4 : oDget (.ref n) (.str "embers") (h.set n c1) = .ok (.ref e) (h.set n c1) := dget g1 rfl
    have p5 : putD [(.inr "embers", .ref e), (.inr "heat", .int ht), (.inr "blows", .int (b + 1))] (.inr "heat") (.int ht') = [(.inr "embers", .ref e), (.inr "heat", .int ht'), (.inr "blows", .int (b + 1))] := rfl
    have p6 : oDget (.ref n) (.str "heat") (h.set n (fgD e ht' (b + 1))) = .ok (.int ht') (h.set n (fgD e ht' (b + 1))) := dget (by rw [List.getElem?_set_self hn]) rfl
    have k1 : keyD (.str "blows") = some (.inr "blows") := rfl
    have k2 : keyD (.str "heat") = some (.inr "heat") := rfl
    have m1 : oMulA (.int ht) (.int 1607) (h.set n c1) = _ := mulS h6 (by omega) (by decide) (by decide)
    have m2 : oMulA (.int xs[j.toNat]) (.int 13) (h.set n c1) = _ := mulS ex.1 (by omega) (by decide) (by decide)
    have m3 : oMulA (.int (b + 1)) (.int (b + 1)) (h.set n c1) = _ := mulS (by omega) (by omega) (by omega) (by omega)
    have m4 : oMulA (.int ((b + 1) * (b + 1))) (.int 5) (h.set n c1) = _ := mulS sq0 (by omega) (by decide) (by decide)
    have i1 : oIx (.ref e) (.int j) (h.set n c1) = _ := ixR g2 eat
    have l1 : fLen [.ref e] (h.set n c1) = _ := lenR g2
    have d1 : oMod (.int (b + 1)) (.int (xs.length : Nat)) (h.set n c1) = .ok (.int j) (h.set n c1) := modS (by omega)
    have d2 : oMod (.int (ht * 1607 + xs[j.toNat] * 13 + (b + 1) * (b + 1) * 5)) (.int 1999159) (h.set n c1) = .ok (.int ht') (h.set n c1) := modS (by decide)
    have fi : ∀ (i : Int) (g : Hs), fInt [.int i] g = .ok (.int i) g := fun _ _ => rfl
    simp only [bodyF, b__law_blow, N__law_blow, List.map_cons, List.map_nil, List.length_cons, List.length_nil, q_scons, q_set, q_op2, q_var, q_c]
    simp [p1, onR, sDput, Out.next, k1, h1, p2, k2]
    rw [show h.set n (C.dict [(.inr "embers", .ref e), (.inr "heat", .int ht), (.inr "blows", .int (b + 1))]) = h.set n c1 from rfl]
    simp [p3, p4, m1, m2, m3, m4, i1, l1, d1, d2, fi]
    have g3 : (h.set n c1)[n]? = some (.dict [(.inr "embers", .ref e), (.inr "heat", .int ht), (.inr "blows", .int (b + 1))]) := g1
    have q3 : (h.set n c1).set n (fgD e ht' (b + 1)) = h.set n (fgD e ht' (b + 1)) := by rw [List.set_set]
    have dm : oMod (.int (ht' / 11)) (.int many) (h.set n (fgD e ht' (b + 1))) = _ := modS hm
    simp [hn, c1, p5, p6, div11, dm, fi]
  rw [body]
  exact gc_len (by simp)
end Kl

set_option Elab.async false
set_option linter.all false
set_option maxRecDepth 100000
set_option maxHeartbeats 1000000
set_option autoImplicit false
namespace Kl
open PySem PySem.Spec PyProof.Rows L2 Sm
theorem w_blow {h : Hs} {n e k : Nat} {many : Int} (f : Fg h n e (k + 1)) (hm : 0 < many) : ∃ (v : Int) (h' : Hs), m__law_blow [.ref n, .int many] h = .ok (.int v) h' ∧ 0 ≤ v ∧ v < many ∧ Fg h' n e k ∧ Up (· = n) h h' ∧ h'.length = h.length := by
  obtain ⟨v, c, q, a, b, g, u⟩ := v_blow f hm
  exact ⟨v, _, q, a, b, g, u, by simp⟩
theorem forG_nx {t : Tg} {body : SS} {G : Hs → Prop} (I : List D → Lo → Hs → Prop) (hs : ∀ ds σ h, I ds σ h → G h) (st : ∀ d ds σ h, I (d :: ds) σ h → ∃ σ1, t.put d σ = some σ1 ∧ ∃ σ' h', body σ1 h = .nx σ' h' ∧ I ds σ' h') (ds : List D) (σ : Lo) (h : Hs) (i : I ds σ h) :
    ∃ σ' h', forG t body G ds σ h = .nx σ' h' ∧ I [] σ' h' := by
  rcases forG_run I (fun _ => False) hs (fun d ds σ h i => let ⟨σ1, e, σ', h', b, j⟩ := st d ds σ h i; ⟨σ1, e, .inl ⟨σ', h', .inl b, j⟩⟩) ds σ h i with q | q
  · exact q
  · exact q.elim
theorem compG_run {t : Tg} {el : ES} {G : Hs → Prop} {n : Nat} {σ : Lo} (J : List D → List D → Hs → Prop) (hs : ∀ ds acc h, J ds acc h → G h)
    (st : ∀ d ds acc h, J (d :: ds) acc h → acc.length < 100000 ∧ ∃ σ1 y h2, t.put d σ = some σ1 ∧ el σ1 h = .ok y h2 ∧ h2[n]? = some (.lst acc) ∧ J ds (acc ++ [y]) (h2.set n (.lst (acc ++ [y])))) :
    ∀ (ds acc : List D) (h : Hs), J ds acc h → ∃ acc' h', compG t bYes el G n σ ds h = .ok () h' ∧ J [] acc' h'
  | [], acc, h, j => ⟨acc, h, by unfold compG; rw [if_pos (hs _ _ _ j)], j⟩
  | d :: ds, acc, h, j => by
    obtain ⟨l, σ1, y, h2, e1, e2, e3, j2⟩ := st d ds acc h j
    obtain ⟨acc', h', q, j'⟩ := compG_run J hs st ds _ _ j2
    refine ⟨acc', h', ?_, j'⟩
    unfold compG
    rw [if_pos (hs _ _ _ j)]
    have by_ : bYes σ1 h = .ok true h := rfl
    simp only [e1, by_, Res.strict_ok, Res.bind_ok, if_true, e2, e3]
    rw [if_pos l, q]
theorem lst_len {h : Hs} {n : Nat} {c : C} (e : h[n]? = some c) : n < h.length := (List.getElem?_eq_some_iff.mp e).1
theorem v_gform {h : Hs} {n e k : Nat} (f : Fg h n e (k + 5)) : ∃ (a b c d : Int) (h' : Hs), m__law_form [.ref n] h = .ok (.tup [.int a, .int b, .int c, .int d]) h' ∧ Fg h' n e k ∧ Up (· = n) h h' ∧ h'.length = h.length := by
  obtain ⟨v1, h1, e1, a1, b1, f1, u1, l1⟩ := w_blow (k := k + 4) (many := 6) f (by decide)
  obtain ⟨v2, h2, e2, a2, b2, f2, u2, l2⟩ := w_blow (k := k + 3) (many := 1 + v1) f1 (by omega)
  obtain ⟨v3, h3, e3, a3, b3, f3, u3, l3⟩ := w_blow (k := k + 2) (many := 30) f2 (by decide)
  obtain ⟨v4, h4, e4, a4, b4, f4, u4, l4⟩ := w_blow (k := k + 1) (many := 6) f3 (by decide)
  obtain ⟨v5, h5, e5, a5, b5, f5, u5, l5⟩ := w_blow (k := k) (many := 2) f4 (by decide)
  refine ⟨v2, 1 + v1, v3 - 9, (1 + v4) * (1 - 2 * v5), h5, ?_, f5, (((u1.trans u2).trans u3).trans u4).trans u5, by omega⟩
  have m1 : oMulA (.int 2) (.int v5) h5 = _ := mulS (by decide) (by decide) a5 (by omega)
  have m2 : oMulA (.int (1 + v4)) (.int (1 - 2 * v5)) h5 = .ok (.int ((1 + v4) * (1 - 2 * v5))) h5 := by
    simp only [oMulA]
    have q1 := log_small (i := 1 + v4) (m := 10) (by omega) (by omega)
    have q2 : (1 - 2 * v5).natAbs.log2 < 60 := by
      by_cases y : (1 - 2 * v5).natAbs = 0
      · rw [y]; decide
      · exact (Nat.log2_lt y).mpr (by omega)
    rw [if_pos (by unfold CMulW; omega)]
  have body : bodyF N__law_form.length b__law_form [.ref n] h = .ok (.tup [.int v2, .int (1 + v1), .int (v3 - 9), .int ((1 + v4) * (1 - 2 * v5))]) h5 := by
    simp [bodyF, b__law_form, N__law_form, e1, e2, e3, e4, e5, m1, m2, onR]
  unfold m__law_form fnF
  rw [body]
  exact gc_len (by omega)
end Kl

set_option Elab.async false
set_option linter.all false
set_option maxRecDepth 100000
set_option maxHeartbeats 1000000
set_option autoImplicit false
namespace Kl
open PySem PySem.Spec PyProof.Rows L2 Sm
theorem Fg.up {S : Nat → Prop} {h h' : Hs} {n e k : Nat} (f : Fg h n e k) (u : Up S h h') (sn : ¬ S n) (se : ¬ S e) : Fg h' n e k := by
  obtain ⟨ht, b, xs, h1, h2, r⟩ := f
  exact ⟨ht, b, xs, u.keep h1 sn, u.keep h2 se, r⟩
def FL (h : Hs) (n e l k : Nat) : Prop := Fg h n e k ∧ ∃ v : Int, h[l]? = some (.lst [.int v]) ∧ v ≤ 60 ∧ 2 * (k : Int) - 4000000 ≤ v
theorem FL.less {h : Hs} {n e l k k' : Nat} (f : FL h n e l k) (q : k' ≤ k) : FL h n e l k' := by
  obtain ⟨f, v, a, b, c⟩ := f
  exact ⟨f.less q, v, a, b, by omega⟩
theorem FL.up {S : Nat → Prop} {h h' : Hs} {n e l k : Nat} (f : FL h n e l k) (u : Up S h h') (sn : ¬ S n) (se : ¬ S e) (sl : ¬ S l) : FL h' n e l k := by
  obtain ⟨f, v, a, b, c⟩ := f
  exact ⟨f.up u sn se, v, u.keep a sl, b, c⟩
abbrev SL (n l : Nat) (i : Nat) : Prop := i = n ∨ i = l
theorem FL.nl {h : Hs} {n e l k : Nat} (f : FL h n e l k) : n ≠ l ∧ n < h.length ∧ l < h.length ∧ e < h.length := by
  obtain ⟨⟨ht, b, xs, h1, h2, r⟩, v, a, _⟩ := f
  exact ⟨fun z => by subst z; rw [h1] at a; simp at a, lst_len h1, lst_len a, lst_len h2⟩
theorem l_blow {h : Hs} {n e l k : Nat} {many : Int} (f : FL h n e l (k + 1)) (ne : e ≠ l) (hm : 0 < many) : ∃ (v : Int) (h' : Hs), m__law_blow [.ref n, .int many] h = .ok (.int v) h' ∧ 0 ≤ v ∧ v < many ∧ FL h' n e l k ∧ Up (SL n l) h h' ∧ h'.length = h.length ∧ (∀ i, i ≠ n → h'[i]? = h[i]?) := by
  have nl := f.nl
  obtain ⟨f, v0, a, b, c⟩ := f
  obtain ⟨v, cc, q, x, y, g, u⟩ := v_blow f hm
  exact ⟨v, _, q, x, y, ⟨g, v0, by rw [List.getElem?_set_ne nl.1]; exact a, b, by omega⟩, u.mono fun i z => .inl z, by simp, fun i z => List.getElem?_set_ne fun w => z w.symm⟩
theorem src_intH {a : AS} {σ : Lo} {h h1 : Hs} {j : Int} (e : a σ h = .ok [.int j] h1) (c : -(2 ^ 62) ≤ j ∧ j < 2 ^ 62) : iRangeD a σ h = .ok (Sm.intsFrom 0 j.toNat, fun (_ : Hs) => True) h1 := by
  unfold iRangeD
  rw [e, Res.bind_ok]
  exact if_pos c
structure Li (N B : Nat) (xs : List D) : Prop where
  wf : WfL 100 [] xs
  no : nodesL xs ≤ N
  de : depL xs ≤ B
theorem depL_app : ∀ xs ys : List D, depL (xs ++ ys) = max (depL xs) (depL ys)
  | [], ys => by simp [depL]
  | x :: xs, ys => by simp only [List.cons_append, depL, depL_app xs ys]; omega
theorem wfL_app {m : Nat} {h : Hs} {xs ys : List D} (a : WfL m h xs) (b : WfL m h ys) : WfL m h (xs ++ ys) := by
  rw [wfL_iff] at *
  intro d hd
  rcases List.mem_append.mp hd with q | q
  · exact a d q
  · exact b d q
theorem Li.app {N N' B : Nat} {xs ys : List D} (a : Li N B xs) (b : Li N' B ys) : Li (N + N') B (xs ++ ys) := ⟨wfL_app a.wf b.wf, by rw [nodesL_app]; have := a.no; have := b.no; omega, by rw [depL_app]; have := a.de; have := b.de; omega⟩
theorem FL.eq {h h' : Hs} {n e l k m : Nat} (f : FL h n e l k) (q : ∀ i, i < m → h'[i]? = h[i]?) (a : n < m) (b : e < m) (c : l < m) : FL h' n e l k := by
  obtain ⟨⟨ht, bb, xs, h1, h2, r⟩, v, h3, r2⟩ := f
  exact ⟨⟨ht, bb, xs, by rw [q n a]; exact h1, by rw [q e b]; exact h2, r⟩, v, by rw [q l c]; exact h3, r2⟩
theorem Li.nil {B : Nat} : Li 0 B [] := ⟨by simp [WfL], by simp [nodesL], by simp [depL]⟩
theorem Li.one {N B : Nat} {y : D} (w : WfN 100 [] y) (n : nodes y ≤ N) (d : dep y ≤ B) : Li N B [y] := ⟨by simp [WfL, w], by simp [nodesL, n], by simp [depL, d]⟩
theorem Li.tup {N B : Nat} {xs : List D} (a : Li N B xs) (l : xs.length ≤ 100) : WfN 100 [] (.tup xs) ∧ nodes (.tup xs) ≤ N + 1 ∧ dep (.tup xs) ≤ B + 1 := ⟨by simp only [WfN]; exact ⟨l, a.wf⟩, by simp only [nodes]; have := a.no; omega, by simp only [dep]; have := a.de; omega⟩
theorem Li.mono {N N' B B' : Nat} {xs : List D} (a : Li N B xs) (n : N ≤ N') (b : B ≤ B') : Li N' B' xs := ⟨a.wf, Nat.le_trans a.no n, Nat.le_trans a.de b⟩
def Bo (N B : Nat) (d : D) : Prop := (∃ xs, d = .tup xs ∧ xs.length ≤ 3) ∧ WfN 100 [] d ∧ nodes d ≤ N ∧ dep d ≤ B
def Pb (c : FS) (kb N B : Nat) (a b p : Int) : Prop := ∀ (h : Hs) (n e l k : Nat), FL h n e l (kb + k) → e ≠ l → ∃ d h', c [.ref n, .int a, .int b, .int p, .ref l] h = .ok d h' ∧ FL h' n e l k ∧ Up (SL n l) h h' ∧ Bo N B d
noncomputable def kindS (c : FS) : SS := (sIf (bVal (eOp2 oLt (eVar 7) (eC (.int 2)))) (sExpr (eBM "list" mAppend (eVar 5) (aCons (eTup (aCons (eC (.str "deed")) (aCons (eUser 2 m__law_blow (aCons (eVar 0) (aCons (eVar 1) aNil))) aNil))) aNil))) (sIf (bVal (eOp2 (oEq false) (eVar 7) (eC (.int 2)))) (sExpr (eBM "list" mAppend (eVar 5) (aCons (eTup (aCons (eC (.str "call")) (aCons (eUser 2 m__law_blow (aCons (eVar 0) (aCons (eVar 2) aNil))) aNil))) aNil))) (sIf (bVal (eOp2 (oEq false) (eVar 7) (eC (.int 3)))) (sExpr (eBM "list" mAppend (eVar 5) (aCons (eTup (aCons (eC (.str "back")) aNil)) aNil))) (sIf (bVal (eOp2 (oEq false) (eVar 7) (eC (.int 4)))) (sExpr (eBM "list" mAppend (eVar 5) (aCons (eTup (aCons (eC (.str "repeat")) (aCons (eUser 2 m__law_blow (aCons (eVar 0) (aCons (eC (.int 4)) aNil))) (aCons (eOp2 oMulA (eTup (aCons (eTup (aCons (eC (.str "deed")) (aCons (eUser 2 m__law_blow (aCons (eVar 0) (aCons (eVar 1) aNil))) aNil))) aNil)) (eUser 2 m__law_blow (aCons (eVar 0) (aCons (eC (.int 2)) aNil)))) aNil)))) aNil))) (sIf (bVal (eOp2 (oEq false) (eVar 7) (eC (.int 5)))) (sExpr (eBM "list" mAppend (eVar 5) (aCons (eTup (aCons (eC (.str "loop")) (aCons (eUser 5 c (aCons (eVar 0) (aCons (eVar 1) (aCons (eVar 2) (aCons (eOp2 oAdd (eVar 3) (eC (.int 1))) (aCons (eVar 4) aNil)))))) aNil))) aNil))) (sIf (bVal (eOp2 (oEq false) (eVar 7) (eC (.int 6)))) (sExpr (eBM "list" mAppend (eVar 5) (aCons (eTup (aCons (eC (.str "repeat")) (aCons (eUser 2 m__law_blow (aCons (eVar 0) (aCons (eC (.int 3)) aNil))) (aCons (eUser 5 c (aCons (eVar 0) (aCons (eVar 1) (aCons (eVar 2) (aCons (eOp2 oAdd (eVar 3) (eC (.int 1))) (aCons (eVar 4) aNil)))))) aNil)))) aNil))) (sExpr (eBM "list" mAppend (eVar 5) (aCons (eTup (aCons (eC (.str "either")) (aCons (eTrim (eCall fTuple (aCons (eComp (iRangeD (aCons (eOp2 oAdd (eC (.int 2)) (eUser 2 m__law_blow (aCons (eVar 0) (aCons (eC (.int 2)) aNil)))) aNil)) (.nm 8) bYes (eUser 5 c (aCons (eVar 0) (aCons (eVar 1) (aCons (eVar 2) (aCons (eOp2 oAdd (eVar 3) (eC (.int 1))) (aCons (eVar 4) aNil)))))) [8]) aNil))) aNil))) aNil)))))))))
theorem body_kind (c : FS) : b__law_body c = (sCons (sSet 5 (eLst aNil)) (sCons (sFor (iRangeD (aCons (eCall fMin2 (aCons (eOp2 oIx (eVar 4) (eC (.int 0))) (aCons (eUser 2 m__law_blow (aCons (eVar 0) (aCons (eC (.int 4)) aNil))) aNil))) aNil)) (.nm 6) (sCons (sSub oSetL (eVar 4) (eC (.int 0)) (eOp2 oSub (eOp2 oIx (eVar 4) (eC (.int 0))) (eC (.int 2)))) (sCons (sSet 7 (eUser 2 m__law_blow (aCons (eVar 0) (aCons (eIf (bVal (eOp2 oLt (eVar 3) (eC (.int 2)))) (eC (.int 8)) (eC (.int 5))) aNil)))) (kindS c)))) (sRet (eCall fTuple (aCons (eVar 5) aNil))))) := rfl
theorem app_run {σ : Lo} {h h2 : Hs} {f : ES} {t : Nat} {y : D} {xs xs0 : List D} (v : σ[5]? = some (some (.ref t))) (h0 : h[t]? = some (.lst xs0)) (ev : f σ h = .ok y h2) (h2t : h2[t]? = some (.lst xs)) (l : xs.length < 100000) :
    sExpr (eBM "list" mAppend (eVar 5) (aCons f aNil)) σ h = .nx σ (h2.set t (.lst (xs ++ [y]))) := by
  simp [v, okT, h0, ev, mAppend, h2t, l, onR]
end Kl

set_option Elab.async false
set_option linter.all false
set_option maxRecDepth 100000
set_option maxHeartbeats 1000000
set_option autoImplicit false
namespace Kl
open PySem PySem.Spec PyProof.Rows L2 Sm
theorem okS_deed : okS "deed" = true := by decide +kernel
theorem okS_call : okS "call" = true := by decide +kernel
theorem okS_back : okS "back" = true := by decide +kernel
theorem okS_repeat : okS "repeat" = true := by decide +kernel
theorem okS_loop : okS "loop" = true := by decide +kernel
theorem okS_either : okS "either" = true := by decide +kernel
theorem comp_bodies {c : FS} {kb N B n e l k m : Nat} {a b p : Int} (H : Pb c kb N B a b p) (ne : e ≠ l) {G : Hs → Prop} {h0 : Hs} (hG : ∀ hh, Up (SL n l) h0 hh → G hh) {σ : Lo} {t : Tg} {el : ES} (ht : ∀ d, ∃ σ1, t.put d σ = some σ1 ∧ ∀ h, Up (SL n l) h0 h → el σ1 h = c [.ref n, .int a, .int b, .int p, .ref l] h) (hm : h0.length = m) (ds : List D) (hd : ds.length ≤ 1000) (f : FL h0 n e l (kb * ds.length + k)) :
    ∃ acc h', compG t bYes el G m σ ds (h0 ++ [.lst []]) = .ok () h' ∧ FL h' n e l k ∧ Up (SL n l) h0 h' ∧ h'[m]? = some (.lst acc) ∧ acc.length = ds.length ∧ Li (N * acc.length) B acc ∧ ∀ x ∈ acc, nodes x ≤ N := by
  have f0 := f.nl
  let J : List D → List D → Hs → Prop := fun r acc h => FL h n e l (kb * r.length + k) ∧ Up (SL n l) h0 h ∧ h[m]? = some (.lst acc) ∧ acc.length + r.length = ds.length ∧ Li (N * acc.length) B acc ∧ ∀ x ∈ acc, nodes x ≤ N
  obtain ⟨acc, h', q, j⟩ := compG_run (t := t) (el := el) (G := G) (n := m) (σ := σ) J (fun _ _ h j => hG h j.2.1) (fun d r acc h j => by
    obtain ⟨j1, j2, j3, j4, j5, j6⟩ := j
    simp only [List.length_cons] at j1 j4
    obtain ⟨σ1, e1, e2⟩ := ht d
    obtain ⟨y, h2, c1, c2, c3, c4⟩ := H h n e l (kb * r.length + k) (by rw [Nat.mul_succ] at j1; exact j1.less (by omega)) ne
    have mh : ¬ SL n l m := by rintro (z | z) <;> omega
    have k3 := c3.keep j3 mh
    have hl := lst_len k3
    have us : Up (· = m) h2 (h2.set m (.lst (acc ++ [y]))) := Up.set rfl fun xs _ => ⟨_, rfl⟩
    refine ⟨by omega, σ1, y, h2, e1, by rw [e2 h j2, c1], k3, c2.up us (by omega) (by omega) (by omega), ?_, by rw [List.getElem?_set_self hl], by simp; omega, ?_, ?_⟩
    · refine ⟨by have := j2.le; have := c3.le; simp; omega, fun i il is => ?_, fun i xs e => ?_⟩
      · rw [List.getElem?_set_ne (by omega), (j2.trans c3).same i il is]
      · have := lst_len e
        rw [List.getElem?_set_ne (by omega)]
        exact (j2.trans c3).ls i xs e
    · rw [List.length_append, List.length_singleton, Nat.mul_succ]
      exact j5.app (Li.one c4.2.1 c4.2.2.1 c4.2.2.2)
    · intro x hx
      rcases List.mem_append.mp hx with z | z
      · exact j6 x z
      · rw [List.mem_singleton.mp z]; exact c4.2.2.1) ds [] (h0 ++ [.lst []]) ⟨f.up (Up.app (S := fun _ => False) h0 _) (by simp) (by simp) (by simp), Up.app _ _, by rw [← hm]; simp, by simp, by simpa using Li.nil, by simp⟩
  obtain ⟨j1, j2, j3, j4, j5, j6⟩ := j
  exact ⟨acc, h', q, by simpa using j1, j2, j3, by simpa using j4, j5, j6⟩
theorem kind_run {c : FS} {kb N B M n e l k t : Nat} {a b p kind : Int} {x6 x8 : Option D} {h : Hs} {xs : List D} (M7 : 7 ≤ M) (M3 : 3 * N + 3 ≤ M) (Hc : p < 2 → Pb c kb N B a b (p + 1)) (ne : e ≠ l) (f : FL h n e l (3 + 3 * kb + k)) (ha : 0 < a) (hb : 0 < b) (ht : h[t]? = some (.lst xs)) (tn : t ≠ n) (tl : t ≠ l) (lx : xs.length < 100000)
    (k0 : 0 ≤ kind) (k1 : kind < if p < 2 then 8 else 5) : ∃ y h2, kindS c [some (.ref n), some (.int a), some (.int b), some (.int p), some (.ref l), some (.ref t), x6, some (.int kind), x8] h = .nx [some (.ref n), some (.int a), some (.int b), some (.int p), some (.ref l), some (.ref t), x6, some (.int kind), x8] (h2.set t (.lst (xs ++ [y]))) ∧ h2[t]? = some (.lst xs) ∧ FL h2 n e l k ∧ Up (SL n l) h h2 ∧ Li M (3 + B) [y] := by
  have ts : ¬ SL n l t := by rintro (z | z) <;> omega
  generalize hσ : ([some (.ref n), some (.int a), some (.int b), some (.int p), some (.ref l), some (.ref t), x6, some (.int kind), x8] : Lo) = σ
  have s0 : σ[0]? = some (some (.ref n)) := by rw [← hσ]; rfl
  have s1 : σ[1]? = some (some (.int a)) := by rw [← hσ]; rfl
  have s2 : σ[2]? = some (some (.int b)) := by rw [← hσ]; rfl
  have s3 : σ[3]? = some (some (.int p)) := by rw [← hσ]; rfl
  have s4 : σ[4]? = some (some (.ref l)) := by rw [← hσ]; rfl
  have s5 : σ[5]? = some (some (.ref t)) := by rw [← hσ]; rfl
  have s7 : σ[7]? = some (some (.int kind)) := by rw [← hσ]; rfl
  have fin : ∀ (ef : ES) (y : D) (h2 : Hs), ef σ h = .ok y h2 → FL h2 n e l k → Up (SL n l) h h2 → Li M (3 + B) [y] → ∃ y h2, sExpr (eBM "list" mAppend (eVar 5) (aCons ef aNil)) σ h = .nx σ (h2.set t (.lst (xs ++ [y]))) ∧ h2[t]? = some (.lst xs) ∧ FL h2 n e l k ∧ Up (SL n l) h h2 ∧ Li M (3 + B) [y] := fun ef y h2 e1 e2 e3 e4 => ⟨y, h2, app_run s5 ht e1 (e3.keep ht ts) lx, e3.keep ht ts, e2, e3, e4⟩
  unfold kindS
  simp only [q_sif, q_val, q_op2, q_var, q_c, s7, Res.bind_ok, q_lt, q_eqI, onR, decide_eq_true_eq]
  split
  · obtain ⟨v, h1, e1, _, _, f1, u1, l1, _⟩ := l_blow (k := 2 + 3 * kb + k) (f.less (by omega)) ne ha
    refine fin _ (.tup [.str "deed", .int v]) h1 (by simp [s0, s1, e1]) (f1.less (by omega)) u1 (Li.one ?_ ?_ ?_)
    · simp [WfN, WfL, okS_deed]
    · simp [nodes, nodesL]; omega
    · simp [dep, depL]; omega
  split
  · obtain ⟨v, h1, e1, _, _, f1, u1, l1, _⟩ := l_blow (k := 2 + 3 * kb + k) (f.less (by omega)) ne hb
    refine fin _ (.tup [.str "call", .int v]) h1 (by simp [s0, s2, e1]) (f1.less (by omega)) u1 (Li.one ?_ ?_ ?_)
    · simp [WfN, WfL, okS_call]
    · simp [nodes, nodesL]; omega
    · simp [dep, depL]; omega
  split
  · refine fin _ (.tup [.str "back"]) h (by simp) (f.less (by omega)) (Up.refl _ _) (Li.one ?_ ?_ ?_)
    · simp [WfN, WfL, okS_back]
    · simp [nodes, nodesL]; omega
    · simp [dep, depL]; omega
  split
  · obtain ⟨v, h1, e1, _, _, f1, u1, l1, _⟩ := l_blow (k := 2 + 3 * kb + k) (many := 4) (f.less (by omega)) ne (by decide)
    obtain ⟨w, h2, e2, _, _, f2, u2, l2, _⟩ := l_blow (k := 1 + 3 * kb + k) (f1.less (by omega)) ne ha
    obtain ⟨r, h3, e3, r0, r1, f3, u3, l3, _⟩ := l_blow (k := 3 * kb + k) (many := 2) (f2.less (by omega)) ne (by decide)
    have m : oMulA (.tup [.tup [.str "deed", .int w]]) (.int r) h3 = .ok (.tup (List.replicate r.toNat [.tup [.str "deed", .int w]]).flatten) h3 := by
      simp only [oMulA]
      rw [if_pos ⟨by omega, by omega, by simp⟩]
    refine fin _ (.tup [.str "repeat", .int v, .tup (List.replicate r.toNat [.tup [.str "deed", .int w]]).flatten]) h3 (by simp [s0, s1, e1, e2, e3, m]) (f3.less (by omega)) ((u1.trans u2).trans u3) ?_
    have : r.toNat = 0 ∨ r.toNat = 1 := by omega
    rcases this with z | z <;> rw [z] <;> refine Li.one ?_ ?_ ?_ <;> simp [WfN, WfL, okS_repeat, okS_deed, nodes, nodesL, dep, depL] <;> omega
  have p2 : p < 2 := by
    rcases Int.lt_or_le p 2 with z | z
    · exact z
    · rw [if_neg (by omega)] at k1; omega
  have H := Hc p2
  split
  · obtain ⟨d, h1, e1, f1, u1, o1⟩ := H h n e l (3 + 2 * kb + k) (f.less (by omega)) ne
    refine fin _ (.tup [.str "loop", d]) h1 (by simp [s0, s1, s2, s3, s4, e1]) (f1.less (by omega)) u1 (Li.one ?_ ?_ ?_)
    · simp [WfN, WfL, okS_loop]; exact o1.2.1
    · have := o1.2.2.1; simp [nodes, nodesL]; omega
    · have := o1.2.2.2; simp [dep, depL]; omega
  split
  · obtain ⟨v, h1, e1, _, _, f1, u1, l1, _⟩ := l_blow (k := 2 + 3 * kb + k) (many := 3) (f.less (by omega)) ne (by decide)
    obtain ⟨d, h2, e2, f2, u2, o1⟩ := H h1 n e l (2 + 2 * kb + k) (f1.less (by omega)) ne
    refine fin _ (.tup [.str "repeat", .int v, d]) h2 (by simp [s0, s1, s2, s3, s4, e1, e2]) (f2.less (by omega)) (u1.trans u2) (Li.one ?_ ?_ ?_)
    · simp [WfN, WfL, okS_repeat]; exact o1.2.1
    · have := o1.2.2.1; simp [nodes, nodesL]; omega
    · have := o1.2.2.2; simp [dep, depL]; omega
  · obtain ⟨v, h1, e1, v0, v1, f1, u1, l1, _⟩ := l_blow (k := 2 + 3 * kb + k) (many := 2) (f.less (by omega)) ne (by decide)
    have src : iRangeD (aCons (eOp2 oAdd (eC (.int 2)) (eUser 2 m__law_blow (aCons (eVar 0) (aCons (eC (.int 2)) aNil)))) aNil) σ h = .ok (Sm.intsFrom 0 (2 + v).toNat, fun (_ : Hs) => True) h1 := src_intH (by simp [s0, e1]) ⟨by omega, by omega⟩
    have ln : (Sm.intsFrom 0 (2 + v).toNat).length ≤ 3 := by simp [Sm.intsFrom]; omega
    obtain ⟨acc, h2, c1, c2, c3, c4, c5, c6, _⟩ := comp_bodies (m := h1.length) (k := 2 + k) (t := .nm 8) (σ := wipeD σ [8]) (el := eUser 5 c (aCons (eVar 0) (aCons (eVar 1) (aCons (eVar 2) (aCons (eOp2 oAdd (eVar 3) (eC (.int 1))) (aCons (eVar 4) aNil)))))) H ne (G := fun _ => True) (fun _ _ => trivial) (fun d => ⟨_, rfl, fun h _ => by rw [← hσ]; simp [wipeD]⟩) rfl _ (Nat.le_trans ln (by decide)) (f1.less (by have := Nat.mul_le_mul_left kb ln; omega))
    have uh : Up (SL n l) h h2 := u1.trans c3
    obtain ⟨h3, g1, g2, g3⟩ := gc_up (d := .tup acc) uh
    have nl := f.nl
    refine fin _ (.tup [.str "either", .tup acc]) h3 ?_ ((c2.less (k' := k) (by omega)).eq g3 nl.2.1 nl.2.2.2 nl.2.2.1) g2 (Li.one ?_ ?_ ?_)
    · have : eTrim (eCall fTuple (aCons (eComp (iRangeD (aCons (eOp2 oAdd (eC (.int 2)) (eUser 2 m__law_blow (aCons (eVar 0) (aCons (eC (.int 2)) aNil)))) aNil)) (.nm 8) bYes (eUser 5 c (aCons (eVar 0) (aCons (eVar 1) (aCons (eVar 2) (aCons (eOp2 oAdd (eVar 3) (eC (.int 1))) (aCons (eVar 4) aNil)))))) [8]) aNil)) σ h = .ok (.tup acc) h3 := by
        rw [q_trim, q_call, q_cons]
        unfold eComp
        rw [src, Res.bind_ok, c1]
        simp only [Res.bind_ok, q_nil]
        have : fTuple [.ref h1.length] h2 = .ok (.tup acc) h2 := by simp [fTuple, seqD, c4]
        rw [this, g1]
      simp [this]
    · have := (c6.tup (by omega)).1
      simp [WfN, WfL, okS_either] at this ⊢
      exact this
    · have := c6.no
      have := Nat.mul_le_mul_left N (show acc.length ≤ 3 by omega)
      simp [nodes, nodesL]; omega
    · have := c6.de
      simp [dep, depL]; omega
end Kl

set_option Elab.async false
set_option linter.all false
set_option maxRecDepth 100000
set_option maxHeartbeats 1000000
set_option autoImplicit false
namespace Kl
open PySem PySem.Spec PyProof.Rows L2 Sm
theorem Up.hi {S : Nat → Prop} {h h1 : Hs} {t : Nat} {ys : List D} (u : Up S h h1) (l : h.length ≤ t) : Up S h (h1.set t (.lst ys)) := by
  refine ⟨by have := u.le; simpa, fun i il is => ?_, fun i xs e => ?_⟩
  · rw [List.getElem?_set_ne (by omega), u.same i il is]
  · have := lst_len e
    rw [List.getElem?_set_ne (by omega)]
    exact u.ls i xs e
theorem body_run {c : FS} {kb N B M : Nat} {a b p : Int} (M7 : 7 ≤ M) (M3 : 3 * N + 3 ≤ M) (ha : 0 < a) (hb : 0 < b) (Hc : p < 2 → Pb c kb N B a b (p + 1)) : Pb (fnF N__law_body.length (b__law_body c)) (1 + 3 * (5 + 3 * kb)) (3 * M + 1) (3 + B + 1) a b p := by
  intro h n e l k f ne
  have nl := f.nl
  let t := h.length
  have fA : FL (h ++ [.lst []]) n e l (1 + 3 * (5 + 3 * kb) + k) := f.up (Up.app (S := fun _ => False) h _) (by simp) (by simp) (by simp)
  obtain ⟨fg, v, hv, v60, vlo⟩ := fA
  obtain ⟨w, h1, e1, w0, w4, f1, u1, l1, o1⟩ := l_blow (k := 3 * (5 + 3 * kb) + k) (many := 4) (show FL (h ++ [.lst []]) n e l (3 * (5 + 3 * kb) + k + 1) from ⟨fg.less (by omega), v, hv, v60, by omega⟩) ne (by decide)
  have kk := fg
  obtain ⟨_, bl, _, _, _, _, _, _, _, _, bl0, blk⟩ := kk
  let j : Int := if w < v then w else v
  have j3 : j ≤ 3 := by simp only [j]; split <;> omega
  have j0 : -4000000 ≤ j := by simp only [j]; split <;> omega
  have ht1 : h1[t]? = some (.lst []) := by rw [o1 t (by omega)]; simp [t]
  let S0 : Option D → Option D → Lo := fun x6 x7 => [some (.ref n), some (.int a), some (.int b), some (.int p), some (.ref l), some (.ref t), x6, x7, none]
  have src : iRangeD (aCons (eCall fMin2 (aCons (eOp2 oIx (eVar 4) (eC (.int 0))) (aCons (eUser 2 m__law_blow (aCons (eVar 0) (aCons (eC (.int 4)) aNil))) aNil))) aNil) (S0 none none) (h ++ [.lst []]) = .ok (Sm.intsFrom 0 j.toNat, fun (_ : Hs) => True) h1 := by
    refine src_intH ?_ ⟨by omega, by omega⟩
    have q := ixR (i := 0) hv (atI_zero _ _)
    simp [S0, q, e1, fMin2, j]
  have ln : (Sm.intsFrom 0 j.toNat).length ≤ 3 := by simp [Sm.intsFrom]; omega
  let I : List D → Lo → Hs → Prop := fun ds σ hh => ∃ x6 x7 xs, σ = S0 x6 x7 ∧ FL hh n e l ((5 + 3 * kb) * ds.length + k) ∧ hh[t]? = some (.lst xs) ∧ xs.length + ds.length ≤ 3 ∧ Li (M * xs.length) (3 + B) xs ∧ Up (SL n l) h hh
  obtain ⟨σ', h2, q, x6, x7, xs, z1, z2, z3, z4, z5, z6⟩ := forG_nx (t := .nm 6) (G := fun _ => True) (body := (sCons (sSub oSetL (eVar 4) (eC (.int 0)) (eOp2 oSub (eOp2 oIx (eVar 4) (eC (.int 0))) (eC (.int 2)))) (sCons (sSet 7 (eUser 2 m__law_blow (aCons (eVar 0) (aCons (eIf (bVal (eOp2 oLt (eVar 3) (eC (.int 2)))) (eC (.int 8)) (eC (.int 5))) aNil)))) (kindS c)))) I (fun _ _ _ _ => trivial) (fun d ds σ hh i => by
    obtain ⟨x6, x7, xs, rfl, i2, i3, i4, i5, i6⟩ := i
    simp only [List.length_cons, Nat.mul_succ] at i2 i4
    obtain ⟨ig, y, iy, y60, ylo⟩ := i2
    have nlh := (show FL hh n e l _ from ⟨ig, y, iy, y60, ylo⟩).nl
    have tn : t ≠ n := by omega
    have tl : t ≠ l := by omega
    have te : t ≠ e := by omega
    refine ⟨S0 (some d) x7, rfl, ?_⟩
    have uA : Up (· = l) hh (hh.set l (.lst [.int (y - 2)])) := Up.set rfl fun _ _ => ⟨_, rfl⟩
    have fB : FL (hh.set l (.lst [.int (y - 2)])) n e l (((5 + 3 * kb) * ds.length + k + (3 + 3 * kb)) + 1) := ⟨(ig.up uA nl.1 ne).less (by omega), y - 2, by rw [List.getElem?_set_self nlh.2.2.1], by omega, by omega⟩
    have mp : (0 : Int) < if p < 2 then 8 else 5 := by split <;> decide
    obtain ⟨kd, h3, e3, k0, k1, f3, u3, l3, _⟩ := l_blow fB ne mp
    have ht3 : h3[t]? = some (.lst xs) := (uA.mono (fun i z => Or.inr z) |>.trans u3).keep i3 (by rintro (z | z) <;> omega)
    obtain ⟨yy, h4, e4, g1, g2, g3, g4⟩ := kind_run (x6 := some d) (x8 := none) (k := (5 + 3 * kb) * ds.length + k) M7 M3 Hc ne (f3.less (by omega)) ha hb ht3 tn tl (by omega) k0 k1
    refine ⟨_, _, ?_, some d, some (.int kd), xs ++ [yy], rfl, g2.up (Up.set (n := t) (S := (· = t)) rfl fun _ _ => ⟨_, rfl⟩) (by omega) (by omega) (by omega), by rw [List.getElem?_set_self (lst_len g1)], by simp; omega, ?_, Up.hi (((i6.trans (uA.mono fun i z => Or.inr z)).trans u3).trans g3) (Nat.le_refl _)⟩
    · have q1 := ixR (i := 0) iy (atI_zero _ _)
      have q2 : oSetL (.ref l) (.int 0) (.int (y - 2)) hh = .ok .non (hh.set l (.lst [.int (y - 2)])) := by simp [oSetL, iy, ixN]
      have q3 : (eIf (bVal (eOp2 oLt (eVar 3) (eC (.int 2)))) (eC (.int 8)) (eC (.int 5))) (S0 (some d) x7) (hh.set l (.lst [.int (y - 2)])) = .ok (.int (if p < 2 then 8 else 5)) (hh.set l (.lst [.int (y - 2)])) := by
        simp [S0]
        split <;> simp [*]
      simp only [S0] at q3
      have e4' : kindS c (S0 (some d) (some (.int kd))) h3 = _ := e4
      simp only [S0] at e4'
      simp only [q_scons, q_set, q_user, q_cons, S0, q3]
      by_cases p2 : p < 2 <;> simp only [p2, if_true, if_false] at e3 <;> simp [sSub, q1, q2, onR, Out.next, e3, e4', p2]
    · rw [List.length_append, List.length_singleton, Nat.mul_succ]
      exact i5.app g4) (Sm.intsFrom 0 j.toNat) (S0 none none) h1 ⟨none, none, [], rfl, f1.less (by have := Nat.mul_le_mul_left (5 + 3 * kb) ln; omega), ht1, by simpa using ln, by simpa using Li.nil, (Up.app h _).trans u1⟩
  have body : bodyF N__law_body.length (b__law_body c) [.ref n, .int a, .int b, .int p, .ref l] h = .ok (.tup xs) h2 := by
    rw [body_kind]
    have ft : fTuple [.ref t] h2 = .ok (.tup xs) h2 := by simp [fTuple, seqD, z3]
    have run : sFor (iRangeD (aCons (eCall fMin2 (aCons (eOp2 oIx (eVar 4) (eC (.int 0))) (aCons (eUser 2 m__law_blow (aCons (eVar 0) (aCons (eC (.int 4)) aNil))) aNil))) aNil)) (.nm 6) (sCons (sSub oSetL (eVar 4) (eC (.int 0)) (eOp2 oSub (eOp2 oIx (eVar 4) (eC (.int 0))) (eC (.int 2)))) (sCons (sSet 7 (eUser 2 m__law_blow (aCons (eVar 0) (aCons (eIf (bVal (eOp2 oLt (eVar 3) (eC (.int 2)))) (eC (.int 8)) (eC (.int 5))) aNil)))) (kindS c))) (S0 none none) (h ++ [.lst []]) = .nx σ' h2 := by
      rw [q_for, src]
      exact q
    unfold bodyF
    simp only [N__law_body, List.map_cons, List.map_nil, List.length_cons, List.length_nil, q_scons, q_set, q_lst, q_nil, Res.bind_ok, onR]
    simp only [S0] at run
    simp only [t] at run ft
    simp [-q_for, Out.next, run, z1, S0, ft, onR, t]
  obtain ⟨h3, g1, g2, g3⟩ := gc_up (d := .tup xs) z6
  refine ⟨.tup xs, h3, ?_, (z2.less (by simp)).eq g3 nl.2.1 nl.2.2.2 nl.2.2.1, g2, ⟨xs, rfl, by simpa using z4⟩, ?_⟩
  · unfold fnF
    rw [body, g1]
  · have mm := Nat.mul_le_mul_left M (show xs.length ≤ 3 by simpa using z4)
    exact (z5.mono (N' := 3 * M) (B' := 3 + B) (by omega) (Nat.le_refl _)).tup (by simp at z4; omega)
theorem v_gbody {a b : Int} (ha : 0 < a) (hb : 0 < b) : Pb (m__law_body 40) 1456 1882 12 a b 0 := by
  have h2 : Pb (m__law_body 38) 16 22 4 a b 2 := body_run (c := m__law_body 37) (kb := 0) (N := 0) (B := 0) (M := 7) (by decide) (by decide) ha hb (fun z => absurd z (by decide))
  have h1 : Pb (m__law_body 39) 160 208 8 a b 1 := body_run (c := m__law_body 38) (kb := 16) (N := 22) (B := 4) (M := 69) (by decide) (by decide) ha hb (fun _ => h2)
  exact body_run (c := m__law_body 39) (kb := 160) (N := 208) (B := 8) (M := 627) (by decide) (by decide) ha hb (fun _ => h1)
end Kl

set_option Elab.async false
set_option linter.all false
set_option maxRecDepth 100000
set_option maxHeartbeats 1000000
set_option autoImplicit false
namespace Kl
open PySem PySem.Spec PyProof.Rows L2 Sm
theorem Fg.nl {h : Hs} {n e k : Nat} (f : Fg h n e k) : n ≠ e ∧ n < h.length ∧ e < h.length := by
  obtain ⟨ht, b, xs, h1, h2, r⟩ := f
  exact ⟨fun z => by subst z; rw [h1] at h2; simp at h2, lst_len h1, lst_len h2⟩
theorem Fg.eq {h h' : Hs} {n e k m : Nat} (f : Fg h n e k) (q : ∀ i, i < m → h'[i]? = h[i]?) (a : n < m) (b : e < m) : Fg h' n e k := by
  obtain ⟨ht, bb, xs, h1, h2, r⟩ := f
  exact ⟨ht, bb, xs, by rw [q n a]; exact h1, by rw [q e b]; exact h2, r⟩
theorem Fg.nlst {h : Hs} {n e k t : Nat} {xs : List D} (f : Fg h n e k) (z : h[t]? = some (.lst xs)) : t ≠ n := by
  obtain ⟨ht, b, ys, h1, r⟩ := f
  intro w
  subst w
  rw [h1] at z
  simp at z
theorem pop_run {σ : Lo} {h : Hs} {n e k P : Nat} {pl : List D} (s0 : σ[0]? = some (some (.ref n))) (s1 : σ[1]? = some (some (.ref P))) (f : Fg h n e (k + 1)) (hp : h[P]? = some (.lst pl)) (eP : e ≠ P) (l0 : 0 < pl.length) (l1 : pl.length ≤ 1000) :
    ∃ y h2 pl', y ∈ pl ∧ eBM "list" mPopAt (eVar 1) (aCons (eUser 2 m__law_blow (aCons (eVar 0) (aCons (eCall fLen (aCons (eVar 1) aNil)) aNil))) aNil) σ h = .ok y h2 ∧ Fg h2 n e k ∧ h2[P]? = some (.lst pl') ∧ pl'.length + 1 = pl.length ∧ (∀ x ∈ pl', x ∈ pl) ∧ Up (SL n P) h h2 := by
  have nP := f.nlst hp
  obtain ⟨v, h1, e1, v0, v1, f1, u1, l1'⟩ := w_blow (many := (pl.length : Int)) f (by omega)
  have hp1 : h1[P]? = some (.lst pl) := u1.keep hp nP
  have vl : v.toNat < pl.length := by omega
  have hl := lst_len hp1
  refine ⟨pl[v.toNat], h1.set P (.lst (pl.eraseIdx v.toNat)), pl.eraseIdx v.toNat, List.getElem_mem vl, ?_, f1.up (Up.set (n := P) (S := (· = P)) rfl fun _ _ => ⟨_, rfl⟩) (by omega) eP, by rw [List.getElem?_set_self hl], by rw [List.length_eraseIdx, if_pos vl]; omega, fun x hx => List.mem_of_mem_eraseIdx hx, (u1.mono fun i z => Or.inl z).trans (Up.set (Or.inr rfl) fun _ _ => ⟨_, rfl⟩)⟩
  have sq : seqIndex? v pl.length = some v.toNat := by
    unfold seqIndex?
    have a1 : ¬ v < 0 := by omega
    simp [a1]
    omega
  have ln := lenR hp
  simp [s0, s1, okT, hp, ln, e1, mPopAt, mPop, hp1, sq, vl]
  omega
theorem li_good {pl : List D} (g : ∀ x ∈ pl, ∃ s : Str, x = .str s ∧ okS s = true) : WfL 100 [] pl := by
  rw [wfL_iff]
  intro d hd
  obtain ⟨s, rfl, o⟩ := g d hd
  simp [WfN, o]
def Good (pl : List D) : Prop := ∀ x ∈ pl, ∃ s : Str, x = .str s ∧ okS s = true
theorem nodes_good : ∀ {pl : List D}, Good pl → nodesL pl = pl.length ∧ depL pl = 0
  | [], _ => ⟨rfl, rfl⟩
  | x :: pl, g => by
    obtain ⟨s, rfl, o⟩ := g x List.mem_cons_self
    have := nodes_good (pl := pl) fun y hy => g y (List.mem_cons_of_mem _ hy)
    simp only [nodesL, depL, nodes, dep, List.length_cons]
    omega
def pool0 : List D := [.str "a", .str "b2", .str "half", .str "to", .str "deed", .str "q9q9q9q9q9q9", .str "loop", .str "step"]
theorem good0 : Good pool0 := by
  intro x hx
  simp only [pool0, List.mem_cons, List.not_mem_nil, or_false] at hx
  rcases hx with rfl | rfl | rfl | rfl | rfl | rfl | rfl | rfl <;> exact ⟨_, rfl, by decide +kernel⟩
noncomputable abbrev popE : ES := eBM "list" mPopAt (eVar 1) (aCons (eUser 2 m__law_blow (aCons (eVar 0) (aCons (eCall fLen (aCons (eVar 1) aNil)) aNil))) aNil)
theorem comp_deeds {n e k P m : Nat} {σ : Lo} {h0 : Hs} {pl : List D} (s0 : ∀ d, (σ.set 6 d)[0]? = some (some (.ref n))) (s1 : ∀ d, (σ.set 6 d)[1]? = some (some (.ref P))) (eP : e ≠ P) (hm : h0.length = m) (ds : List D) (f : Fg h0 n e (6 * ds.length + k)) (hp : h0[P]? = some (.lst pl)) (gp : Good pl) (lp : ds.length < pl.length) (lp1 : pl.length ≤ 1000) :
    ∃ acc h' pl', compG (.nm 6) bYes (eTup (aCons popE (aCons (eUser 1 m__law_form (aCons (eVar 0) aNil)) aNil))) (fun _ => True) m σ ds (h0 ++ [.lst []]) = .ok () h' ∧ Fg h' n e k ∧ Up (SL n P) h0 h' ∧ h'[m]? = some (.lst acc) ∧ acc.length = ds.length ∧ Li (7 * acc.length) 2 acc ∧ h'[P]? = some (.lst pl') ∧ pl'.length + ds.length = pl.length ∧ Good pl' := by
  have f0 := f.nl
  have hP := lst_len hp
  let J : List D → List D → Hs → Prop := fun r acc h => Fg h n e (6 * r.length + k) ∧ Up (SL n P) h0 h ∧ h[m]? = some (.lst acc) ∧ acc.length + r.length = ds.length ∧ Li (7 * acc.length) 2 acc ∧ ∃ pl', h[P]? = some (.lst pl') ∧ pl'.length + ds.length = pl.length + r.length ∧ Good pl'
  obtain ⟨acc, h', q, j⟩ := compG_run (t := .nm 6) (el := eTup (aCons popE (aCons (eUser 1 m__law_form (aCons (eVar 0) aNil)) aNil))) (G := fun _ => True) (n := m) (σ := σ) J (fun _ _ _ _ => trivial) (fun d r acc h j => by
    obtain ⟨j1, j2, j3, j4, j5, pl', j6, j7, j8⟩ := j
    simp only [List.length_cons] at j1 j4 j7
    obtain ⟨y, h2, pl2, c1, c2, c3, c4, c5, c6, c7⟩ := pop_run (k := 6 * r.length + k + 5) (s0 (some d)) (s1 (some d)) (j1.less (by omega)) j6 eP (by omega) (by omega)
    obtain ⟨a1, a2, a3, a4, h3, d1, d2, d3, d4⟩ := v_gform (k := 6 * r.length + k) c3
    obtain ⟨s, rfl, so⟩ := j8 y c1
    have nP := j1.nlst j6
    have u : Up (SL n P) h h3 := c7.trans (d3.mono fun i z => Or.inl z)
    have mh : ¬ SL n P m := by rintro (z | z) <;> omega
    have k3 := u.keep j3 mh
    have hl := lst_len k3
    refine ⟨by omega, σ.set 6 (some d), .tup [.str s, .tup [.int a1, .int a2, .int a3, .int a4]], h3, rfl, ?_, k3, d2.up (Up.set (n := m) (S := (· = m)) rfl fun _ _ => ⟨_, rfl⟩) (by omega) (by omega), (j2.trans u).hi (by omega), by rw [List.getElem?_set_self hl], by simp; omega, ?_, pl2, by rw [List.getElem?_set_ne (by omega)]; exact d3.keep c4 nP, by omega, fun x hx => j8 x (c6 x hx)⟩
    · rw [q_tup, q_cons, show popE (List.set σ 6 (some d)) h = _ from c2]
      simp [s0 (some d), d1]
    · rw [List.length_append, List.length_singleton, Nat.mul_succ]
      exact j5.app (Li.one (by simp [WfN, WfL, so]) (by simp [nodes, nodesL]) (by simp [dep, depL]))) ds [] (h0 ++ [.lst []]) ⟨f.up (Up.app (S := fun _ => False) h0 _) (by simp) (by simp), Up.app _ _, by rw [← hm]; simp, by simp, by simpa using Li.nil, pl, by rw [List.getElem?_append_left hP]; exact hp, rfl, gp⟩
  obtain ⟨j1, j2, j3, j4, j5, pl', j6, j7, j8⟩ := j
  exact ⟨acc, h', pl', q, by simpa using j1, j2, j3, by simpa using j4, j5, j6, by simpa using j7, j8⟩
theorem comp_names {n e k P m : Nat} {σ : Lo} {h0 : Hs} {pl : List D} (s0 : ∀ d, (σ.set 6 d)[0]? = some (some (.ref n))) (s1 : ∀ d, (σ.set 6 d)[1]? = some (some (.ref P))) (eP : e ≠ P) (hm : h0.length = m) (ds : List D) (f : Fg h0 n e (1 * ds.length + k)) (hp : h0[P]? = some (.lst pl)) (gp : Good pl) (lp : ds.length < pl.length) (lp1 : pl.length ≤ 1000) :
    ∃ acc h', compG (.nm 6) bYes popE (fun _ => True) m σ ds (h0 ++ [.lst []]) = .ok () h' ∧ Fg h' n e k ∧ Up (SL n P) h0 h' ∧ h'[m]? = some (.lst acc) ∧ acc.length = ds.length ∧ Good acc := by
  have f0 := f.nl
  have hP := lst_len hp
  let J : List D → List D → Hs → Prop := fun r acc h => Fg h n e (1 * r.length + k) ∧ Up (SL n P) h0 h ∧ h[m]? = some (.lst acc) ∧ acc.length + r.length = ds.length ∧ Good acc ∧ ∃ pl', h[P]? = some (.lst pl') ∧ pl'.length + ds.length = pl.length + r.length ∧ Good pl'
  obtain ⟨acc, h', q, j⟩ := compG_run (t := .nm 6) (el := popE) (G := fun _ => True) (n := m) (σ := σ) J (fun _ _ _ _ => trivial) (fun d r acc h j => by
    obtain ⟨j1, j2, j3, j4, j5, pl', j6, j7, j8⟩ := j
    simp only [List.length_cons] at j1 j4 j7
    obtain ⟨y, h2, pl2, c1, c2, c3, c4, c5, c6, c7⟩ := pop_run (k := 1 * r.length + k) (s0 (some d)) (s1 (some d)) (j1.less (by omega)) j6 eP (by omega) (by omega)
    have nP := j1.nlst j6
    have mh : ¬ SL n P m := by rintro (z | z) <;> omega
    have k3 := c7.keep j3 mh
    have hl := lst_len k3
    refine ⟨by omega, σ.set 6 (some d), y, h2, rfl, c2, k3, c3.up (Up.set (n := m) (S := (· = m)) rfl fun _ _ => ⟨_, rfl⟩) (by omega) (by omega), (j2.trans c7).hi (by omega), by rw [List.getElem?_set_self hl], by simp; omega, ?_, pl2, by rw [List.getElem?_set_ne (by omega)]; exact c4, by omega, fun x hx => j8 x (c6 x hx)⟩
    intro x hx
    rcases List.mem_append.mp hx with z | z
    · exact j5 x z
    · rw [List.mem_singleton.mp z]; exact j8 y c1) ds [] (h0 ++ [.lst []]) ⟨f.up (Up.app (S := fun _ => False) h0 _) (by simp) (by simp), Up.app _ _, by rw [← hm]; simp, by simp, fun x hx => by simp at hx, pl, by rw [List.getElem?_append_left hP]; exact hp, rfl, gp⟩
  obtain ⟨j1, j2, j3, j4, j5, pl', j6, j7, j8⟩ := j
  exact ⟨acc, h', q, by simpa using j1, j2, j3, by simpa using j4, j5⟩
end Kl

set_option Elab.async false
set_option linter.all false
set_option maxRecDepth 100000
set_option maxHeartbeats 1000000
set_option autoImplicit false
namespace Kl
open PySem PySem.Spec PyProof.Rows L2 Sm
noncomputable def blow4 : ES := eUser 2 m__law_blow (aCons (eVar 0) (aCons (eC (.int 4)) aNil))
noncomputable def elD : ES := eTup (aCons popE (aCons (eUser 1 m__law_form (aCons (eVar 0) aNil)) aNil))
noncomputable def pS1 : SS := sSet 1 (eLst (aCons (eC (.str "a")) (aCons (eC (.str "b2")) (aCons (eC (.str "half")) (aCons (eC (.str "to")) (aCons (eC (.str "deed")) (aCons (eC (.str "q9q9q9q9q9q9")) (aCons (eC (.str "loop")) (aCons (eC (.str "step")) aNil)))))))))
noncomputable def pS2 : SS := sSet 2 (eTrim (eCall fTuple (aCons (eComp (iRangeD (aCons (eOp2 oAdd (eC (.int 1)) blow4) aNil)) (.nm 6) bYes elD [6]) aNil)))
noncomputable def pS3 : SS := sSet 3 (eOp2 oAdd (eLst (aCons (eC (.str "main")) aNil)) (eComp (iRangeD (aCons blow4 aNil)) (.nm 6) bYes popE [6]))
noncomputable def pS4 : SS := sSet 4 (eUser 2 m__law_blow (aCons (eVar 0) (aCons (eCall fLen (aCons (eVar 3) aNil)) aNil)))
noncomputable def pS5 : SS := sAsg (gPair (gSubD oSetL (eVar 3) (eC (.int 0))) (gSubD oSetL (eVar 3) (eVar 4))) (eTup (aCons (eOp2 oIx (eVar 3) (eVar 4)) (aCons (eOp2 oIx (eVar 3) (eC (.int 0))) aNil)))
noncomputable def pS6 : SS := sSet 5 (eLst (aCons (eC (.int 60)) aNil))
noncomputable def elB : ES := eUser 5 (m__law_body 40) (aCons (eVar 0) (aCons (eCall fLen (aCons (eVar 2) aNil)) (aCons (eCall fLen (aCons (eVar 3) aNil)) (aCons (eC (.int 0)) (aCons (eVar 5) aNil)))))
noncomputable def pS7 : SS := sRet (eTup (aCons (eVar 2) (aCons (eCall fTuple (aCons (eVar 3) aNil)) (aCons (eTrim (eCall fTuple (aCons (eComp (iLstD (eVar 3)) (.nm 7) bYes elB [7]) aNil))) aNil))))
theorem prog_cut : b__law_program = sCons pS1 (sCons pS2 (sCons pS3 (sCons pS4 (sCons pS5 (sCons pS6 pS7))))) := rfl
abbrev pSt (n : Nat) (a b c d e : Option D) : Lo := [some (.ref n), a, b, c, d, e, none, none]
theorem p1_run (n : Nat) (h : Hs) : pS1 (pSt n none none none none none) h = .nx (pSt n (some (.ref h.length)) none none none none) (h ++ [.lst pool0]) := by
  simp [pS1, onR, pool0]
theorem p2_run {n e k P : Nat} {h : Hs} (f : Fg h n e (25 + k)) (hp : h[P]? = some (.lst pool0)) (eP : e ≠ P) : ∃ ds h2 pl, pS2 (pSt n (some (.ref P)) none none none none) h = .nx (pSt n (some (.ref P)) (some (.tup ds)) none none none) h2 ∧ Fg h2 n e k ∧ Up (SL n P) h h2 ∧ 1 ≤ ds.length ∧ ds.length ≤ 4 ∧ Li 28 2 ds ∧ h2[P]? = some (.lst pl) ∧ 4 ≤ pl.length ∧ pl.length ≤ 8 ∧ Good pl := by
  have nl := f.nl
  have hP := lst_len hp
  have nP := f.nlst hp
  obtain ⟨v, h1, e1, v0, v1, f1, u1, l1⟩ := w_blow (k := 24 + k) (many := 4) (f.less (by omega)) (by decide)
  have src : iRangeD (aCons (eOp2 oAdd (eC (.int 1)) blow4) aNil) (pSt n (some (.ref P)) none none none none) h = .ok (Sm.intsFrom 0 (1 + v).toNat, fun (_ : Hs) => True) h1 := src_intH (by simp [blow4, e1]) ⟨by omega, by omega⟩
  have ln : (Sm.intsFrom 0 (1 + v).toNat).length = (1 + v).toNat := by simp [Sm.intsFrom]
  obtain ⟨acc, h2, pl, c1, c2, c3, c4, c5, c6, c7, c8, c9⟩ := comp_deeds (m := h1.length) (k := k) (P := P) (n := n) (e := e) (pl := pool0) (σ := wipeD (pSt n (some (.ref P)) none none none none) [6]) (fun d => rfl) (fun d => rfl) eP rfl (Sm.intsFrom 0 (1 + v).toNat) (f1.less (by omega)) (u1.keep hp nP) good0 (by rw [ln]; simp [pool0]; omega) (by simp [pool0])
  have uh : Up (SL n P) h h2 := (u1.mono fun i z => Or.inl z).trans c3
  obtain ⟨h3, g1, g2, g3⟩ := gc_up (d := .tup acc) uh
  refine ⟨acc, h3, pl, ?_, c2.eq g3 nl.2.1 nl.2.2, g2, by omega, by omega, c6.mono (by omega) (Nat.le_refl _), by rw [g3 P hP]; exact c7, by simp [pool0] at c8; omega, by simp [pool0] at c8; omega, c9⟩
  have : eTrim (eCall fTuple (aCons (eComp (iRangeD (aCons (eOp2 oAdd (eC (.int 1)) blow4) aNil)) (.nm 6) bYes elD [6]) aNil)) (pSt n (some (.ref P)) none none none none) h = .ok (.tup acc) h3 := by
    rw [q_trim, q_call, q_cons]
    unfold eComp
    rw [src, Res.bind_ok]
    dsimp only
    rw [show compG (.nm 6) bYes elD (fun _ => True) h1.length (wipeD (pSt n (some (.ref P)) none none none none) [6]) (Sm.intsFrom 0 (1 + v).toNat) (h1 ++ [.lst []]) = _ from c1]
    simp only [Res.bind_ok, q_nil]
    have : fTuple [.ref h1.length] h2 = .ok (.tup acc) h2 := by simp [fTuple, seqD, c4]
    rw [this, g1]
  unfold pS2
  rw [q_set, this]
  simp [onR]
theorem p3_run {n e k P : Nat} {h : Hs} {dd : D} {pl : List D} (f : Fg h n e (4 + k)) (hp : h[P]? = some (.lst pl)) (eP : e ≠ P) (l4 : 4 ≤ pl.length) (l8 : pl.length ≤ 8) (gp : Good pl) : ∃ xs h2 t, pS3 (pSt n (some (.ref P)) (some dd) none none none) h = .nx (pSt n (some (.ref P)) (some dd) (some (.ref t)) none none) h2 ∧ Fg h2 n e k ∧ Up (SL n P) h h2 ∧ h2[t]? = some (.lst xs) ∧ h.length ≤ t ∧ 1 ≤ xs.length ∧ xs.length ≤ 4 ∧ Good xs := by
  have nl := f.nl
  have hP := lst_len hp
  have nP := f.nlst hp
  let hA := h ++ [C.lst [.str "main"]]
  have uA : Up (SL n P) h hA := Up.app _ _
  have fA : Fg hA n e (4 + k) := f.up (Up.app (S := fun _ => False) h _) (by simp) (by simp)
  obtain ⟨v, h1, e1, v0, v1, f1, u1, l1⟩ := w_blow (k := 3 + k) (many := 4) (fA.less (by omega)) (by decide)
  have src : iRangeD (aCons blow4 aNil) (pSt n (some (.ref P)) (some dd) none none none) hA = .ok (Sm.intsFrom 0 v.toNat, fun (_ : Hs) => True) h1 := src_intH (by simp [blow4, e1]) ⟨by omega, by omega⟩
  have ln : (Sm.intsFrom 0 v.toNat).length = v.toNat := by simp [Sm.intsFrom]
  have hpA : hA[P]? = some (.lst pl) := by simp only [hA]; rw [List.getElem?_append_left hP]; exact hp
  obtain ⟨acc, h2, c1, c2, c3, c4, c5, c6⟩ := comp_names (m := h1.length) (k := k) (P := P) (n := n) (e := e) (pl := pl) (σ := wipeD (pSt n (some (.ref P)) (some dd) none none none) [6]) (fun d => rfl) (fun d => rfl) eP rfl (Sm.intsFrom 0 v.toNat) (f1.less (by omega)) (u1.keep hpA nP) gp (by rw [ln]; omega) (by omega)
  have u2 : Up (SL n P) hA h2 := (u1.mono fun i z => Or.inl z).trans c3
  have km : h2[h.length]? = some (.lst [.str "main"]) := u2.keep (by simp [hA]) (by rintro (z | z) <;> omega)
  have uB : Up (SL n P) h (h2 ++ [C.lst (.str "main" :: acc)]) := (uA.trans u2).trans (Up.app _ _)
  refine ⟨.str "main" :: acc, h2 ++ [.lst (.str "main" :: acc)], h2.length, ?_, c2.up (Up.app (S := fun _ => False) h2 _) (by simp) (by simp), uB, by simp, (uA.trans u2).le, by simp, by simp; omega, ?_⟩
  · unfold pS3
    rw [q_set, q_op2, q_lst]
    simp only [q_cons, q_c, q_nil, Res.bind_ok]
    rw [if_pos (by simp), Res.bind_ok]
    unfold eComp
    rw [src, Res.bind_ok]
    dsimp only
    rw [c1]
    simp only [Res.bind_ok]
    have : oAdd (.ref h.length) (.ref h1.length) h2 = .ok (.ref h2.length) (h2 ++ [.lst (.str "main" :: acc)]) := by
      simp only [oAdd, km, c4]
      rw [if_pos (by simp; omega)]
      rfl
    rw [this]
    simp [onR]
  · intro x hx
    rcases List.mem_cons.mp hx with rfl | z
    · exact ⟨_, rfl, by decide +kernel⟩
    · exact c6 x z
theorem p4_run {n e k t : Nat} {h : Hs} {a b : Option D} {xs : List D} (f : Fg h n e (1 + k)) (ht : h[t]? = some (.lst xs)) (l1 : 1 ≤ xs.length) : ∃ (v : Int) (h2 : Hs), pS4 (pSt n a b (some (.ref t)) none none) h = .nx (pSt n a b (some (.ref t)) (some (.int v)) none) h2 ∧ 0 ≤ v ∧ v < xs.length ∧ Fg h2 n e k ∧ Up (· = n) h h2 ∧ h2[t]? = some (.lst xs) := by
  obtain ⟨v, h1, e1, v0, v1, f1, u1, l1'⟩ := w_blow (k := k) (many := (xs.length : Int)) (f.less (by omega)) (by omega)
  have ln := lenR ht
  exact ⟨v, h1, by simp [pS4, ln, e1, onR], v0, v1, f1, u1, u1.keep ht (f.nlst ht)⟩
theorem p5_run {n t : Nat} {h : Hs} {a b : Option D} {xs : List D} {v : Int} (ht : h[t]? = some (.lst xs)) (v0 : 0 ≤ v) (v1 : v < xs.length) (g : Good xs) : ∃ ys, pS5 (pSt n a b (some (.ref t)) (some (.int v)) none) h = .nx (pSt n a b (some (.ref t)) (some (.int v)) none) (h.set t (.lst ys)) ∧ ys.length = xs.length ∧ Good ys := by
  have vl : v.toNat < xs.length := by omega
  have z0 : 0 < xs.length := by omega
  have hl := lst_len ht
  have i1 : oIx (.ref t) (.int v) h = .ok xs[v.toNat] h := ixR ht (by
    have := atI_get (xs := xs) (i := v.toNat) (d := xs[v.toNat]) (by simp [vl])
    rwa [Int.toNat_of_nonneg v0] at this)
  have i2 : oIx (.ref t) (.int 0) h = .ok xs[0] h := ixR ht (by
    have := atI_get (xs := xs) (i := 0) (d := xs[0]) (by simp [z0])
    simpa using this)
  have s1 : oSetL (.ref t) (.int 0) xs[v.toNat] h = .ok .non (h.set t (.lst (xs.set 0 xs[v.toNat]))) := by
    simp [oSetL, ht, ixN, z0]
  have s2 : oSetL (.ref t) (.int v) xs[0] (h.set t (.lst (xs.set 0 xs[v.toNat]))) = .ok .non (h.set t (.lst ((xs.set 0 xs[v.toNat]).set v.toNat xs[0]))) := by
    simp [oSetL, hl, ixN, v0, v1]
  refine ⟨(xs.set 0 xs[v.toNat]).set v.toNat xs[0], ?_, by simp, fun x hx => ?_⟩
  · simp [pS5, sAsg, i1, i2, gPair, gSubD, s1, s2, onR, Out.next]
  · rcases List.mem_or_eq_of_mem_set hx with z | rfl
    · rcases List.mem_or_eq_of_mem_set z with w | rfl
      · exact g x w
      · exact g _ (List.getElem_mem vl)
    · exact g _ (List.getElem_mem z0)
theorem p6_run (n : Nat) (h : Hs) (a b c d : Option D) : pS6 (pSt n a b c d none) h = .nx (pSt n a b c d (some (.ref h.length))) (h ++ [.lst [.int 60]]) := by
  simp [pS6, onR]
end Kl

set_option Elab.async false
set_option linter.all false
set_option maxRecDepth 100000
set_option maxHeartbeats 1000000
set_option autoImplicit false
namespace Kl
open PySem PySem.Spec PyProof.Rows L2 Sm
theorem p7_run {n e k t l P : Nat} {h : Hs} {d4 : Option D} {ds ys : List D} (f : FL h n e l (5824 + k)) (ne : e ≠ l) (ht : h[t]? = some (.lst ys)) (tl : t ≠ l) (d1 : 1 ≤ ds.length) (y1 : 1 ≤ ys.length) (y4 : ys.length ≤ 4) : ∃ bs h2, pS7 (pSt n (some (.ref P)) (some (.tup ds)) (some (.ref t)) d4 (some (.ref l))) h = .rt (.tup [.tup ds, .tup ys, .tup bs]) h2 ∧ FL h2 n e l k ∧ Up (SL n l) h h2 ∧ Li (1882 * bs.length) 12 bs ∧ bs.length ≤ 4 ∧ ∀ x ∈ bs, nodes x ≤ 1882 := by
  have nl := f.nl
  have tn := f.1.nlst ht
  have hl := lst_len ht
  generalize hσ : pSt n (some (.ref P)) (some (.tup ds)) (some (.ref t)) d4 (some (.ref l)) = σ
  have src : iLstD (eVar 3) σ h = .ok (ys, fun hh => hh[t]? = some (.lst ys)) h := by
    rw [← hσ]
    simp [pSt, ht]
  have H := v_gbody (a := (ds.length : Int)) (b := (ys.length : Int)) (by omega) (by omega)
  have lenY : ∀ hh : Hs, hh[t]? = some (.lst ys) → fLen [.ref t] hh = .ok (.int (ys.length : Nat)) hh := fun hh z => lenR z
  have ts : ¬ SL n l t := by rintro (z | z) <;> omega
  obtain ⟨acc, h2, c1, c2, c3, c4, c5, c6, c7⟩ := comp_bodies (m := h.length) (k := k) (t := .nm 7) (σ := wipeD σ [7]) (el := elB) H ne (G := fun hh => hh[t]? = some (.lst ys)) (h0 := h) (fun hh u => u.keep ht ts) (fun d => ⟨_, rfl, fun hh u => by
    have := lenY hh (u.keep ht ts)
    rw [← hσ]
    simp [wipeD, elB, this]⟩) rfl ys (by omega) (f.less (by have := Nat.mul_le_mul_left 1456 y4; omega))
  obtain ⟨h3, g1, g2, g3⟩ := gc_up (d := .tup acc) c3
  refine ⟨acc, h3, ?_, c2.eq g3 nl.2.1 nl.2.2.2 nl.2.2.1, g2, c6, by omega, c7⟩
  have : eTrim (eCall fTuple (aCons (eComp (iLstD (eVar 3)) (.nm 7) bYes elB [7]) aNil)) σ h = .ok (.tup acc) h3 := by
    rw [q_trim, q_call, q_cons]
    unfold eComp
    rw [src, Res.bind_ok]
    dsimp only
    rw [c1]
    simp only [Res.bind_ok, q_nil]
    have : fTuple [.ref h.length] h2 = .ok (.tup acc) h2 := by simp [fTuple, seqD, c4]
    rw [this, g1]
  have t2 : fTuple [.ref t] h = .ok (.tup ys) h := by simp [fTuple, seqD, ht]
  have v2 : eVar 2 σ h = .ok (.tup ds) h := by rw [← hσ]; rfl
  have v3 : eVar 3 σ h = .ok (.ref t) h := by rw [← hσ]; rfl
  unfold pS7
  rw [q_ret, q_tup, q_cons, v2, Res.bind_ok, q_cons, q_call, q_cons, v3]
  simp only [Res.bind_ok, q_nil, t2, q_cons, this]
  simp [onR]
structure Pg (d : D) : Prop where
  wf : WfN 100 [] d
  no : nodes d ≤ 7564
  de : dep d ≤ 14
  gr : ∀ xs, d = .tup xs → ∀ y ∈ xs, ∀ ys, y = .tup ys → ∀ z ∈ ys, nodes z ≤ 1882
  tp : ∃ xs, d = .tup xs ∧ xs.length = 3
theorem v_gprog {h : Hs} {n e k : Nat} (f : Fg h n e (5854 + k)) : ∃ d h', m__law_program [.ref n] h = .ok d h' ∧ Fg h' n e k ∧ Up (· = n) h h' ∧ Pg d := by
  have nl := f.nl
  have u1 : Up (· = n) h (h ++ [C.lst pool0]) := Up.app _ _
  have f1 : Fg (h ++ [C.lst pool0]) n e (5854 + k) := f.up (Up.app (S := fun _ => False) h _) (by simp) (by simp)
  obtain ⟨ds, h2, pl, q2, f2, u2, a1, a2, a3, a4, a5, a6, a7⟩ := p2_run (P := h.length) (k := 5829 + k) (f1.less (by omega)) (by simp) (by omega)
  obtain ⟨xs, h3, t, q3, f3, u3, b1, b2, b3, b4, b5⟩ := p3_run (P := h.length) (dd := .tup ds) (k := 5825 + k) (f2.less (by omega)) a4 (by omega) a5 a6 a7
  obtain ⟨v, h4, q4, v0, v1, f4, u4, c1⟩ := p4_run (a := some (.ref h.length)) (b := some (.tup ds)) (k := 5824 + k) (f3.less (by omega)) b1 b3
  obtain ⟨ys, q5, y1, y2⟩ := p5_run (n := n) (a := some (.ref h.length)) (b := some (.tup ds)) c1 v0 v1 b5
  have l2 := u2.le
  have l3 := u3.le
  have l4 := u4.le
  simp at l2
  have tl := lst_len c1
  let h5 := h4.set t (.lst ys)
  have l5 : h5.length = h4.length := by simp [h5]
  have f5 : Fg h5 n e (5824 + k) := f4.up (Up.set (n := t) (S := (· = t)) rfl fun _ _ => ⟨_, rfl⟩) (by omega) (by omega)
  have t5 : h5[t]? = some (.lst ys) := by simp only [h5]; rw [List.getElem?_set_self tl]
  have f6 : Fg (h5 ++ [C.lst [.int 60]]) n e (5824 + k) := f5.up (Up.app (S := fun _ => False) h5 _) (by simp) (by simp)
  have f6' := f6
  obtain ⟨_, bl, _, _, _, _, _, _, _, _, bl0, blk⟩ := f6'
  have fl : FL (h5 ++ [C.lst [.int 60]]) n e h5.length (5824 + k) := ⟨f6, 60, by simp, by decide, by omega⟩
  obtain ⟨bs, h7, q7, f7, u7, g1, g2, g3⟩ := p7_run (P := h.length) (d4 := some (.int v)) (k := k) (ds := ds) (t := t) fl (by omega) (by rw [List.getElem?_append_left (by omega)]; exact t5) (by omega) a1 (by omega) (by omega)
  have lo : ∀ {T : Nat → Prop} {g g' : Hs} (u : Up T g g') (w : ∀ i, i < h.length → T i → i = n), h.length ≤ g.length → Up (· = n) h g → Up (· = n) h g' := fun u w lg ug => ⟨Nat.le_trans ug.le u.le, fun i il is => by rw [u.same i (Nat.lt_of_lt_of_le il lg) (fun z => is (w i il z)), ug.same i il is], fun i xs ex => let ⟨ys, z⟩ := ug.ls i xs ex; u.ls i ys z⟩
  have w2 := lo u2 (fun i il z => by rcases z with z | z <;> omega) (by simp) u1
  have w3 := lo u3 (fun i il z => by rcases z with z | z <;> omega) w2.le w2
  have w4 := lo u4 (fun i il z => z) w3.le w3
  have w5 : Up (· = n) h h5 := w4.hi (by omega)
  have w6 : Up (· = n) h (h5 ++ [C.lst [.int 60]]) := w5.trans (Up.app _ _)
  have w7 := lo u7 (fun i il z => by rcases z with z | z <;> omega) w6.le w6
  have body : bodyF N__law_program.length b__law_program [.ref n] h = .ok (.tup [.tup ds, .tup ys, .tup bs]) h7 := by
    rw [prog_cut]
    unfold bodyF
    have r1 := p1_run n h
    have r6 := p6_run n h5 (some (.ref h.length)) (some (.tup ds)) (some (.ref t)) (some (.int v))
    rw [show (([D.ref n].map some ++ List.replicate (N__law_program.length - [D.ref n].length) none) : Lo) = pSt n none none none none none from rfl]
    simp only [Out.next, q_scons, r1, q2, q3, q4, q5]
    rw [show pS6 _ (h4.set t (.lst ys)) = _ from r6]
    simp only [q7]
  obtain ⟨h8, g4, g5, g6⟩ := gc_up (d := .tup [.tup ds, .tup ys, .tup bs]) w7
  have gy := nodes_good y2
  have m1 := Nat.mul_le_mul_left 1882 g2
  refine ⟨.tup [.tup ds, .tup ys, .tup bs], h8, ?_, f7.1.eq g6 nl.2.1 nl.2.2, g5, ⟨?_, ?_, ?_, ?_, _, rfl, rfl⟩⟩
  · unfold m__law_program fnF
    rw [body, g4]
  · have z1 := (a3.tup (by omega)).1
    have z2 := (g1.tup (by omega)).1
    have z3 : WfN 100 [] (.tup ys) := by simp only [WfN]; exact ⟨by omega, li_good y2⟩
    simp only [WfN, WfL, List.length_cons, List.length_nil] at *
    exact ⟨by decide, z1, z3, z2, trivial⟩
  · have := a3.no
    have := g1.no
    simp only [nodes, nodesL]
    omega
  · have := a3.de
    have := g1.de
    simp only [dep, depL]
    omega
  · intro xs ex y hy zs ez z hz
    injection ex with ex
    subst ex
    subst ez
    simp only [List.mem_cons, List.not_mem_nil, or_false] at hy
    have mm : ∀ {xs : List D} {d : D}, d ∈ xs → nodes d ≤ nodesL xs := by
      intro xs d h
      induction xs with
      | nil => cases h
      | cons x xs ih =>
        simp only [nodesL]
        rcases List.mem_cons.mp h with e | e
        · subst e; omega
        · have := ih e; omega
    rcases hy with hy | hy | hy
    · injection hy with hy
      subst hy
      have := mm hz
      have := a3.no
      omega
    · injection hy with hy
      subst hy
      have := mm hz
      omega
    · injection hy with hy
      subst hy
      exact g3 z hz
end Kl

set_option Elab.async false
set_option linter.all false
set_option maxRecDepth 100000
set_option maxHeartbeats 1000000
set_option autoImplicit false
namespace Kl
open PySem PySem.Spec PyProof.Rows L2 Sm
theorem okS_return : okS "return" = true := by decide +kernel
theorem okS_choose : okS "choose" = true := by decide +kernel
noncomputable def cN : ES := eUser 2 m__law_blow (aCons (eVar 0) (aCons (eVar 4) aNil))
noncomputable def cC : ES := eTrim (eCall fTuple (aCons (eComp (iRangeD (aCons (eOp2 oAdd (eC (.int 2)) (eUser 2 m__law_blow (aCons (eVar 0) (aCons (eC (.int 2)) aNil)))) aNil)) (.nm 8) bYes cN [8]) aNil))
noncomputable def cE : ES := eOp2 oIx (eTup (aCons (eTup (aCons (eC (.str "return")) aNil)) (aCons (eTup (aCons (eC (.str "deed")) (aCons (eUser 1 m__law_form (aCons (eVar 0) aNil)) (aCons (eVar 7) aNil)))) (aCons (eTup (aCons (eC (.str "call")) (aCons (eUser 2 m__law_blow (aCons (eVar 0) (aCons (eVar 1) aNil))) (aCons (eVar 7) aNil)))) (aCons (eTup (aCons (eC (.str "choose")) (aCons cC aNil))) aNil))))) (eUser 2 m__law_blow (aCons (eVar 0) (aCons (eC (.int 4)) aNil)))
noncomputable def cIn : SS := sCons (sSet 7 cN) (sExpr (eBM "list" mAppend (eVar 5) (aCons cE aNil)))
noncomputable def cOut : SS := sCons (sSet 4 (eOp2 oAdd (eC (.int 1)) (eUser 2 m__law_blow (aCons (eVar 0) (aCons (eC (.int 5)) aNil))))) (sCons (sSet 5 (eLst aNil)) (sCons (sFor (iRangeD (aCons (eVar 4) aNil)) (.nm 6) cIn) (sExpr (eBM "list" mAppend (eVar 2) (aCons (eCall fTuple (aCons (eVar 5) aNil)) aNil)))))
theorem code_cut : b__law_code = sCons (sSet 1 (eOp2 oAdd (eC (.int 1)) (eUser 2 m__law_blow (aCons (eVar 0) (aCons (eC (.int 3)) aNil))))) (sCons (sSet 2 (eLst aNil)) (sCons (sFor (iRangeD (aCons (eVar 1) aNil)) (.nm 3) cOut) (sRet (eCall fTuple (aCons (eVar 2) aNil))))) := rfl
theorem comp_ints {n e k m : Nat} {size : Int} {σ : Lo} {h0 : Hs} (s0 : ∀ d, (σ.set 8 d)[0]? = some (some (.ref n))) (s4 : ∀ d, (σ.set 8 d)[4]? = some (some (.int size))) (hs : 0 < size) (hm : h0.length = m) (ds : List D) (f : Fg h0 n e (1 * ds.length + k)) (ld : ds.length ≤ 1000) :
    ∃ acc h', compG (.nm 8) bYes cN (fun _ => True) m σ ds (h0 ++ [.lst []]) = .ok () h' ∧ Fg h' n e k ∧ Up (· = n) h0 h' ∧ h'[m]? = some (.lst acc) ∧ acc.length = ds.length ∧ WfL 100 [] acc := by
  have f0 := f.nl
  let J : List D → List D → Hs → Prop := fun r acc h => Fg h n e (1 * r.length + k) ∧ Up (· = n) h0 h ∧ h[m]? = some (.lst acc) ∧ acc.length + r.length = ds.length ∧ WfL 100 [] acc
  obtain ⟨acc, h', q, j⟩ := compG_run (t := .nm 8) (el := cN) (G := fun _ => True) (n := m) (σ := σ) J (fun _ _ _ _ => trivial) (fun d r acc h j => by
    obtain ⟨j1, j2, j3, j4, j5⟩ := j
    simp only [List.length_cons] at j1 j4
    obtain ⟨v, h2, e1, v0, v1, f1, u1, l1⟩ := w_blow (k := 1 * r.length + k) (j1.less (by omega)) hs
    have k3 := u1.keep j3 (by omega)
    have hl := lst_len k3
    refine ⟨by omega, σ.set 8 (some d), .int v, h2, rfl, ?_, k3, f1.up (Up.set (n := m) (S := (· = m)) rfl fun _ _ => ⟨_, rfl⟩) (by omega) (by omega), (j2.trans u1).hi (by omega), by rw [List.getElem?_set_self hl], by simp; omega, wfL_app j5 (by simp [WfL, WfN])⟩
    unfold cN
    rw [q_user, q_cons]
    simp [s0 (some d), s4 (some d), e1]) ds [] (h0 ++ [.lst []]) ⟨f.up (Up.app (S := fun _ => False) h0 _) (by simp) (by simp), Up.app _ _, by rw [← hm]; simp, by simp, by simp [WfL]⟩
  obtain ⟨j1, j2, j3, j4, j5⟩ := j
  exact ⟨acc, h', q, by simpa using j1, j2, j3, by simpa using j4, j5⟩
abbrev cSt (n : Nat) (w : Int) (t : Nat) (x3 : Option D) (size : Int) (r : Nat) (x6 x7 : Option D) : Lo := [some (.ref n), some (.int w), some (.ref t), x3, some (.int size), some (.ref r), x6, x7, none]
theorem row_run {n e k t r : Nat} {w size near : Int} {x3 x6 : Option D} {h : Hs} (f : Fg h n e (11 + k)) (hw : 0 < w) (hs : 0 < size) : ∃ d h2, cE (cSt n w t x3 size r x6 (some (.int near))) h = .ok d h2 ∧ Fg h2 n e k ∧ Up (· = n) h h2 ∧ WfN 100 [] d := by
  have nl := f.nl
  generalize hσ : cSt n w t x3 size r x6 (some (.int near)) = σ
  have s0 : σ[0]? = some (some (.ref n)) := by rw [← hσ]; rfl
  have s1 : σ[1]? = some (some (.int w)) := by rw [← hσ]; rfl
  have s7 : σ[7]? = some (some (.int near)) := by rw [← hσ]; rfl
  obtain ⟨a1, a2, a3, a4, h1, e1, f1, u1, l1⟩ := v_gform (k := 6 + k) (f.less (by omega))
  obtain ⟨v2, h2, e2, p2, q2, f2, u2, l2⟩ := w_blow (k := 5 + k) (f1.less (by omega)) hw
  obtain ⟨v3, h3, e3, p3, q3, f3, u3, l3⟩ := w_blow (k := 4 + k) (many := 2) (f2.less (by omega)) (by decide)
  have src : iRangeD (aCons (eOp2 oAdd (eC (.int 2)) (eUser 2 m__law_blow (aCons (eVar 0) (aCons (eC (.int 2)) aNil)))) aNil) σ h2 = .ok (Sm.intsFrom 0 (2 + v3).toNat, fun (_ : Hs) => True) h3 := src_intH (by simp [s0, e3]) ⟨by omega, by omega⟩
  have ln : (Sm.intsFrom 0 (2 + v3).toNat).length ≤ 3 := by simp [Sm.intsFrom]; omega
  obtain ⟨acc, h4, c1, c2, c3, c4, c5, c6⟩ := comp_ints (m := h3.length) (k := 1 + k) (n := n) (e := e) (size := size) (σ := wipeD σ [8]) (fun d => by rw [← hσ]; rfl) (fun d => by rw [← hσ]; rfl) hs rfl (Sm.intsFrom 0 (2 + v3).toNat) (f3.less (by omega)) (by omega)
  obtain ⟨h5, g1, g2, g3⟩ := gc_up (d := .tup acc) (u3.trans c3)
  have f5 : Fg h5 n e (1 + k) := c2.eq g3 (by omega) (by omega)
  have ec : cC σ h2 = .ok (.tup acc) h5 := by
    unfold cC
    rw [q_trim, q_call, q_cons]
    unfold eComp
    rw [src, Res.bind_ok]
    dsimp only
    rw [c1]
    simp only [Res.bind_ok, q_nil]
    have : fTuple [.ref h3.length] h4 = .ok (.tup acc) h4 := by simp [fTuple, seqD, c4]
    rw [this, g1]
  obtain ⟨v6, h6, e6, p6, q6, f6, u6, l6⟩ := w_blow (k := k) (many := 4) (f5.less (by omega)) (by decide)
  have wA : WfN 100 [] (.tup acc) := by simp only [WfN]; exact ⟨by omega, c6⟩
  have fin : v6 = 0 ∨ v6 = 1 ∨ v6 = 2 ∨ v6 = 3 := by omega
  have ev : cE σ h = oIx (.tup [.tup [.str "return"], .tup [.str "deed", .tup [.int a1, .int a2, .int a3, .int a4], .int near], .tup [.str "call", .int v2, .int near], .tup [.str "choose", .tup acc]]) (.int v6) h6 := by
    simp [cE, s0, s1, s7, e1, e2, ec, e6]
  have up : Up (· = n) h h6 := ((u1.trans u2).trans g2).trans u6
  rw [ev]
  rcases fin with rfl | rfl | rfl | rfl
  · exact ⟨_, h6, by rw [q_ix0], f6, up, by simp [WfN, WfL, okS_return]⟩
  · exact ⟨_, h6, by rw [q_ix1], f6, up, by simp [WfN, WfL, okS_deed]⟩
  · exact ⟨_, h6, by rw [q_ix2], f6, up, by simp [WfN, WfL, okS_call]⟩
  · exact ⟨_, h6, by rw [q_ix3], f6, up, by simp only [WfN, WfL] at wA ⊢; exact ⟨by simp, okS_choose, wA, trivial⟩⟩
end Kl

set_option Elab.async false
set_option linter.all false
set_option maxRecDepth 100000
set_option maxHeartbeats 1000000
set_option autoImplicit false
namespace Kl
open PySem PySem.Spec PyProof.Rows L2 Sm
theorem app5 {σ : Lo} {h h2 : Hs} {f : ES} {i t : Nat} {y : D} {xs xs0 : List D} (v : σ[i]? = some (some (.ref t))) (h0 : h[t]? = some (.lst xs0)) (ev : f σ h = .ok y h2) (h2t : h2[t]? = some (.lst xs)) (l : xs.length < 100000) :
    sExpr (eBM "list" mAppend (eVar i) (aCons f aNil)) σ h = .nx σ (h2.set t (.lst (xs ++ [y]))) := by
  simp [v, okT, h0, ev, mAppend, h2t, l, onR]
theorem inner_run {n e k t : Nat} {w size : Int} {x3 x6 x7 : Option D} {h0 : Hs} (f : Fg h0 n e (12 * size.toNat + k)) (hw : 0 < w) (hs : 0 < size) (hs5 : size ≤ 5) : ∃ x6' x7' xs h2, sFor (iRangeD (aCons (eVar 4) aNil)) (.nm 6) cIn (cSt n w t x3 size h0.length x6 x7) (h0 ++ [.lst []]) = .nx (cSt n w t x3 size h0.length x6' x7') h2 ∧ Fg h2 n e k ∧ Up (· = n) h0 h2 ∧ h2[h0.length]? = some (.lst xs) ∧ WfL 100 [] xs ∧ xs.length ≤ 5 := by
  have nl := f.nl
  generalize hr : h0.length = r
  have src : iRangeD (aCons (eVar 4) aNil) (cSt n w t x3 size r x6 x7) (h0 ++ [.lst []]) = .ok (Sm.intsFrom 0 size.toNat, fun (_ : Hs) => True) (h0 ++ [.lst []]) := src_intH (by simp) ⟨by omega, by omega⟩
  have ln : (Sm.intsFrom 0 size.toNat).length = size.toNat := by simp [Sm.intsFrom]
  let I : List D → Lo → Hs → Prop := fun ds σ hh => ∃ y6 y7 xs, σ = cSt n w t x3 size r y6 y7 ∧ Fg hh n e (12 * ds.length + k) ∧ hh[r]? = some (.lst xs) ∧ WfL 100 [] xs ∧ xs.length + ds.length ≤ 5 ∧ Up (· = n) h0 hh
  obtain ⟨σ', h2, q, y6, y7, xs, z1, z2, z3, z4, z5, z6⟩ := forG_nx (t := .nm 6) (G := fun _ => True) (body := cIn) I (fun _ _ _ _ => trivial) (fun d ds σ hh i => by
    obtain ⟨y6, y7, xs, rfl, i2, i3, i4, i5, i6⟩ := i
    simp only [List.length_cons] at i2 i5
    refine ⟨cSt n w t x3 size r (some d) y7, rfl, ?_⟩
    obtain ⟨nv, h3, e3, n0, n1, f3, u3, l3⟩ := w_blow (k := 11 + (12 * ds.length + k)) (i2.less (by omega)) hs
    obtain ⟨y, h4, e4, f4, u4, w4⟩ := row_run (t := t) (r := r) (near := nv) (x3 := x3) (x6 := some d) f3 hw hs
    have rn := i2.nlst i3
    have k3 := u3.keep i3 rn
    have k4 := u4.keep k3 rn
    refine ⟨_, _, ?_, some d, some (.int nv), xs ++ [y], rfl, f4.up (Up.set (n := r) (S := (· = r)) rfl fun _ _ => ⟨_, rfl⟩) (by omega) (by omega), by rw [List.getElem?_set_self (lst_len k4)], wfL_app i4 (by simp [WfL, w4]), by simp; omega, ((i6.trans u3).trans u4).hi (by omega)⟩
    have e5 : cN (cSt n w t x3 size r (some d) y7) hh = .ok (.int nv) h3 := by simp [cN, e3]
    have e6 := app5 (σ := cSt n w t x3 size r (some d) (some (.int nv))) (i := 5) (f := cE) rfl k3 e4 k4 (by omega)
    unfold cIn
    rw [q_scons, q_set, e5]
    simp only [onR, Out.next]
    exact e6) (Sm.intsFrom 0 size.toNat) (cSt n w t x3 size r x6 x7) (h0 ++ [.lst []]) ⟨x6, x7, [], rfl, (f.up (Up.app (S := fun _ => False) h0 _) (by simp) (by simp)).less (by omega), by rw [← hr]; simp, by simp [WfL], by simp; omega, Up.app _ _⟩
  refine ⟨y6, y7, xs, h2, ?_, z2.less (by omega), z6, z3, z4, by omega⟩
  rw [q_for, src]
  exact q.trans (by rw [z1])
theorem v_gcode {h : Hs} {n e k : Nat} (f : Fg h n e (190 + k)) : ∃ xs h', m__law_code [.ref n] h = .ok (.tup xs) h' ∧ Fg h' n e k ∧ Up (· = n) h h' ∧ WfN 100 [] (.tup xs) ∧ xs.length ≤ 3 := by
  have nl := f.nl
  obtain ⟨v, h1, e1, v0, v3, f1, u1, l1⟩ := w_blow (k := 189 + k) (many := 3) (f.less (by omega)) (by decide)
  let w : Int := 1 + v
  have w0 : 0 < w := by omega
  let t := h1.length
  let oS : Option D → Option D → Option D → Option D → Option D → Lo := fun x3 x4 x5 x6 x7 => [some (.ref n), some (.int w), some (.ref t), x3, x4, x5, x6, x7, none]
  have src : iRangeD (aCons (eVar 1) aNil) (oS none none none none none) (h1 ++ [.lst []]) = .ok (Sm.intsFrom 0 w.toNat, fun (_ : Hs) => True) (h1 ++ [.lst []]) := src_intH (by simp [oS]) ⟨by omega, by omega⟩
  have ln : (Sm.intsFrom 0 w.toNat).length ≤ 3 := by simp [Sm.intsFrom]; omega
  let I : List D → Lo → Hs → Prop := fun ds σ hh => ∃ x3 x4 x5 x6 x7 xs, σ = oS x3 x4 x5 x6 x7 ∧ Fg hh n e (61 * ds.length + k) ∧ hh[t]? = some (.lst xs) ∧ WfL 100 [] xs ∧ xs.length + ds.length ≤ 3 ∧ Up (· = n) h1 hh
  obtain ⟨σ', h2, q, x3, x4, x5, x6, x7, xs, z1, z2, z3, z4, z5, z6⟩ := forG_nx (t := .nm 3) (G := fun _ => True) (body := cOut) I (fun _ _ _ _ => trivial) (fun d ds σ hh i => by
    obtain ⟨x3, x4, x5, x6, x7, xs, rfl, i2, i3, i4, i5, i6⟩ := i
    simp only [List.length_cons] at i2 i5
    refine ⟨oS (some d) x4 x5 x6 x7, rfl, ?_⟩
    obtain ⟨s, h3, e3, s0, s1, f3, u3, l3⟩ := w_blow (k := 60 + (61 * ds.length + k)) (many := 5) (i2.less (by omega)) (by decide)
    obtain ⟨y6, y7, ys, h4, e4, f4, u4, k4, w4, l4⟩ := inner_run (t := t) (x3 := some d) (x6 := x6) (x7 := x7) (k := 61 * ds.length + k) (size := 1 + s) (f3.less (by omega)) w0 (by omega) (by omega)
    have tn := i2.nlst i3
    have k3 := u3.keep i3 tn
    have k5 := u4.keep k3 tn
    have lt := lst_len i3
    refine ⟨oS (some d) (some (.int (1 + s))) (some (.ref h3.length)) y6 y7, h4.set t (.lst (xs ++ [.tup ys])), ?_, _, _, _, _, _, xs ++ [.tup ys], rfl, f4.up (Up.set (n := t) (S := (· = t)) rfl fun _ _ => ⟨_, rfl⟩) (by omega) (by omega), by rw [List.getElem?_set_self (lst_len k5)], wfL_app i4 (by simp only [WfL, WfN]; exact ⟨⟨by omega, w4⟩, trivial⟩), by simp; omega, ((i6.trans u3).trans u4).hi (Nat.le_refl _)⟩
    have e6 := app5 (σ := oS (some d) (some (.int (1 + s))) (some (.ref h3.length)) y6 y7) (i := 2) (h := h4) (h2 := h4) (f := eCall fTuple (aCons (eVar 5) aNil)) (y := .tup ys) rfl k5 (by simp [oS, fTuple, seqD, k4]) k5 (by omega)
    unfold cOut
    have e7 : (sSet 4 (eOp2 oAdd (eC (.int 1)) (eUser 2 m__law_blow (aCons (eVar 0) (aCons (eC (.int 5)) aNil))))) (oS (some d) x4 x5 x6 x7) hh = .nx (oS (some d) (some (.int (1 + s))) x5 x6 x7) h3 := by simp [oS, e3, onR]
    have e8 : (sSet 5 (eLst aNil)) (oS (some d) (some (.int (1 + s))) x5 x6 x7) h3 = .nx (oS (some d) (some (.int (1 + s))) (some (.ref h3.length)) x6 x7) (h3 ++ [.lst []]) := by simp [oS, onR]
    have e9 : sFor (iRangeD (aCons (eVar 4) aNil)) (.nm 6) cIn (oS (some d) (some (.int (1 + s))) (some (.ref h3.length)) x6 x7) (h3 ++ [.lst []]) = .nx (oS (some d) (some (.int (1 + s))) (some (.ref h3.length)) y6 y7) h4 := e4
    rw [q_scons, e7]
    simp only [Out.next]
    rw [q_scons, e8]
    simp only [Out.next]
    rw [q_scons, e9]
    simp only [Out.next]
    exact e6) (Sm.intsFrom 0 w.toNat) (oS none none none none none) (h1 ++ [.lst []]) ⟨none, none, none, none, none, [], rfl, (f1.up (Up.app (S := fun _ => False) h1 _) (by simp) (by simp)).less (by omega), by simp [t], by simp [WfL], by simpa using ln, Up.app _ _⟩
  have body : bodyF N__law_code.length b__law_code [.ref n] h = .ok (.tup xs) h2 := by
    rw [code_cut]
    unfold bodyF
    rw [show (([D.ref n].map some ++ List.replicate (N__law_code.length - [D.ref n].length) none) : Lo) = [some (.ref n), none, none, none, none, none, none, none, none] from rfl]
    have r1 : (sSet 1 (eOp2 oAdd (eC (.int 1)) (eUser 2 m__law_blow (aCons (eVar 0) (aCons (eC (.int 3)) aNil))))) [some (.ref n), none, none, none, none, none, none, none, none] h = .nx [some (.ref n), some (.int w), none, none, none, none, none, none, none] h1 := by simp [e1, onR, w]
    have r2 : (sSet 2 (eLst aNil)) [some (.ref n), some (.int w), none, none, none, none, none, none, none] h1 = .nx (oS none none none none none) (h1 ++ [.lst []]) := by simp [oS, onR, t]
    have r3 : sFor (iRangeD (aCons (eVar 1) aNil)) (.nm 3) cOut (oS none none none none none) (h1 ++ [.lst []]) = .nx (oS x3 x4 x5 x6 x7) h2 := by
      rw [q_for, src]
      exact q.trans (by rw [z1])
    have r4 : sRet (eCall fTuple (aCons (eVar 2) aNil)) (oS x3 x4 x5 x6 x7) h2 = .rt (.tup xs) h2 := by simp [oS, fTuple, seqD, z3, onR]
    rw [q_scons, r1]
    simp only [Out.next]
    rw [q_scons, r2]
    simp only [Out.next]
    rw [q_scons, r3]
    simp only [Out.next]
    rw [r4]
  obtain ⟨h3, g1, g2, g3⟩ := gc_up (d := .tup xs) (u1.trans z6)
  refine ⟨xs, h3, ?_, (z2.less (by omega)).eq g3 nl.2.1 nl.2.2, g2, by simp only [WfN]; exact ⟨by omega, z4⟩, by omega⟩
  unfold m__law_code fnF
  rw [body, g1]
end Kl

set_option Elab.async false
set_option linter.all false
set_option maxRecDepth 100000
set_option maxHeartbeats 1000000
set_option autoImplicit false
namespace Kl
open PySem PySem.Spec PyProof.Rows L2 Sm
noncomputable def fB1 : SS := sCons (sSet 3 (eOp2 oMod (eOp2 oAdd (eOp2 oAdd (eOp2 oMulA (eVar 3) (eC (.int 809))) (eOp2 oMod (eOp2 oMod (eCall fAbs (aCons (eCall fInt (aCons (eVar 1) aNil)) aNil)) (eOp2 oShl (eC (.int 1)) (eC (.int 2000)))) (eC (.int 1000313)))) (eC (.int 7))) (eC (.int 1999159)))) (sExpr (eBM "list" mAppend (eVar 2) (aCons (eVar 3) aNil)))
theorem forge_cut : b__law_forge = sCons (sPar 2 3 (aCons (eLst aNil) (aCons (eC (.int 4001)) aNil))) (sCons (sFor (iLstD (eSl (eVar 0) noPart (onPart (eC (.int 40))))) (.nm 1) fB1) (sRet (eDisp [("embers", (eOp2 oAdd (eVar 2) (eLst (aCons (eOp2 oAdd (eOp2 oDiv (eVar 3) (eC (.int 3))) (eC (.int 1))) (aCons (eC (.int 77)) aNil))))), ("heat", (eVar 3)), ("blows", (eC (.int 0)))]))) := rfl
theorem shl2000 (h : Hs) : oShl (.int 1) (.int 2000) h = .ok (.int (1 * 2 ^ (2000 : Int).toNat)) h := by
  simp only [oShl, oInts]
  rw [if_pos (by unfold CPow; decide)]
theorem pos2000 : (0 : Int) < 1 * 2 ^ (2000 : Int).toNat := by
  rw [Int.one_mul]
  exact Int.pow_pos (by decide)
theorem heat_run {x2 : D} {σ0 : Option D} {c ht : Int} {h : Hs} (t0 : 0 ≤ ht) (t1 : ht < 2000000) : ∃ ht', (sSet 3 (eOp2 oMod (eOp2 oAdd (eOp2 oAdd (eOp2 oMulA (eVar 3) (eC (.int 809))) (eOp2 oMod (eOp2 oMod (eCall fAbs (aCons (eCall fInt (aCons (eVar 1) aNil)) aNil)) (eOp2 oShl (eC (.int 1)) (eC (.int 2000)))) (eC (.int 1000313)))) (eC (.int 7))) (eC (.int 1999159)))) [σ0, some (.int c), some x2, some (.int ht)] h = .nx [σ0, some (.int c), some x2, some (.int ht')] h ∧ 0 ≤ ht' ∧ ht' < 1999159 := by
  have m1 : oMulA (.int ht) (.int 809) h = _ := mulS t0 (by omega) (by decide) (by decide)
  have fi : fInt [.int c] h = .ok (.int c) h := rfl
  have fa : fAbs [.int c] h = .ok (.int (if c < 0 then -c else c)) h := rfl
  generalize (if c < 0 then -c else c) = d at fa
  have sh := shl2000 h
  have ps := pos2000
  generalize (1 * 2 ^ (2000 : Int).toNat : Int) = z at sh ps
  have d1 : oMod (.int d) (.int z) h = _ := modS ps
  have d2 : oMod (.int (d % z)) (.int 1000313) h = _ := modS (by decide)
  have d3 : oMod (.int (ht * 809 + d % z % 1000313 + 7)) (.int 1999159) h = _ := modS (by decide)
  refine ⟨(ht * 809 + d % z % 1000313 + 7) % 1999159, ?_, Int.emod_nonneg _ (by decide), Int.emod_lt_of_pos _ (by decide)⟩
  simp [m1, fi, fa, sh, d1, d2, d3, onR]
theorem v_forge (ns : List Int) : ∃ h n e, m__law_forge [.fl (ns.map .int)] [] = .ok (.ref n) h ∧ Fg h n e 1000000 := by
  let cut : List D := Sm.cutD (ns.map .int) none (some 40)
  have cl : cut.length ≤ 40 := by simp only [cut, Sm.cutD, List.length_take, List.length_drop]; rw [show (some (40 : Int)) = some ((40 : Nat) : Int) from rfl, HT.sIx_nat]; omega
  have ci : ∀ x ∈ cut, ∃ i : Int, x = .int i := by
    intro x hx
    have := List.mem_of_mem_drop (List.mem_of_mem_take hx)
    obtain ⟨i, _, rfl⟩ := List.mem_map.mp this
    exact ⟨i, rfl⟩
  have src : iLstD (eSl (eVar 0) noPart (onPart (eC (.int 40)))) [some (.fl (ns.map .int)), none, some (.ref 0), some (.int 4001)] [.lst []] = .ok (cut, fun h => h[1]? = some (.lst cut)) [.lst [], .lst cut] := by simp [oSl, cut]
  generalize cut = ct at cl ci src
  generalize D.fl (ns.map .int) = fl at src
  let I : List D → Lo → Hs → Prop := fun ds σ h => ∃ (x1 : Option D) (ht : Int) (es : List Int), σ = [some fl, x1, some (.ref 0), some (.int ht)] ∧ h = [.lst (es.map .int), .lst ct] ∧ es.length + ds.length ≤ 40 ∧ (∀ x ∈ es, 0 ≤ x ∧ x ≤ 2000000) ∧ 0 ≤ ht ∧ ht < 1999159 ∧ ∀ x ∈ ds, ∃ i : Int, x = .int i
  obtain ⟨σ', h2, q, x1, ht, es, rfl, rfl, z3, z4, z5, z6, _⟩ := forG_nx (t := .nm 1) (G := fun h => h[1]? = some (.lst ct)) (body := fB1) I (fun ds σ h i => by
    obtain ⟨x1, ht, es, rfl, rfl, _⟩ := i
    rfl) (fun d ds σ h i => by
    obtain ⟨x1, ht, es, rfl, rfl, i3, i4, i5, i6, i7⟩ := i
    obtain ⟨c, rfl⟩ := i7 d List.mem_cons_self
    refine ⟨[some fl, some (.int c), some (.ref 0), some (.int ht)], rfl, ?_⟩
    obtain ⟨ht', e1, t0, t1⟩ := heat_run (x2 := .ref 0) (σ0 := some fl) (c := c) (h := [.lst (es.map .int), .lst ct]) i5 (by omega)
    simp only [List.length_cons] at i3
    have e2 := app5 (σ := [some fl, some (.int c), some (.ref 0), some (.int ht')]) (i := 2) (t := 0) (h := [.lst (es.map .int), .lst ct]) (h2 := [.lst (es.map .int), .lst ct]) (f := eVar 3) (y := .int ht') rfl rfl rfl rfl (by simp; omega)
    refine ⟨[some fl, some (.int c), some (.ref 0), some (.int ht')], [.lst ((es ++ [ht']).map .int), .lst ct], ?_, some (.int c), ht', es ++ [ht'], rfl, rfl, by simp; omega, ?_, t0, t1, fun x hx => i7 x (List.mem_cons_of_mem _ hx)⟩
    · unfold fB1
      rw [q_scons, e1]
      simp only [Out.next]
      rw [e2]
      simp
    · intro x hx
      rcases List.mem_append.mp hx with z | z
      · exact i4 x z
      · rw [List.mem_singleton.mp z]; omega) ct [some fl, none, some (.ref 0), some (.int 4001)] [.lst [], .lst ct] ⟨none, 4001, [], rfl, rfl, by simpa using cl, by simp, by decide, by decide, ci⟩
  let xs : List Int := es ++ [ht / 3 + 1, 77]
  have body : bodyF N__law_forge.length b__law_forge [fl] [] = .ok (.ref 2) [.lst (es.map .int), .lst ct, fgD 4 ht 0, .lst [.int (ht / 3 + 1), .int 77], .lst (xs.map .int)] := by
    rw [forge_cut]
    unfold bodyF
    rw [show (([fl].map some ++ List.replicate (N__law_forge.length - [fl].length) none) : Lo) = [some fl, none, none, none] from rfl]
    have r1 : (sPar 2 3 (aCons (eLst aNil) (aCons (eC (.int 4001)) aNil))) [some fl, none, none, none] [] = .nx [some fl, none, some (.ref 0), some (.int 4001)] [.lst []] := by simp [onR]
    have r2 : sFor (iLstD (eSl (eVar 0) noPart (onPart (eC (.int 40))))) (.nm 1) fB1 [some fl, none, some (.ref 0), some (.int 4001)] [.lst []] = .nx [some fl, x1, some (.ref 0), some (.int ht)] [.lst (es.map .int), .lst ct] := by
      rw [q_for, src]
      exact q
    have dv : oDiv (.int ht) (.int 3) [.lst (es.map .int), .lst ct, .dict []] = .ok (.int (ht / 3)) [.lst (es.map .int), .lst ct, .dict []] := by
      simp only [oDiv, oInts]
      rw [if_pos (by unfold CDivW; decide)]
    rw [q_scons, r1]
    simp only [Out.next]
    rw [q_scons, r2]
    simp only [Out.next]
    have ad : oAdd (.ref 0) (.ref 3) [.lst (es.map .int), .lst ct, .dict [], .lst [.int (ht / 3 + 1), .int 77]] = .ok (.ref 4) [.lst (es.map .int), .lst ct, .dict [], .lst [.int (ht / 3 + 1), .int 77], .lst (xs.map .int)] := by
      simp only [oAdd]
      simp [xs]
      omega
    have pu1 : putD [] (.inr "embers") (.ref 4) = [(.inr "embers", .ref 4)] := rfl
    have pu2 : putD [(.inr "embers", .ref 4)] (.inr "heat") (.int ht) = [(.inr "embers", .ref 4), (.inr "heat", .int ht)] := rfl
    have pu3 : putD [(.inr "embers", .ref 4), (.inr "heat", .int ht)] (.inr "blows") (.int 0) = [(.inr "embers", .ref 4), (.inr "heat", .int ht), (.inr "blows", .int 0)] := rfl
    simp [eDisp, dispG, dv, ad, pu1, pu2, pu3, onR]
  refine ⟨[.lst (es.map .int), .lst ct, fgD 4 ht 0, .lst [.int (ht / 3 + 1), .int 77], .lst (xs.map .int)], 2, 4, ?_, ht, 0, xs, rfl, rfl, by simp [xs], by simp [xs]; simp at z3; omega, ?_, z5, by omega, by decide, by decide⟩
  · unfold m__law_forge fnF
    rw [body]
    unfold gc
    dsimp only
    rw [if_neg]
    intro g
    have := g.2.1
    simp [D.low] at this
  · intro x hx
    simp only [xs, List.mem_append, List.mem_cons, List.not_mem_nil, or_false] at hx
    rcases hx with z | rfl | rfl
    · exact z4 x z
    · omega
    · omega
end Kl

set_option Elab.async false
set_option linter.all false
set_option maxRecDepth 100000
set_option maxHeartbeats 1000000
set_option autoImplicit false
namespace Kl
open PySem PySem.Spec PyProof.Rows L2 Sm
def chN (B : Nat) (d : D) : Prop := ∀ ys, d = .tup ys → ∀ z ∈ ys, nodes z ≤ B
def grN (B : Nat) (d : D) : Prop := ∀ xs, d = .tup xs → ∀ y ∈ xs, chN B y
structure FrB (m : Nat) (h : Hs) (cur : D) (fs : List D) : Prop where
  ln : fs.length ≤ 2
  wf : WfL (m + 1) h fs
  no : nodesL fs ≤ 2 * nodes cur + 5
  de : depL fs ≤ dep cur + 3
  c : ∀ B, chN B cur → ∀ x ∈ fs, chN (2 * B + 5) x
  g : ∀ B, grN B cur → ∀ x ∈ fs, grN (2 * B + 5) x
theorem chN.mono {B B' : Nat} {d : D} (c : chN B d) (l : B ≤ B') : chN B' d := fun ys e z hz => Nat.le_trans (c ys e z hz) l
theorem grN.mono {B B' : Nat} {d : D} (c : grN B d) (l : B ≤ B') : grN B' d := fun ys e z hz => (c ys e z hz).mono l
def putL (xs : List D) (i : Nat) (fs : List D) : List D := xs.take i ++ fs ++ xs.drop (i + 1)
theorem mem_put {xs fs : List D} {i : Nat} {z : D} (hz : z ∈ putL xs i fs) : z ∈ xs ∨ z ∈ fs := by
  unfold putL at hz
  rcases List.mem_append.mp hz with q | q
  · rcases List.mem_append.mp q with q | q
    · exact .inl (List.mem_of_mem_take q)
    · exact .inr q
  · exact .inl (List.mem_of_mem_drop q)
theorem nodes_mem : ∀ {xs : List D} {d : D}, d ∈ xs → nodes d ≤ nodesL xs
  | x :: xs, d, h => by
    simp only [nodesL]
    rcases List.mem_cons.mp h with e | e
    · subst e; omega
    · have := nodes_mem e; omega
theorem put_nodes {xs fs : List D} {i : Nat} {cur : D} (e : xs[i]? = some cur) : nodesL (putL xs i fs) + nodes cur = nodesL xs + nodesL fs := by
  obtain ⟨l, rfl⟩ := List.getElem?_eq_some_iff.mp e
  have : xs = xs.take i ++ (xs[i] :: xs.drop (i + 1)) := by rw [← List.drop_eq_getElem_cons l, List.take_append_drop]
  have q : nodesL xs = nodesL (xs.take i) + (nodes xs[i] + nodesL (xs.drop (i + 1))) := by
    conv => lhs; rw [this]
    rw [nodesL_app]
    rfl
  unfold putL
  rw [nodesL_app, nodesL_app]
  omega
theorem put_dep {xs fs : List D} {i : Nat} : depL (putL xs i fs) ≤ max (depL xs) (depL fs) := by
  have mx : ∀ l : List D, ∀ B, (∀ x ∈ l, dep x ≤ B) → depL l ≤ B := by
    intro l B
    induction l with
    | nil => intro _; simp [depL]
    | cons x l ih =>
      intro q
      simp only [depL]
      have := q x List.mem_cons_self
      have := ih fun y hy => q y (List.mem_cons_of_mem _ hy)
      omega
  refine mx _ _ fun x hx => ?_
  rcases mem_put hx with q | q
  · have := dep_mem q; omega
  · have := dep_mem q; omega
theorem put_len {xs fs : List D} {i : Nat} (l : i < xs.length) : (putL xs i fs).length + 1 = xs.length + fs.length := by
  unfold putL
  simp
  omega
theorem FrB.step {m : Nat} {h : Hs} {xs fs : List D} {i : Nat} {cur : D} (w : WfN m h (.tup xs)) (e : xs[i]? = some cur) (f : FrB m h cur fs) : FrB m h (.tup xs) [.tup (putL xs i fs)] := by
  have l := (List.getElem?_eq_some_iff.mp e).1
  have hm : cur ∈ xs := List.mem_of_getElem? e
  have pl := put_len (fs := fs) l
  have f2 := f.ln
  have pn := put_nodes (fs := fs) e
  have fn := f.no
  have nm := nodes_mem hm
  have pd := put_dep (xs := xs) (fs := fs) (i := i)
  have fd := f.de
  have dm := dep_mem hm
  simp only [WfN] at w
  refine ⟨by simp, ?_, by simp only [nodesL, nodes]; omega, by simp only [depL, dep]; omega, ?_, ?_⟩
  · simp only [WfL, WfN]
    refine ⟨⟨by omega, ?_⟩, trivial⟩
    rw [wfL_iff]
    intro z hz
    rcases mem_put hz with q | q
    · exact (wfL_iff.mp w.2 z q).keep (Nat.le_succ m) fun n xs e => ⟨xs, e⟩
    · exact wfL_iff.mp f.wf z q
  · intro B c x hx
    rw [List.mem_singleton.mp hx]
    intro ys ey z hz
    injection ey with ey
    subst ey
    rcases mem_put hz with q | q
    · have := c xs rfl z q; omega
    · have := nodes_mem q
      have := c xs rfl cur hm
      omega
  · intro B g x hx
    rw [List.mem_singleton.mp hx]
    intro ys ey z hz
    injection ey with ey
    subst ey
    rcases mem_put hz with q | q
    · exact (g xs rfl z q).mono (by omega)
    · exact f.c B (g xs rfl cur hm) z q
end Kl

set_option Elab.async false
set_option linter.all false
set_option maxRecDepth 100000
set_option maxHeartbeats 1000000
set_option autoImplicit false
namespace Kl
open PySem PySem.Spec PyProof.Rows L2 Sm
def odds (m : Nat) : List D := [.non, .bl true, .bl false, .int 0, .int 1, .int (-1), .int 7, .int (10 ^ 50), .str "main", .str "a", .str "Abc", .str "deed", .str "back", .str "", .tup [], .tup [.int 1], .tup [.str "back"], .tup [.str "deed", .int 0], .tup [.str "call", .int 0], .tup [.str "repeat", .int (-1), .tup []], .tup [.str "either", .tup [.tup []]], .tup [.str "loop", .ref m], .tup [.int 0, .int 1, .int 0, .int 1], .tup [.int 0, .int 0, .int 0, .int 0], .tup [.int 2, .int 2, .int 0, .int 1], .tup [.int 0, .int 1, .int 0, .int 0], .ref (m + 1), .tup [.str "return"]]
theorem okS_e : okS "" = true := by decide +kernel
theorem okS_a : okS "a" = true := by decide +kernel
theorem okS_A : okS "Abc" = true := by decide +kernel
theorem okS_m : okS "main" = true := by decide +kernel
theorem odds_ok {m : Nat} {h : Hs} {xs ys : List D} (h0 : h[m]? = some (.lst xs)) (h1 : h[m + 1]? = some (.lst ys)) : ∀ d ∈ odds m, WfN 4 h d ∧ nodes d ≤ 5 ∧ dep d ≤ 3 := by
  intro d hd
  simp only [odds, List.mem_cons, List.not_mem_nil, or_false] at hd
  rcases hd with rfl | rfl | rfl | rfl | rfl | rfl | rfl | rfl | rfl | rfl | rfl | rfl | rfl | rfl | rfl | rfl | rfl | rfl | rfl | rfl | rfl | rfl | rfl | rfl | rfl | rfl | rfl | rfl <;> simp [WfN, WfL, nodes, nodesL, dep, depL, okS_e, okS_a, okS_A, okS_m, okS_deed, okS_back, okS_call, okS_repeat, okS_either, okS_loop, okS_return, h0, h1]
theorem small_ch {d : D} (n : nodes d ≤ 5) (B : Nat) : chN (2 * B + 5) d := by
  intro ys e z hz
  subst e
  simp only [nodes] at n
  have := nodes_mem hz
  omega
theorem small_gr {d : D} (n : nodes d ≤ 5) (B : Nat) : grN (2 * B + 5) d := by
  intro ys e z hz
  subst e
  simp only [nodes] at n
  have := nodes_mem hz
  exact small_ch (by omega) B
theorem FrB.small {m : Nat} {h : Hs} {cur d : D} (w : WfN (m + 1) h d) (n : nodes d ≤ 5) (e : dep d ≤ 3) : FrB m h cur [d] :=
  ⟨by simp, by simp only [WfL]; exact ⟨w, trivial⟩, by simp only [nodesL]; omega, by simp only [depL]; omega, fun B _ x hx => by rw [List.mem_singleton.mp hx]; exact small_ch n B, fun B _ x hx => by rw [List.mem_singleton.mp hx]; exact small_gr n B⟩
theorem FrB.none {m : Nat} {h : Hs} {cur : D} : FrB m h cur [] := ⟨by simp, by simp only [WfL], by simp [nodesL], by simp [depL], fun B _ x hx => by simp at hx, fun B _ x hx => by simp at hx⟩
theorem FrB.two {m : Nat} {h : Hs} {cur : D} (w : WfN m h cur) : FrB m h cur [cur, cur] := by
  have w1 : WfN (m + 1) h cur := w.keep (Nat.le_succ m) fun n xs e => ⟨xs, e⟩
  refine ⟨by simp, by simp only [WfL]; exact ⟨w1, w1, trivial⟩, by simp only [nodesL]; omega, by simp only [depL]; omega, fun B c x hx => ?_, fun B c x hx => ?_⟩
  · have : x = cur := by simpa using hx
    subst this
    exact c.mono (by omega)
  · have : x = cur := by simpa using hx
    subst this
    exact c.mono (by omega)
end Kl

set_option Elab.async false
set_option linter.all false
set_option maxRecDepth 100000
set_option maxHeartbeats 1000000
set_option autoImplicit false
namespace Kl
open PySem PySem.Spec PyProof.Rows L2 Sm
inductive PathV (thing : D) : D → List D → Prop where
  | nil : PathV thing thing []
  | cons {xs : List D} {i : Nat} {nx : D} {rs : List D} (h : PathV thing (.tup xs) rs) (e : xs[i]? = some nx) : PathV thing nx (.tup [.tup xs, .int (i : Int)] :: rs)
theorem PathV.wf {m : Nat} {h : Hs} {thing here : D} {rs : List D} (p : PathV thing here rs) (w : WfN m h thing) : WfN m h here := by
  induction p with
  | nil => exact w
  | cons h e ih => exact ih.mem (List.mem_of_getElem? e)
noncomputable def bStop : BS := bOr (bNot (bVal (eOp1 (oIsi "tuple") (eVar 7)))) (bOr (bVal (eOp2 (oEq false) (eCall fLen (aCons (eVar 7) aNil)) (eC (.int 0)))) (bAnd (bVal (eOp2 oGt (eVar 3) (eC (.int 0)))) (bVal (eOp2 (oEq false) (eUser 2 m__law_blow (aCons (eVar 0) (aCons (eC (.int 6)) aNil))) (eC (.int 0))))))
noncomputable def bIn : SS := sCons (sIf bStop sBreak sNil) (sCons (sSet 8 (eUser 2 m__law_blow (aCons (eVar 0) (aCons (eCall fLen (aCons (eVar 7) aNil)) aNil)))) (sCons (sExpr (eBM "list" mAppend (eVar 6) (aCons (eTup (aCons (eVar 7) (aCons (eVar 8) aNil))) aNil))) (sSet 7 (eOp2 oIx (eVar 7) (eVar 8)))))
noncomputable def bBack : SS := sSet 5 (eTup (aCons (eOp2 oAdd (eOp2 oAdd (eSl (eVar 9) noPart (onPart (eVar 8))) (eVar 5)) (eSl (eVar 9) (onPart (eOp2 oAdd (eVar 8) (eC (.int 1)))) noPart)) aNil))
abbrev beS (n : Nat) (thing : D) (od : D) (x3 x4 x5 : Option D) (P : Nat) (here : D) (x8 x9 : Option D) : Lo := [some (.ref n), some thing, some od, x3, x4, x5, some (.ref P), some here, x8, x9]
theorem stop_run {n e k P : Nat} {thing od here : D} {x8 : Option D} {lap : Int} {h : Hs} (f : Fg h n e (1 + k)) (w : Wf h here) : ∃ b h2, bStop (beS n thing od (some (.int lap)) none none P here x8 none) h = .ok b h2 ∧ Fg h2 n e k ∧ Up (· = n) h h2 ∧ (b = false → ∃ x xs, here = .tup (x :: xs)) := by
  obtain ⟨v, h1, e1, v0, v1, f1, u1, l1⟩ := w_blow (k := k) (many := 6) (f.less (by omega)) (by decide)
  unfold bStop
  cases here with
  | tup xs =>
    cases xs with
    | nil => exact ⟨true, h, by simp [w, isT], f.less (by omega), Up.refl _ _, by simp⟩
    | cons x xs =>
      have hw : oIsi "tuple" (.tup (x :: xs)) h = .ok (.bl true) h := isi_tuple w
      have hl : ¬ ((xs.length : Int) + 1 = 0) := by omega
      by_cases z : 0 < lap
      · exact ⟨decide (v = 0), h1, by simp [hw, hl, z, e1], f1, u1, fun _ => ⟨x, xs, rfl⟩⟩
      · exact ⟨false, h, by simp [hw, hl, z], f.less (by omega), Up.refl _ _, fun _ => ⟨x, xs, rfl⟩⟩
  | _ => exact ⟨true, h, by simp [w, isT], f.less (by omega), Up.refl _ _, by simp⟩
end Kl

set_option Elab.async false
set_option linter.all false
set_option maxRecDepth 100000
set_option maxHeartbeats 1000000
set_option autoImplicit false
namespace Kl
open PySem PySem.Spec PyProof.Rows L2 Sm
theorem path_run {n e k P m : Nat} {thing od : D} {hb : Hs} (hm : m ≤ 1000) (w : WfN m hb thing) (hP : hb.length ≤ P) : ∀ (ds : List D) (here : D) (rs : List D) (x3 x8 : Option D) (h : Hs), (∀ x ∈ ds, ∃ i : Int, x = .int i) → Fg h n e (2 * ds.length + k) → h[P]? = some (.lst rs.reverse) → rs.length + ds.length ≤ 7 → PathV thing here rs → Up (· = n) hb h → n < hb.length → e < hb.length →
    ∃ here' rs' x3' x8' h', forG (.nm 3) bIn (fun _ => True) ds (beS n thing od x3 none none P here x8 none) h = .nx (beS n thing od x3' none none P here' x8' none) h' ∧ Fg h' n e k ∧ h'[P]? = some (.lst rs'.reverse) ∧ rs'.length ≤ 7 ∧ PathV thing here' rs' ∧ Up (· = n) hb h'
  | [], here, rs, x3, x8, h, _, f, hp, l, pv, u, _, _ => ⟨here, rs, x3, x8, h, by unfold forG; simp, f.less (by simp), hp, by simpa using l, pv, u⟩
  | d :: ds, here, rs, x3, x8, h, di, f, hp, l, pv, u, nb, eb => by
    obtain ⟨lap, rfl⟩ := di d List.mem_cons_self
    simp only [List.length_cons] at f l
    have wh : Wf h here := (pv.wf (u.wf w)).keep hm fun n xs e => ⟨xs, e⟩
    obtain ⟨b, h2, e1, f1, u1, c1⟩ := stop_run (thing := thing) (od := od) (P := P) (x8 := x8) (lap := lap) (k := 2 * ds.length + 1 + k) (f.less (by omega)) wh
    have pn := f.nlst hp
    have hp2 := u1.keep hp pn
    unfold forG
    rw [if_pos trivial]
    simp only [q_nm]
    rw [show ((beS n thing od x3 none none P here x8 none).set 3 (some (.int lap))) = beS n thing od (some (.int lap)) none none P here x8 none from rfl]
    cases b with
    | true =>
      refine ⟨here, rs, some (.int lap), x8, h2, ?_, f1.less (by omega), hp2, by omega, pv, u.trans u1⟩
      unfold bIn
      rw [q_scons, q_sif, e1]
      simp [onR, Out.next, Out.turn]
    | false =>
      obtain ⟨x, xs, rfl⟩ := c1 rfl
      obtain ⟨v, h3, e3, v0, v1, f3, u3, l3⟩ := w_blow (k := 2 * ds.length + k) (many := (((x :: xs).length : Nat) : Int)) (f1.less (by omega)) (by simp <;> omega)
      have vl : v.toNat < (x :: xs).length := by omega
      have hp3 := u3.keep hp2 pn
      have vi : ((v.toNat : Nat) : Int) = v := Int.toNat_of_nonneg v0
      have et : (x :: xs)[v.toNat]? = some (x :: xs)[v.toNat] := by simp [vl]
      have pv2 := PathV.cons pv et
      rw [vi] at pv2
      have ei : oIx (.tup (x :: xs)) (.int v) (h3.set P (.lst ((D.tup [.tup (x :: xs), .int v] :: rs).reverse))) = .ok (x :: xs)[v.toNat] _ := q_ixT (by have := atI_get et; rwa [vi] at this)
      obtain ⟨here', rs', x3', x8', h', q, r⟩ := path_run (k := k) hm w hP ds (x :: xs)[v.toNat] (.tup [.tup (x :: xs), .int v] :: rs) (some (.int lap)) (some (.int v)) (h3.set P (.lst ((D.tup [.tup (x :: xs), .int v] :: rs).reverse))) (fun y hy => di y (List.mem_cons_of_mem _ hy)) (f3.up (Up.set (n := P) (S := (· = P)) rfl fun _ _ => ⟨_, rfl⟩) (by omega) (by omega)) (by rw [List.getElem?_set_self (lst_len hp3)]) (by simp; omega) pv2 (((u.trans u1).trans u3).hi hP) nb eb
      refine ⟨here', rs', x3', x8', h', ?_, r⟩
      rw [← q]
      have e4 : (eUser 2 m__law_blow (aCons (eVar 0) (aCons (eCall fLen (aCons (eVar 7) aNil)) aNil))) (beS n thing od (some (.int lap)) none none P (.tup (x :: xs)) x8 none) h2 = .ok (.int v) h3 := by
        have : m__law_blow [.ref n, .int ((xs.length : Int) + 1)] h2 = .ok (.int v) h3 := by simpa using e3
        simp [this]
      have e5 := app5 (σ := beS n thing od (some (.int lap)) none none P (.tup (x :: xs)) (some (.int v)) none) (i := 6) (h := h3) (h2 := h3) (f := eTup (aCons (eVar 7) (aCons (eVar 8) aNil))) (y := .tup [.tup (x :: xs), .int v]) rfl hp3 (by simp) hp3 (by simp; omega)
      rw [← List.reverse_cons] at e5
      have body : bIn (beS n thing od (some (.int lap)) none none P (.tup (x :: xs)) x8 none) h = .nx (beS n thing od (some (.int lap)) none none P (x :: xs)[v.toNat] (some (.int v)) none) (h3.set P (.lst ((D.tup [.tup (x :: xs), .int v] :: rs).reverse))) := by
        unfold bIn
        rw [q_scons, q_sif, e1]
        simp only [onR, Bool.false_eq_true, if_false, q_snil, Out.next]
        rw [q_scons, q_set, e4]
        simp only [onR, Out.next]
        rw [q_scons]
        rw [show sExpr _ ((beS n thing od (some (.int lap)) none none P (.tup (x :: xs)) x8 none).set 8 (some (.int v))) h3 = _ from e5]
        simp only [Out.next, q_set, q_op2, q_var]
        rw [List.reverse_cons] at ei
        simp only [List.reverse_cons]
        simp [ei, onR]
      rw [body]
      simp [Out.turn]
end Kl

set_option Elab.async false
set_option linter.all false
set_option maxRecDepth 100000
set_option maxHeartbeats 1000000
set_option autoImplicit false
namespace Kl
open PySem PySem.Spec PyProof.Rows L2 Sm
theorem cutL_take {xs : List D} {i : Nat} (l : i < xs.length) : Sm.cutD xs none (some (i : Int)) = xs.take i := by
  unfold Sm.cutD
  rw [HT.sIx_nat, HT.sIx_none]
  simp
theorem cutL_drop {xs : List D} {i : Nat} (l : i < xs.length) : Sm.cutD xs (some ((i : Int) + 1)) none = xs.drop (i + 1) := by
  unfold Sm.cutD
  rw [show (i : Int) + 1 = ((i + 1 : Nat) : Int) by omega, HT.sIx_nat, HT.sIx_none, Nat.min_eq_left (by omega)]
  rw [List.take_of_length_le (by simp)]
theorem back_run {n P m : Nat} {thing od : D} {h : Hs} {G : Hs → Prop} (hG : G h) (hm : m ≤ 1000) (w : WfN m h thing) {x3 x4 : Option D} {hr : D} : ∀ (rs : List D) (here : D) (fs : List D) (x8 x9 : Option D), PathV thing here rs → FrB m h here fs → ∃ fs' x8' x9', forG (.tp [9, 8]) bBack G rs (beS n thing od x3 x4 (some (.tup fs)) P hr x8 x9) h = .nx (beS n thing od x3 x4 (some (.tup fs')) P hr x8' x9') h ∧ FrB m h thing fs'
  | [], here, fs, x8, x9, pv, f => by
    cases pv
    exact ⟨fs, x8, x9, by unfold forG; simp [hG], f⟩
  | r :: rs, here, fs, x8, x9, pv, f => by
    cases pv with
    | cons pv e =>
      rename_i xs i
      have wp := pv.wf w
      have l := (List.getElem?_eq_some_iff.mp e).1
      obtain ⟨fs', x8', x9', q, f'⟩ := back_run (n := n) (P := P) (od := od) (x3 := x3) (x4 := x4) (hr := hr) hG hm w rs (.tup xs) [.tup (putL xs i fs)] (some (.int i)) (some (.tup xs)) pv (f.step wp e)
      refine ⟨fs', x8', x9', ?_, f'⟩
      unfold forG
      rw [if_pos hG]
      simp only [q_tp, q_pa, q_pa0]
      have lx : xs.length ≤ m := by simp only [WfN] at wp; exact wp.1
      have f2 := f.ln
      have a1 : oAdd (.tup (xs.take i)) (.tup fs) h = .ok (.tup (xs.take i ++ fs)) h := by
        simp only [oAdd]
        rw [if_pos (by simp; omega)]
      have a2 : oAdd (.tup (xs.take i ++ fs)) (.tup (xs.drop (i + 1))) h = .ok (.tup (putL xs i fs)) h := by
        simp only [oAdd]
        rw [if_pos (by simp; omega)]
        rfl
      have body : bBack (beS n thing od x3 x4 (some (.tup fs)) P hr (some (.int i)) (some (.tup xs))) h = .nx (beS n thing od x3 x4 (some (.tup [.tup (putL xs i fs)])) P hr (some (.int i)) (some (.tup xs))) h := by
        unfold bBack
        simp [oSl, cutL_take l, cutL_drop l, a1, a2, onR]
      rw [show (((beS n thing od x3 x4 (some (.tup fs)) P hr x8 x9).set 9 (some (.tup xs))).set 8 (some (.int i))) = beS n thing od x3 x4 (some (.tup fs)) P hr (some (.int i)) (some (.tup xs)) from rfl, body]
      simp only [Out.turn]
      exact q
end Kl

set_option Elab.async false
set_option linter.all false
set_option maxRecDepth 100000
set_option maxHeartbeats 1000000
set_option autoImplicit false
namespace Kl
open PySem PySem.Spec PyProof.Rows L2 Sm
noncomputable def beOdds : SS := (sSet 2 (eTup (aCons (eC .non) (aCons (eC (.bl true)) (aCons (eC (.bl false)) (aCons (eC (.int 0)) (aCons (eC (.int 1)) (aCons (eOp1 oNeg (eC (.int 1))) (aCons (eC (.int 7)) (aCons (eOp2 oPow (eC (.int 10)) (eC (.int 50))) (aCons (eC (.str "main")) (aCons (eC (.str "a")) (aCons (eC (.str "Abc")) (aCons (eC (.str "deed")) (aCons (eC (.str "back")) (aCons (eC (.str "")) (aCons (eTup aNil) (aCons (eTup (aCons (eC (.int 1)) aNil)) (aCons (eTup (aCons (eC (.str "back")) aNil)) (aCons (eTup (aCons (eC (.str "deed")) (aCons (eC (.int 0)) aNil))) (aCons (eTup (aCons (eC (.str "call")) (aCons (eC (.int 0)) aNil))) (aCons (eTup (aCons (eC (.str "repeat")) (aCons (eOp1 oNeg (eC (.int 1))) (aCons (eTup aNil) aNil)))) (aCons (eTup (aCons (eC (.str "either")) (aCons (eTup (aCons (eTup aNil) aNil)) aNil))) (aCons (eTup (aCons (eC (.str "loop")) (aCons (eLst aNil) aNil))) (aCons (eTup (aCons (eC (.int 0)) (aCons (eC (.int 1)) (aCons (eC (.int 0)) (aCons (eC (.int 1)) aNil))))) (aCons (eTup (aCons (eC (.int 0)) (aCons (eC (.int 0)) (aCons (eC (.int 0)) (aCons (eC (.int 0)) aNil))))) (aCons (eTup (aCons (eC (.int 2)) (aCons (eC (.int 2)) (aCons (eC (.int 0)) (aCons (eC (.int 1)) aNil))))) (aCons (eTup (aCons (eC (.int 0)) (aCons (eC (.int 1)) (aCons (eC (.int 0)) (aCons (eC (.int 0)) aNil))))) (aCons (eLst aNil) (aCons (eTup (aCons (eC (.str "return")) aNil)) aNil))))))))))))))))))))))))))))))
noncomputable def beKind : SS := sSet 4 (eUser 2 m__law_blow (aCons (eVar 0) (aCons (eC (.int 6)) aNil)))
noncomputable def beOdd : SS := (sSet 5 (eOp2 oMulA (eTup (aCons (eOp2 oIx (eVar 2) (eUser 2 m__law_blow (aCons (eVar 0) (aCons (eCall fLen (aCons (eVar 2) aNil)) aNil)))) aNil)) (eCall fInt (aCons (eOp2 oLt (eVar 4) (eC (.int 3))) aNil))))
noncomputable def beFresh : SS := (sIf (bVal (eOp2 (oEq false) (eVar 4) (eC (.int 3)))) (sSet 5 (eTup (aCons (eIf (bVal (eOp1 (oIsi "tuple") (eVar 7))) (eCall fList (aCons (eVar 7) aNil)) (eTup (aCons (eVar 7) aNil))) aNil))) (sIf (bVal (eOp2 (oEq false) (eVar 4) (eC (.int 4)))) (sSet 5 (eTup (aCons (eVar 7) (aCons (eVar 7) aNil)))) sNil))
noncomputable def beEnd : SS := (sRet (eIf (bVal (eOp2 (oEq false) (eCall fLen (aCons (eVar 5) aNil)) (eC (.int 1)))) (eOp2 oIx (eVar 5) (eC (.int 0))) (eC .non)))
theorem bent_cut : b__law_bent = sCons beOdds (sCons (sPar 6 7 (aCons (eLst aNil) (aCons (eVar 1) aNil))) (sCons (sFor (iRangeD (aCons (eC (.int 7)) aNil)) (.nm 3) bIn) (sCons beKind (sCons beOdd (sCons beFresh (sCons (sFor (iLstD (eOp1 oRev (eVar 6))) (.tp [9, 8]) bBack) beEnd)))))) := rfl
theorem beOdds_run {n : Nat} {thing : D} {h : Hs} : beOdds [some (.ref n), some thing, none, none, none, none, none, none, none, none] h = .nx [some (.ref n), some thing, some (.tup (odds h.length)), none, none, none, none, none, none, none] (h ++ [.lst [], .lst []]) := by
  have pw : ∀ g : Hs, oPow (.int 10) (.int 50) g = .ok (.int (10 ^ 50)) g := by
    intro g
    simp only [oPow, oInts]
    rw [if_pos (by unfold CPow; decide)]
    rfl
  simp [beOdds, onR, odds, pw]
theorem fresh_run {n e k P m : Nat} {thing here : D} {h : Hs} {ox : List D} {x3 x8 : Option D} (f : Fg h n e (2 + k)) (hm : m ≤ 900) (hm4 : 4 ≤ m + 1) (w : WfN m h here) (ol : ox.length = 28) (ok : ∀ d ∈ ox, WfN 4 h d ∧ nodes d ≤ 5 ∧ dep d ≤ 3) :
    ∃ kd fs h2, (sCons beKind (sCons beOdd beFresh)) (beS n thing (.tup ox) x3 none none P here x8 none) h = .nx (beS n thing (.tup ox) x3 (some (.int kd)) (some (.tup fs)) P here x8 none) h2 ∧ Fg h2 n e k ∧ Up (· = n) h h2 ∧ FrB m h2 here fs := by
  obtain ⟨kd, h1, e1, k0, k1, f1, u1, l1⟩ := w_blow (k := 1 + k) (many := 6) (f.less (by omega)) (by decide)
  obtain ⟨v, h2, e2, v0, v1, f2, u2, l2⟩ := w_blow (k := k) (many := 28) (f1.less (by omega)) (by decide)
  have u := u1.trans u2
  have vl : v.toNat < ox.length := by omega
  have vi : ((v.toNat : Nat) : Int) = v := Int.toNat_of_nonneg v0
  have et : ox[v.toNat]? = some ox[v.toNat] := by simp [vl]
  have ei : oIx (.tup ox) (.int v) h2 = .ok ox[v.toNat] h2 := q_ixT (by have := atI_get et; rwa [vi] at this)
  obtain ⟨o1, o2, o3⟩ := ok _ (List.getElem_mem vl)
  have ow : WfN (m + 1) h2 ox[v.toNat] := (u.wf o1).keep (by omega) fun _ xs e => ⟨xs, e⟩
  have w2 := u.wf w
  generalize ox[v.toNat] = od at ei o2 o3 ow
  have ln : fLen [.tup ox] h1 = .ok (.int 28) h1 := by rw [q_lenT, ol]; rfl
  have r1 : beKind (beS n thing (.tup ox) x3 none none P here x8 none) h = .nx (beS n thing (.tup ox) x3 (some (.int kd)) none P here x8 none) h1 := by simp [beKind, e1, onR]
  have r2 : beOdd (beS n thing (.tup ox) x3 (some (.int kd)) none P here x8 none) h1 = .nx (beS n thing (.tup ox) x3 (some (.int kd)) (some (.tup (if kd < 3 then [od] else []))) P here x8 none) h2 := by
    by_cases z : kd < 3
    · simp [beOdd, onR, ol, e2, ei, fInt, z, oMulA]
    · simp [beOdd, onR, ol, e2, ei, fInt, z, oMulA]
  have r3 : ∃ fs h3, beFresh (beS n thing (.tup ox) x3 (some (.int kd)) (some (.tup (if kd < 3 then [od] else []))) P here x8 none) h2 = .nx (beS n thing (.tup ox) x3 (some (.int kd)) (some (.tup fs)) P here x8 none) h3 ∧ Fg h3 n e k ∧ Up (· = n) h2 h3 ∧ FrB m h3 here fs := by
    have wh : Wf h2 here := w2.keep (by omega) fun _ xs e => ⟨xs, e⟩
    have it := isi_tuple wh
    by_cases z3 : kd = 3
    · subst z3
      cases here with
      | tup xs =>
        refine ⟨[.ref h2.length], h2 ++ [.lst xs], ?_, f2.up (Up.app (S := fun _ => False) h2 _) (by simp) (by simp), Up.app _ _, FrB.small (by simp [WfN]) (by simp [nodes]) (by simp [dep])⟩
        simp [beFresh, onR, it, isT, fList, seqD]
      | _ =>
        refine ⟨[.tup [_]], h2, by simp [beFresh, onR, it, isT]; rfl, f2, Up.refl _ _, FrB.small ?_ (by simp [nodes, nodesL]) (by simp [dep, depL])⟩
        simp only [WfN, WfL] at w2 ⊢
        try simp
        try exact w2
    · by_cases z4 : kd = 4
      · subst z4
        exact ⟨[here, here], h2, by simp [beFresh, onR], f2, Up.refl _ _, FrB.two w2⟩
      · by_cases z : kd < 3
        · exact ⟨[od], h2, by simp [beFresh, onR, z3, z4, z], f2, Up.refl _ _, FrB.small ow o2 o3⟩
        · exact ⟨[], h2, by simp [beFresh, onR, z3, z4, z], f2, Up.refl _ _, FrB.none⟩
  obtain ⟨fs, h3, q3, f3, u3, b3⟩ := r3
  refine ⟨kd, fs, h3, ?_, f3, u.trans u3, b3⟩
  rw [q_scons, r1]
  simp only [Out.next]
  rw [q_scons, r2]
  simp only [Out.next]
  exact q3
structure Be (m : Nat) (h : Hs) (thing d : D) : Prop where
  wf : WfN (m + 1) h d
  no : nodes d ≤ 2 * nodes thing + 5
  de : dep d ≤ dep thing + 3
  gr : ∀ B, grN B thing → grN (2 * B + 5) d
theorem Be.of {m : Nat} {h : Hs} {thing d : D} (f : FrB m h thing [d]) : Be m h thing d := by
  have w := f.wf
  have a := f.no
  have b := f.de
  simp only [WfL, nodesL, depL] at w a b
  exact ⟨w.1, by omega, by omega, fun B g => f.g B g d (by simp)⟩
theorem Be.non {m : Nat} {h : Hs} {thing : D} : Be m h thing .non := ⟨by simp [WfN], by simp [nodes], by simp [dep], fun B _ xs e => by cases e⟩
mutual
theorem wf_take {m : Nat} {h : Hs} {l : Nat} : ∀ {d : D}, d.low l = true → WfN m h d → WfN m (h.take l) d
  | .non, _, w => by simp only [WfN] at *
  | .bl _, _, w => by simp only [WfN] at *
  | .int _, _, w => by simp only [WfN] at *
  | .str _, _, w => by simp only [WfN] at *; exact w
  | .ref n, z, w => by
    simp only [WfN, D.low, decide_eq_true_eq] at *
    rw [List.getElem?_take_of_lt z]
    exact w
  | .tup xs, z, w => by simp only [WfN, D.low] at *; exact ⟨w.1, wf_takeL z w.2⟩
  | .fl _, _, w => by simp only [WfN] at *
  | .exc _ _ _, _, w => by simp only [WfN] at *
theorem wf_takeL {m : Nat} {h : Hs} {l : Nat} : ∀ {ds : List D}, lowL l ds = true → WfL m h ds → WfL m (h.take l) ds
  | [], _, w => by simp only [WfL] at *
  | d :: ds, z, w => by simp only [WfL, lowL, Bool.and_eq_true] at *; exact ⟨wf_take z.1 w.1, wf_takeL z.2 w.2⟩
end
theorem gc_wf {m : Nat} {h h' h2 : Hs} {d : D} (e : gc h (.ok d h') = .ok d h2) (w : WfN m h' d) : WfN m h2 d := by
  unfold gc at e
  dsimp only at e
  split at e
  · rename_i g
    injection e with _ e
    subst e
    exact wf_take g.2.1 w
  · injection e with _ e
    subst e
    exact w
theorem FrB.up {S : Nat → Prop} {m : Nat} {h h' : Hs} {cur : D} {fs : List D} (f : FrB m h cur fs) (u : Up S h h') : FrB m h' cur fs := ⟨f.ln, u.wfL f.wf, f.no, f.de, f.c, f.g⟩
theorem v_bent {n e k m : Nat} {thing : D} {h : Hs} (f : Fg h n e (16 + k)) (hm : m ≤ 900) (hm4 : 4 ≤ m + 1) (w : WfN m h thing) : ∃ d h', m__law_bent [.ref n, thing] h = .ok d h' ∧ Fg h' n e k ∧ Up (· = n) h h' ∧ Be m h' thing d := by
  have nl := f.nl
  let hA : Hs := h ++ [.lst [], .lst []]
  let hB : Hs := hA ++ [.lst []]
  let P := hA.length
  have uA : Up (· = n) h hA := Up.app _ _
  have uAB : Up (· = n) hA hB := Up.app _ _
  have uB : Up (· = n) h hB := uA.trans uAB
  have fB : Fg hB n e (16 + k) := f.up (S := fun _ => False) ((Up.app h _).trans (Up.app _ _)) (by simp) (by simp)
  have wB : WfN m hB thing := uB.wf w
  have ln : (Sm.intsFrom 0 7).length = 7 := by simp [Sm.intsFrom]
  have PB : hB[P]? = some (.lst ([] : List D).reverse) := by simp [hB, P]
  have hle : h.length ≤ hA.length := uA.le
  obtain ⟨here, rs, x3, x8, h1, q1, f1, p1, l1, pv, u1⟩ := path_run (n := n) (e := e) (k := 2 + k) (P := P) (m := m) (od := .tup (odds h.length)) (hb := hA) (by omega) (uA.wf w) (Nat.le_refl _) (Sm.intsFrom 0 7) thing [] none none hB (by intro x hx; unfold Sm.intsFrom at hx; obtain ⟨i, _, rfl⟩ := List.mem_map.mp hx; exact ⟨_, rfl⟩) (by rw [ln]; exact fB.less (by omega)) PB (by rw [ln]; simp) .nil uAB (by omega) (by omega)
  have a0 : h1[h.length]? = some (.lst []) := u1.keep (by simp [hA]) (by omega)
  have a1 : h1[h.length + 1]? = some (.lst []) := u1.keep (by simp [hA]) (by omega)
  have w1 : WfN m h1 thing := u1.wf (uA.wf w)
  have wh : WfN m h1 here := pv.wf w1
  obtain ⟨kd, fs, h2, q2, f2, u2, b2⟩ := fresh_run (n := n) (e := e) (k := k) (P := P) (thing := thing) (x3 := x3) (x8 := x8) f1 hm hm4 wh (ox := odds h.length) rfl (odds_ok a0 a1)
  have pn := f1.nlst p1
  have p2 := u2.keep p1 pn
  let h3 : Hs := h2 ++ [.lst rs]
  have u3 : Up (· = n) h2 h3 := Up.app _ _
  have w3 : WfN m h3 thing := u3.wf (u2.wf w1)
  obtain ⟨fs', y8, y9, q3, b3⟩ := back_run (n := n) (P := P) (od := .tup (odds h.length)) (x3 := x3) (x4 := some (.int kd)) (hr := here) (G := fun g => g[h2.length]? = some (.lst rs)) (h := h3) (by simp [h3]) (by omega) w3 rs here fs x8 none pv (b2.up u3)
  have uu : Up (· = n) h h3 := ((uA.trans u1).trans u2).trans u3
  have src : iLstD (eOp1 oRev (eVar 6)) (beS n thing (.tup (odds h.length)) x3 (some (.int kd)) (some (.tup fs)) P here x8 none) h2 = .ok (rs, fun g => g[h2.length]? = some (.lst rs)) h3 := by
    simp [oRev, oRevL, lstD, p2, h3]
  have f3 : Fg h3 n e k := f2.up (Up.app (S := fun _ => False) h2 _) (by simp) (by simp)
  have e1 : ∀ T : SS, (sCons (sPar 6 7 (aCons (eLst aNil) (aCons (eVar 1) aNil))) T) [some (.ref n), some thing, some (.tup (odds h.length)), none, none, none, none, none, none, none] hA = T (beS n thing (.tup (odds h.length)) none none none P thing none none) hB := by
    intro T
    rw [q_scons]
    simp [onR, P, hB]
  have e2 : sFor (iRangeD (aCons (eC (.int 7)) aNil)) (.nm 3) bIn (beS n thing (.tup (odds h.length)) none none none P thing none none) hB = .nx (beS n thing (.tup (odds h.length)) x3 none none P here x8 none) h1 := by
    have src2 : iRangeD (aCons (eC (.int 7)) aNil) (beS n thing (.tup (odds h.length)) none none none P thing none none) hB = .ok (Sm.intsFrom 0 (7 : Int).toNat, fun (_ : Hs) => True) hB := src_intH (by simp) (by decide)
    rw [q_for, src2]
    exact q1
  have e3 : sFor (iLstD (eOp1 oRev (eVar 6))) (.tp [9, 8]) bBack (beS n thing (.tup (odds h.length)) x3 (some (.int kd)) (some (.tup fs)) P here x8 none) h2 = .nx (beS n thing (.tup (odds h.length)) x3 (some (.int kd)) (some (.tup fs')) P here y8 y9) h3 := by
    rw [q_for, src]
    exact q3
  have e4 : ∃ d, beEnd (beS n thing (.tup (odds h.length)) x3 (some (.int kd)) (some (.tup fs')) P here y8 y9) h3 = .rt d h3 ∧ Be m h3 thing d := by
    have l2 := b3.ln
    match fs', l2, b3 with
    | [], _, _ => exact ⟨.non, by simp [beEnd, onR], .non⟩
    | [d], _, b => exact ⟨d, by simp [beEnd, onR], .of b⟩
    | [_, _], _, _ => exact ⟨.non, by simp [beEnd, onR], .non⟩
  obtain ⟨d, q4, b4⟩ := e4
  have body : bodyF N__law_bent.length b__law_bent [.ref n, thing] h = .ok d h3 := by
    rw [bent_cut]
    unfold bodyF
    rw [show (([D.ref n, thing].map some ++ List.replicate (N__law_bent.length - [D.ref n, thing].length) none) : Lo) = [some (.ref n), some thing, none, none, none, none, none, none, none, none] from rfl]
    rw [q_scons, beOdds_run]
    simp only [Out.next]
    rw [e1, q_scons, e2]
    simp only [Out.next]
    have e5 := q2
    rw [q_scons] at e5 ⊢
    cases r1 : beKind (beS n thing (.tup (odds h.length)) x3 none none P here x8 none) h1 with
    | nx σ1 g1 =>
      rw [r1] at e5
      simp only [Out.next] at e5 ⊢
      rw [q_scons] at e5 ⊢
      cases r2 : beOdd σ1 g1 with
      | nx σ2 g2 =>
        rw [r2] at e5
        simp only [Out.next] at e5 ⊢
        rw [q_scons, e5]
        simp only [Out.next]
        rw [q_scons, e3]
        simp only [Out.next]
        rw [q4]
      | _ => rw [r2] at e5; simp [Out.next] at e5
    | _ => rw [r1] at e5; simp [Out.next] at e5
  obtain ⟨h4, g4, g5, g6⟩ := gc_up (d := d) uu
  refine ⟨d, h4, ?_, f3.eq g6 nl.2.1 nl.2.2, g5, ⟨?_, b4.no, b4.de, b4.gr⟩⟩
  · unfold m__law_bent fnF
    rw [body, g4]
  · exact gc_wf g4 b4.wf
end Kl

set_option Elab.async false
set_option linter.all false
set_option maxRecDepth 100000
set_option maxHeartbeats 1000000
set_option autoImplicit false
namespace Kl
open PySem PySem.Spec PyProof.Rows L2 Sm
theorem x_either : isText "either" (.str "either") = true := by decide +kernel
theorem x_loop : isText "loop" (.str "loop") = true := by decide +kernel
theorem x_loopE : isText "either" (.str "loop") = false := by decide +kernel
theorem x_repE : isText "either" (.str "repeat") = false := by decide +kernel
theorem x_repL : isText "loop" (.str "repeat") = false := by decide +kernel
theorem x_rep : isText "repeat" (.str "repeat") = true := by decide +kernel
theorem x_deedE : isText "either" (.str "deed") = false := by decide +kernel
theorem x_deedL : isText "loop" (.str "deed") = false := by decide +kernel
theorem x_deedR : isText "repeat" (.str "deed") = false := by decide +kernel
theorem x_callE : isText "either" (.str "call") = false := by decide +kernel
theorem x_callL : isText "loop" (.str "call") = false := by decide +kernel
theorem x_callR : isText "repeat" (.str "call") = false := by decide +kernel
theorem cnt_nodes {a b : Int} : ∀ (n : Nat) (x : D), nodes x ≤ n → bodyOk a b x = true → 2 * bodyCnt x ≤ nodes x
  | 0, x, h, _ => by have := nodes_pos x; omega
  | n + 1, x, h, ok => by
    cases x with
    | tup xs =>
      simp only [bodyOk, allSt_eq] at ok
      simp only [bodyCnt, nodes] at *
      have key : ∀ l : List D, nodesL l ≤ n → l.all (stOk a b) = true → 2 * sumSt l ≤ nodesL l := by
        intro l
        induction l with
        | nil => intro _ _; simp [sumSt]
        | cons s l ih =>
          intro hn hs
          rw [List.all_cons, Bool.and_eq_true] at hs
          simp only [nodesL] at hn
          have i1 := ih (by omega) hs.2
          have i2 : 2 * stCnt s ≤ nodes s := by
            rcases st_cases hs.1 with rfl | ⟨x, rfl, _⟩ | ⟨x, rfl, _⟩ | ⟨x, rfl, q⟩ | ⟨x, rfl, q⟩ | ⟨m, x, rfl, _, q⟩
            · simp [stCnt, itCnt, nodes, nodesL]
            · have := nodes_pos x
              simp only [stCnt, itCnt, nodes, nodesL, x_deedE, x_deedL, x_deedR, Bool.false_eq_true, if_false]
              omega
            · have := nodes_pos x
              simp only [stCnt, itCnt, nodes, nodesL, x_callE, x_callL, x_callR, Bool.false_eq_true, if_false]
              omega
            · simp only [nodes, nodesL] at hn
              simp only [stCnt, itCnt, nodes, nodesL, x_either, if_true]
              have : 2 * bodiesCnt x ≤ nodes x := by
                cases x with
                | tup bs =>
                  simp only [bodiesOk, Bool.and_eq_true, allBody_eq] at q
                  simp only [bodiesCnt, nodes] at *
                  have k2 : ∀ l : List D, nodesL l ≤ n → l.all (bodyOk a b) = true → 2 * sumBody l ≤ nodesL l := by
                    intro l
                    induction l with
                    | nil => intro _ _; simp [sumBody]
                    | cons y l ih2 =>
                      intro h1 h2
                      rw [List.all_cons, Bool.and_eq_true] at h2
                      simp only [nodesL] at h1
                      have j1 := ih2 (by omega) h2.2
                      have j2 := cnt_nodes n y (by omega) h2.1
                      simp only [sumBody, nodesL]
                      omega
                  have := k2 bs (by omega) q.2
                  omega
                | _ => simp [bodiesOk] at q
              omega
            · simp only [nodes, nodesL] at hn
              simp only [stCnt, itCnt, nodes, nodesL, x_loopE, x_loop, if_true, Bool.false_eq_true, if_false]
              have := cnt_nodes n x (by omega) q
              omega
            · simp only [nodes, nodesL] at hn
              simp only [stCnt, itCnt, oneCnt, nodes, nodesL, x_repE, x_repL, x_rep, if_true, Bool.false_eq_true, if_false]
              have := cnt_nodes n x (by omega) q
              have := nodes_pos m
              omega
          simp only [sumSt, nodesL]
          omega
      have := key xs (by omega) ok
      omega
    | _ => simp [bodyOk] at ok
theorem PgOk.of {h : Hs} {d : D} (w : Wf h d) (n : nodes d ≤ 50000) (e : dep d < 40) (g : grN 7600 d) : PgOk h d :=
  ⟨w, e, n, fun ds ns bs ed x hx a b ok => by
    have h1 := cnt_nodes _ x (Nat.le_refl _) ok
    have h2 := g _ ed (.tup bs) (by simp) bs rfl x hx
    omega⟩
def Ask (c : Str) (h : Hs) (d : D) : Prop := (c = "program" ∧ PgOk h d) ∨ (c = "code" ∧ Wf h d)
theorem Ask.right {c : Str} {h : Hs} {d : D} (a : Ask c h d) : m__law_right [.str c, d] h = .ok (.bl true) h := by
  rcases a with ⟨rfl, p⟩ | ⟨rfl, w⟩
  · exact right_p p
  · exact right_c w
def nj : Nat → Nat
  | 0 => 7564
  | j + 1 => 2 * nj j + 5
def gj : Nat → Nat
  | 0 => 1882
  | j + 1 => 2 * gj j + 5
def Tj (j : Nat) (c : Str) (h : Hs) (d : D) : Prop := ((c = "program" ∧ nodes d ≤ nj j ∧ dep d ≤ 14 + 3 * j ∧ grN (gj j) d) ∨ c = "code") ∧ WfN (100 + j) h d
theorem Tj.be {j : Nat} {c : Str} {h h' : Hs} {d d' : D} (t : Tj j c h d) (b : Be (100 + j) h' d d') : Tj (j + 1) c h' d' := by
  refine ⟨?_, b.wf⟩
  rcases t.1 with ⟨rfl, n, e, g⟩ | rfl
  · have := b.no
    have := b.de
    exact .inl ⟨rfl, by simp only [nj]; omega, by omega, b.gr _ g⟩
  · exact .inr rfl
theorem Tj.up {S : Nat → Prop} {j : Nat} {c : Str} {h h' : Hs} {d : D} (t : Tj j c h d) (u : Up S h h') : Tj j c h' d := ⟨t.1, u.wf t.2⟩
theorem Tj.ask {j : Nat} {c : Str} {h : Hs} {d : D} (t : Tj j c h d) (l : j ≤ 2) : Ask c h d := by
  have w : Wf h d := t.2.keep (by omega) fun _ xs e => ⟨xs, e⟩
  rcases t.1 with ⟨rfl, n, e, g⟩ | rfl
  · have h1 : nj j ≤ 50000 := by
      match j, l with
      | 0, _ => decide
      | 1, _ => decide
      | 2, _ => decide
    have h2 : gj j ≤ 7600 := by
      match j, l with
      | 0, _ => decide
      | 1, _ => decide
      | 2, _ => decide
    exact .inl ⟨rfl, .of w (by omega) (by omega) fun xs ex y hy => (g xs ex y hy).mono h2⟩
  · exact .inr ⟨rfl, w⟩
theorem nodesL_sub {f : List D → List D} (hf : ∀ l, ∃ a b, l = a ++ f l ++ b) (l : List D) : nodesL (f l) ≤ nodesL l := by
  obtain ⟨a, b, e⟩ := hf l
  have := congrArg nodesL e
  rw [nodesL_app, nodesL_app] at this
  omega
theorem nodesL_rev : ∀ l : List D, nodesL l.reverse = nodesL l
  | [] => rfl
  | x :: l => by rw [List.reverse_cons, nodesL_app, nodesL_rev l]; simp only [nodesL]; omega
theorem depL_le {B : Nat} : ∀ {l : List D}, (∀ x ∈ l, dep x ≤ B) → depL l ≤ B
  | [], _ => by simp [depL]
  | x :: l, q => by
    have := q x List.mem_cons_self
    have := depL_le fun y hy => q y (List.mem_cons_of_mem x hy)
    simp only [depL]
    omega
theorem Tj.items {c : Str} {h : Hs} {xs zs : List D} (t : Tj 0 c h (.tup xs)) (l : zs.length ≤ 200) (m : ∀ z ∈ zs, z ∈ xs) (n : nodesL zs ≤ 2 * nodesL xs) : Ask c h (.tup zs) := by
  have w : Wf h (.tup zs) := by
    have w0 := t.2
    simp only [Wf, WfN] at w0 ⊢
    exact ⟨by omega, wfL_iff.mpr fun z hz => (wfL_iff.mp w0.2 z (m z hz)).keep (by omega) fun _ xs e => ⟨xs, e⟩⟩
  rcases t.1 with ⟨rfl, n0, e, g⟩ | rfl
  · simp only [nodes, nj] at n0
    have d1 : depL zs ≤ depL xs := depL_le fun x hx => dep_mem (m x hx)
    simp only [dep] at e
    refine .inl ⟨rfl, .of w (by simp only [nodes]; omega) (by simp only [dep]; omega) fun ys ey y hy => ?_⟩
    injection ey with ey
    subst ey
    exact (g xs rfl y (m y hy)).mono (by decide)
  · exact .inr ⟨rfl, w⟩
theorem ask_small {c : Str} {h : Hs} {d : D} (cc : c = "program" ∨ c = "code") (w : Wf h d) (n : nodes d ≤ 5) (e : dep d ≤ 3) : Ask c h d := by
  rcases cc with rfl | rfl
  · exact .inl ⟨rfl, .of w (by omega) (by omega) ((small_gr n 10).mono (by decide))⟩
  · exact .inr ⟨rfl, w⟩
end Kl

set_option Elab.async false
set_option linter.all false
set_option maxRecDepth 100000
set_option maxHeartbeats 1000000
set_option autoImplicit false
namespace Kl
open PySem PySem.Spec PyProof.Rows L2 Sm
abbrev lwS (fl : D) (n : Nat) (x2 x10 x11 x12 x13 x14 : Option D) : Lo := [some fl, some (.ref n), x2, none, none, none, none, none, none, none, x10, x11, x12, x13, x14]
noncomputable def lTurn : SS := (sCons (sSet 14 (eUser 2 m__law_bent (aCons (eVar 1) (aCons (eVar 11) aNil))))
  (sIf (bOr (bNot (bVal (eUser 2 m__law_right (aCons (eVar 10) (aCons (eVar 14) aNil))))) (bAnd (bVal (eOp2 oGt (eVar 12) (eC (.int 7)))) (bNot (bVal (eUser 2 m__law_right (aCons (eVar 10) (aCons (eUser 2 m__law_bent (aCons (eVar 1) (aCons (eVar 14) aNil))) aNil))))))) (sRet (eC (.bl false))) sNil))
noncomputable def lOther : SS := (sIf (bNot (bVal (eUser 2 m__law_right (aCons (eVar 10) (aCons (eVar 13) aNil))))) (sRet (eC (.bl false))) sNil)
noncomputable def lThing : SS := (sCons (sIf (bNot (bVal (eUser 2 m__law_right (aCons (eVar 10) (aCons (eVar 11) aNil))))) (sRet (eC (.bl false))) sNil)
  (sCons (sFor (iRangeD (aCons (eC (.int 12)) aNil)) (.nm 12) lTurn)
  (sFor (iTupD (eTup (aCons (eCall fList (aCons (eVar 11) aNil)) (aCons (eOp1 oRev (eVar 11)) (aCons (eOp2 oAdd (eVar 11) (eVar 11)) (aCons (eSl (eVar 11) noPart (onPart (eOp1 oNeg (eC (.int 1))))) (aCons (eC .non) (aCons (eC (.str "main")) (aCons (eTup aNil) (aCons (eTup (aCons (eVar 11) aNil)) aNil)))))))))) (.nm 13) lOther)))
noncomputable def lLap : SS := (sFor (iTupD (eTup (aCons (eTup (aCons (eC (.str "program")) (aCons (eUser 1 m__law_program (aCons (eVar 1) aNil)) aNil))) (aCons (eTup (aCons (eC (.str "code")) (aCons (eUser 1 m__law_code (aCons (eVar 1) aNil)) aNil))) aNil)))) (.tp [10, 11]) lThing)
theorem turn_run {fl : D} {n e k : Nat} {c : Str} {thing : D} {x2 x13 x14 : Option D} {i : Int} {h : Hs} (f : Fg h n e (32 + k)) (t : Tj 0 c h thing) :
    ∃ y14 h', lTurn (lwS fl n x2 (some (.str c)) (some thing) (some (.int i)) x13 x14) h = .nx (lwS fl n x2 (some (.str c)) (some thing) (some (.int i)) x13 y14) h' ∧ Fg h' n e k ∧ Up (· = n) h h' := by
  obtain ⟨d1, h1, e1, f1, u1, b1⟩ := v_bent (k := 16 + k) (m := 100) (f.less (by omega)) (by decide) (by decide) t.2
  have t1 := t.be b1
  have r1 := (t1.ask (by decide)).right
  obtain ⟨d2, h2, e2, f2, u2, b2⟩ := v_bent (k := k) (m := 101) f1 (by decide) (by decide) t1.2
  have r2 := ((t1.be b2).ask (by decide)).right
  by_cases z : 7 < i
  · exact ⟨some d1, h2, by simp [lTurn, e1, e2, r1, r2, z, onR], f2, u1.trans u2⟩
  · exact ⟨some d1, h1, by simp [lTurn, e1, r1, z, onR], f1.less (by omega), u1⟩
theorem turns_run {fl : D} {n e k : Nat} {c : Str} {thing : D} {x2 x12 x13 x14 : Option D} {h : Hs} (f : Fg h n e (384 + k)) (t : Tj 0 c h thing) :
    ∃ y12 y14 h', sFor (iRangeD (aCons (eC (.int 12)) aNil)) (.nm 12) lTurn (lwS fl n x2 (some (.str c)) (some thing) x12 x13 x14) h = .nx (lwS fl n x2 (some (.str c)) (some thing) y12 x13 y14) h' ∧ Fg h' n e k ∧ Up (· = n) h h' := by
  have src : iRangeD (aCons (eC (.int 12)) aNil) (lwS fl n x2 (some (.str c)) (some thing) x12 x13 x14) h = .ok (Sm.intsFrom 0 (12 : Int).toNat, fun (_ : Hs) => True) h := src_intH (by simp) (by decide)
  have ln : (Sm.intsFrom 0 (12 : Int).toNat).length = 12 := by simp [Sm.intsFrom]
  have di : ∀ x ∈ Sm.intsFrom 0 (12 : Int).toNat, ∃ i : Int, x = .int i := by
    intro x hx
    unfold Sm.intsFrom at hx
    obtain ⟨i, _, rfl⟩ := List.mem_map.mp hx
    exact ⟨_, rfl⟩
  let I : List D → Lo → Hs → Prop := fun ds σ g => (∀ x ∈ ds, ∃ i : Int, x = .int i) ∧ ∃ y12 y14, σ = lwS fl n x2 (some (.str c)) (some thing) y12 x13 y14 ∧ Fg g n e (32 * ds.length + k) ∧ Up (· = n) h g
  obtain ⟨σ', h2, q, _, y12, y14, z1, z2, z3⟩ := forG_nx (t := .nm 12) (G := fun _ => True) (body := lTurn) I (fun _ _ _ _ => trivial) (fun d ds σ g i => by
    obtain ⟨i0, y12, y14, rfl, i2, i3⟩ := i
    obtain ⟨j, rfl⟩ := i0 d List.mem_cons_self
    simp only [List.length_cons] at i2
    obtain ⟨z14, h', q, f', u'⟩ := turn_run (fl := fl) (x2 := x2) (x13 := x13) (x14 := y14) (i := j) (k := 32 * ds.length + k) (i2.less (by omega)) (t.up i3)
    exact ⟨_, rfl, _, h', q, fun x hx => i0 x (List.mem_cons_of_mem _ hx), _, _, rfl, f', i3.trans u'⟩) (Sm.intsFrom 0 (12 : Int).toNat) (lwS fl n x2 (some (.str c)) (some thing) x12 x13 x14) h ⟨di, x12, x14, rfl, f.less (by rw [ln]; omega), Up.refl _ _⟩
  refine ⟨y12, y14, h2, ?_, z2.less (by omega), z3⟩
  rw [q_for, src]
  exact q.trans (by rw [z1])
theorem cutD_sub (xs : List D) (l r : Option Int) : ∃ a b, xs = a ++ Sm.cutD xs l r ++ b := by
  unfold Sm.cutD
  generalize HT.sIx _ 0 l = i
  generalize HT.sIx _ _ r - i = j
  exact ⟨xs.take i, (xs.drop i).drop j, by rw [List.append_assoc, List.take_append_drop, List.take_append_drop]⟩
theorem others_run {fl : D} {n : Nat} {c : Str} {xs : List D} {x2 x12 x13 x14 : Option D} {h : Hs} (cc : c = "program" ∨ c = "code") (t : Tj 0 c h (.tup xs)) :
    ∃ y13 h', sFor (iTupD (eTup (aCons (eCall fList (aCons (eVar 11) aNil)) (aCons (eOp1 oRev (eVar 11)) (aCons (eOp2 oAdd (eVar 11) (eVar 11)) (aCons (eSl (eVar 11) noPart (onPart (eOp1 oNeg (eC (.int 1))))) (aCons (eC .non) (aCons (eC (.str "main")) (aCons (eTup aNil) (aCons (eTup (aCons (eVar 11) aNil)) aNil)))))))))) (.nm 13) lOther (lwS fl n x2 (some (.str c)) (some (.tup xs)) x12 x13 x14) h = .nx (lwS fl n x2 (some (.str c)) (some (.tup xs)) x12 y13 x14) h' ∧ Up (· = n) h h' ∧ h' = h ++ [.lst xs] := by
  have lx : xs.length ≤ 100 := by have := t.2; simp only [WfN] at this; exact this.1
  let h1 : Hs := h ++ [.lst xs]
  have u1 : Up (· = n) h h1 := Up.app _ _
  have t1 := t.up u1
  let os : List D := [.ref h.length, .tup xs.reverse, .tup (xs ++ xs), .tup (Sm.cutD xs none (some (-1))), .non, .str "main", .tup [], .tup [.tup xs]]
  have src : iTupD (eTup (aCons (eCall fList (aCons (eVar 11) aNil)) (aCons (eOp1 oRev (eVar 11)) (aCons (eOp2 oAdd (eVar 11) (eVar 11)) (aCons (eSl (eVar 11) noPart (onPart (eOp1 oNeg (eC (.int 1))))) (aCons (eC .non) (aCons (eC (.str "main")) (aCons (eTup aNil) (aCons (eTup (aCons (eVar 11) aNil)) aNil))))))))) (lwS fl n x2 (some (.str c)) (some (.tup xs)) x12 x13 x14) h = .ok (os, fun (_ : Hs) => True) h1 := by
    have ad : oAdd (.tup xs) (.tup xs) h1 = .ok (.tup (xs ++ xs)) h1 := by
      simp only [oAdd]
      rw [if_pos (by omega)]
    simp [fList, seqD, oRev, oSl, ad, os, h1] at *
  have ok : ∀ o ∈ os, Ask c h1 o := by
    intro o ho
    simp only [os, List.mem_cons, List.not_mem_nil, or_false] at ho
    rcases ho with rfl | rfl | rfl | rfl | rfl | rfl | rfl | rfl
    · exact ask_small cc (by simp [WfN, h1]) (by simp [nodes]) (by simp [dep])
    · exact t1.items (by simp; omega) (by simp) (by rw [nodesL_rev]; omega)
    · exact t1.items (by simp; omega) (by simp) (by rw [nodesL_app]; omega)
    · obtain ⟨a, b, e⟩ := cutD_sub xs none (some (-1))
      refine t1.items ?_ ?_ ?_
      · have := congrArg List.length e
        simp at this
        omega
      · intro z hz
        rw [e]
        simp [hz]
      · have := congrArg nodesL e
        rw [nodesL_app, nodesL_app] at this
        omega
    · exact ask_small cc (by simp [WfN]) (by simp [nodes]) (by simp [dep])
    · exact ask_small cc (by simp [WfN, okS_m]) (by simp [nodes]) (by simp [dep])
    · exact ask_small cc (by simp [WfN, WfL]) (by simp [nodes, nodesL]) (by simp [dep, depL])
    · have w1 : Wf h1 (.tup xs) := t1.2.keep (by decide) fun _ xs e => ⟨xs, e⟩
      have w : Wf h1 (.tup [.tup xs]) := by
        simp only [Wf, WfN, WfL] at w1 ⊢
        exact ⟨by simp, w1, trivial⟩
      rcases t1.1 with ⟨rfl, n0, e, g⟩ | rfl
      · simp only [nodes, nj, dep] at n0 e
        refine .inl ⟨rfl, w, by simp only [dep, depL]; omega, by simp only [nodes, nodesL]; omega, fun ds ns bs ed => by injection ed with ed; simp at ed⟩
      · exact .inr ⟨rfl, w⟩
  generalize os = os' at src ok
  let I : List D → Lo → Hs → Prop := fun ds σ g => (∀ o ∈ ds, Ask c h1 o) ∧ g = h1 ∧ ∃ y13, σ = lwS fl n x2 (some (.str c)) (some (.tup xs)) x12 y13 x14
  obtain ⟨σ', h2, q, _, rfl, y13, z1⟩ := forG_nx (t := .nm 13) (G := fun _ => True) (body := lOther) I (fun _ _ _ _ => trivial) (fun d ds σ g i => by
    obtain ⟨i0, rfl, y13, rfl⟩ := i
    have r := (i0 d List.mem_cons_self).right
    refine ⟨_, rfl, lwS fl n x2 (some (.str c)) (some (.tup xs)) x12 (some d) x14, h1, ?_, fun x hx => i0 x (List.mem_cons_of_mem _ hx), rfl, _, rfl⟩
    simp [lOther, r, onR]) os' (lwS fl n x2 (some (.str c)) (some (.tup xs)) x12 x13 x14) h1 ⟨ok, rfl, x13, rfl⟩
  refine ⟨y13, h1, ?_, u1, rfl⟩
  rw [q_for, src]
  exact q.trans (by rw [z1])
theorem thing_run {fl : D} {n e k : Nat} {c : Str} {xs : List D} {x2 x12 x13 x14 : Option D} {h : Hs} (cc : c = "program" ∨ c = "code") (f : Fg h n e (384 + k)) (t : Tj 0 c h (.tup xs)) :
    ∃ y12 y13 y14 h', lThing (lwS fl n x2 (some (.str c)) (some (.tup xs)) x12 x13 x14) h = .nx (lwS fl n x2 (some (.str c)) (some (.tup xs)) y12 y13 y14) h' ∧ Fg h' n e k ∧ Up (· = n) h h' := by
  have r := (t.ask (by decide)).right
  obtain ⟨y12, y14, h1, q1, f1, u1⟩ := turns_run (fl := fl) (x2 := x2) (x12 := x12) (x13 := x13) (x14 := x14) f t
  obtain ⟨y13, h2, q2, u2, e2⟩ := others_run (fl := fl) (n := n) (x2 := x2) (x12 := y12) (x13 := x13) (x14 := y14) cc (t.up u1)
  refine ⟨y12, y13, y14, h2, ?_, by rw [e2]; exact f1.up (Up.app (S := fun _ => False) h1 _) (by simp) (by simp), u1.trans u2⟩
  unfold lThing
  have s0 : (sIf (bNot (bVal (eUser 2 m__law_right (aCons (eVar 10) (aCons (eVar 11) aNil))))) (sRet (eC (.bl false))) sNil) (lwS fl n x2 (some (.str c)) (some (.tup xs)) x12 x13 x14) h = .nx (lwS fl n x2 (some (.str c)) (some (.tup xs)) x12 x13 x14) h := by
    simp [r, onR]
  rw [q_scons, s0]
  simp only [Out.next]
  rw [q_scons, q1]
  simp only [Out.next]
  exact q2
theorem lap_run {fl : D} {n e k : Nat} {x2 x10 x11 x12 x13 x14 : Option D} {h : Hs} (f : Fg h n e (6812 + k)) :
    ∃ y10 y11 y12 y13 y14 h', lLap (lwS fl n x2 x10 x11 x12 x13 x14) h = .nx (lwS fl n x2 y10 y11 y12 y13 y14) h' ∧ Fg h' n e k ∧ Up (· = n) h h' := by
  obtain ⟨d, h1, e1, f1, u1, p⟩ := v_gprog (k := 958 + k) (f.less (by omega))
  obtain ⟨cs, h2, e2, f2, u2, wc, lc⟩ := v_gcode (k := 768 + k) (f1.less (by omega))
  obtain ⟨xs, rfl, lx⟩ := p.tp
  have nil_up : ∀ {g : Hs} {d : D}, WfN 100 [] d → WfN 100 g d := fun w => w.keep (Nat.le_refl _) fun _ xs e => by simp at e
  have t1 : Tj 0 "program" h2 (.tup xs) := ⟨.inl ⟨rfl, p.no, p.de, p.gr⟩, nil_up p.wf⟩
  obtain ⟨a12, a13, a14, h3, q3, f3, u3⟩ := thing_run (fl := fl) (k := 384 + k) (x2 := x2) (x12 := x12) (x13 := x13) (x14 := x14) (.inl rfl) (f2.less (by omega)) t1
  have t2 : Tj 0 "code" h3 (.tup cs) := ⟨.inr rfl, nil_up wc⟩
  obtain ⟨b12, b13, b14, h4, q4, f4, u4⟩ := thing_run (fl := fl) (k := k) (x2 := x2) (x12 := a12) (x13 := a13) (x14 := a14) (.inr rfl) f3 t2
  refine ⟨some (.str "code"), some (.tup cs), b12, b13, b14, h4, ?_, f4, ((u1.trans u2).trans u3).trans u4⟩
  unfold lLap
  have src : iTupD (eTup (aCons (eTup (aCons (eC (.str "program")) (aCons (eUser 1 m__law_program (aCons (eVar 1) aNil)) aNil))) (aCons (eTup (aCons (eC (.str "code")) (aCons (eUser 1 m__law_code (aCons (eVar 1) aNil)) aNil))) aNil))) (lwS fl n x2 x10 x11 x12 x13 x14) h = .ok ([.tup [.str "program", .tup xs], .tup [.str "code", .tup cs]], fun (_ : Hs) => True) h2 := by
    simp [e1, e2]
  rw [q_for, src]
  simp only [onR]
  unfold forG
  simp only [if_true, q_tp, q_pa, q_pa0]
  rw [show ((((lwS fl n x2 x10 x11 x12 x13 x14).set 10 (some (.str "program"))).set 11 (some (.tup xs)))) = lwS fl n x2 (some (.str "program")) (some (.tup xs)) x12 x13 x14 from rfl, q3]
  simp only [Out.turn]
  unfold forG
  simp only [if_true, q_tp, q_pa, q_pa0]
  rw [show ((((lwS fl n x2 (some (.str "program")) (some (.tup xs)) a12 a13 a14).set 10 (some (.str "code"))).set 11 (some (.tup cs)))) = lwS fl n x2 (some (.str "code")) (some (.tup cs)) a12 a13 a14 from rfl, q4]
  simp only [Out.turn]
  unfold forG
  simp
theorem laps_run {fl : D} {n e k : Nat} {x2 : Option D} {h : Hs} (f : Fg h n e (20436 + k)) :
    ∃ y2 y10 y11 y12 y13 y14 h', sFor (iRangeD (aCons (eC (.int 3)) aNil)) (.nm 2) lLap (lwS fl n x2 none none none none none) h = .nx (lwS fl n y2 y10 y11 y12 y13 y14) h' ∧ Fg h' n e k ∧ Up (· = n) h h' := by
  have src : iRangeD (aCons (eC (.int 3)) aNil) (lwS fl n x2 none none none none none) h = .ok (Sm.intsFrom 0 (3 : Int).toNat, fun (_ : Hs) => True) h := src_intH (by simp) (by decide)
  have ln : (Sm.intsFrom 0 (3 : Int).toNat).length = 3 := by simp [Sm.intsFrom]
  let I : List D → Lo → Hs → Prop := fun ds σ g => ∃ y2 y10 y11 y12 y13 y14, σ = lwS fl n y2 y10 y11 y12 y13 y14 ∧ Fg g n e (6812 * ds.length + k) ∧ Up (· = n) h g
  obtain ⟨σ', h2, q, y2, y10, y11, y12, y13, y14, z1, z2, z3⟩ := forG_nx (t := .nm 2) (G := fun _ => True) (body := lLap) I (fun _ _ _ _ => trivial) (fun d ds σ g i => by
    obtain ⟨y2, y10, y11, y12, y13, y14, rfl, i2, i3⟩ := i
    simp only [List.length_cons] at i2
    obtain ⟨z10, z11, z12, z13, z14, h', q, f', u'⟩ := lap_run (fl := fl) (x2 := some d) (x10 := y10) (x11 := y11) (x12 := y12) (x13 := y13) (x14 := y14) (k := 6812 * ds.length + k) (i2.less (by omega))
    exact ⟨_, rfl, _, h', q, _, _, _, _, _, _, rfl, f', i3.trans u'⟩) (Sm.intsFrom 0 (3 : Int).toNat) (lwS fl n x2 none none none none none) h ⟨x2, none, none, none, none, none, rfl, f.less (by rw [ln]; omega), Up.refl _ _⟩
  refine ⟨y2, y10, y11, y12, y13, y14, h2, ?_, z2.less (by omega), z3⟩
  rw [q_for, src]
  exact q.trans (by rw [z1])
end Kl

set_option Elab.async false
set_option linter.all false
set_option maxRecDepth 100000
set_option maxHeartbeats 2000000
set_option autoImplicit false
namespace Kl
open PySem PySem.Spec PyProof.Rows L2 Sm
def things (r : Nat) : List D := [.tup [.tup [.tup [.str "f", .tup [.int 0, .int 2, .int 0, .int 1]]], .tup [.str "main", .str "g"], .tup [.tup [.tup [.str "deed", .int 0]], .tup []]], .tup [.tup [.tup [.str "f", .tup [.int 0, .int 2, .int 0, .int 1]]], .tup [.str "main", .str "g"]], .tup [.tup [.tup [.str "f", .tup [.int 0, .int 2, .int 0, .int 1]], .tup [.str "f", .tup [.int 0, .int 2, .int 0, .int 1]]], .tup [.str "g"], .tup []], .tup [.tup [.tup [.str "f", .tup [.int 2, .int 2, .int 0, .int 1]]], .tup [.str "g"], .tup []], .tup [.tup [.tup [.str "f", .tup [.int 0, .int 0, .int 0, .int 0]]], .tup [.str "main", .str "g"], .tup []], .tup [.tup [.tup [.str "f", .tup [.int 0, .int 2, .int 0, .int 1]]], .tup [.str "f", .str "main"], .tup []], .tup [.tup [.tup [.str "f", .tup [.int 0, .int 2, .int 0, .int 1]]], .tup [.str "g"], .tup []], .tup [.tup [.tup [.str "f", .tup [.int 0, .int 2, .int 0, .int 1]]], .tup [.str "main", .str "g"], .tup [.tup []]], .tup [.tup [.tup [.str "f", .tup [.int 0, .int 2, .int 0, .int 1]]], .tup [.str "main", .str "g"], .tup [.tup [], .tup [.tup [.str "deed", .int 1]]]], .tup [.tup [.tup [.str "f", .tup [.int 0, .int 2, .int 0, .int 1]]], .tup [.str "main", .str "g"], .tup [.tup [.tup [.str "either", .tup [.tup []]]], .tup [.tup [.str "call", .int 2]]]], .tup [.tup [], .tup [.str "main"], .tup [.tup [.tup [.str "loop", .tup [.tup [.str "back"], .tup [.str "repeat", .int 0, .tup [.tup [.str "back"]]]]]]]], .tup [.tup [.ref r], .tup [.str "main", .str "g"], .tup [.tup [], .tup []]], .tup [.tup [.tup [.str "f", .tup [.int 0, .int 2, .int 0, .int 1]]], .tup [.str "main", .str "g"], .tup [.tup [.tup [.str "repeat", .bl true, .tup []]], .tup []]], .tup [.tup [.tup [.str "f", .tup [.int 0, .int 2, .int 0, .int 1]]], .tup [.str "main", .str "main"], .tup [.tup [], .tup []]], .tup [.tup [.tup [.str "f", .tup [.int 0, .int 2, .int 0, .int 1], .int 0]], .tup [.str "g"], .tup []]]
def thingsL : List D := [.str "f", .tup [.int 0, .int 2, .int 0, .int 1]]
def dues1 : List D := [.tup [.str "told", .int 1], .tup [.str "bad", .int (-1), .str "shape"], .tup [.str "bad", .int (-1), .str "deeds"], .tup [.str "bad", .int 0, .str "form"], .tup [.str "bad", .int 0, .str "form"], .tup [.str "bad", .int (-1), .str "names"], .tup [.str "bad", .int (-1), .str "main"], .tup [.str "bad", .int (-1), .str "bodies"], .tup [.str "bad", .int 1, .str "statement"], .tup [.str "bad", .int 0, .str "statement"], .tup [.str "told", .int 4], .tup [.str "bad", .int (-1), .str "deeds"], .tup [.str "bad", .int 0, .str "statement"], .tup [.str "bad", .int (-1), .str "names"], .tup [.str "bad", .int (-1), .str "deeds"]]
def codes (r : Nat) : List D := [.tup [.tup [.tup [.str "deed", .tup [.int 0, .int 2, .int 0, .int 1], .int 1], .tup [.str "return"]]], .tup [.tup [.tup [.str "deed", .tup [.int 2, .int 2, .int 0, .int 1], .int 1], .tup [.str "return"]]], .tup [], .tup [.tup []], .tup [.tup [.tup [.str "choose", .tup [.int 0]]]], .tup [.tup [.tup [.str "call", .int 1, .int 9], .tup [.str "deed", .tup [.int 1], .int 0]]], .tup [.tup [.tup [.str "call", .int 1, .int 1]]], .tup [.tup [.tup [.str "return"]], .tup [.tup [.str "choose", .tup [.int 0, .int 1]]]], .tup [.tup [.tup [.str "deed", .ref r, .int 0]]], .tup [.tup [.tup [.str "call", .bl true, .int 0]]], .tup [.tup [.tup [.str "return", .int 0]]]]
def codesL : List D := [.int 0, .int 1, .int 0, .int 1]
def dues2 : List D := [.tup [.str "told", .int 2], .tup [.str "bad", .int 0, .str "form"], .tup [.str "bad", .int (-1), .str "shape"], .tup [.str "bad", .int (-1), .str "shape"], .tup [.str "bad", .int 0, .str "row"], .tup [.str "bad", .int 0, .str "form"], .tup [.str "bad", .int 0, .str "call"], .tup [.str "bad", .int 1, .str "next"], .tup [.str "bad", .int 0, .str "row"], .tup [.str "bad", .int 0, .str "row"], .tup [.str "bad", .int 0, .str "row"]]
noncomputable def hT : SS := (sTgt (.tp [7, 8, 9]) (eTup (aCons (eTup (aCons (eC (.int 0)) (aCons (eC (.int 2)) (aCons (eC (.int 0)) (aCons (eC (.int 1)) aNil))))) (aCons (eTup (aCons (eTup (aCons (eC (.str "f")) (aCons (eTup (aCons (eC (.int 0)) (aCons (eC (.int 2)) (aCons (eC (.int 0)) (aCons (eC (.int 1)) aNil))))) aNil))) aNil)) (aCons (eTup (aCons (eC (.str "main")) (aCons (eC (.str "g")) aNil))) aNil)))))
noncomputable def hThings : SS := (sSet 3 (eTup (aCons (eTup (aCons (eVar 8) (aCons (eVar 9) (aCons (eTup (aCons (eTup (aCons (eTup (aCons (eC (.str "deed")) (aCons (eC (.int 0)) aNil))) aNil)) (aCons (eTup aNil) aNil))) aNil)))) (aCons (eTup (aCons (eVar 8) (aCons (eVar 9) aNil))) (aCons (eTup (aCons (eOp2 oMulA (eVar 8) (eC (.int 2))) (aCons (eTup (aCons (eC (.str "g")) aNil)) (aCons (eTup aNil) aNil)))) (aCons (eTup (aCons (eTup (aCons (eTup (aCons (eC (.str "f")) (aCons (eTup (aCons (eC (.int 2)) (aCons (eC (.int 2)) (aCons (eC (.int 0)) (aCons (eC (.int 1)) aNil))))) aNil))) aNil)) (aCons (eTup (aCons (eC (.str "g")) aNil)) (aCons (eTup aNil) aNil)))) (aCons (eTup (aCons (eTup (aCons (eTup (aCons (eC (.str "f")) (aCons (eTup (aCons (eC (.int 0)) (aCons (eC (.int 0)) (aCons (eC (.int 0)) (aCons (eC (.int 0)) aNil))))) aNil))) aNil)) (aCons (eVar 9) (aCons (eTup aNil) aNil)))) (aCons (eTup (aCons (eVar 8) (aCons (eTup (aCons (eC (.str "f")) (aCons (eC (.str "main")) aNil))) (aCons (eTup aNil) aNil)))) (aCons (eTup (aCons (eVar 8) (aCons (eTup (aCons (eC (.str "g")) aNil)) (aCons (eTup aNil) aNil)))) (aCons (eTup (aCons (eVar 8) (aCons (eVar 9) (aCons (eTup (aCons (eTup aNil) aNil)) aNil)))) (aCons (eTup (aCons (eVar 8) (aCons (eVar 9) (aCons (eTup (aCons (eTup aNil) (aCons (eTup (aCons (eTup (aCons (eC (.str "deed")) (aCons (eC (.int 1)) aNil))) aNil)) aNil))) aNil)))) (aCons (eTup (aCons (eVar 8) (aCons (eVar 9) (aCons (eTup (aCons (eTup (aCons (eTup (aCons (eC (.str "either")) (aCons (eTup (aCons (eTup aNil) aNil)) aNil))) aNil)) (aCons (eTup (aCons (eTup (aCons (eC (.str "call")) (aCons (eC (.int 2)) aNil))) aNil)) aNil))) aNil)))) (aCons (eTup (aCons (eTup aNil) (aCons (eTup (aCons (eC (.str "main")) aNil)) (aCons (eTup (aCons (eTup (aCons (eTup (aCons (eC (.str "loop")) (aCons (eTup (aCons (eTup (aCons (eC (.str "back")) aNil)) (aCons (eTup (aCons (eC (.str "repeat")) (aCons (eC (.int 0)) (aCons (eTup (aCons (eTup (aCons (eC (.str "back")) aNil)) aNil)) aNil)))) aNil))) aNil))) aNil)) aNil)) aNil)))) (aCons (eTup (aCons (eTup (aCons (eLst (aCons (eC (.str "f")) (aCons (eVar 7) aNil))) aNil)) (aCons (eVar 9) (aCons (eTup (aCons (eTup aNil) (aCons (eTup aNil) aNil))) aNil)))) (aCons (eTup (aCons (eVar 8) (aCons (eVar 9) (aCons (eTup (aCons (eTup (aCons (eTup (aCons (eC (.str "repeat")) (aCons (eC (.bl true)) (aCons (eTup aNil) aNil)))) aNil)) (aCons (eTup aNil) aNil))) aNil)))) (aCons (eTup (aCons (eVar 8) (aCons (eTup (aCons (eC (.str "main")) (aCons (eC (.str "main")) aNil))) (aCons (eTup (aCons (eTup aNil) (aCons (eTup aNil) aNil))) aNil)))) (aCons (eTup (aCons (eTup (aCons (eTup (aCons (eC (.str "f")) (aCons (eVar 7) (aCons (eC (.int 0)) aNil)))) aNil)) (aCons (eTup (aCons (eC (.str "g")) aNil)) (aCons (eTup aNil) aNil)))) aNil)))))))))))))))))
noncomputable def hDues : SS := (sSet 4 (eTup (aCons (eTup (aCons (eC (.str "told")) (aCons (eC (.int 1)) aNil))) (aCons (eTup (aCons (eC (.str "bad")) (aCons (eOp1 oNeg (eC (.int 1))) (aCons (eC (.str "shape")) aNil)))) (aCons (eTup (aCons (eC (.str "bad")) (aCons (eOp1 oNeg (eC (.int 1))) (aCons (eC (.str "deeds")) aNil)))) (aCons (eTup (aCons (eC (.str "bad")) (aCons (eC (.int 0)) (aCons (eC (.str "form")) aNil)))) (aCons (eTup (aCons (eC (.str "bad")) (aCons (eC (.int 0)) (aCons (eC (.str "form")) aNil)))) (aCons (eTup (aCons (eC (.str "bad")) (aCons (eOp1 oNeg (eC (.int 1))) (aCons (eC (.str "names")) aNil)))) (aCons (eTup (aCons (eC (.str "bad")) (aCons (eOp1 oNeg (eC (.int 1))) (aCons (eC (.str "main")) aNil)))) (aCons (eTup (aCons (eC (.str "bad")) (aCons (eOp1 oNeg (eC (.int 1))) (aCons (eC (.str "bodies")) aNil)))) (aCons (eTup (aCons (eC (.str "bad")) (aCons (eC (.int 1)) (aCons (eC (.str "statement")) aNil)))) (aCons (eTup (aCons (eC (.str "bad")) (aCons (eC (.int 0)) (aCons (eC (.str "statement")) aNil)))) (aCons (eTup (aCons (eC (.str "told")) (aCons (eC (.int 4)) aNil))) (aCons (eTup (aCons (eC (.str "bad")) (aCons (eOp1 oNeg (eC (.int 1))) (aCons (eC (.str "deeds")) aNil)))) (aCons (eTup (aCons (eC (.str "bad")) (aCons (eC (.int 0)) (aCons (eC (.str "statement")) aNil)))) (aCons (eTup (aCons (eC (.str "bad")) (aCons (eOp1 oNeg (eC (.int 1))) (aCons (eC (.str "names")) aNil)))) (aCons (eTup (aCons (eC (.str "bad")) (aCons (eOp1 oNeg (eC (.int 1))) (aCons (eC (.str "deeds")) aNil)))) aNil)))))))))))))))))
noncomputable def hLoop1 : SS := (sFor (iRangeD (aCons (eCall fLen (aCons (eVar 3) aNil)) aNil)) (.nm 5) (sIf (bOr (bVal (eOp2 (oEq true) (eUser 2 m__law_heard (aCons (eC (.str "program")) (aCons (eOp2 oIx (eVar 3) (eVar 5)) aNil))) (eOp2 oIx (eVar 4) (eVar 5)))) (bVal (eOp2 (oEq true) (eUser 1 m__law_program_due (aCons (eOp2 oIx (eVar 3) (eVar 5)) aNil)) (eOp2 oIx (eVar 4) (eVar 5))))) (sRet (eC (.bl false))) sNil))
noncomputable def hCodes : SS := (sSet 6 (eTup (aCons (eTup (aCons (eTup (aCons (eTup (aCons (eC (.str "deed")) (aCons (eVar 7) (aCons (eC (.int 1)) aNil)))) (aCons (eTup (aCons (eC (.str "return")) aNil)) aNil))) aNil)) (aCons (eTup (aCons (eTup (aCons (eTup (aCons (eC (.str "deed")) (aCons (eTup (aCons (eC (.int 2)) (aCons (eC (.int 2)) (aCons (eC (.int 0)) (aCons (eC (.int 1)) aNil))))) (aCons (eC (.int 1)) aNil)))) (aCons (eTup (aCons (eC (.str "return")) aNil)) aNil))) aNil)) (aCons (eTup aNil) (aCons (eTup (aCons (eTup aNil) aNil)) (aCons (eTup (aCons (eTup (aCons (eTup (aCons (eC (.str "choose")) (aCons (eTup (aCons (eC (.int 0)) aNil)) aNil))) aNil)) aNil)) (aCons (eTup (aCons (eTup (aCons (eTup (aCons (eC (.str "call")) (aCons (eC (.int 1)) (aCons (eC (.int 9)) aNil)))) (aCons (eTup (aCons (eC (.str "deed")) (aCons (eTup (aCons (eC (.int 1)) aNil)) (aCons (eC (.int 0)) aNil)))) aNil))) aNil)) (aCons (eTup (aCons (eTup (aCons (eTup (aCons (eC (.str "call")) (aCons (eC (.int 1)) (aCons (eC (.int 1)) aNil)))) aNil)) aNil)) (aCons (eTup (aCons (eTup (aCons (eTup (aCons (eC (.str "return")) aNil)) aNil)) (aCons (eTup (aCons (eTup (aCons (eC (.str "choose")) (aCons (eTup (aCons (eC (.int 0)) (aCons (eC (.int 1)) aNil))) aNil))) aNil)) aNil))) (aCons (eTup (aCons (eTup (aCons (eTup (aCons (eC (.str "deed")) (aCons (eLst (aCons (eC (.int 0)) (aCons (eC (.int 1)) (aCons (eC (.int 0)) (aCons (eC (.int 1)) aNil))))) (aCons (eC (.int 0)) aNil)))) aNil)) aNil)) (aCons (eTup (aCons (eTup (aCons (eTup (aCons (eC (.str "call")) (aCons (eC (.bl true)) (aCons (eC (.int 0)) aNil)))) aNil)) aNil)) (aCons (eTup (aCons (eTup (aCons (eTup (aCons (eC (.str "return")) (aCons (eC (.int 0)) aNil))) aNil)) aNil)) aNil)))))))))))))
noncomputable def hDues2 : SS := (sSet 4 (eTup (aCons (eTup (aCons (eC (.str "told")) (aCons (eC (.int 2)) aNil))) (aCons (eTup (aCons (eC (.str "bad")) (aCons (eC (.int 0)) (aCons (eC (.str "form")) aNil)))) (aCons (eTup (aCons (eC (.str "bad")) (aCons (eOp1 oNeg (eC (.int 1))) (aCons (eC (.str "shape")) aNil)))) (aCons (eTup (aCons (eC (.str "bad")) (aCons (eOp1 oNeg (eC (.int 1))) (aCons (eC (.str "shape")) aNil)))) (aCons (eTup (aCons (eC (.str "bad")) (aCons (eC (.int 0)) (aCons (eC (.str "row")) aNil)))) (aCons (eTup (aCons (eC (.str "bad")) (aCons (eC (.int 0)) (aCons (eC (.str "form")) aNil)))) (aCons (eTup (aCons (eC (.str "bad")) (aCons (eC (.int 0)) (aCons (eC (.str "call")) aNil)))) (aCons (eTup (aCons (eC (.str "bad")) (aCons (eC (.int 1)) (aCons (eC (.str "next")) aNil)))) (aCons (eTup (aCons (eC (.str "bad")) (aCons (eC (.int 0)) (aCons (eC (.str "row")) aNil)))) (aCons (eTup (aCons (eC (.str "bad")) (aCons (eC (.int 0)) (aCons (eC (.str "row")) aNil)))) (aCons (eTup (aCons (eC (.str "bad")) (aCons (eC (.int 0)) (aCons (eC (.str "row")) aNil)))) aNil)))))))))))))
noncomputable def hLoop2 : SS := (sFor (iRangeD (aCons (eCall fLen (aCons (eVar 6) aNil)) aNil)) (.nm 5) (sIf (bOr (bVal (eOp2 (oEq true) (eUser 2 m__law_heard (aCons (eC (.str "code")) (aCons (eOp2 oIx (eVar 6) (eVar 5)) aNil))) (eOp2 oIx (eVar 4) (eVar 5)))) (bVal (eOp2 (oEq true) (eUser 1 m__law_code_due (aCons (eOp2 oIx (eVar 6) (eVar 5)) aNil)) (eOp2 oIx (eVar 4) (eVar 5))))) (sRet (eC (.bl false))) sNil))
noncomputable def hEnd : SS := (sRet (eUser 1 m__law_many (aCons (eVar 1) aNil)))
theorem law_cut : b_law = sCons (sSet 1 (eUser 1 m__law_forge (aCons (eVar 0) aNil))) (sCons (sFor (iRangeD (aCons (eC (.int 3)) aNil)) (.nm 2) lLap) (sCons hT (sCons hThings (sCons hDues (sCons hLoop1 (sCons hCodes (sCons hDues2 (sCons hLoop2 hEnd)))))))) := rfl
def ChkP (h : Hs) (t u : D) : Prop := m__law_heard [.str "program", t] h = .ok u h ∧ m__law_program_due [t] h = .ok u h ∧ oEq true u u h = .ok (.bl false) h
def ChkC (h : Hs) (t u : D) : Prop := m__law_heard [.str "code", t] h = .ok u h ∧ m__law_code_due [t] h = .ok u h ∧ oEq true u u h = .ok (.bl false) h
theorem grN_all {B : Nat} {d : D} (n : nodes d ≤ B) : grN B d := by
  intro xs ex y hy ys ey z hz
  subst ex
  subst ey
  simp only [nodes] at n
  have h1 := nodes_mem hy
  have h2 := nodes_mem hz
  simp only [nodes] at h1
  omega
theorem eq_self {h : Hs} {u : D} (e : eqD u u = some true) : oEq true u u h = .ok (.bl false) h := by
  unfold oEq
  rw [e]
  rfl
theorem ChkP.of {h : Hs} {t u : D} (w : Wf h t) (n : nodes t ≤ 100) (d : dep t < 40) (e : dueR (progR t) = u) (q : eqD u u = some true) : ChkP h t u := by
  have p : PgOk h t := .of w (by omega) d (grN_all (by omega))
  subst e
  exact ⟨heard_p w d, v_law_program_due w p.nd p.ct, eq_self q⟩
theorem ChkC.of {h : Hs} {t u : D} (w : Wf h t) (e : dueR (codeR t) = u) (q : eqD u u = some true) : ChkC h t u := by
  subst e
  exact ⟨heard_c w, v_law_code_due w, eq_self q⟩
theorem okS_f : okS "f" = true := by decide +kernel
theorem okS_g : okS "g" = true := by decide +kernel
theorem okS_ch : okS "choose" = true := by decide +kernel
theorem things_ok {h : Hs} {r : Nat} {xs : List D} (hr : h[r]? = some (.lst xs)) : ∀ p ∈ (things r).zip dues1, ChkP h p.1 p.2 := by
  intro p hp
  simp only [things, dues1, List.zip_cons_cons, List.zip_nil_left, List.zip_nil_right, List.mem_cons, List.not_mem_nil, or_false] at hp
  rcases hp with rfl | rfl | rfl | rfl | rfl | rfl | rfl | rfl | rfl | rfl | rfl | rfl | rfl | rfl | rfl
  all_goals
    refine ChkP.of ?_ ?_ ?_ ?_ ?_
    · simp [WfN, WfL, okS_f, okS_g, okS_m, okS_deed, okS_call, okS_back, okS_repeat, okS_either, okS_loop, hr]
    · simp [nodes, nodesL]
    · simp [dep, depL]
    · kernel_rfl
    · show eqD (.tup _) (.tup _) = some true
      decide +kernel
theorem codes_ok {h : Hs} {r : Nat} {xs : List D} (hr : h[r]? = some (.lst xs)) : ∀ p ∈ (codes r).zip dues2, ChkC h p.1 p.2 := by
  intro p hp
  simp only [codes, dues2, List.zip_cons_cons, List.zip_nil_left, List.zip_nil_right, List.mem_cons, List.not_mem_nil, or_false] at hp
  rcases hp with rfl | rfl | rfl | rfl | rfl | rfl | rfl | rfl | rfl | rfl | rfl
  all_goals
    refine ChkC.of ?_ ?_ ?_
    · simp [WfN, WfL, okS_f, okS_g, okS_m, okS_deed, okS_call, okS_back, okS_repeat, okS_either, okS_loop, okS_return, okS_ch, hr]
    · kernel_rfl
    · show eqD (.tup _) (.tup _) = some true
      decide +kernel
abbrev lwH (fl : D) (n : Nat) (x2 x3 x4 x5 x6 x7 x8 x9 x10 x11 x12 x13 x14 : Option D) : Lo := [some fl, some (.ref n), x2, x3, x4, x5, x6, x7, x8, x9, x10, x11, x12, x13, x14]
def hForm : D := .tup [.int 0, .int 2, .int 0, .int 1]
def hDeeds : D := .tup [.tup [.str "f", hForm]]
def hNames : D := .tup [.str "main", .str "g"]
section
variable {fl : D} {n : Nat} {x2 x3 x4 x5 x6 x7 x8 x9 x10 x11 x12 x13 x14 : Option D} {h : Hs}
theorem hT_run : hT (lwH fl n x2 x3 x4 x5 x6 x7 x8 x9 x10 x11 x12 x13 x14) h = .nx (lwH fl n x2 x3 x4 x5 x6 (some hForm) (some hDeeds) (some hNames) x10 x11 x12 x13 x14) h := by
  simp [hT, onR, hForm, hDeeds, hNames]
theorem hThings_run : hThings (lwH fl n x2 x3 x4 x5 x6 (some hForm) (some hDeeds) (some hNames) x10 x11 x12 x13 x14) h = .nx (lwH fl n x2 (some (.tup (things h.length))) x4 x5 x6 (some hForm) (some hDeeds) (some hNames) x10 x11 x12 x13 x14) (h ++ [.lst thingsL]) := by
  simp [hThings, onR, hForm, hDeeds, hNames, things, thingsL, oMulA, List.replicate]
theorem hDues_run : hDues (lwH fl n x2 x3 x4 x5 x6 x7 x8 x9 x10 x11 x12 x13 x14) h = .nx (lwH fl n x2 x3 (some (.tup dues1)) x5 x6 x7 x8 x9 x10 x11 x12 x13 x14) h := by
  simp [hDues, onR, dues1]
theorem hCodes_run : hCodes (lwH fl n x2 x3 x4 x5 x6 (some hForm) x8 x9 x10 x11 x12 x13 x14) h = .nx (lwH fl n x2 x3 x4 x5 (some (.tup (codes h.length))) (some hForm) x8 x9 x10 x11 x12 x13 x14) (h ++ [.lst codesL]) := by
  simp [hCodes, onR, hForm, codes, codesL]
theorem hDues2_run : hDues2 (lwH fl n x2 x3 x4 x5 x6 x7 x8 x9 x10 x11 x12 x13 x14) h = .nx (lwH fl n x2 x3 (some (.tup dues2)) x5 x6 x7 x8 x9 x10 x11 x12 x13 x14) h := by
  simp [hDues2, onR, dues2]
end
theorem hand_loop {t : Tg} {S : Option D → Lo} {body : SS} {h : Hs} (hS : ∀ d x, t.put d (S x) = some (S (some d))) : ∀ (ds : List D), (∀ d ∈ ds, body (S (some d)) h = .nx (S (some d)) h) → ∀ x, ∃ x', forG t body (fun _ => True) ds (S x) h = .nx (S x') h
  | [], _, x => ⟨x, by unfold forG; simp⟩
  | d :: ds, hb, x => by
    obtain ⟨x', q⟩ := hand_loop hS ds (fun e he => hb e (List.mem_cons_of_mem _ he)) (some d)
    refine ⟨x', ?_⟩
    unfold forG
    simp only [if_true, hS, hb d List.mem_cons_self, Out.turn]
    exact q
theorem zip_at {xs ys : List D} (l : xs.length = ys.length) {i : Nat} (hi : i < xs.length) : ∃ p ∈ xs.zip ys, atI xs (i : Int) = some p.1 ∧ atI ys (i : Int) = some p.2 := by
  have hy : i < ys.length := by omega
  refine ⟨(xs[i], ys[i]), ?_, atI_get (by simp [hi]), atI_get (by simp [hy])⟩
  rw [List.mem_iff_getElem]
  exact ⟨i, by simp; omega, by simp⟩
theorem mem_ints {m : Nat} {d : D} (hd : d ∈ Sm.intsFrom 0 m) : ∃ i : Nat, i < m ∧ d = .int (i : Int) := by
  unfold Sm.intsFrom at hd
  obtain ⟨i, hi, rfl⟩ := List.mem_map.mp hd
  exact ⟨i, List.mem_range.mp hi, by simp⟩
theorem hLoop1_run {fl : D} {n : Nat} {x2 x5 x6 x7 x8 x9 x10 x11 x12 x13 x14 : Option D} {h : Hs} {ts us : List D} (l : ts.length = us.length) (l2 : ts.length ≤ 1000) (c : ∀ p ∈ ts.zip us, ChkP h p.1 p.2) :
    ∃ y5, hLoop1 (lwH fl n x2 (some (.tup ts)) (some (.tup us)) x5 x6 x7 x8 x9 x10 x11 x12 x13 x14) h = .nx (lwH fl n x2 (some (.tup ts)) (some (.tup us)) y5 x6 x7 x8 x9 x10 x11 x12 x13 x14) h := by
  have src : iRangeD (aCons (eCall fLen (aCons (eVar 3) aNil)) aNil) (lwH fl n x2 (some (.tup ts)) (some (.tup us)) x5 x6 x7 x8 x9 x10 x11 x12 x13 x14) h = .ok (Sm.intsFrom 0 ((ts.length : Nat) : Int).toNat, fun (_ : Hs) => True) h := src_intH (by simp) (by omega)
  unfold hLoop1
  rw [q_for, src]
  simp only [onR]
  refine hand_loop (t := .nm 5) (S := fun z => lwH fl n x2 (some (.tup ts)) (some (.tup us)) z x6 x7 x8 x9 x10 x11 x12 x13 x14) (fun d x => rfl) _ (fun d hd => ?_) x5
  obtain ⟨i, hi, rfl⟩ := mem_ints hd
  obtain ⟨p, hp, a, b⟩ := zip_at l (i := i) (by omega)
  obtain ⟨c1, c2, c3⟩ := c p hp
  have i1 := q_ixT (h := h) a
  have i2 := q_ixT (h := h) b
  simp [i1, i2, c1, c2, c3, onR]
theorem hLoop2_run {fl : D} {n : Nat} {x2 x3 x5 x7 x8 x9 x10 x11 x12 x13 x14 : Option D} {h : Hs} {ts us : List D} (l : ts.length = us.length) (l2 : ts.length ≤ 1000) (c : ∀ p ∈ ts.zip us, ChkC h p.1 p.2) :
    ∃ y5, hLoop2 (lwH fl n x2 x3 (some (.tup us)) x5 (some (.tup ts)) x7 x8 x9 x10 x11 x12 x13 x14) h = .nx (lwH fl n x2 x3 (some (.tup us)) y5 (some (.tup ts)) x7 x8 x9 x10 x11 x12 x13 x14) h := by
  have src : iRangeD (aCons (eCall fLen (aCons (eVar 6) aNil)) aNil) (lwH fl n x2 x3 (some (.tup us)) x5 (some (.tup ts)) x7 x8 x9 x10 x11 x12 x13 x14) h = .ok (Sm.intsFrom 0 ((ts.length : Nat) : Int).toNat, fun (_ : Hs) => True) h := src_intH (by simp) (by omega)
  unfold hLoop2
  rw [q_for, src]
  simp only [onR]
  refine hand_loop (t := .nm 5) (S := fun z => lwH fl n x2 x3 (some (.tup us)) z (some (.tup ts)) x7 x8 x9 x10 x11 x12 x13 x14) (fun d x => rfl) _ (fun d hd => ?_) x5
  obtain ⟨i, hi, rfl⟩ := mem_ints hd
  obtain ⟨p, hp, a, b⟩ := zip_at l (i := i) (by omega)
  obtain ⟨c1, c2, c3⟩ := c p hp
  have i1 := q_ixT (h := h) a
  have i2 := q_ixT (h := h) b
  simp [i1, i2, c1, c2, c3, onR]
end Kl

set_option Elab.async false
set_option linter.all false
set_option maxRecDepth 100000
set_option maxHeartbeats 2000000
set_option autoImplicit false
namespace Kl
open PySem PySem.Spec PyProof.Rows L2 Sm
noncomputable def mThing : SS := (sSet 4 (eTup (aCons (eTrim (eCall fTuple (aCons (eComp (iRangeD (aCons (eVar 3) aNil)) (.nm 5) bYes (eTup (aCons (eOp2 oAdd (eC (.str "d")) (eCall fStrI (aCons (eVar 5) aNil))) (aCons (eTup (aCons (eC (.int 0)) (aCons (eC (.int 1)) (aCons (eVar 5) (aCons (eC (.int 1)) aNil))))) aNil))) [5]) aNil))) (aCons (eOp2 oAdd (eTup (aCons (eC (.str "main")) aNil)) (eTrim (eCall fTuple (aCons (eComp (iRangeD (aCons (eOp2 oSub (eVar 2) (eC (.int 1))) aNil)) (.nm 5) bYes (eOp2 oAdd (eC (.str "w")) (eCall fStrI (aCons (eVar 5) aNil))) [5]) aNil)))) (aCons (eOp2 oMulA (eTup (aCons (eTup aNil) aNil)) (eVar 2)) aNil)))))
noncomputable def mAsk : SS := (sIf (bNot (bVal (eUser 2 m__law_right (aCons (eC (.str "program")) (aCons (eVar 4) aNil))))) (sRet (eC (.bl false))) sNil)
noncomputable def mSrc : IS := (iTupD (eTup (aCons (eTup (aCons (eC (.int 12)) (aCons (eC (.int 40)) aNil))) (aCons (eTup (aCons (eC (.int 13)) (aCons (eC (.int 2)) aNil))) (aCons (eTup (aCons (eC (.int 3)) (aCons (eC (.int 41)) aNil))) (aCons (eTup (aCons (eC (.int 12)) (aCons (eC (.int 41)) aNil))) aNil))))))
noncomputable def mEnd : SS := (sCons (sSet 1 (eTup (aCons (eTup (aCons (eC (.str "return")) aNil)) aNil)))
  (sRet (eAndV (eUser 2 m__law_right (aCons (eC (.str "code")) (aCons (eOp2 oMulA (eTup (aCons (eVar 1) aNil)) (eC (.int 12))) aNil))) (eAndV (eUser 2 m__law_right (aCons (eC (.str "code")) (aCons (eOp2 oMulA (eTup (aCons (eVar 1) aNil)) (eC (.int 13))) aNil))) (eUser 2 m__law_right (aCons (eC (.str "code")) (aCons (eOp2 oMulA (eTup (aCons (eOp2 oMulA (eVar 1) (eC (.int 40))) aNil)) (eC (.int 2))) aNil)))))))
theorem many_cut : b__law_many = sCons (sFor mSrc (.tp [2, 3]) (sCons mThing mAsk)) mEnd := rfl
def ti (i : Int) : Str := toString i
def dName (d : D) : D := match d with
  | .int i => .str (("d" : Str) ++ ti i)
  | _ => .non
def wName (d : D) : D := match d with
  | .int i => .str (("w" : Str) ++ ti i)
  | _ => .non
def dDeed (d : D) : D := .tup [dName d, .tup [.int 0, .int 1, d, .int 1]]
theorem dn_ok : ∀ i : Fin 50, okS (("d" : Str) ++ ti ((i : Nat) : Int)) = true := by decide +kernel
theorem wn_ok : ∀ i : Fin 50, okS (("w" : Str) ++ ti ((i : Nat) : Int)) = true := by decide +kernel
theorem ts_len : ∀ i : Fin 50, (ti ((i : Nat) : Int)).length ≤ 10 := by decide +kernel
def mTh (w d : Nat) : D := .tup [.tup ((Sm.intsFrom 0 d).map dDeed), .tup (.str "main" :: (Sm.intsFrom 0 (w - 1)).map wName), .tup (List.replicate w [.tup []]).flatten]
theorem low_const {n : Nat} : ∀ {ds : List D}, (∀ d ∈ ds, d.low n = true) → lowL n ds = true
  | [], _ => rfl
  | d :: ds, h => by simp only [lowL, Bool.and_eq_true]; exact ⟨h d List.mem_cons_self, low_const fun e he => h e (List.mem_cons_of_mem _ he)⟩
theorem add_d {h : Hs} {a : Str} {i : Nat} (ha : a.length ≤ 10) (hi : i < 50) : oAdd (.str a) (.str (ti (i : Int))) h = .ok (.str (a ++ ti (i : Int))) h := by
  have := ts_len ⟨i, hi⟩
  simp only [oAdd]
  rw [if_pos (by simp at this ⊢; omega)]
theorem str_i {h : Hs} {i : Nat} (hi : i < 50) : fStrI [.int (i : Int)] h = .ok (.str (ti (i : Int))) h := by
  have := log_small (i := (i : Int)) (m := 50) (by omega) (by omega)
  simp only [fStrI]
  rw [if_pos (by omega)]
  rfl
theorem mThing_run {n : Nat} {w d : Nat} {x4 : Option D} {h : Hs} (hw : w < 50) (hw1 : 1 ≤ w) (hd : d < 50) : mThing [some (.ref n), none, some (.int w), some (.int d), x4, none] h = .nx [some (.ref n), none, some (.int w), some (.int d), some (mTh w d), none] h := by
  let σ : Lo := [some (.ref n), none, some (.int w), some (.int d), x4, none]
  have c1 : eTrim (eCall fTuple (aCons (eComp (iRangeD (aCons (eVar 3) aNil)) (.nm 5) bYes (eTup (aCons (eOp2 oAdd (eC (.str "d")) (eCall fStrI (aCons (eVar 5) aNil))) (aCons (eTup (aCons (eC (.int 0)) (aCons (eC (.int 1)) (aCons (eVar 5) (aCons (eC (.int 1)) aNil))))) aNil))) [5]) aNil)) σ h = .ok (.tup ((Sm.intsFrom 0 d).map dDeed)) h := by
    refine tup_comp dDeed (G := fun _ => True) (ds := Sm.intsFrom 0 d) ?_ (fun _ => trivial) (by simp [Sm.intsFrom]; omega) ?_ ?_
    · have := src_intH (a := aCons (eVar 3) aNil) (σ := σ) (h := h) (h1 := h) (j := (d : Int)) (by simp [σ]) ⟨by omega, by omega⟩
      rwa [Int.toNat_natCast] at this
    · refine low_const fun y hy => ?_
      obtain ⟨z, hz, rfl⟩ := List.mem_map.mp hy
      obtain ⟨i, hi, rfl⟩ := mem_ints hz
      rfl
    · intro z hz l
      obtain ⟨i, hi, rfl⟩ := mem_ints hz
      have a1 := str_i (h := h ++ [.lst l]) (i := i) (by omega)
      have a2 := add_d (h := h ++ [.lst l]) (a := "d") (i := i) (by decide +kernel) (by omega)
      exact ⟨_, rfl, by simp [σ, wipeD, a1, a2, dDeed, dName]⟩
  have c2 : eTrim (eCall fTuple (aCons (eComp (iRangeD (aCons (eOp2 oSub (eVar 2) (eC (.int 1))) aNil)) (.nm 5) bYes (eOp2 oAdd (eC (.str "w")) (eCall fStrI (aCons (eVar 5) aNil))) [5]) aNil)) σ h = .ok (.tup ((Sm.intsFrom 0 (w - 1)).map wName)) h := by
    refine tup_comp wName (G := fun _ => True) (ds := Sm.intsFrom 0 (w - 1)) ?_ (fun _ => trivial) (by simp [Sm.intsFrom]; omega) ?_ ?_
    · have := src_intH (a := aCons (eOp2 oSub (eVar 2) (eC (.int 1))) aNil) (σ := σ) (h := h) (h1 := h) (j := ((w - 1 : Nat) : Int)) (by simp [σ]; omega) ⟨by omega, by omega⟩
      rwa [Int.toNat_natCast] at this
    · refine low_const fun y hy => ?_
      obtain ⟨z, hz, rfl⟩ := List.mem_map.mp hy
      obtain ⟨i, hi, rfl⟩ := mem_ints hz
      rfl
    · intro z hz l
      obtain ⟨i, hi, rfl⟩ := mem_ints hz
      have a1 := str_i (h := h ++ [.lst l]) (i := i) (by omega)
      have a2 := add_d (h := h ++ [.lst l]) (a := "w") (i := i) (by decide +kernel) (by omega)
      exact ⟨_, rfl, by simp [σ, wipeD, a1, a2, wName]⟩
  have c3 : oMulA (.tup [.tup []]) (.int w) h = .ok (.tup (List.replicate w [.tup []]).flatten) h := by
    simp only [oMulA]
    rw [if_pos (by simp; omega)]
    simp
  have c4 : oAdd (.tup [.str "main"]) (.tup ((Sm.intsFrom 0 (w - 1)).map wName)) h = .ok (.tup (.str "main" :: (Sm.intsFrom 0 (w - 1)).map wName)) h := by
    simp only [oAdd]
    rw [if_pos (by simp [Sm.intsFrom]; omega)]
    rfl
  unfold mThing
  rw [q_set, q_tup, q_cons, c1]
  simp only [Res.bind_ok]
  have t1 : eTup (aCons (eC (D.str "main")) aNil) σ h = .ok (.tup [.str "main"]) h := by simp
  rw [q_cons, q_op2, t1]
  simp only [Res.bind_ok]
  rw [c2]
  simp [σ, c3, c4, onR, mTh]
theorem nodesL_le {B : Nat} : ∀ {l : List D}, (∀ x ∈ l, nodes x ≤ B) → nodesL l ≤ B * l.length
  | [], _ => by simp [nodesL]
  | x :: l, q => by
    have h1 := q x List.mem_cons_self
    have h2 := nodesL_le fun y hy => q y (List.mem_cons_of_mem x hy)
    simp only [nodesL, List.length_cons, Nat.mul_succ]
    omega
theorem mem_rep {w : Nat} {x y : D} (h : x ∈ (List.replicate w [y]).flatten) : x = y := by
  obtain ⟨l, hl, hx⟩ := List.mem_flatten.mp h
  rw [(List.mem_replicate.mp hl).2] at hx
  exact List.mem_singleton.mp hx
theorem len_rep {w : Nat} {y : D} : ((List.replicate w [y]).flatten).length = w := by simp
theorem mTh_ok {h : Hs} {w d : Nat} (hw : w < 50) (hd : d < 50) : PgOk h (mTh w d) := by
  have d1 : ∀ x ∈ (Sm.intsFrom 0 d).map dDeed, Wf h x ∧ nodes x ≤ 7 ∧ dep x ≤ 2 := by
    intro x hx
    obtain ⟨z, hz, rfl⟩ := List.mem_map.mp hx
    obtain ⟨i, hi, rfl⟩ := mem_ints hz
    have := dn_ok ⟨i, by omega⟩
    simp at this
    simp [dDeed, dName, WfN, WfL, nodes, nodesL, dep, depL, this]
  have d2 : ∀ x ∈ (D.str "main" :: (Sm.intsFrom 0 (w - 1)).map wName), Wf h x ∧ nodes x ≤ 1 ∧ dep x ≤ 0 := by
    intro x hx
    rcases List.mem_cons.mp hx with rfl | hx
    · simp [WfN, nodes, dep, okS_m]
    · obtain ⟨z, hz, rfl⟩ := List.mem_map.mp hx
      obtain ⟨i, hi, rfl⟩ := mem_ints hz
      have := wn_ok ⟨i, by omega⟩
      simp at this
      simp [wName, WfN, nodes, dep, this]
  have d3 : ∀ x ∈ (List.replicate w [D.tup []]).flatten, Wf h x ∧ nodes x ≤ 1 ∧ dep x ≤ 1 := by
    intro x hx
    rw [mem_rep hx]
    simp [WfN, WfL, nodes, nodesL, dep, depL]
  have n1 := nodesL_le fun x hx => (d1 x hx).2.1
  have n2 := nodesL_le fun x hx => (d2 x hx).2.1
  have n3 := nodesL_le fun x hx => (d3 x hx).2.1
  have p1 := depL_le fun x hx => (d1 x hx).2.2
  have p2 := depL_le fun x hx => (d2 x hx).2.2
  have p3 := depL_le fun x hx => (d3 x hx).2.2
  have w1 := wfL_iff.mpr fun x hx => (d1 x hx).1
  have w2 := wfL_iff.mpr fun x hx => (d2 x hx).1
  have w3 := wfL_iff.mpr fun x hx => (d3 x hx).1
  have l1 : ((Sm.intsFrom 0 d).map dDeed).length = d := by simp [Sm.intsFrom]
  have l2 : (D.str "main" :: (Sm.intsFrom 0 (w - 1)).map wName).length = w - 1 + 1 := by simp [Sm.intsFrom]
  have l3 : ((List.replicate w [D.tup []]).flatten).length = w := len_rep
  unfold mTh
  generalize (Sm.intsFrom 0 d).map dDeed = A at *
  generalize (D.str "main" :: (Sm.intsFrom 0 (w - 1)).map wName) = B at *
  generalize (List.replicate w [D.tup []]).flatten = C at *
  have nn : nodes (.tup [.tup A, .tup B, .tup C]) ≤ 7600 := by
    simp only [nodes, nodesL]
    omega
  refine .of ?_ (by omega) (by simp only [dep, depL]; omega) (grN_all nn)
  simp only [Wf, WfN, WfL]
  exact ⟨by simp, ⟨by omega, w1⟩, ⟨by omega, w2⟩, ⟨by omega, w3⟩, trivial⟩
theorem mBody_run {n : Nat} {w d : Nat} {x4 : Option D} {h : Hs} (hw : w < 50) (hw1 : 1 ≤ w) (hd : d < 50) : (sCons mThing mAsk) [some (.ref n), none, some (.int w), some (.int d), x4, none] h = .nx [some (.ref n), none, some (.int w), some (.int d), some (mTh w d), none] h := by
  have r := right_p (mTh_ok (h := h) hw hd)
  rw [q_scons, mThing_run hw hw1 hd]
  simp only [Out.next]
  simp [mAsk, r, onR]
theorem rep_wf {h : Hs} {w : Nat} {y : D} (hw : w ≤ 1000) (wy : Wf h y) : Wf h (.tup (List.replicate w [y]).flatten) := by
  simp only [Wf, WfN]
  exact ⟨by rw [len_rep]; exact hw, wfL_iff.mpr fun x hx => by rw [mem_rep hx]; exact wy⟩
theorem v_law_many {n : Nat} {h : Hs} : m__law_many [.ref n] h = .ok (.bl true) h := by
  apply fn_val
  rw [many_cut]
  unfold bodyF
  rw [show (([D.ref n].map some ++ List.replicate (N__law_many.length - [D.ref n].length) none) : Lo) = [some (.ref n), none, none, none, none, none] from rfl]
  have src : mSrc [some (.ref n), none, none, none, none, none] h = .ok ([.tup [.int 12, .int 40], .tup [.int 13, .int 2], .tup [.int 3, .int 41], .tup [.int 12, .int 41]], fun (_ : Hs) => True) h := by
    simp [mSrc]
  have b1 := mBody_run (n := n) (w := 12) (d := 40) (x4 := none) (h := h) (by decide) (by decide) (by decide)
  have b2 := mBody_run (n := n) (w := 13) (d := 2) (x4 := some (mTh 12 40)) (h := h) (by decide) (by decide) (by decide)
  have b3 := mBody_run (n := n) (w := 3) (d := 41) (x4 := some (mTh 13 2)) (h := h) (by decide) (by decide) (by decide)
  have b4 := mBody_run (n := n) (w := 12) (d := 41) (x4 := some (mTh 3 41)) (h := h) (by decide) (by decide) (by decide)
  have loop : sFor mSrc (.tp [2, 3]) (sCons mThing mAsk) [some (.ref n), none, none, none, none, none] h = .nx [some (.ref n), none, some (.int 12), some (.int 41), some (mTh 12 41), none] h := by
    rw [q_for, src]
    simp only [onR]
    unfold forG
    simp only [if_true, q_tp, q_pa, q_pa0]
    rw [show (([some (.ref n), none, none, none, none, none] : Lo).set 2 (some (.int 12))).set 3 (some (.int 40)) = [some (.ref n), none, some (.int ((12 : Nat) : Int)), some (.int ((40 : Nat) : Int)), none, none] from rfl, b1]
    simp only [Out.turn]
    unfold forG
    simp only [if_true, q_tp, q_pa, q_pa0]
    rw [show (([some (.ref n), none, some (.int ((12 : Nat) : Int)), some (.int ((40 : Nat) : Int)), some (mTh 12 40), none] : Lo).set 2 (some (.int 13))).set 3 (some (.int 2)) = [some (.ref n), none, some (.int ((13 : Nat) : Int)), some (.int ((2 : Nat) : Int)), some (mTh 12 40), none] from rfl, b2]
    simp only [Out.turn]
    unfold forG
    simp only [if_true, q_tp, q_pa, q_pa0]
    rw [show (([some (.ref n), none, some (.int ((13 : Nat) : Int)), some (.int ((2 : Nat) : Int)), some (mTh 13 2), none] : Lo).set 2 (some (.int 3))).set 3 (some (.int 41)) = [some (.ref n), none, some (.int ((3 : Nat) : Int)), some (.int ((41 : Nat) : Int)), some (mTh 13 2), none] from rfl, b3]
    simp only [Out.turn]
    unfold forG
    simp only [if_true, q_tp, q_pa, q_pa0]
    rw [show (([some (.ref n), none, some (.int ((3 : Nat) : Int)), some (.int ((41 : Nat) : Int)), some (mTh 3 41), none] : Lo).set 2 (some (.int 12))).set 3 (some (.int 41)) = [some (.ref n), none, some (.int ((12 : Nat) : Int)), some (.int ((41 : Nat) : Int)), some (mTh 3 41), none] from rfl, b4]
    simp only [Out.turn]
    unfold forG
    simp
  rw [q_scons, loop]
  simp only [Out.next]
  let row : D := .tup [.tup [.str "return"]]
  have wr0 : Wf h (.tup [.str "return"]) := by simp [WfN, WfL, okS_return]
  have wr : Wf h row := by simp [row, WfN, WfL, okS_return]
  have m12 : oMulA (.tup [row]) (.int 12) h = .ok (.tup (List.replicate 12 [row]).flatten) h := by
    simp only [oMulA]
    rw [if_pos (by simp)]
    rfl
  have m13 : oMulA (.tup [row]) (.int 13) h = .ok (.tup (List.replicate 13 [row]).flatten) h := by
    simp only [oMulA]
    rw [if_pos (by simp)]
    rfl
  have m40 : oMulA row (.int 40) h = .ok (.tup (List.replicate 40 [.tup [.str "return"]]).flatten) h := by
    simp only [oMulA, row]
    rw [if_pos (by simp)]
    rfl
  have w40 : Wf h (.tup (List.replicate 40 [.tup [.str "return"]]).flatten) := rep_wf (by decide) wr0
  generalize D.tup (List.replicate 40 [.tup [.str "return"]]).flatten = r40 at m40 w40
  have m2 : oMulA (.tup [r40]) (.int 2) h = .ok (.tup (List.replicate 2 [r40]).flatten) h := by
    simp only [oMulA]
    rw [if_pos (by simp)]
    rfl
  have c1 := right_c (rep_wf (w := 12) (by decide) wr)
  have c2 := right_c (rep_wf (w := 13) (by decide) wr)
  have c3 := right_c (rep_wf (w := 2) (by decide) w40)
  generalize D.tup (List.replicate 12 [row]).flatten = z1 at m12 c1
  generalize D.tup (List.replicate 13 [row]).flatten = z2 at m13 c2
  generalize D.tup (List.replicate 2 [r40]).flatten = z3 at m2 c3
  unfold mEnd
  have s1 : (sSet 1 (eTup (aCons (eTup (aCons (eC (.str "return")) aNil)) aNil))) [some (.ref n), none, some (.int 12), some (.int 41), some (mTh 12 41), none] h = .nx [some (.ref n), some row, some (.int 12), some (.int 41), some (mTh 12 41), none] h := by simp [onR, row]
  rw [q_scons, s1]
  simp only [Out.next]
  generalize row = rw_ at m12 m13 m40
  simp [m12, m13, m40, m2, c1, c2, c3, onR]
theorem law_true (ns : List Int) : ∃ h, m_law [.fl (ns.map .int)] [] = .ok (.bl true) h := by
  obtain ⟨h0, n, e, q0, f0⟩ := v_forge ns
  generalize D.fl (ns.map .int) = fl at q0
  obtain ⟨y2, y10, y11, y12, y13, y14, h1, q1, f1, u1⟩ := laps_run (fl := fl) (k := 0) (x2 := none) (h := h0) (f0.less (by decide))
  let h2 : Hs := h1 ++ [.lst thingsL]
  have c1 : ∀ p ∈ (things h1.length).zip dues1, ChkP h2 p.1 p.2 := things_ok (xs := thingsL) (by simp [h2])
  let h3 : Hs := h2 ++ [.lst codesL]
  have c2 : ∀ p ∈ (codes h2.length).zip dues2, ChkC h3 p.1 p.2 := codes_ok (xs := codesL) (by simp [h3])
  have lt : (things h1.length).length = dues1.length := rfl
  have lt2 : (things h1.length).length ≤ 1000 := by rw [lt]; decide
  have lc : (codes h2.length).length = dues2.length := rfl
  have lc2 : (codes h2.length).length ≤ 1000 := by rw [lc]; decide
  have r1 := hThings_run (fl := fl) (n := n) (x2 := y2) (x3 := none) (x4 := none) (x5 := none) (x6 := none) (x10 := y10) (x11 := y11) (x12 := y12) (x13 := y13) (x14 := y14) (h := h1)
  generalize things h1.length = ts at c1 lt lt2 r1
  have r2 := hDues_run (fl := fl) (n := n) (x2 := y2) (x3 := some (.tup ts)) (x4 := none) (x5 := none) (x6 := none) (x7 := some hForm) (x8 := some hDeeds) (x9 := some hNames) (x10 := y10) (x11 := y11) (x12 := y12) (x13 := y13) (x14 := y14) (h := h2)
  generalize dues1 = us at c1 lt r2
  obtain ⟨y5, r3⟩ := hLoop1_run (fl := fl) (n := n) (x2 := y2) (x5 := none) (x6 := none) (x7 := some hForm) (x8 := some hDeeds) (x9 := some hNames) (x10 := y10) (x11 := y11) (x12 := y12) (x13 := y13) (x14 := y14) lt lt2 c1
  have r4 := hCodes_run (fl := fl) (n := n) (x2 := y2) (x3 := some (.tup ts)) (x4 := some (.tup us)) (x5 := y5) (x6 := none) (x8 := some hDeeds) (x9 := some hNames) (x10 := y10) (x11 := y11) (x12 := y12) (x13 := y13) (x14 := y14) (h := h2)
  generalize codes h2.length = cs at c2 lc lc2 r4
  have r5 := hDues2_run (fl := fl) (n := n) (x2 := y2) (x3 := some (.tup ts)) (x4 := some (.tup us)) (x5 := y5) (x6 := some (.tup cs)) (x7 := some hForm) (x8 := some hDeeds) (x9 := some hNames) (x10 := y10) (x11 := y11) (x12 := y12) (x13 := y13) (x14 := y14) (h := h3)
  generalize dues2 = vs at c2 lc r5
  obtain ⟨z5, r6⟩ := hLoop2_run (fl := fl) (n := n) (x2 := y2) (x3 := some (.tup ts)) (x5 := y5) (x7 := some hForm) (x8 := some hDeeds) (x9 := some hNames) (x10 := y10) (x11 := y11) (x12 := y12) (x13 := y13) (x14 := y14) lc lc2 c2
  have body : bodyF N_law.length b_law [fl] [] = .ok (.bl true) h3 := by
    rw [law_cut]
    unfold bodyF
    rw [show (([fl].map some ++ List.replicate (N_law.length - [fl].length) none) : Lo) = [some fl, none, none, none, none, none, none, none, none, none, none, none, none, none, none] from rfl]
    have r0 : (sSet 1 (eUser 1 m__law_forge (aCons (eVar 0) aNil))) [some fl, none, none, none, none, none, none, none, none, none, none, none, none, none, none] [] = .nx (lwS fl n none none none none none none) h0 := by
      simp [q0, onR]
    rw [q_scons, r0]
    simp only [Out.next]
    rw [q_scons, q1]
    simp only [Out.next]
    rw [q_scons, hT_run]
    simp only [Out.next]
    rw [q_scons, r1]
    simp only [Out.next]
    rw [q_scons, r2]
    simp only [Out.next]
    rw [q_scons, r3]
    simp only [Out.next]
    rw [q_scons, r4]
    simp only [Out.next]
    rw [q_scons, r5]
    simp only [Out.next]
    rw [q_scons, r6]
    simp only [Out.next]
    have := v_law_many (n := n) (h := h3)
    simp [hEnd, this, onR]
  unfold m_law fnF
  rw [body]
  obtain ⟨h4, g, _⟩ := gc_up (S := fun _ => True) (h := []) (h' := h3) (d := .bl true) ⟨by simp, by simp, by simp⟩
  exact ⟨h4, g⟩
end Kl

set_option Elab.async false
set_option linter.all false
set_option maxRecDepth 100000
set_option maxHeartbeats 0
set_option autoImplicit false
namespace Kl
open PySem PySem.Spec PyProof.Rows L2 Sm
def hd0 : He.DefD := ⟨("BadForm", some "__init__"), "__init__", "BadForm.__init__", defArgs (inClass (topS 6) 0), defBody (inClass (topS 6) 0), defScope (inClass (topS 6) 0), [], []⟩
def hd1 : He.DefD := ⟨("BadProgram", some "__init__"), "__init__", "BadProgram.__init__", defArgs (inClass (topS 7) 0), defBody (inClass (topS 7) 0), defScope (inClass (topS 7) 0), [], []⟩
def hd2 : He.DefD := ⟨("BadCode", some "__init__"), "__init__", "BadCode.__init__", defArgs (inClass (topS 8) 0), defBody (inClass (topS 8) 0), defScope (inClass (topS 8) 0), [], []⟩
def hd3 : He.DefD := ⟨("is_integer", none), "is_integer", "is_integer", defArgs (topS 12), defBody (topS 12), defScope (topS 12), [], []⟩
def hd4 : He.DefD := ⟨("is_number", none), "is_number", "is_number", defArgs (topS 13), defBody (topS 13), defScope (topS 13), [], []⟩
def hd5 : He.DefD := ⟨("integer_within", none), "integer_within", "integer_within", defArgs (topS 14), defBody (topS 14), defScope (topS 14), [], []⟩
def hd6 : He.DefD := ⟨("is_tuple", none), "is_tuple", "is_tuple", defArgs (topS 15), defBody (topS 15), defScope (topS 15), [], []⟩
def hd7 : He.DefD := ⟨("is_text", none), "is_text", "is_text", defArgs (topS 16), defBody (topS 16), defScope (topS 16), [], []⟩
def hd8 : He.DefD := ⟨("is_word", none), "is_word", "is_word", defArgs (topS 17), defBody (topS 17), defScope (topS 17), [], []⟩
def hd9 : He.DefD := ⟨("is_lot", none), "is_lot", "is_lot", defArgs (topS 19), defBody (topS 19), defScope (topS 19), [], []⟩
def hd10 : He.DefD := ⟨("check_form", none), "check_form", "check_form", defArgs (topS 21), defBody (topS 21), defScope (topS 21), [], []⟩
def hd11 : He.DefD := ⟨("is_form", none), "is_form", "is_form", defArgs (topS 22), defBody (topS 22), defScope (topS 22), [], []⟩
def hd12 : He.DefD := ⟨("are_words", none), "are_words", "are_words", defArgs (topS 24), defBody (topS 24), defScope (topS 24), [], []⟩
def hd13 : He.DefD := ⟨("are_deeds", none), "are_deeds", "are_deeds", defArgs (topS 25), defBody (topS 25), defScope (topS 25), [], []⟩
def hd14 : He.DefD := ⟨("is_deed_form", none), "is_deed_form", "is_deed_form", defArgs (topS 26), defBody (topS 26), defScope (topS 26), [], []⟩
def hd15 : He.DefD := ⟨("is_statement", none), "is_statement", "is_statement", defArgs (topS 27), defBody (topS 27), defScope (topS 27), [], []⟩
def hd16 : He.DefD := ⟨("is_body", none), "is_body", "is_body", defArgs (topS 28), defBody (topS 28), defScope (topS 28), [], []⟩
def hd17 : He.DefD := ⟨("are_bodies", none), "are_bodies", "are_bodies", defArgs (topS 29), defBody (topS 29), defScope (topS 29), [], []⟩
def hd18 : He.DefD := ⟨("names_word", none), "names_word", "names_word", defArgs (topS 30), defBody (topS 30), defScope (topS 30), [], []⟩
def hd19 : He.DefD := ⟨("count_in", none), "count_in", "count_in", defArgs (topS 31), defBody (topS 31), defScope (topS 31), [], []⟩
def hd20 : He.DefD := ⟨("check_program", none), "check_program", "check_program", defArgs (topS 32), defBody (topS 32), defScope (topS 32), [], []⟩
def hd21 : He.DefD := ⟨("are_nexts", none), "are_nexts", "are_nexts", defArgs (topS 34), defBody (topS 34), defScope (topS 34), [], []⟩
def hd22 : He.DefD := ⟨("is_row", none), "is_row", "is_row", defArgs (topS 35), defBody (topS 35), defScope (topS 35), [], []⟩
def hd23 : He.DefD := ⟨("nexts_of", none), "nexts_of", "nexts_of", defArgs (topS 36), defBody (topS 36), defScope (topS 36), [], []⟩
def hd24 : He.DefD := ⟨("rows_word", none), "rows_word", "rows_word", defArgs (topS 37), defBody (topS 37), defScope (topS 37), [], []⟩
def hd25 : He.DefD := ⟨("check_code", none), "check_code", "check_code", defArgs (topS 38), defBody (topS 38), defScope (topS 38), [], []⟩
def hd26 : He.DefD := ⟨("_law_forge", none), "_law_forge", "_law_forge", defArgs (topS 40), defBody (topS 40), defScope (topS 40), [], []⟩
def hd27 : He.DefD := ⟨("_law_blow", none), "_law_blow", "_law_blow", defArgs (topS 41), defBody (topS 41), defScope (topS 41), [], []⟩
def hd28 : He.DefD := ⟨("_law_whole", none), "_law_whole", "_law_whole", defArgs (topS 42), defBody (topS 42), defScope (topS 42), [], []⟩
def hd29 : He.DefD := ⟨("_law_form", none), "_law_form", "_law_form", defArgs (topS 43), defBody (topS 43), defScope (topS 43), [], []⟩
def hd30 : He.DefD := ⟨("_law_body", none), "_law_body", "_law_body", defArgs (topS 44), defBody (topS 44), defScope (topS 44), [], []⟩
def hd31 : He.DefD := ⟨("_law_program", none), "_law_program", "_law_program", defArgs (topS 45), defBody (topS 45), defScope (topS 45), [], []⟩
def hd32 : He.DefD := ⟨("_law_is_word", none), "_law_is_word", "_law_is_word", defArgs (topS 46), defBody (topS 46), defScope (topS 46), [], []⟩
def hd33 : He.DefD := ⟨("_law_is_form", none), "_law_is_form", "_law_is_form", defArgs (topS 47), defBody (topS 47), defScope (topS 47), [], []⟩
def hd34 : He.DefD := ⟨("_law_statements", none), "_law_statements", "_law_statements", defArgs (topS 48), defBody (topS 48), defScope (topS 48), [], []⟩
def hd35 : He.DefD := ⟨("_law_unlike", none), "_law_unlike", "_law_unlike", defArgs (topS 49), defBody (topS 49), defScope (topS 49), [], []⟩
def hd36 : He.DefD := ⟨("_law_program_due", none), "_law_program_due", "_law_program_due", defArgs (topS 50), defBody (topS 50), defScope (topS 50), [], []⟩
def hd37 : He.DefD := ⟨("_law_code", none), "_law_code", "_law_code", defArgs (topS 51), defBody (topS 51), defScope (topS 51), [], []⟩
def hd38 : He.DefD := ⟨("_law_row_word", none), "_law_row_word", "_law_row_word", defArgs (topS 52), defBody (topS 52), defScope (topS 52), [], []⟩
def hd39 : He.DefD := ⟨("_law_code_due", none), "_law_code_due", "_law_code_due", defArgs (topS 53), defBody (topS 53), defScope (topS 53), [], []⟩
def hd40 : He.DefD := ⟨("_law_heard", none), "_law_heard", "_law_heard", defArgs (topS 54), defBody (topS 54), defScope (topS 54), [], []⟩
def hd41 : He.DefD := ⟨("_law_right", none), "_law_right", "_law_right", defArgs (topS 55), defBody (topS 55), defScope (topS 55), [], []⟩
def hd42 : He.DefD := ⟨("_law_bent", none), "_law_bent", "_law_bent", defArgs (topS 56), defBody (topS 56), defScope (topS 56), [], []⟩
def hd43 : He.DefD := ⟨("_law_many", none), "_law_many", "_law_many", defArgs (topS 57), defBody (topS 57), defScope (topS 57), [], []⟩
def hd44 : He.DefD := ⟨("law", none), "law", "law", defArgs (topS 58), defBody (topS 58), defScope (topS 58), [], []⟩
def fnX : List He.DefD := ([hd0, hd1, hd2, hd3, hd4, hd5, hd6, hd7, hd8, hd9, hd10, hd11, hd12, hd13, hd14, hd15, hd16, hd17, hd18, hd19, hd20, hd21, hd22, hd23, hd24, hd25, hd26, hd27, hd28, hd29] : List He.DefD) ++ ([hd30, hd31, hd32, hd33, hd34, hd35, hd36, hd37, hd38, hd39, hd40, hd41, hd42, hd43, hd44] : List He.DefD)
def faX : List He.Fa := ([.free "abs", .free "all", .free "any", .free "bool", .free "enumerate", .free "int", .free "isinstance", .free "len", .free "list", .free "min", .free "range", .free "set", .free "str", .free "sum", .free "tuple", .int "DEEDS_MOST" 40, .int "WORDS_MOST" 12, .int "WORD_MOST" 12, .str "TEN_FIGURES" "0123456789", .str "SMALL_LETTERS" "abcdefghijklmnopqrstuvwxyz", .glo "PassError", .glo "DataError", .glo "BadForm", .glo "BadProgram", .glo "BadCode", .glo "is_integer", .glo "is_number", .glo "integer_within", .glo "is_tuple", .glo "is_text"] : List He.Fa) ++ ([.glo "is_word", .glo "is_lot", .glo "check_form", .glo "is_form", .glo "are_words", .glo "are_deeds", .glo "is_deed_form", .glo "is_statement", .glo "is_body", .glo "are_bodies", .glo "names_word", .glo "count_in", .glo "check_program", .glo "are_nexts", .glo "is_row", .glo "nexts_of", .glo "rows_word", .glo "check_code", .glo "_law_forge", .glo "_law_blow", .glo "_law_whole", .glo "_law_form", .glo "_law_body", .glo "_law_program", .glo "_law_is_word", .glo "_law_is_form", .glo "_law_statements", .glo "_law_unlike", .glo "_law_program_due", .glo "_law_code"] : List He.Fa) ++ ([.glo "_law_row_word", .glo "_law_code_due", .glo "_law_heard", .glo "_law_right", .glo "_law_bent", .glo "_law_many", .glo "law"] : List He.Fa)
def fxX : List Fx := ([.xf "BadForm", .ec "BadForm", .no "BadForm" "at", .oex "BadForm", .ini "BadForm", .xf "BadProgram", .ec "BadProgram", .no "BadProgram" "at", .no "BadProgram" "word", .oex "BadProgram", .ini "BadProgram", .xf "BadCode", .ec "BadCode", .no "BadCode" "at", .no "BadCode" "word", .oex "BadCode", .ini "BadCode", .ex "BadCode" "BadCode" true, .ex "BadCode" "BadForm" false, .ex "BadCode" "BadProgram" false, .ex "BadForm" "BadCode" false, .ex "BadForm" "BadForm" true, .ex "BadForm" "BadProgram" false, .ex "BadProgram" "BadCode" false, .ex "BadProgram" "BadForm" false, .ex "BadProgram" "BadProgram" true, .ki "BadCode" "BadProgram" false, .ki "BadCode" "DataError" true, .ki "BadCode" "PassError" true, .ki "BadProgram" "BadProgram" true] : List Fx) ++ ([.ki "BadProgram" "DataError" true, .ki "BadProgram" "PassError" true] : List Fx)
abbrev rowX : PySem.W.OpenRow := PySem.W.OpenLaw.row PySem.Challenge.rw_whichpass_k93_whole_spoilt_programs_code
abbrev hkX : PySem.W.Hook := hookX 5 faX fxX fnX
def obsX (s : PySem.W.SharedT) : He.AlD := obXG 5 faX fxX fnX (HandSHeadRun.getT s)
theorem obsX_eq (s : PySem.W.SharedT) : obsX s = hkX.obs s.abs := obXG_eq (HandSHeadRun.getT_eq s)
def looseX : List Str := (["DEEDS_MOST", "WORDS_MOST", "WORD_MOST", "PassError", "DataError", "BadForm", "BadProgram", "BadCode", "TEN_FIGURES", "SMALL_LETTERS", "is_integer", "is_number", "integer_within", "is_tuple", "is_text", "is_word", "is_lot", "check_form", "is_form", "are_words", "are_deeds", "is_deed_form", "is_statement", "is_body", "are_bodies", "names_word", "count_in", "check_program", "are_nexts", "is_row"] : List Str) ++ (["nexts_of", "rows_word", "check_code", "_law_forge", "_law_blow", "_law_whole", "_law_form", "_law_body", "_law_program", "_law_is_word", "_law_is_form", "_law_statements", "_law_unlike", "_law_program_due", "_law_code", "_law_row_word", "_law_code_due", "_law_heard", "_law_right", "_law_bent", "_law_many"] : List Str)
theorem runX (w : World) : HandSHeadRun.RunEq rowX (PySem.W.view rowX.prog [58]) hkX obsX 20000 looseX w := by
  intro os
  kernel_rfl
section
variable {P : Program} {w : World} {K : PySem.W.Frag} {mg : Str → Option Value} {base : Heap}
theorem gf_of (X : K.In base) (G : base.Ns mainGlobals mg) (c : SaysX faX fxX fnX K) : Gf K mg where
  f_abs := He.free_ok X G (c.fa_ 0 (f := .free "abs"))
  f_all := He.free_ok X G (c.fa_ 1 (f := .free "all"))
  f_any := He.free_ok X G (c.fa_ 2 (f := .free "any"))
  f_bool := He.free_ok X G (c.fa_ 3 (f := .free "bool"))
  f_enumerate := He.free_ok X G (c.fa_ 4 (f := .free "enumerate"))
  f_int := He.free_ok X G (c.fa_ 5 (f := .free "int"))
  f_isinstance := He.free_ok X G (c.fa_ 6 (f := .free "isinstance"))
  f_len := He.free_ok X G (c.fa_ 7 (f := .free "len"))
  f_list := He.free_ok X G (c.fa_ 8 (f := .free "list"))
  f_min := He.free_ok X G (c.fa_ 9 (f := .free "min"))
  f_range := He.free_ok X G (c.fa_ 10 (f := .free "range"))
  f_set := He.free_ok X G (c.fa_ 11 (f := .free "set"))
  f_str := He.free_ok X G (c.fa_ 12 (f := .free "str"))
  f_sum := He.free_ok X G (c.fa_ 13 (f := .free "sum"))
  f_tuple := He.free_ok X G (c.fa_ 14 (f := .free "tuple"))
  i_DEEDS_MOST := He.int_ok X G (c.fa_ 15 (f := .int "DEEDS_MOST" 40))
  i_WORDS_MOST := He.int_ok X G (c.fa_ 16 (f := .int "WORDS_MOST" 12))
  i_WORD_MOST := He.int_ok X G (c.fa_ 17 (f := .int "WORD_MOST" 12))
  s_TEN_FIGURES := He.str_ok X G (c.fa_ 18 (f := .str "TEN_FIGURES" "0123456789"))
  s_SMALL_LETTERS := He.str_ok X G (c.fa_ 19 (f := .str "SMALL_LETTERS" "abcdefghijklmnopqrstuvwxyz"))
  g_PassError := He.glo_ok X G (c.fa_ 20 (f := .glo "PassError"))
  g_DataError := He.glo_ok X G (c.fa_ 21 (f := .glo "DataError"))
  g_BadForm := He.glo_ok X G (c.fa_ 22 (f := .glo "BadForm"))
  g_BadProgram := He.glo_ok X G (c.fa_ 23 (f := .glo "BadProgram"))
  g_BadCode := He.glo_ok X G (c.fa_ 24 (f := .glo "BadCode"))
  g_is_integer := He.glo_ok X G (c.fa_ 25 (f := .glo "is_integer"))
  g_is_number := He.glo_ok X G (c.fa_ 26 (f := .glo "is_number"))
  g_integer_within := He.glo_ok X G (c.fa_ 27 (f := .glo "integer_within"))
  g_is_tuple := He.glo_ok X G (c.fa_ 28 (f := .glo "is_tuple"))
  g_is_text := He.glo_ok X G (c.fa_ 29 (f := .glo "is_text"))
  g_is_word := He.glo_ok X G (c.fa_ 30 (f := .glo "is_word"))
  g_is_lot := He.glo_ok X G (c.fa_ 31 (f := .glo "is_lot"))
  g_check_form := He.glo_ok X G (c.fa_ 32 (f := .glo "check_form"))
  g_is_form := He.glo_ok X G (c.fa_ 33 (f := .glo "is_form"))
  g_are_words := He.glo_ok X G (c.fa_ 34 (f := .glo "are_words"))
  g_are_deeds := He.glo_ok X G (c.fa_ 35 (f := .glo "are_deeds"))
  g_is_deed_form := He.glo_ok X G (c.fa_ 36 (f := .glo "is_deed_form"))
  g_is_statement := He.glo_ok X G (c.fa_ 37 (f := .glo "is_statement"))
  g_is_body := He.glo_ok X G (c.fa_ 38 (f := .glo "is_body"))
  g_are_bodies := He.glo_ok X G (c.fa_ 39 (f := .glo "are_bodies"))
  g_names_word := He.glo_ok X G (c.fa_ 40 (f := .glo "names_word"))
  g_count_in := He.glo_ok X G (c.fa_ 41 (f := .glo "count_in"))
  g_check_program := He.glo_ok X G (c.fa_ 42 (f := .glo "check_program"))
  g_are_nexts := He.glo_ok X G (c.fa_ 43 (f := .glo "are_nexts"))
  g_is_row := He.glo_ok X G (c.fa_ 44 (f := .glo "is_row"))
  g_nexts_of := He.glo_ok X G (c.fa_ 45 (f := .glo "nexts_of"))
  g_rows_word := He.glo_ok X G (c.fa_ 46 (f := .glo "rows_word"))
  g_check_code := He.glo_ok X G (c.fa_ 47 (f := .glo "check_code"))
  g__law_forge := He.glo_ok X G (c.fa_ 48 (f := .glo "_law_forge"))
  g__law_blow := He.glo_ok X G (c.fa_ 49 (f := .glo "_law_blow"))
  g__law_whole := He.glo_ok X G (c.fa_ 50 (f := .glo "_law_whole"))
  g__law_form := He.glo_ok X G (c.fa_ 51 (f := .glo "_law_form"))
  g__law_body := He.glo_ok X G (c.fa_ 52 (f := .glo "_law_body"))
  g__law_program := He.glo_ok X G (c.fa_ 53 (f := .glo "_law_program"))
  g__law_is_word := He.glo_ok X G (c.fa_ 54 (f := .glo "_law_is_word"))
  g__law_is_form := He.glo_ok X G (c.fa_ 55 (f := .glo "_law_is_form"))
  g__law_statements := He.glo_ok X G (c.fa_ 56 (f := .glo "_law_statements"))
  g__law_unlike := He.glo_ok X G (c.fa_ 57 (f := .glo "_law_unlike"))
  g__law_program_due := He.glo_ok X G (c.fa_ 58 (f := .glo "_law_program_due"))
  g__law_code := He.glo_ok X G (c.fa_ 59 (f := .glo "_law_code"))
  g__law_row_word := He.glo_ok X G (c.fa_ 60 (f := .glo "_law_row_word"))
  g__law_code_due := He.glo_ok X G (c.fa_ 61 (f := .glo "_law_code_due"))
  g__law_heard := He.glo_ok X G (c.fa_ 62 (f := .glo "_law_heard"))
  g__law_right := He.glo_ok X G (c.fa_ 63 (f := .glo "_law_right"))
  g__law_bent := He.glo_ok X G (c.fa_ 64 (f := .glo "_law_bent"))
  g__law_many := He.glo_ok X G (c.fa_ 65 (f := .glo "_law_many"))
  g_law := He.glo_ok X G (c.fa_ 66 (f := .glo "law"))
  x_BadForm := xfB_ok (c.fx_ 0 (f := .xf "BadForm"))
  e_BadForm := ecB_ok (c.fx_ 1 (f := .ec "BadForm"))
  n_BadForm_at := of_decide_eq_true (c.fx_ 2 (f := .no "BadForm" "at"))
  x_BadProgram := xfB_ok (c.fx_ 5 (f := .xf "BadProgram"))
  e_BadProgram := ecB_ok (c.fx_ 6 (f := .ec "BadProgram"))
  n_BadProgram_at := of_decide_eq_true (c.fx_ 7 (f := .no "BadProgram" "at"))
  n_BadProgram_word := of_decide_eq_true (c.fx_ 8 (f := .no "BadProgram" "word"))
  x_BadCode := xfB_ok (c.fx_ 11 (f := .xf "BadCode"))
  e_BadCode := ecB_ok (c.fx_ 12 (f := .ec "BadCode"))
  n_BadCode_at := of_decide_eq_true (c.fx_ 13 (f := .no "BadCode" "at"))
  n_BadCode_word := of_decide_eq_true (c.fx_ 14 (f := .no "BadCode" "word"))
  t_BadCode_BadCode := of_decide_eq_true (c.fx_ 17 (f := .ex "BadCode" "BadCode" true))
  t_BadCode_BadForm := of_decide_eq_true (c.fx_ 18 (f := .ex "BadCode" "BadForm" false))
  t_BadCode_BadProgram := of_decide_eq_true (c.fx_ 19 (f := .ex "BadCode" "BadProgram" false))
  t_BadForm_BadCode := of_decide_eq_true (c.fx_ 20 (f := .ex "BadForm" "BadCode" false))
  t_BadForm_BadForm := of_decide_eq_true (c.fx_ 21 (f := .ex "BadForm" "BadForm" true))
  t_BadForm_BadProgram := of_decide_eq_true (c.fx_ 22 (f := .ex "BadForm" "BadProgram" false))
  t_BadProgram_BadCode := of_decide_eq_true (c.fx_ 23 (f := .ex "BadProgram" "BadCode" false))
  t_BadProgram_BadForm := of_decide_eq_true (c.fx_ 24 (f := .ex "BadProgram" "BadForm" false))
  t_BadProgram_BadProgram := of_decide_eq_true (c.fx_ 25 (f := .ex "BadProgram" "BadProgram" true))
  k_BadCode_BadProgram := of_decide_eq_true (c.fx_ 26 (f := .ki "BadCode" "BadProgram" false))
  k_BadCode_DataError := of_decide_eq_true (c.fx_ 27 (f := .ki "BadCode" "DataError" true))
  k_BadCode_PassError := of_decide_eq_true (c.fx_ 28 (f := .ki "BadCode" "PassError" true))
  k_BadProgram_BadProgram := of_decide_eq_true (c.fx_ 29 (f := .ki "BadProgram" "BadProgram" true))
  k_BadProgram_DataError := of_decide_eq_true (c.fx_ 30 (f := .ki "BadProgram" "DataError" true))
  k_BadProgram_PassError := of_decide_eq_true (c.fx_ 31 (f := .ki "BadProgram" "PassError" true))
  d_is_integer := c.fn_ 3
  d_is_number := c.fn_ 4
  d_integer_within := c.fn_ 5
  d_is_tuple := c.fn_ 6
  d_is_text := c.fn_ 7
  d_is_word := c.fn_ 8
  d_is_lot := c.fn_ 9
  d_check_form := c.fn_ 10
  d_is_form := c.fn_ 11
  d_are_words := c.fn_ 12
  d_are_deeds := c.fn_ 13
  d_is_deed_form := c.fn_ 14
  d_is_statement := c.fn_ 15
  d_is_body := c.fn_ 16
  d_are_bodies := c.fn_ 17
  d_names_word := c.fn_ 18
  d_count_in := c.fn_ 19
  d_check_program := c.fn_ 20
  d_are_nexts := c.fn_ 21
  d_is_row := c.fn_ 22
  d_nexts_of := c.fn_ 23
  d_rows_word := c.fn_ 24
  d_check_code := c.fn_ 25
  d__law_forge := c.fn_ 26
  d__law_blow := c.fn_ 27
  d__law_whole := c.fn_ 28
  d__law_form := c.fn_ 29
  d__law_body := c.fn_ 30
  d__law_program := c.fn_ 31
  d__law_is_word := c.fn_ 32
  d__law_is_form := c.fn_ 33
  d__law_statements := c.fn_ 34
  d__law_unlike := c.fn_ 35
  d__law_program_due := c.fn_ 36
  d__law_code := c.fn_ 37
  d__law_row_word := c.fn_ 38
  d__law_code_due := c.fn_ 39
  d__law_heard := c.fn_ 40
  d__law_right := c.fn_ 41
  d__law_bent := c.fn_ 42
  d__law_many := c.fn_ 43
  d_law := c.fn_ 44
theorem sci_BadForm : FnScope ["self", "at"] ["self", "at"] (defScope (inClass (topS 6) 0)) := ⟨rfl, rfl, rfl, by decide +kernel, rfl, by decide +kernel, by decide +kernel⟩
theorem bii_BadForm : BindOk "__init__" "BadForm.__init__" (defArgs (inClass (topS 6) 0)) (defBody (inClass (topS 6) 0)) (defScope (inClass (topS 6) 0)) ["self", "at"] := fun _ _ _ _ _ _ us hl => match us, hl with | [_, _], _ => rfl
theorem xc_BadForm (G : Gf K mg) (c : SaysX faX fxX fnX K) : Xc P w K mg base "BadForm" ["at"] := by
  obtain ⟨fd, FD⟩ := c.fn_ 0 (d := hd0) rfl
  exact Xc.of (c.fx_ 3 (f := .oex "BadForm")) G.g_BadForm (c.fx_ 4 (f := .ini "BadForm")) (FD.bindsN bii_BadForm) (init1 (N := ["self", "at"]) (q1 := ⟨0, 0, 0, 0⟩) (q2 := ⟨0, 0, 0, 0⟩) (q3 := ⟨0, 0, 0, 0⟩) (q4 := ⟨0, 0, 0, 0⟩) (oexB_ok (c.fx_ 3 (f := .oex "BadForm"))) (G.n_BadForm_at) FD sci_BadForm rfl rfl (by first | exact Or.inl rfl | exact Or.inr (Or.inl rfl)) (by first | exact Or.inl rfl | exact Or.inr (Or.inl rfl)) (by decide +kernel) (by decide +kernel))
theorem sci_BadProgram : FnScope ["self", "at", "word"] ["self", "at", "word"] (defScope (inClass (topS 7) 0)) := ⟨rfl, rfl, rfl, by decide +kernel, rfl, by decide +kernel, by decide +kernel⟩
theorem bii_BadProgram : BindOk "__init__" "BadProgram.__init__" (defArgs (inClass (topS 7) 0)) (defBody (inClass (topS 7) 0)) (defScope (inClass (topS 7) 0)) ["self", "at", "word"] := fun _ _ _ _ _ _ us hl => match us, hl with | [_, _, _], _ => rfl
theorem xc_BadProgram (G : Gf K mg) (c : SaysX faX fxX fnX K) : Xc P w K mg base "BadProgram" ["at", "word"] := by
  obtain ⟨fd, FD⟩ := c.fn_ 1 (d := hd1) rfl
  exact Xc.of (c.fx_ 9 (f := .oex "BadProgram")) G.g_BadProgram (c.fx_ 10 (f := .ini "BadProgram")) (FD.bindsN bii_BadProgram) (init2 (N := ["self", "at", "word"]) (oexB_ok (c.fx_ 9 (f := .oex "BadProgram"))) (G.n_BadProgram_at) (G.n_BadProgram_word) FD sci_BadProgram rfl rfl rfl (by first | exact Or.inl rfl | exact Or.inr (Or.inl rfl)) (by first | exact Or.inl rfl | exact Or.inr (Or.inl rfl)) (by first | exact Or.inl rfl | exact Or.inr (Or.inl rfl)) (by decide +kernel) (by decide +kernel) (by decide +kernel) (by decide +kernel))
theorem sci_BadCode : FnScope ["self", "at", "word"] ["self", "at", "word"] (defScope (inClass (topS 8) 0)) := ⟨rfl, rfl, rfl, by decide +kernel, rfl, by decide +kernel, by decide +kernel⟩
theorem bii_BadCode : BindOk "__init__" "BadCode.__init__" (defArgs (inClass (topS 8) 0)) (defBody (inClass (topS 8) 0)) (defScope (inClass (topS 8) 0)) ["self", "at", "word"] := fun _ _ _ _ _ _ us hl => match us, hl with | [_, _, _], _ => rfl
theorem xc_BadCode (G : Gf K mg) (c : SaysX faX fxX fnX K) : Xc P w K mg base "BadCode" ["at", "word"] := by
  obtain ⟨fd, FD⟩ := c.fn_ 2 (d := hd2) rfl
  exact Xc.of (c.fx_ 15 (f := .oex "BadCode")) G.g_BadCode (c.fx_ 16 (f := .ini "BadCode")) (FD.bindsN bii_BadCode) (init2 (N := ["self", "at", "word"]) (oexB_ok (c.fx_ 15 (f := .oex "BadCode"))) (G.n_BadCode_at) (G.n_BadCode_word) FD sci_BadCode rfl rfl rfl (by first | exact Or.inl rfl | exact Or.inr (Or.inl rfl)) (by first | exact Or.inl rfl | exact Or.inr (Or.inl rfl)) (by first | exact Or.inl rfl | exact Or.inr (Or.inl rfl)) (by decide +kernel) (by decide +kernel) (by decide +kernel) (by decide +kernel))
theorem ok_lawF (G : Gf K mg) (f__law_bent : Fn P w K mg base 2 "_law_bent" 2 m__law_bent) (f__law_code : Fn P w K mg base 3 "_law_code" 1 m__law_code) (f__law_code_due : Fn P w K mg base 2 "_law_code_due" 1 m__law_code_due) (f__law_forge : Fn P w K mg base 1 "_law_forge" 1 m__law_forge) (f__law_heard : Fn P w K mg base 44 "_law_heard" 2 m__law_heard) (f__law_many : Fn P w K mg base 46 "_law_many" 1 m__law_many) (f__law_program : Fn P w K mg base 42 "_law_program" 1 m__law_program) (f__law_program_due : Fn P w K mg base 3 "_law_program_due" 1 m__law_program_due) (f__law_right : Fn P w K mg base 45 "_law_right" 2 m__law_right) {fd : FuncData} (FD : FunD K "law" "law" (defArgs (topS 58)) (defBody (topS 58)) (defScope (topS 58)) [] [] (He.ga K "law") fd) : FnOk P w K mg base (L2.CX P w) 47 (He.ga K "law") fd ["script"] (spOf K 1 m_law) := Sm.fn_ok FD sc_law fun cdv A outer s0 H E hr => by
  refine sn_cons ?_ ?_
  · skip
    exact s1_set (i := 1) sc_law.nd rfl (by first | exact Or.inl rfl | exact Or.inr rfl) (se_user f__law_forge (hr.mono (by decide)) rfl tk_cx (sa_cons (se_var 0) sa_nil))
  refine sn_cons ?_ ?_
  · skip
    refine s1_for po_cx rfl (si_range1 rfl G.f_range (sa_cons se_int sa_nil) al_one) rfl (sg_name sc_law.nd (i := 2) rfl (by first | exact Or.inl rfl | exact Or.inr rfl)) ?_
    refine sn_one ?_
    refine s1_for po_cx rfl (si_tup rfl (se_tup (sa_cons (se_tup (sa_cons se_str (sa_cons (se_user f__law_program (hr.mono (by decide)) rfl tk_cx (sa_cons (se_var 1) sa_nil)) sa_nil))) (sa_cons (se_tup (sa_cons se_str (sa_cons (se_user f__law_code (hr.mono (by decide)) rfl tk_cx (sa_cons (se_var 1) sa_nil)) sa_nil))) sa_nil)))) rfl (sg_tup rfl (sgs_cons (sg_name sc_law.nd (i := 10) rfl (by first | exact Or.inl rfl | exact Or.inr rfl)) (sgs_cons (sg_name sc_law.nd (i := 11) rfl (by first | exact Or.inl rfl | exact Or.inr rfl)) sgs_nil))) ?_
    refine sn_cons ?_ ?_
    · skip
      refine s1_if (sb_not (sb_val (se_user f__law_right (hr.mono (by decide)) rfl tk_cx (sa_cons (se_var 10) (sa_cons (se_var 11) sa_nil))))) ?_ ?_
      · skip
        refine sn_one ?_
        exact s1_ret se_bl
      · skip
        exact sn_nil
    refine sn_cons ?_ ?_
    · skip
      refine s1_for po_cx rfl (si_range1 rfl G.f_range (sa_cons se_int sa_nil) al_one) rfl (sg_name sc_law.nd (i := 12) rfl (by first | exact Or.inl rfl | exact Or.inr rfl)) ?_
      refine sn_cons ?_ ?_
      · skip
        exact s1_set (i := 14) sc_law.nd rfl (by first | exact Or.inl rfl | exact Or.inr rfl) (se_user f__law_bent (hr.mono (by decide)) rfl tk_cx (sa_cons (se_var 1) (sa_cons (se_var 11) sa_nil)))
      refine sn_one ?_
      refine s1_if (sb_w (sw_or (sb_not (sb_val (se_user f__law_right (hr.mono (by decide)) rfl tk_cx (sa_cons (se_var 10) (sa_cons (se_var 14) sa_nil))))) (sw_or1 (sb_w (sw_and (sb_cmp op_gt sim_cmp (se_var 12) se_int) (sw_and1 (sb_not (sb_val (se_user f__law_right (hr.mono (by decide)) rfl tk_cx (sa_cons (se_var 10) (sa_cons (se_user f__law_bent (hr.mono (by decide)) rfl tk_cx (sa_cons (se_var 1) (sa_cons (se_var 14) sa_nil))) sa_nil))))))))))) ?_ ?_
      · skip
        refine sn_one ?_
        exact s1_ret se_bl
      · skip
        exact sn_nil
    refine sn_one ?_
    refine s1_for po_cx rfl (si_tup rfl (se_tup (sa_cons (se_callTy call_list_of sim_list rfl G.f_list bo_list (sa_cons (se_var 11) sa_nil)) (sa_cons (se_rev rfl (se_var 11)) (sa_cons (se_bin op_addAll sim_add (se_var 11) (se_var 11)) (sa_cons (se_slice rfl (se_var 11) so_none (so_some (se_un un_neg sim_neg se_int))) (sa_cons se_non (sa_cons se_str (sa_cons (se_tup sa_nil) (sa_cons (se_tup (sa_cons (se_var 11) sa_nil)) sa_nil)))))))))) rfl (sg_name sc_law.nd (i := 13) rfl (by first | exact Or.inl rfl | exact Or.inr rfl)) ?_
    refine sn_one ?_
    refine s1_if (sb_not (sb_val (se_user f__law_right (hr.mono (by decide)) rfl tk_cx (sa_cons (se_var 10) (sa_cons (se_var 13) sa_nil))))) ?_ ?_
    · skip
      refine sn_one ?_
      exact s1_ret se_bl
    · skip
      exact sn_nil
  refine sn_cons ?_ ?_
  · skip
    exact s1_tgt rfl (se_tup (sa_cons (se_tup (sa_cons se_int (sa_cons se_int (sa_cons se_int (sa_cons se_int sa_nil))))) (sa_cons (se_tup (sa_cons (se_tup (sa_cons se_str (sa_cons (se_tup (sa_cons se_int (sa_cons se_int (sa_cons se_int (sa_cons se_int sa_nil))))) sa_nil))) sa_nil)) (sa_cons (se_tup (sa_cons se_str (sa_cons se_str sa_nil))) sa_nil)))) (sg_tup rfl (sgs_cons (sg_name sc_law.nd (i := 7) rfl (by first | exact Or.inl rfl | exact Or.inr rfl)) (sgs_cons (sg_name sc_law.nd (i := 8) rfl (by first | exact Or.inl rfl | exact Or.inr rfl)) (sgs_cons (sg_name sc_law.nd (i := 9) rfl (by first | exact Or.inl rfl | exact Or.inr rfl)) sgs_nil))))
  refine sn_cons ?_ ?_
  · skip
    exact s1_set (i := 3) sc_law.nd rfl (by first | exact Or.inl rfl | exact Or.inr rfl) (se_tup (sa_cons (se_tup (sa_cons (se_var 8) (sa_cons (se_var 9) (sa_cons (se_tup (sa_cons (se_tup (sa_cons (se_tup (sa_cons se_str (sa_cons se_int sa_nil))) sa_nil)) (sa_cons (se_tup sa_nil) sa_nil))) sa_nil)))) (sa_cons (se_tup (sa_cons (se_var 8) (sa_cons (se_var 9) sa_nil))) (sa_cons (se_tup (sa_cons (se_bin op_mulAll sim_mulA (se_var 8) se_int) (sa_cons (se_tup (sa_cons se_str sa_nil)) (sa_cons (se_tup sa_nil) sa_nil)))) (sa_cons (se_tup (sa_cons (se_tup (sa_cons (se_tup (sa_cons se_str (sa_cons (se_tup (sa_cons se_int (sa_cons se_int (sa_cons se_int (sa_cons se_int sa_nil))))) sa_nil))) sa_nil)) (sa_cons (se_tup (sa_cons se_str sa_nil)) (sa_cons (se_tup sa_nil) sa_nil)))) (sa_cons (se_tup (sa_cons (se_tup (sa_cons (se_tup (sa_cons se_str (sa_cons (se_tup (sa_cons se_int (sa_cons se_int (sa_cons se_int (sa_cons se_int sa_nil))))) sa_nil))) sa_nil)) (sa_cons (se_var 9) (sa_cons (se_tup sa_nil) sa_nil)))) (sa_cons (se_tup (sa_cons (se_var 8) (sa_cons (se_tup (sa_cons se_str (sa_cons se_str sa_nil))) (sa_cons (se_tup sa_nil) sa_nil)))) (sa_cons (se_tup (sa_cons (se_var 8) (sa_cons (se_tup (sa_cons se_str sa_nil)) (sa_cons (se_tup sa_nil) sa_nil)))) (sa_cons (se_tup (sa_cons (se_var 8) (sa_cons (se_var 9) (sa_cons (se_tup (sa_cons (se_tup sa_nil) sa_nil)) sa_nil)))) (sa_cons (se_tup (sa_cons (se_var 8) (sa_cons (se_var 9) (sa_cons (se_tup (sa_cons (se_tup sa_nil) (sa_cons (se_tup (sa_cons (se_tup (sa_cons se_str (sa_cons se_int sa_nil))) sa_nil)) sa_nil))) sa_nil)))) (sa_cons (se_tup (sa_cons (se_var 8) (sa_cons (se_var 9) (sa_cons (se_tup (sa_cons (se_tup (sa_cons (se_tup (sa_cons se_str (sa_cons (se_tup (sa_cons (se_tup sa_nil) sa_nil)) sa_nil))) sa_nil)) (sa_cons (se_tup (sa_cons (se_tup (sa_cons se_str (sa_cons se_int sa_nil))) sa_nil)) sa_nil))) sa_nil)))) (sa_cons (se_tup (sa_cons (se_tup sa_nil) (sa_cons (se_tup (sa_cons se_str sa_nil)) (sa_cons (se_tup (sa_cons (se_tup (sa_cons (se_tup (sa_cons se_str (sa_cons (se_tup (sa_cons (se_tup (sa_cons se_str sa_nil)) (sa_cons (se_tup (sa_cons se_str (sa_cons se_int (sa_cons (se_tup (sa_cons (se_tup (sa_cons se_str sa_nil)) sa_nil)) sa_nil)))) sa_nil))) sa_nil))) sa_nil)) sa_nil)) sa_nil)))) (sa_cons (se_tup (sa_cons (se_tup (sa_cons (se_lst (sa_cons se_str (sa_cons (se_var 7) sa_nil))) sa_nil)) (sa_cons (se_var 9) (sa_cons (se_tup (sa_cons (se_tup sa_nil) (sa_cons (se_tup sa_nil) sa_nil))) sa_nil)))) (sa_cons (se_tup (sa_cons (se_var 8) (sa_cons (se_var 9) (sa_cons (se_tup (sa_cons (se_tup (sa_cons (se_tup (sa_cons se_str (sa_cons se_bl (sa_cons (se_tup sa_nil) sa_nil)))) sa_nil)) (sa_cons (se_tup sa_nil) sa_nil))) sa_nil)))) (sa_cons (se_tup (sa_cons (se_var 8) (sa_cons (se_tup (sa_cons se_str (sa_cons se_str sa_nil))) (sa_cons (se_tup (sa_cons (se_tup sa_nil) (sa_cons (se_tup sa_nil) sa_nil))) sa_nil)))) (sa_cons (se_tup (sa_cons (se_tup (sa_cons (se_tup (sa_cons se_str (sa_cons (se_var 7) (sa_cons se_int sa_nil)))) sa_nil)) (sa_cons (se_tup (sa_cons se_str sa_nil)) (sa_cons (se_tup sa_nil) sa_nil)))) sa_nil))))))))))))))))
  refine sn_cons ?_ ?_
  · skip
    exact s1_set (i := 4) sc_law.nd rfl (by first | exact Or.inl rfl | exact Or.inr rfl) (se_tup (sa_cons (se_tup (sa_cons se_str (sa_cons se_int sa_nil))) (sa_cons (se_tup (sa_cons se_str (sa_cons (se_un un_neg sim_neg se_int) (sa_cons se_str sa_nil)))) (sa_cons (se_tup (sa_cons se_str (sa_cons (se_un un_neg sim_neg se_int) (sa_cons se_str sa_nil)))) (sa_cons (se_tup (sa_cons se_str (sa_cons se_int (sa_cons se_str sa_nil)))) (sa_cons (se_tup (sa_cons se_str (sa_cons se_int (sa_cons se_str sa_nil)))) (sa_cons (se_tup (sa_cons se_str (sa_cons (se_un un_neg sim_neg se_int) (sa_cons se_str sa_nil)))) (sa_cons (se_tup (sa_cons se_str (sa_cons (se_un un_neg sim_neg se_int) (sa_cons se_str sa_nil)))) (sa_cons (se_tup (sa_cons se_str (sa_cons (se_un un_neg sim_neg se_int) (sa_cons se_str sa_nil)))) (sa_cons (se_tup (sa_cons se_str (sa_cons se_int (sa_cons se_str sa_nil)))) (sa_cons (se_tup (sa_cons se_str (sa_cons se_int (sa_cons se_str sa_nil)))) (sa_cons (se_tup (sa_cons se_str (sa_cons se_int sa_nil))) (sa_cons (se_tup (sa_cons se_str (sa_cons (se_un un_neg sim_neg se_int) (sa_cons se_str sa_nil)))) (sa_cons (se_tup (sa_cons se_str (sa_cons se_int (sa_cons se_str sa_nil)))) (sa_cons (se_tup (sa_cons se_str (sa_cons (se_un un_neg sim_neg se_int) (sa_cons se_str sa_nil)))) (sa_cons (se_tup (sa_cons se_str (sa_cons (se_un un_neg sim_neg se_int) (sa_cons se_str sa_nil)))) sa_nil))))))))))))))))
  refine sn_cons ?_ ?_
  · skip
    refine s1_for po_cx rfl (si_range1 rfl G.f_range (sa_cons (se_callB call_len sim_len rfl G.f_len bo_len (sa_cons (se_var 3) sa_nil)) sa_nil) al_one) rfl (sg_name sc_law.nd (i := 5) rfl (by first | exact Or.inl rfl | exact Or.inr rfl)) ?_
    refine sn_one ?_
    refine s1_if (sb_w (sw_or (sb_cmp (op_neD (room_u hr)) sim_neD (se_user f__law_heard (hr.mono (by decide)) rfl tk_cx (sa_cons se_str (sa_cons (se_ix ix_seq sim_ix (se_var 3) (se_var 5)) sa_nil))) (se_ix ix_seq sim_ix (se_var 4) (se_var 5))) (sw_or1 (sb_cmp (op_neD (room_u hr)) sim_neD (se_user f__law_program_due (hr.mono (by decide)) rfl tk_cx (sa_cons (se_ix ix_seq sim_ix (se_var 3) (se_var 5)) sa_nil)) (se_ix ix_seq sim_ix (se_var 4) (se_var 5)))))) ?_ ?_
    · skip
      refine sn_one ?_
      exact s1_ret se_bl
    · skip
      exact sn_nil
  refine sn_cons ?_ ?_
  · skip
    exact s1_set (i := 6) sc_law.nd rfl (by first | exact Or.inl rfl | exact Or.inr rfl) (se_tup (sa_cons (se_tup (sa_cons (se_tup (sa_cons (se_tup (sa_cons se_str (sa_cons (se_var 7) (sa_cons se_int sa_nil)))) (sa_cons (se_tup (sa_cons se_str sa_nil)) sa_nil))) sa_nil)) (sa_cons (se_tup (sa_cons (se_tup (sa_cons (se_tup (sa_cons se_str (sa_cons (se_tup (sa_cons se_int (sa_cons se_int (sa_cons se_int (sa_cons se_int sa_nil))))) (sa_cons se_int sa_nil)))) (sa_cons (se_tup (sa_cons se_str sa_nil)) sa_nil))) sa_nil)) (sa_cons (se_tup sa_nil) (sa_cons (se_tup (sa_cons (se_tup sa_nil) sa_nil)) (sa_cons (se_tup (sa_cons (se_tup (sa_cons (se_tup (sa_cons se_str (sa_cons (se_tup (sa_cons se_int sa_nil)) sa_nil))) sa_nil)) sa_nil)) (sa_cons (se_tup (sa_cons (se_tup (sa_cons (se_tup (sa_cons se_str (sa_cons se_int (sa_cons se_int sa_nil)))) (sa_cons (se_tup (sa_cons se_str (sa_cons (se_tup (sa_cons se_int sa_nil)) (sa_cons se_int sa_nil)))) sa_nil))) sa_nil)) (sa_cons (se_tup (sa_cons (se_tup (sa_cons (se_tup (sa_cons se_str (sa_cons se_int (sa_cons se_int sa_nil)))) sa_nil)) sa_nil)) (sa_cons (se_tup (sa_cons (se_tup (sa_cons (se_tup (sa_cons se_str sa_nil)) sa_nil)) (sa_cons (se_tup (sa_cons (se_tup (sa_cons se_str (sa_cons (se_tup (sa_cons se_int (sa_cons se_int sa_nil))) sa_nil))) sa_nil)) sa_nil))) (sa_cons (se_tup (sa_cons (se_tup (sa_cons (se_tup (sa_cons se_str (sa_cons (se_lst (sa_cons se_int (sa_cons se_int (sa_cons se_int (sa_cons se_int sa_nil))))) (sa_cons se_int sa_nil)))) sa_nil)) sa_nil)) (sa_cons (se_tup (sa_cons (se_tup (sa_cons (se_tup (sa_cons se_str (sa_cons se_bl (sa_cons se_int sa_nil)))) sa_nil)) sa_nil)) (sa_cons (se_tup (sa_cons (se_tup (sa_cons (se_tup (sa_cons se_str (sa_cons se_int sa_nil))) sa_nil)) sa_nil)) sa_nil))))))))))))
  refine sn_cons ?_ ?_
  · skip
    exact s1_set (i := 4) sc_law.nd rfl (by first | exact Or.inl rfl | exact Or.inr rfl) (se_tup (sa_cons (se_tup (sa_cons se_str (sa_cons se_int sa_nil))) (sa_cons (se_tup (sa_cons se_str (sa_cons se_int (sa_cons se_str sa_nil)))) (sa_cons (se_tup (sa_cons se_str (sa_cons (se_un un_neg sim_neg se_int) (sa_cons se_str sa_nil)))) (sa_cons (se_tup (sa_cons se_str (sa_cons (se_un un_neg sim_neg se_int) (sa_cons se_str sa_nil)))) (sa_cons (se_tup (sa_cons se_str (sa_cons se_int (sa_cons se_str sa_nil)))) (sa_cons (se_tup (sa_cons se_str (sa_cons se_int (sa_cons se_str sa_nil)))) (sa_cons (se_tup (sa_cons se_str (sa_cons se_int (sa_cons se_str sa_nil)))) (sa_cons (se_tup (sa_cons se_str (sa_cons se_int (sa_cons se_str sa_nil)))) (sa_cons (se_tup (sa_cons se_str (sa_cons se_int (sa_cons se_str sa_nil)))) (sa_cons (se_tup (sa_cons se_str (sa_cons se_int (sa_cons se_str sa_nil)))) (sa_cons (se_tup (sa_cons se_str (sa_cons se_int (sa_cons se_str sa_nil)))) sa_nil))))))))))))
  refine sn_cons ?_ ?_
  · skip
    refine s1_for po_cx rfl (si_range1 rfl G.f_range (sa_cons (se_callB call_len sim_len rfl G.f_len bo_len (sa_cons (se_var 6) sa_nil)) sa_nil) al_one) rfl (sg_name sc_law.nd (i := 5) rfl (by first | exact Or.inl rfl | exact Or.inr rfl)) ?_
    refine sn_one ?_
    refine s1_if (sb_w (sw_or (sb_cmp (op_neD (room_u hr)) sim_neD (se_user f__law_heard (hr.mono (by decide)) rfl tk_cx (sa_cons se_str (sa_cons (se_ix ix_seq sim_ix (se_var 6) (se_var 5)) sa_nil))) (se_ix ix_seq sim_ix (se_var 4) (se_var 5))) (sw_or1 (sb_cmp (op_neD (room_u hr)) sim_neD (se_user f__law_code_due (hr.mono (by decide)) rfl tk_cx (sa_cons (se_ix ix_seq sim_ix (se_var 6) (se_var 5)) sa_nil)) (se_ix ix_seq sim_ix (se_var 4) (se_var 5)))))) ?_ ?_
    · skip
      refine sn_one ?_
      exact s1_ret se_bl
    · skip
      exact sn_nil
  refine sn_one ?_
  exact s1_ret (se_user f__law_many (hr.mono (by decide)) rfl tk_cx (sa_cons (se_var 1) sa_nil))

theorem chain (G : Gf K mg) (c : SaysX faX fxX fnX K) {fd : FuncData} (FD : FunD K "law" "law" (defArgs (topS 58)) (defBody (topS 58)) (defScope (topS 58)) [] [] (He.ga K "law") fd) : FnOk P w K mg base (L2.CX P w) 47 (He.ga K "law") fd ["script"] (spOf K 1 m_law) := by
  have f_is_integer : Fn P w K mg base 1 "is_integer" 1 m_is_integer := ok_is_integer G  
  have f_is_number : Fn P w K mg base 2 "is_number" 1 m_is_number := ok_is_number G f_is_integer 
  have f_integer_within : Fn P w K mg base 2 "integer_within" 3 m_integer_within := ok_integer_within G f_is_integer 
  have f_is_tuple : Fn P w K mg base 1 "is_tuple" 2 m_is_tuple := ok_is_tuple G  
  have f_is_text : Fn P w K mg base 1 "is_text" 2 m_is_text := ok_is_text G  
  have f_is_word : Fn P w K mg base 1 "is_word" 1 m_is_word := ok_is_word G  
  have f_is_lot : Fn P w K mg base 2 "is_lot" 1 m_is_lot := ok_is_lot G f_is_integer f_is_tuple 
  have f_check_form : Fn P w K mg base 3 "check_form" 1 m_check_form := ok_check_form G f_is_integer f_is_lot f_is_tuple (xc_BadForm G c)
  have f_is_form : Fn P w K mg base 4 "is_form" 1 m_is_form := ok_is_form G f_check_form 
  have f_are_words : Fn P w K mg base 2 "are_words" 3 m_are_words := ok_are_words G f_is_word 
  have f_are_deeds : Fn P w K mg base 3 "are_deeds" 1 m_are_deeds := ok_are_deeds G f_are_words f_is_tuple 
  have f_is_deed_form : Fn P w K mg base 5 "is_deed_form" 1 m_is_deed_form := ok_is_deed_form G f_is_form 
  have f_is_statement : Fn P w K mg base 42 "is_statement" 3 (m_is_statement 40) := ok_is_statement G f_integer_within f_is_number f_is_text 
  have f_is_body : Fn P w K mg base 42 "is_body" 3 (m_is_body 40) := ok_is_body G f_integer_within f_is_number f_is_text 
  have f_are_bodies : Fn P w K mg base 42 "are_bodies" 3 (m_are_bodies 40) := ok_are_bodies G f_integer_within f_is_number f_is_text 
  have f_names_word : Fn P w K mg base 3 "names_word" 2 m_names_word := ok_names_word G f_are_words 
  have f_count_in : Fn P w K mg base 40 "count_in" 1 (m_count_in 40) := ok_count_in G  
  have f_check_program : Fn P w K mg base 43 "check_program" 1 m_check_program := ok_check_program G f_are_deeds f_count_in f_is_body f_is_deed_form f_is_tuple f_names_word (xc_BadProgram G c)
  have f_are_nexts : Fn P w K mg base 2 "are_nexts" 1 m_are_nexts := ok_are_nexts G f_is_integer 
  have f_is_row : Fn P w K mg base 3 "is_row" 1 m_is_row := ok_is_row G f_are_nexts f_is_integer f_is_text 
  have f_nexts_of : Fn P w K mg base 1 "nexts_of" 1 m_nexts_of := ok_nexts_of G  
  have f_rows_word : Fn P w K mg base 6 "rows_word" 2 m_rows_word := ok_rows_word G f_integer_within f_is_deed_form f_is_row f_nexts_of 
  have f_check_code : Fn P w K mg base 7 "check_code" 1 m_check_code := ok_check_code G f_rows_word (xc_BadCode G c)
  have f__law_forge : Fn P w K mg base 1 "_law_forge" 1 m__law_forge := ok__law_forge G  
  have f__law_blow : Fn P w K mg base 1 "_law_blow" 2 m__law_blow := ok__law_blow G  
  have f__law_whole : Fn P w K mg base 1 "_law_whole" 2 m__law_whole := ok__law_whole G  
  have f__law_form : Fn P w K mg base 2 "_law_form" 1 m__law_form := ok__law_form G f__law_blow 
  have f__law_body : Fn P w K mg base 41 "_law_body" 5 (m__law_body 40) := ok__law_body G f__law_blow 
  have f__law_program : Fn P w K mg base 42 "_law_program" 1 m__law_program := ok__law_program G f__law_blow f__law_body f__law_form 
  have f__law_is_word : Fn P w K mg base 1 "_law_is_word" 1 m__law_is_word := ok__law_is_word G  
  have f__law_is_form : Fn P w K mg base 1 "_law_is_form" 1 m__law_is_form := ok__law_is_form G  
  have f__law_statements : Fn P w K mg base 2 "_law_statements" 3 m__law_statements := ok__law_statements G f__law_whole 
  have f__law_unlike : Fn P w K mg base 1 "_law_unlike" 1 m__law_unlike := ok__law_unlike G  
  have f__law_program_due : Fn P w K mg base 3 "_law_program_due" 1 m__law_program_due := ok__law_program_due G f__law_is_form f__law_is_word f__law_statements f__law_unlike 
  have f__law_code : Fn P w K mg base 3 "_law_code" 1 m__law_code := ok__law_code G f__law_blow f__law_form 
  have f__law_row_word : Fn P w K mg base 1 "_law_row_word" 1 m__law_row_word := ok__law_row_word G  
  have f__law_code_due : Fn P w K mg base 2 "_law_code_due" 1 m__law_code_due := ok__law_code_due G f__law_is_form f__law_row_word 
  have f__law_heard : Fn P w K mg base 44 "_law_heard" 2 m__law_heard := ok__law_heard G f_check_code f_check_program 
  have f__law_right : Fn P w K mg base 45 "_law_right" 2 m__law_right := ok__law_right G f__law_code_due f__law_heard f__law_program_due 
  have f__law_bent : Fn P w K mg base 2 "_law_bent" 2 m__law_bent := ok__law_bent G f__law_blow 
  have f__law_many : Fn P w K mg base 46 "_law_many" 1 m__law_many := ok__law_many G f__law_right 
  exact ok_lawF G f__law_bent f__law_code f__law_code_due f__law_forge f__law_heard f__law_many f__law_program f__law_program_due f__law_right FD
end
end Kl
open PySem PySem.W PySem.Calls PyProof.Rows
theorem PySem.Challenge.cw_whichpass_k93_whole_spoilt_programs_code_holds : PySem.Challenge.rw_whichpass_k93_whole_spoilt_programs_code.Holds := by
  w_on; o_law
  refine HandSHeadRun.head_any (r := OpenLaw.row PySem.Challenge.rw_whichpass_k93_whole_spoilt_programs_code) (q := view (OpenLaw.row PySem.Challenge.rw_whichpass_k93_whole_spoilt_programs_code).prog [58]) (H := Kl.hkX) (ob := Kl.obsX) (M := 20000) (loose := Kl.looseX) (d := HandSHeadRun.topDef (OpenLaw.row PySem.Challenge.rw_whichpass_k93_whole_spoilt_programs_code).prog 58) (kwd := []) Kl.obsX_eq
    (by kernel_rfl) (fun s => by kernel_rfl) Kl.runX (by kernel_rfl) (by kernel_rfl) (by kernel_rfl) (by rfl) (by first | assumption | decide +kernel) (by decide +kernel) ⟨rfl, rfl, rfl, rfl, rfl, by decide +kernel⟩ ?hw ?hc
  case hw => w_witness2
  case hc =>
    refine Sm.walk_x (l := PySem.Challenge.rw_whichpass_k93_whole_spoilt_programs_code) (n := 63) (k := 47) (x := "script") (m := Kl.m_law) rfl (by decide) (by kernel_rfl) ⟨rfl, by decide, by decide⟩ Kl.law_true ?F
    intro w mg fa h Y G hmg0
    obtain ⟨K, KX, c⟩ := Y
    have hmg : mg ("law" : PySem.Str) = some (.ref fa) := by
      have e : (HandSHeadRun.topDef (OpenLaw.row PySem.Challenge.rw_whichpass_k93_whole_spoilt_programs_code).prog 58).name = ("law" : PySem.Str) := by kernel_rfl
      rw [← e]
      exact hmg0
    have Gf := Kl.gf_of KX G c
    have e := hmg.symm.trans Gf.g_law
    cases e
    obtain ⟨fd, FD⟩ := Gf.d_law
    refine ⟨K, fd, KX, fun s u => FD.bindsA Kl.bi_law s [u] rfl, fun base hK hN => ?_⟩
    exact Kl.chain (Kl.gf_of hK hN c) c FD

