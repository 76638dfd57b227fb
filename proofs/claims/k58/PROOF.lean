import PyProof.Rows.All
import Wide.All
import OpenK.AllK
import Wide.FinOn
import HandS.ForMost
import HandS.Deep
import HandS.Wide
import HandS.WideMore
import HandS.WideBits
import HandS.TupAny
import HandS.TupMul
import HandS.Style
import HandS.RaiseMore
import HandS.Conv
import KE.GoesEnum
import KE.GoesZip
import KE.GoesMore
import KE.KRevSl
import HandS.Text
import PySem.Challenge.RW_fewestbits_k58_whole_models_with_bits_ex
set_option Elab.async false
set_option linter.all false
set_option maxRecDepth 100000
namespace DL
open PySem PySem.Spec PyProof.Rows L2

/-! ### plain data -/
abbrev DK := Int ⊕ List Nat
inductive D where
  | non | bl (b : Bool) | int (i : Int) | str (s : List Nat) | lst (xs : List D) | tup (xs : List D)
  | dct (kvs : List (DK × D)) | scr (xs : List Int) | ptr (k : Nat)
abbrev mkS (s : List Nat) : Str := ⟨s.toArray⟩
def mkK : DK → Key
  | .inl i => .inl i
  | .inr s => .inr (mkS s)
/-- a by-reference object -/
inductive O where
  | dct (kvs : List (DK × D)) | ins (c : Nat) (fs : List (Str × D))
/-- a slot of the frame -/
inductive Sl where
  | un | val (d : D) | own (xs : List D) | ownK (kvs : List (DK × D))
def Sl.isOwn : Sl → Bool
  | .own _ => true
  | .ownK _ => true
  | _ => false

mutual
inductive Rep (K : PySem.W.Frag) (F : Hp) (μ : List Addr) : D → V → Prop
  | non : Rep K F μ .non .non
  | bl (b : Bool) : Rep K F μ (.bl b) (.bl b)
  | int (i : Int) : Rep K F μ (.int i) (.int i)
  | str (s : List Nat) : Rep K F μ (.str s) (.str (mkS s))
  | lst {a : Addr} {ds : List D} {vs : List V} : F a = some (.lst vs) → Reps K F μ ds vs → Rep K F μ (.lst ds) (.ref a)
  | tup {a : Addr} {ds : List D} {vs : List V} : SqT K F a vs → Reps K F μ ds vs → Rep K F μ (.tup ds) (.ref a)
  | dct {a : Addr} {ds : List (DK × D)} {vs : List (Key × V)} : F a = some (.dK vs) → RepKs K F μ ds vs → Rep K F μ (.dct ds) (.ref a)
  | scr {a : Addr} {xs : List Int} : SqL K F a (xs.map V.int) → Rep K F μ (.scr xs) (.ref a)
  | ptr {a : Addr} {k : Nat} : μ[k]? = some a → Rep K F μ (.ptr k) (.ref a)
inductive Reps (K : PySem.W.Frag) (F : Hp) (μ : List Addr) : List D → List V → Prop
  | nil : Reps K F μ [] []
  | cons {d : D} {v : V} {ds : List D} {vs : List V} : Rep K F μ d v → Reps K F μ ds vs → Reps K F μ (d :: ds) (v :: vs)
inductive RepKs (K : PySem.W.Frag) (F : Hp) (μ : List Addr) : List (DK × D) → List (Key × V) → Prop
  | nil : RepKs K F μ [] []
  | cons {k : DK} {d : D} {v : V} {ds : List (DK × D)} {vs : List (Key × V)} : Rep K F μ d v → RepKs K F μ ds vs → RepKs K F μ ((k, d) :: ds) ((mkK k, v) :: vs)
end

def Mono (F : Hp) (μ : List Addr) (F' : Hp) (μ' : List Addr) : Prop := Same F F' ∧ ∀ (k : Nat) (a : Addr), μ[k]? = some a → μ'[k]? = some a
theorem Mono.refl (F : Hp) (μ : List Addr) : Mono F μ F μ := ⟨Same.refl F, fun _ _ h => h⟩
theorem Mono.trans {F F1 F2 : Hp} {μ μ1 μ2 : List Addr} (a : Mono F μ F1 μ1) (b : Mono F1 μ1 F2 μ2) : Mono F μ F2 μ2 := ⟨a.1.trans b.1, fun k x h => b.2 k x (a.2 k x h)⟩
theorem Same.sqT {K : PySem.W.Frag} {H H' : Hp} {a : Addr} {xs : List V} (e : Same H H') (h : SqT K H a xs) : SqT K H' a xs := by
  rcases h with (h | ⟨o, h⟩) | h
  · exact .inl (.inl (e _ _ h))
  · exact .inl (.inr ⟨o, e _ _ h⟩)
  · exact .inr h

section
variable {K : PySem.W.Frag} {F F' H : Hp} {μ μ' : List Addr}
mutual
theorem Rep.mono (m : Mono F μ F' μ') : ∀ {d : D} {v : V}, Rep K F μ d v → Rep K F' μ' d v
  | _, _, .non => .non
  | _, _, .bl b => .bl b
  | _, _, .int i => .int i
  | _, _, .str s => .str s
  | _, _, .lst h r => .lst (m.1 _ _ h) (Reps.mono m r)
  | _, _, .tup h r => .tup (Same.sqT m.1 h) (Reps.mono m r)
  | _, _, .dct h r => .dct (m.1 _ _ h) (RepKs.mono m r)
  | _, _, .scr h => .scr (m.1.seq h)
  | _, _, .ptr h => .ptr (m.2 _ _ h)
theorem Reps.mono (m : Mono F μ F' μ') : ∀ {ds : List D} {vs : List V}, Reps K F μ ds vs → Reps K F' μ' ds vs
  | _, _, .nil => .nil
  | _, _, .cons h r => .cons (Rep.mono m h) (Reps.mono m r)
theorem RepKs.mono (m : Mono F μ F' μ') : ∀ {ds : List (DK × D)} {vs : List (Key × V)}, RepKs K F μ ds vs → RepKs K F' μ' ds vs
  | _, _, .nil => .nil
  | _, _, .cons h r => .cons (Rep.mono m h) (RepKs.mono m r)
end
theorem Reps.length : ∀ {ds : List D} {vs : List V}, Reps K F μ ds vs → ds.length = vs.length
  | _, _, .nil => rfl
  | _, _, .cons _ r => by rw [List.length_cons, List.length_cons, Reps.length r]
theorem Reps.get : ∀ {ds : List D} {vs : List V} {i : Nat} {d : D}, Reps K F μ ds vs → ds[i]? = some d → ∃ v, vs[i]? = some v ∧ Rep K F μ d v
  | _, _, _, _, .nil, e => by simp at e
  | _, _, 0, _, .cons h _, e => by simp at e; subst e; exact ⟨_, rfl, h⟩
  | _, _, i + 1, _, .cons _ r, e => by
    obtain ⟨v, h1, h2⟩ := Reps.get (i := i) r (by simpa using e)
    exact ⟨v, by simpa using h1, h2⟩
theorem Reps.get' : ∀ {ds : List D} {vs : List V} {i : Nat} {v : V}, Reps K F μ ds vs → vs[i]? = some v → ∃ d, ds[i]? = some d ∧ Rep K F μ d v
  | _, _, _, _, .nil, e => by simp at e
  | _, _, 0, _, .cons h _, e => by simp at e; subst e; exact ⟨_, rfl, h⟩
  | _, _, i + 1, _, .cons _ r, e => by
    obtain ⟨v, h1, h2⟩ := Reps.get' (i := i) r (by simpa using e)
    exact ⟨v, by simpa using h1, h2⟩
theorem Reps.append : ∀ {ds es : List D} {vs ws : List V}, Reps K F μ ds vs → Reps K F μ es ws → Reps K F μ (ds ++ es) (vs ++ ws)
  | _, _, _, _, .nil, s => s
  | _, _, _, _, .cons h r, s => .cons h (Reps.append r s)
theorem Reps.take : ∀ {ds : List D} {vs : List V} (n : Nat), Reps K F μ ds vs → Reps K F μ (ds.take n) (vs.take n)
  | _, _, 0, _ => by simpa using Reps.nil
  | _, _, _ + 1, .nil => by simpa using Reps.nil
  | _, _, n + 1, .cons h r => by simpa using Reps.cons h (Reps.take n r)
theorem Reps.drop : ∀ {ds : List D} {vs : List V} (n : Nat), Reps K F μ ds vs → Reps K F μ (ds.drop n) (vs.drop n)
  | _, _, 0, r => by simpa using r
  | _, _, _ + 1, .nil => by simpa using Reps.nil
  | _, _, n + 1, .cons h r => by simpa using Reps.drop n r
theorem Reps.set {d : D} {v : V} (h : Rep K F μ d v) : ∀ {ds : List D} {vs : List V} (n : Nat), Reps K F μ ds vs → Reps K F μ (ds.set n d) (vs.set n v)
  | _, _, _, .nil => by simpa using Reps.nil
  | _, _, 0, .cons _ r => by simpa using Reps.cons h r
  | _, _, n + 1, .cons h' r => by simpa using Reps.cons h' (Reps.set h n r)
theorem Reps.eraseIdx : ∀ {ds : List D} {vs : List V} (n : Nat), Reps K F μ ds vs → Reps K F μ (ds.eraseIdx n) (vs.eraseIdx n)
  | _, _, _, .nil => by simpa using Reps.nil
  | _, _, 0, .cons _ r => by simpa using r
  | _, _, n + 1, .cons h' r => by simpa using Reps.cons h' (Reps.eraseIdx n r)
theorem Reps.rep {ds : List D} {vs : List V} (r : Reps K F μ ds vs) : ∀ n : Nat, Reps K F μ (List.replicate n ds).flatten (List.replicate n vs).flatten
  | 0 => by simpa using Reps.nil
  | n + 1 => by
    rw [List.replicate_succ, List.replicate_succ, List.flatten_cons, List.flatten_cons]
    exact r.append (Reps.rep r n)
theorem Reps.reverse : ∀ {ds : List D} {vs : List V}, Reps K F μ ds vs → Reps K F μ ds.reverse vs.reverse
  | _, _, .nil => .nil
  | _, _, .cons h r => by
    rw [List.reverse_cons, List.reverse_cons]
    exact (Reps.reverse r).append (.cons h .nil)
end

/-! ### state and evaluators -/
abbrev Sto := List Sl × List O
abbrev Ev (α : Type) := Sto → Option (α × Sto)
def bnd {α β : Type} (f : Ev α) (g : α → Ev β) : Ev β := fun s => match f s with
  | some (a, s') => g a s'
  | none => none
def ret {α : Type} (a : α) : Ev α := fun s => some (a, s)
def lft {α : Type} (o : Option α) : Ev α := fun s => match o with
  | some a => some (a, s)
  | none => none
inductive Out where
  | nx (s : Sto) | rt (d : D) (s : Sto) | bk (s : Sto) | ct (s : Sto)
abbrev Es := Sto → Option Out

theorem bnd_some {α β : Type} {f : Ev α} {g : α → Ev β} {s s' : Sto} {b : β} (h : bnd f g s = some (b, s')) : ∃ a s1, f s = some (a, s1) ∧ g a s1 = some (b, s') := by
  unfold bnd at h
  split at h
  · rename_i a s1 e
    exact ⟨a, s1, e, h⟩
  · cases h
theorem lft_some {α : Type} {o : Option α} {s s' : Sto} {a : α} (h : lft o s = some (a, s')) : o = some a ∧ s' = s := by
  unfold lft at h
  split at h
  · cases h; exact ⟨rfl, rfl⟩
  · cases h
theorem ret_some {α : Type} {a b : α} {s s' : Sto} (h : ret a s = some (b, s')) : b = a ∧ s' = s := by
  unfold ret at h
  cases h
  exact ⟨rfl, rfl⟩

/-! ### the relation -/
/-- the state at the def's entry -/
structure Ct where
  cls : Nat → Addr
  H0 : Hp
  F0 : Hp
  μ0 : List Addr
  P : Hp

def SlOk (K : PySem.W.Frag) (c : Ct) (F : Hp) (μ : List Addr) (H : Hp) (a : Addr) (sv : Option (Option V)) : Sl → Prop
  | .un => True
  | .val d => ∃ v, sv = some (some v) ∧ Rep K F μ d v
  | .own ds => sv = some (some (.ref a)) ∧ F a = none ∧ (c.H0 a = none ∧ c.P a = none) ∧ a ∉ μ ∧ ∃ vs, H a = some (.lst vs) ∧ Reps K F μ ds vs
  | .ownK ds => sv = some (some (.ref a)) ∧ F a = none ∧ (c.H0 a = none ∧ c.P a = none) ∧ a ∉ μ ∧ ∃ vs, H a = some (.dK vs) ∧ RepKs K F μ ds vs
def RepFs (K : PySem.W.Frag) (F : Hp) (μ : List Addr) (fs : List (Str × D)) (gs : List (Str × V)) : Prop := fs.map (·.1) = gs.map (·.1) ∧ Reps K F μ (fs.map (·.2)) (gs.map (·.2))
def OOk (K : PySem.W.Frag) (cls : Nat → Addr) (F : Hp) (μ : List Addr) (H : Hp) (a : Addr) : O → Prop
  | .dct ds => ∃ vs, H a = some (.dK vs) ∧ RepKs K F μ ds vs
  | .ins k fs => ∃ dx gs, H a = some (.ins (cls k) dx gs) ∧ RepFs K F μ fs gs
structure StOk (K : PySem.W.Frag) (cls : Nat → Addr) (F : Hp) (μ : List Addr) (H : Hp) (S : List O) : Prop where
  len : μ.length = S.length
  nd : μ.Nodup
  fr : ∀ a, a ∈ μ → F a = none
  ok : ∀ (k : Nat) (a : Addr) (o : O), μ[k]? = some a → S[k]? = some o → OOk K cls F μ H a o

structure Rel (K : PySem.W.Frag) (c : Ct) (F : Hp) (μ : List Addr) (σ : L2.St) (H : Hp) (s : Sto) : Prop where
  sub : Same F H
  ext : Same c.F0 F
  newF : ∀ b o, F b = some o → c.F0 b = some o ∨ c.H0 b = none
  frame : ∀ b o, c.H0 b = some o → b ∉ c.μ0 → H b = some o
  mu : ∃ ν, μ = c.μ0 ++ ν ∧ ∀ b ∈ ν, c.H0 b = none
  len : s.1.length = σ.length
  slots : ∃ α : Nat → Addr, (∀ i x, s.1[i]? = some x → SlOk K c F μ H (α i) σ[i]? x) ∧
    (∀ i j x y, s.1[i]? = some x → s.1[j]? = some y → x.isOwn = true → y.isOwn = true → α i = α j → i = j)
  st : StOk K c.cls F μ H s.2
  prot : ∀ b o, c.P b = some o → H b = some o ∧ F b = none ∧ b ∉ μ ∧ c.H0 b = none

end DL

set_option Elab.async false
set_option linter.all false
set_option maxRecDepth 100000
namespace DL
open PySem PySem.Spec PyProof.Rows L2
section
variable {K : PySem.W.Frag} {c : Ct} {F F' : Hp} {μ μ' : List Addr} {σ σ' : L2.St} {H H' : Hp} {s s' : Sto} {ρ : List Sl} {S S' : List O}

theorem ne_none {α : Type} {x : Option α} {y : α} (h : x = some y) (h' : x = none) : False := by rw [h] at h'; cases h'
theorem Same.upd_new {H : Hp} {p : Addr} {o : HO} (h : H p = none) : Same H (upd H p o) := fun b u e => by rw [upd_ne (ne_of_none e h)]; exact e
theorem Mono.new {p : Addr} {o : HO} (h : F p = none) : Mono F μ (upd F p o) μ := ⟨Same.upd_new h, fun _ _ e => e⟩
theorem Rel.fnone (R : Rel K c F μ σ H s) {p : Addr} (h : H p = none) : F p = none := by
  cases q : F p with
  | none => rfl
  | some o => exact (ne_none (R.sub _ _ q) h).elim
theorem Rel.h0none (R : Rel K c F μ σ H s) {p : Addr} (h : H p = none) : c.H0 p = none := by
  cases q : c.H0 p with
  | none => rfl
  | some o =>
    by_cases hm : p ∈ c.μ0
    · obtain ⟨ν, e, _⟩ := R.mu
      have hm' : p ∈ μ := by rw [e]; exact List.mem_append_left _ hm
      obtain ⟨k, hk⟩ := List.getElem?_of_mem hm'
      have hl : k < s.2.length := by rw [← R.st.len]; exact (List.getElem?_eq_some_iff.mp hk).1
      have := R.st.ok k p _ hk (List.getElem?_eq_getElem hl)
      cases e2 : s.2[k] with
      | dct ds => rw [e2] at this; obtain ⟨vs, h1, _⟩ := this; exact (ne_none h1 h).elim
      | ins k fs => rw [e2] at this; obtain ⟨dx, vs, h1, _⟩ := this; exact (ne_none h1 h).elim
    · exact (ne_none (R.frame _ _ q hm) h).elim
theorem StOk.has (st : StOk K c.cls F μ H S) {a : Addr} (h : a ∈ μ) : ∃ o, H a = some o := by
  obtain ⟨k, hk⟩ := List.getElem?_of_mem h
  have hl : k < S.length := by rw [← st.len]; exact (List.getElem?_eq_some_iff.mp hk).1
  have := st.ok k a _ hk (List.getElem?_eq_getElem hl)
  cases e2 : S[k] with
  | dct ds => rw [e2] at this; obtain ⟨vs, h1, _⟩ := this; exact ⟨_, h1⟩
  | ins k fs => rw [e2] at this; obtain ⟨dx, vs, h1, _⟩ := this; exact ⟨_, h1⟩
theorem SlOk.has {a : Addr} {sv : Option (Option V)} {x : Sl} (h : SlOk K c F μ H a sv x) (o : x.isOwn = true) : ∃ u, H a = some u := by
  cases x with
  | un => cases o
  | val d => cases o
  | own ds => obtain ⟨_, _, _, _, vs, e, _⟩ := h; exact ⟨_, e⟩
  | ownK ds => obtain ⟨_, _, _, _, vs, e, _⟩ := h; exact ⟨_, e⟩
theorem SlOk.fnone {a : Addr} {sv : Option (Option V)} {x : Sl} (h : SlOk K c F μ H a sv x) (o : x.isOwn = true) : F a = none := by
  cases x with
  | un => cases o
  | val d => cases o
  | own ds => exact h.2.1
  | ownK ds => exact h.2.1
theorem SlOk.nmem {a : Addr} {sv : Option (Option V)} {x : Sl} (h : SlOk K c F μ H a sv x) (o : x.isOwn = true) : a ∉ μ := by
  cases x with
  | un => cases o
  | val d => cases o
  | own ds => exact h.2.2.2.1
  | ownK ds => exact h.2.2.2.1
/-- a slot stays fine -/
theorem SlOk.step {a : Addr} {sv : Option (Option V)} {x : Sl} (h : SlOk K c F μ H a sv x) (m : Mono F μ F' μ') (hF : x.isOwn = true → F' a = none) (hμ : x.isOwn = true → a ∉ μ') (hH : x.isOwn = true → ∀ o, H a = some o → H' a = some o) :
    SlOk K c F' μ' H' a sv x := by
  cases x with
  | un => trivial
  | val d => obtain ⟨v, e, r⟩ := h; exact ⟨v, e, r.mono m⟩
  | own ds => obtain ⟨e, _, h0, _, vs, h1, r⟩ := h; exact ⟨e, hF rfl, h0, hμ rfl, vs, hH rfl _ h1, r.mono m⟩
  | ownK ds => obtain ⟨e, _, h0, _, vs, h1, r⟩ := h; exact ⟨e, hF rfl, h0, hμ rfl, vs, hH rfl _ h1, r.mono m⟩
theorem OOk.step {cls : Nat → Addr} {a : Addr} {o : O} (h : OOk K cls F μ H a o) (m : Mono F μ F' μ') (hH : ∀ o, H a = some o → H' a = some o) : OOk K cls F' μ' H' a o := by
  cases o with
  | dct ds => obtain ⟨vs, h1, r⟩ := h; exact ⟨vs, hH _ h1, r.mono m⟩
  | ins k fs => obtain ⟨dx, vs, h1, e, r⟩ := h; exact ⟨dx, vs, hH _ h1, e, r.mono m⟩

/-- a new frozen object -/
theorem Rel.alloc {p : Addr} {o : HO} (R : Rel K c F μ σ H s) (hp : H p = none) : Rel K c (upd F p o) μ σ (upd H p o) s := by
  have hF := R.fnone hp
  have h0 := R.h0none hp
  have m : Mono F μ (upd F p o) μ := Mono.new hF
  refine ⟨fun b u e => ?_, R.ext.trans (Same.upd_new hF), fun b u e => ?_, fun b u e hb => ?_, R.mu, R.len, ?_, ?_, fun b u e => ?_⟩
  · by_cases hb : b = p
    · subst hb; rw [upd_same] at e ⊢; exact e
    · rw [upd_ne hb] at e ⊢; exact R.sub _ _ e
  · by_cases hb : b = p
    · subst hb; exact .inr h0
    · rw [upd_ne hb] at e; exact R.newF _ _ e
  · rw [upd_ne (ne_of_none (R.frame _ _ e hb) hp)]; exact R.frame _ _ e hb
  · obtain ⟨α, h1, h2⟩ := R.slots
    refine ⟨α, fun i x e => ?_, h2⟩
    refine (h1 i x e).step m (fun ho => ?_) (fun ho => (h1 i x e).nmem ho) (fun ho u e' => ?_)
    · obtain ⟨u, e'⟩ := (h1 i x e).has ho
      rw [upd_ne (ne_of_none e' hp)]; exact (h1 i x e).fnone ho
    · rw [upd_ne (ne_of_none e' hp)]; exact e'
  · refine ⟨R.st.len, R.st.nd, fun a ha => ?_, fun k a o' e1 e2 => (R.st.ok k a o' e1 e2).step m fun u e' => by rw [upd_ne (ne_of_none e' hp)]; exact e'⟩
    obtain ⟨u, e'⟩ := R.st.has ha
    rw [upd_ne (ne_of_none e' hp)]; exact R.st.fr a ha
  · obtain ⟨q1, q2, q3, q4⟩ := R.prot b u e
    rw [upd_ne (ne_of_none q1 hp), upd_ne (ne_of_none q1 hp)]
    exact ⟨q1, q2, q3, q4⟩

/-- a name's store -/
theorem Rel.setVal {i : Nat} {d : D} {v : V} (R : Rel K c F μ σ H (ρ, S)) (r : Rep K F μ d v) : Rel K c F μ (σ.set i (some v)) H (ρ.set i (.val d), S) := by
  refine ⟨R.sub, R.ext, R.newF, R.frame, R.mu, by simpa using R.len, ?_, R.st, R.prot⟩
  obtain ⟨α, h1, h2⟩ := R.slots
  have hl : ρ.length = σ.length := R.len
  refine ⟨α, fun j x e => ?_, fun j k x y e1 e2 o1 o2 => ?_⟩
  · by_cases hj : i = j
    · subst hj
      have e : (ρ.set i (.val d))[i]? = some x := e
      rw [List.getElem?_set] at e
      simp only [if_true] at e
      split at e
      · rename_i hi
        cases e
        exact ⟨v, by rw [List.getElem?_set_self (by omega)], r⟩
      · cases e
    · have e : (ρ.set i (.val d))[j]? = some x := e
      rw [List.getElem?_set_ne hj] at e
      rw [List.getElem?_set_ne hj]
      exact h1 j x e
  · have own_ne : ∀ {j : Nat} {x : Sl}, (ρ.set i (.val d))[j]? = some x → x.isOwn = true → ρ[j]? = some x := fun {j x} e o => by
      by_cases hj : i = j
      · subst hj
        rw [List.getElem?_set] at e
        simp only [if_true] at e
        split at e
        · cases e; cases o
        · cases e
      · rw [List.getElem?_set_ne hj] at e; exact e
    exact h2 j k x y (own_ne e1 o1) (own_ne e2 o2) o1 o2

/-- the slots but the last -/
theorem Rel.pop {x : Sl} {sv : Option V} (R : Rel K c F μ (σ ++ [sv]) H (ρ ++ [x], S)) : Rel K c F μ σ H (ρ, S) := by
  have hl : (ρ ++ [x]).length = (σ ++ [sv]).length := R.len
  have hl' : ρ.length = σ.length := by simpa using hl
  refine ⟨R.sub, R.ext, R.newF, R.frame, R.mu, hl', ?_, R.st, R.prot⟩
  obtain ⟨α, h1, h2⟩ := R.slots
  have up : ∀ {i : Nat} {y : Sl}, ρ[i]? = some y → (ρ ++ [x])[i]? = some y ∧ (σ ++ [sv])[i]? = σ[i]? := fun {i y} e => by
    have hi : i < ρ.length := (List.getElem?_eq_some_iff.mp e).1
    exact ⟨by rw [List.getElem?_append_left hi]; exact e, by rw [List.getElem?_append_left (by omega)]⟩
  refine ⟨α, fun i y e => ?_, fun i j y z e1 e2 => h2 i j y z (up e1).1 (up e2).1⟩
  have := h1 i y (up e).1
  rw [(up e).2] at this
  exact this
/-- a new owned object, as one more slot -/
theorem Rel.push {x : Sl} {p : Addr} {o : HO} (R : Rel K c F μ σ H (ρ, S)) (hp : H p = none) (hx : SlOk K c F μ (upd H p o) p (some (some (.ref p))) x) : Rel K c F μ (σ ++ [some (.ref p)]) (upd H p o) (ρ ++ [x], S) := by
  have hF := R.fnone hp
  have h0 := R.h0none hp
  have hl' : ρ.length = σ.length := R.len
  refine ⟨R.sub.trans (Same.upd_new hp), R.ext, R.newF, fun b u e hb => ?_, R.mu, by show (ρ ++ [x]).length = _; simp [hl'], ?_, ?_, fun b u e => ?_⟩
  · rw [upd_ne (ne_of_none (R.frame _ _ e hb) hp)]; exact R.frame _ _ e hb
  · obtain ⟨α, h1, h2⟩ := R.slots
    have low : ∀ {i : Nat} {y : Sl}, (ρ ++ [x])[i]? = some y → (i < ρ.length ∧ ρ[i]? = some y) ∨ (i = ρ.length ∧ y = x) := fun {i y} e => by
      by_cases hi : i < ρ.length
      · rw [List.getElem?_append_left hi] at e; exact .inl ⟨hi, e⟩
      · rw [List.getElem?_append_right (by omega)] at e
        have : i - ρ.length = 0 := by
          cases h : i - ρ.length with
          | zero => rfl
          | succ n => rw [h] at e; simp at e
        rw [this] at e
        simp at e
        exact .inr ⟨by omega, e.symm⟩
    refine ⟨fun i => if i < ρ.length then α i else p, fun i y e => ?_, fun i j y z e1 e2 o1 o2 he => ?_⟩
    · rcases low e with ⟨hi, e⟩ | ⟨hi, rfl⟩
      · show SlOk K c F μ (upd H p o) (if i < ρ.length then α i else p) _ y
        rw [if_pos hi, List.getElem?_append_left (by omega)]
        have q := h1 i y e
        refine q.step (Mono.refl _ _) (fun ho => q.fnone ho) (fun ho => q.nmem ho) fun ho u e' => ?_
        rw [upd_ne (ne_of_none e' hp)]; exact e'
      · show SlOk K c F μ (upd H p o) (if i < ρ.length then α i else p) _ y
        subst hi
        rw [if_neg (by omega), List.getElem?_append_right (by omega)]
        rw [show ρ.length - σ.length = 0 by omega]
        exact hx
    · dsimp only at he
      rcases low e1 with ⟨hi, e1'⟩ | ⟨hi, hy⟩ <;> rcases low e2 with ⟨hj, e2'⟩ | ⟨hj, hz⟩
      · rw [if_pos hi, if_pos hj] at he; exact h2 i j y z e1' e2' o1 o2 he
      · rw [if_pos hi, if_neg (by omega)] at he
        obtain ⟨u, q⟩ := (h1 i y e1').has o1
        rw [he] at q
        exact (ne_none q hp).elim
      · rw [if_neg (by omega), if_pos hj] at he
        obtain ⟨u, q⟩ := (h1 j z e2').has o2
        rw [← he] at q
        exact (ne_none q hp).elim
      · omega
  · refine ⟨R.st.len, R.st.nd, R.st.fr, fun k a o' e1 e2 => (R.st.ok k a o' e1 e2).step (Mono.refl _ _) fun u e' => by rw [upd_ne (ne_of_none e' hp)]; exact e'⟩
  · obtain ⟨q1, q2, q3, q4⟩ := R.prot b u e
    rw [upd_ne (ne_of_none q1 hp)]
    exact ⟨q1, q2, q3, q4⟩
/-- the last slot moves to a name -/
theorem Rel.move {i : Nat} {x : Sl} {sv : Option V} (R : Rel K c F μ (σ ++ [sv]) H (ρ ++ [x], S)) : Rel K c F μ (σ.set i sv) H (ρ.set i x, S) := by
  have hl : (ρ ++ [x]).length = (σ ++ [sv]).length := R.len
  have hl' : ρ.length = σ.length := by simpa using hl
  refine ⟨R.sub, R.ext, R.newF, R.frame, R.mu, by simpa using hl', ?_, R.st, R.prot⟩
  obtain ⟨α, h1, h2⟩ := R.slots
  have up : ∀ {j : Nat} {y : Sl}, ρ[j]? = some y → (ρ ++ [x])[j]? = some y ∧ (σ ++ [sv])[j]? = σ[j]? ∧ j < ρ.length := fun {j y} e => by
    have hi : j < ρ.length := (List.getElem?_eq_some_iff.mp e).1
    exact ⟨by rw [List.getElem?_append_left hi]; exact e, by rw [List.getElem?_append_left (by omega)], hi⟩
  have lastx : (ρ ++ [x])[ρ.length]? = some x := by rw [List.getElem?_append_right (Nat.le_refl _)]; simp
  have lastv : (σ ++ [sv])[ρ.length]? = some sv := by rw [hl', List.getElem?_append_right (Nat.le_refl _)]; simp
  refine ⟨fun j => if j = i then α ρ.length else α j, fun j y e => ?_, fun j k y z e1 e2 o1 o2 he => ?_⟩
  · by_cases hj : i = j
    · subst hj
      have e : (ρ.set i x)[i]? = some y := e
      rw [List.getElem?_set] at e
      simp only [if_true] at e
      split at e
      · rename_i hi
        cases e
        have q := h1 _ _ lastx
        rw [lastv] at q
        dsimp only
        rw [if_pos rfl, List.getElem?_set_self (by omega)]
        exact q
      · cases e
    · have e : (ρ.set i x)[j]? = some y := e
      rw [List.getElem?_set_ne hj] at e
      dsimp only
      rw [if_neg (Ne.symm hj), List.getElem?_set_ne hj]
      have q := h1 j y (up e).1
      rw [(up e).2.1] at q
      exact q
  · have cas : ∀ {j : Nat} {y : Sl}, (ρ.set i x)[j]? = some y → (j = i ∧ i < ρ.length ∧ y = x) ∨ (j ≠ i ∧ ρ[j]? = some y) := fun {j y} e => by
      by_cases hj : i = j
      · subst hj
        rw [List.getElem?_set] at e
        simp only [if_true] at e
        split at e
        · rename_i hi
          cases e
          exact .inl ⟨rfl, hi, rfl⟩
        · cases e
      · rw [List.getElem?_set_ne hj] at e
        exact .inr ⟨Ne.symm hj, e⟩
    dsimp only at he
    rcases cas e1 with ⟨ej, hi, ey⟩ | ⟨hj, f1⟩
    · subst ey
      rcases cas e2 with ⟨ek, hk, ez⟩ | ⟨hk, f2⟩
      · rw [ej, ek]
      · rw [if_pos ej, if_neg hk] at he
        have := h2 _ _ _ _ lastx (up f2).1 o1 o2 he
        have := (up f2).2.2
        omega
    · rcases cas e2 with ⟨ek, hk, ez⟩ | ⟨hk, f2⟩
      · subst ez
        rw [if_neg hj, if_pos ek] at he
        have := h2 _ _ _ _ (up f1).1 lastx o1 o2 he
        have := (up f1).2.2
        omega
      · rw [if_neg hj, if_neg hk] at he
        exact h2 _ _ _ _ (up f1).1 (up f2).1 o1 o2 he
/-- an owned thing is frozen where it stands: the slot holds d from now on -/
theorem Rel.freeze {i : Nat} {x : Sl} {d : D} (R : Rel K c F μ σ H (ρ, S)) (hx : ρ[i]? = some x) (ho : x.isOwn = true) (hd : (∃ ds, x = .own ds ∧ d = .lst ds) ∨ ∃ ds, x = .ownK ds ∧ d = .dct ds) :
    ∃ a F', σ[i]? = some (some (.ref a)) ∧ Rel K c F' μ σ H (ρ.set i (.val d), S) ∧ Mono F μ F' μ ∧ Rep K F' μ d (.ref a) := by
  obtain ⟨α, h1, h2⟩ := R.slots
  have q := h1 i x hx
  obtain ⟨o, e1⟩ := q.has ho
  have e2 := q.fnone ho
  have e3 := q.nmem ho
  have m : Mono F μ (upd F (α i) o) μ := Mono.new e2
  have h0p : c.H0 (α i) = none ∧ c.P (α i) = none := by
    rcases hd with ⟨ds, rfl, rfl⟩ | ⟨ds, rfl, rfl⟩
    · exact q.2.2.1
    · exact q.2.2.1
  have h0 := h0p.1
  have es : σ[i]? = some (some (.ref (α i))) := by
    rcases hd with ⟨ds, rfl, rfl⟩ | ⟨ds, rfl, rfl⟩
    · exact q.1
    · exact q.1
  have rp : Rep K (upd F (α i) o) μ d (.ref (α i)) := by
    rcases hd with ⟨ds, rfl, rfl⟩ | ⟨ds, rfl, rfl⟩
    · obtain ⟨_, _, _, _, vs, h, r⟩ := q
      rw [e1] at h; cases h
      exact .lst upd_same (r.mono m)
    · obtain ⟨_, _, _, _, vs, h, r⟩ := q
      rw [e1] at h; cases h
      exact .dct upd_same (r.mono m)
  refine ⟨α i, upd F (α i) o, es, ?_, m, rp⟩
  have R' : Rel K c (upd F (α i) o) μ σ H (ρ.set i (.val d), S) := by
    have hl : ρ.length = σ.length := R.len
    refine ⟨fun b u e => ?_, R.ext.trans (Same.upd_new e2), fun b u e => ?_, R.frame, R.mu, by simpa using hl, ?_, ?_, fun b u e => ?_⟩
    · by_cases hb : b = α i
      · subst hb; rw [upd_same] at e; cases e; exact e1
      · rw [upd_ne hb] at e; exact R.sub _ _ e
    · by_cases hb : b = α i
      · subst hb; exact .inr h0
      · rw [upd_ne hb] at e; exact R.newF _ _ e
    · have own_ne : ∀ {j : Nat} {y : Sl}, (ρ.set i (.val d))[j]? = some y → y.isOwn = true → ρ[j]? = some y ∧ j ≠ i := fun {j y} e o => by
        by_cases hj : i = j
        · subst hj
          rw [List.getElem?_set] at e
          simp only [if_true] at e
          split at e
          · cases e; cases o
          · cases e
        · rw [List.getElem?_set_ne hj] at e; exact ⟨e, Ne.symm hj⟩
      refine ⟨α, fun j y e => ?_, fun j k y z e1 e2 o1 o2 => h2 j k y z (own_ne e1 o1).1 (own_ne e2 o2).1 o1 o2⟩
      by_cases hj : i = j
      · subst hj
        have e : (ρ.set i (.val d))[i]? = some y := e
        rw [List.getElem?_set] at e
        simp only [if_true] at e
        split at e
        · cases e; exact ⟨_, es, rp⟩
        · cases e
      · have e' : ρ[j]? = some y := by
          have e : (ρ.set i (.val d))[j]? = some y := e
          rw [List.getElem?_set_ne hj] at e; exact e
        refine (h1 j y e').step m (fun oy => ?_) (fun oy => (h1 j y e').nmem oy) fun _ _ z => z
        rw [upd_ne fun z => hj (h2 j i y x e' hx oy ho z).symm]
        exact (h1 j y e').fnone oy
    · refine ⟨R.st.len, R.st.nd, fun a ha => ?_, fun k a o' q1 q2 => (R.st.ok k a o' q1 q2).step m fun _ z => z⟩
      rw [upd_ne (fun z => e3 (by rw [← z]; exact ha))]
      exact R.st.fr a ha
    · obtain ⟨q1, q2, q3, q4⟩ := R.prot b u e
      rw [upd_ne fun z => by subst z; exact ne_none e h0p.2]
      exact ⟨q1, q2, q3, q4⟩
  exact R'
/-- the owned thing of a slot is written -/
theorem Rel.write {i : Nat} {x y : Sl} {o : HO} (R : Rel K c F μ σ H (ρ, S)) (hx : ρ[i]? = some x) (ho : x.isOwn = true) (hy : y.isOwn = true) {a : Addr} (ha : σ[i]? = some (some (.ref a))) (hn : SlOk K c F μ (upd H a o) a (some (some (.ref a))) y) :
    Rel K c F μ σ (upd H a o) (ρ.set i y, S) := by
  obtain ⟨α, h1, h2⟩ := R.slots
  have q := h1 i x hx
  have ea : α i = a := by
    cases x with
    | un => cases ho
    | val d => cases ho
    | own ds => have := q.1; rw [ha] at this; cases this; rfl
    | ownK ds => have := q.1; rw [ha] at this; cases this; rfl
  subst ea
  have e2 := q.fnone ho
  have e3 := q.nmem ho
  have h0p : c.H0 (α i) = none ∧ c.P (α i) = none := by
    cases x with
    | un => cases ho
    | val d => cases ho
    | own ds => exact q.2.2.1
    | ownK ds => exact q.2.2.1
  have h0 := h0p.1
  have hl : ρ.length = σ.length := R.len
  refine ⟨fun b u e => ?_, R.ext, R.newF, fun b u e hb => ?_, R.mu, by simpa using hl, ?_, ?_, fun b u e => ?_⟩
  · rw [upd_ne fun z => by subst z; exact ne_none e e2]; exact R.sub _ _ e
  · rw [upd_ne fun z => by subst z; exact ne_none e h0]; exact R.frame _ _ e hb
  · have cas : ∀ {j : Nat} {z : Sl}, (ρ.set i y)[j]? = some z → (j = i ∧ z = y) ∨ (j ≠ i ∧ ρ[j]? = some z) := fun {j z} e => by
      by_cases hj : i = j
      · subst hj
        rw [List.getElem?_set] at e
        simp only [if_true] at e
        split at e
        · cases e; exact .inl ⟨rfl, rfl⟩
        · cases e
      · rw [List.getElem?_set_ne hj] at e
        exact .inr ⟨Ne.symm hj, e⟩
    refine ⟨α, fun j z e => ?_, fun j k z w' e1 e2 o1 o2 he => ?_⟩
    · rcases cas e with ⟨rfl, rfl⟩ | ⟨hj, e⟩
      · rw [ha]; exact hn
      · refine (h1 j z e).step (Mono.refl _ _) (fun oz => (h1 j z e).fnone oz) (fun oz => (h1 j z e).nmem oz) fun oz u e' => ?_
        rw [upd_ne fun w' => hj (h2 j i z x e hx oz ho w')]; exact e'
    · rcases cas e1 with ⟨ej, ez⟩ | ⟨hj, f1⟩
      · rcases cas e2 with ⟨ek, ew⟩ | ⟨hk, f2⟩
        · rw [ej, ek]
        · rw [ej] at he ⊢; exact h2 _ _ _ _ hx f2 ho o2 he
      · rcases cas e2 with ⟨ek, ew⟩ | ⟨hk, f2⟩
        · rw [ek] at he ⊢; exact h2 _ _ _ _ f1 hx o1 ho he
        · exact h2 _ _ _ _ f1 f2 o1 o2 he
  · refine ⟨R.st.len, R.st.nd, R.st.fr, fun k b o' q1 q2 => (R.st.ok k b o' q1 q2).step (Mono.refl _ _) fun u z => ?_⟩
    rw [upd_ne fun w' => by subst w'; exact e3 (List.mem_of_getElem? q1)]; exact z
  · obtain ⟨q1, q2, q3, q4⟩ := R.prot b u e
    rw [upd_ne fun z => by subst z; exact ne_none e h0p.2]
    exact ⟨q1, q2, q3, q4⟩
/-- a by-reference object is written -/
theorem Rel.writeO {k : Nat} {a : Addr} {ob : O} {o : HO} (R : Rel K c F μ σ H (ρ, S)) (hk : μ[k]? = some a) (hn : OOk K c.cls F μ (upd H a o) a ob) : Rel K c F μ σ (upd H a o) (ρ, S.set k ob) := by
  have hm : a ∈ μ := List.mem_of_getElem? hk
  have e2 := R.st.fr a hm
  refine ⟨fun b u e => ?_, R.ext, R.newF, fun b u e hb => ?_, R.mu, R.len, ?_, ?_, fun b u e => ?_⟩
  · rw [upd_ne fun z => by subst z; exact ne_none e e2]; exact R.sub _ _ e
  · rw [upd_ne fun z => ?_]; exact R.frame _ _ e hb
    subst z
    obtain ⟨ν, e1, h⟩ := R.mu
    rw [e1] at hm
    rcases List.mem_append.mp hm with z | z
    · exact hb z
    · exact ne_none e (h _ z)
  · obtain ⟨α, h1, h2⟩ := R.slots
    refine ⟨α, fun j z e => ?_, h2⟩
    refine (h1 j z e).step (Mono.refl _ _) (fun oz => (h1 j z e).fnone oz) (fun oz => (h1 j z e).nmem oz) fun oz u e' => ?_
    rw [upd_ne (fun w' => (h1 j z e).nmem oz (by rw [w']; exact hm))]; exact e'
  · refine ⟨by show _ = (S.set k ob).length; rw [List.length_set]; exact R.st.len, R.st.nd, R.st.fr, fun j b o' q1 q2 => ?_⟩
    have q2 : (S.set k ob)[j]? = some o' := q2
    by_cases hj : k = j
    · subst hj
      rw [List.getElem?_set] at q2
      simp only [if_true] at q2
      split at q2
      · cases q2
        rw [hk] at q1; cases q1
        exact hn
      · cases q2
    · rw [List.getElem?_set_ne hj] at q2
      refine (R.st.ok j b o' q1 q2).step (Mono.refl _ _) fun u z => ?_
      rw [upd_ne fun w' => ?_]; exact z
      subst w'
      have l1 := (List.getElem?_eq_some_iff.mp hk).1
      have l2 := (List.getElem?_eq_some_iff.mp q1).1
      have e1 := (List.getElem?_eq_some_iff.mp hk).2
      have e2 := (List.getElem?_eq_some_iff.mp q1).2
      exact hj ((List.getElem_inj R.st.nd).mp (e1.trans e2.symm))
  · obtain ⟨q1, q2, q3, q4⟩ := R.prot b u e
    rw [upd_ne fun z => by subst z; exact q3 hm]
    exact ⟨q1, q2, q3, q4⟩
/-- behind a call -/
structure Step (cls : Nat → Addr) (K : PySem.W.Frag) (F : Hp) (μ : List Addr) (H : Hp) (F' : Hp) (μ' : List Addr) (H' : Hp) (S' : List O) : Prop where
  sub : Same F' H'
  ext : Same F F'
  newF : ∀ b o, F' b = some o → F b = some o ∨ H b = none
  frame : ∀ b o, H b = some o → b ∉ μ → H' b = some o
  mu : ∃ ν, μ' = μ ++ ν ∧ ∀ b ∈ ν, H b = none
  st : StOk K cls F' μ' H' S'
theorem Step.mono {cls : Nat → Addr} (t : Step cls K F μ H F' μ' H' S') : Mono F μ F' μ' := ⟨t.ext, fun k a e => by
  obtain ⟨ν, e1, _⟩ := t.mu
  rw [e1, List.getElem?_append_left (List.getElem?_eq_some_iff.mp e).1]; exact e⟩
theorem Rel.step (R : Rel K c F μ σ H (ρ, S)) (t : Step c.cls K F μ H F' μ' H' S') : Rel K c F' μ' σ H' (ρ, S') := by
  have m := t.mono
  obtain ⟨ν, e1, hν⟩ := t.mu
  obtain ⟨ν0, e0, hν0⟩ := R.mu
  refine ⟨t.sub, R.ext.trans t.ext, fun b u e => ?_, fun b u e hb => ?_, ⟨ν0 ++ ν, by rw [e1, e0, List.append_assoc], fun b hb => ?_⟩, R.len, ?_, t.st, fun b u e => ?_⟩
  · rcases t.newF b u e with z | z
    · exact R.newF b u z
    · exact .inr (R.h0none z)
  · refine t.frame b u (R.frame b u e hb) fun z => ?_
    rw [e0] at z
    rcases List.mem_append.mp z with z | z
    · exact hb z
    · exact ne_none e (hν0 _ z)
  · rcases List.mem_append.mp hb with z | z
    · exact hν0 b z
    · exact R.h0none (hν b z)
  · obtain ⟨α, h1, h2⟩ := R.slots
    refine ⟨α, fun i x e => ?_, h2⟩
    have q := h1 i x e
    refine q.step m (fun o => ?_) (fun o => ?_) fun o u e' => t.frame _ _ e' (q.nmem o)
    · obtain ⟨u, e'⟩ := q.has o
      cases z : F' (α i) with
      | none => rfl
      | some w' =>
        rcases t.newF _ _ z with z' | z'
        · exact (ne_none z' (q.fnone o)).elim
        · exact (ne_none e' z').elim
    · rw [e1]
      intro z
      obtain ⟨u, e'⟩ := q.has o
      rcases List.mem_append.mp z with z | z
      · exact q.nmem o z
      · exact (ne_none e' (hν _ z)).elim
  · obtain ⟨q1, q2, q3, q4⟩ := R.prot b u e
    refine ⟨t.frame _ _ q1 q3, ?_, ?_, q4⟩
    · cases z : F' b with
      | none => rfl
      | some w' =>
        rcases t.newF _ _ z with z' | z'
        · exact (ne_none z' q2).elim
        · exact (ne_none q1 z').elim
    · rw [e1]
      intro z
      rcases List.mem_append.mp z with z | z
      · exact q3 z
      · exact (ne_none q1 (hν _ z)).elim
theorem Rel.pnone (R : Rel K c F μ σ H s) {p : Addr} (h : H p = none) : c.P p = none := by
  cases q : c.P p with
  | none => rfl
  | some o => exact (ne_none (R.prot _ _ q).1 h).elim
/-- an owned thing held apart -/
theorem Rel.hold {p : Addr} {o : HO} (R : Rel K c F μ σ H s) (hp : H p = none) : Rel K { c with P := upd c.P p o } F μ σ (upd H p o) s := by
  have hF := R.fnone hp
  have h0 := R.h0none hp
  refine ⟨R.sub.trans (Same.upd_new hp), R.ext, R.newF, fun b u e hb => ?_, R.mu, R.len, ?_, ?_, fun b u e => ?_⟩
  · rw [upd_ne (ne_of_none (R.frame _ _ e hb) hp)]; exact R.frame _ _ e hb
  · obtain ⟨α, h1, h2⟩ := R.slots
    refine ⟨α, fun i x e => ?_, h2⟩
    have q := h1 i x e
    cases x with
    | un => trivial
    | val d => exact q
    | own ds =>
      obtain ⟨q1, q2, ⟨q3, q3'⟩, q4, vs, q5, q6⟩ := q
      exact ⟨q1, q2, ⟨q3, by show upd c.P p o (α i) = none; rw [upd_ne (ne_of_none q5 hp)]; exact q3'⟩, q4, vs, by rw [upd_ne (ne_of_none q5 hp)]; exact q5, q6⟩
    | ownK ds =>
      obtain ⟨q1, q2, ⟨q3, q3'⟩, q4, vs, q5, q6⟩ := q
      exact ⟨q1, q2, ⟨q3, by show upd c.P p o (α i) = none; rw [upd_ne (ne_of_none q5 hp)]; exact q3'⟩, q4, vs, by rw [upd_ne (ne_of_none q5 hp)]; exact q5, q6⟩
  · refine ⟨R.st.len, R.st.nd, R.st.fr, fun k a o' e1 e2 => (R.st.ok k a o' e1 e2).step (Mono.refl _ _) fun u e' => by rw [upd_ne (ne_of_none e' hp)]; exact e'⟩
  · have e : upd c.P p o b = some u := e
    by_cases hb : b = p
    · subst hb
      rw [upd_same] at e ⊢
      refine ⟨e, hF, fun hm => ?_, h0⟩
      obtain ⟨u', e'⟩ := R.st.has hm
      exact ne_none e' hp
    · rw [upd_ne hb] at e ⊢
      exact R.prot b u e
/-- the held thing is written -/
theorem Rel.holdW {p : Addr} {o o' : HO} (R : Rel K { c with P := upd c.P p o } F μ σ H s) : Rel K { c with P := upd c.P p o' } F μ σ (upd H p o') s := by
  obtain ⟨p1, p2, p3, p4⟩ := R.prot p o upd_same
  refine ⟨fun b u e => ?_, R.ext, R.newF, fun b u e hb => ?_, R.mu, R.len, ?_, ?_, fun b u e => ?_⟩
  · rw [upd_ne fun z => by subst z; exact ne_none e p2]; exact R.sub _ _ e
  · rw [upd_ne fun z => by subst z; exact ne_none e p4]; exact R.frame _ _ e hb
  · obtain ⟨α, h1, h2⟩ := R.slots
    refine ⟨α, fun i x e => ?_, h2⟩
    have q := h1 i x e
    have nep : upd c.P p o (α i) = none → α i ≠ p := fun h z => by rw [z, upd_same] at h; cases h
    cases x with
    | un => trivial
    | val d => exact q
    | own ds =>
      obtain ⟨q1, q2, ⟨q3, q3'⟩, q4, vs, q5, q6⟩ := q
      have n := nep q3'
      have q3' : upd c.P p o (α i) = none := q3'
      rw [upd_ne n] at q3'
      exact ⟨q1, q2, ⟨q3, by show upd c.P p o' (α i) = none; rw [upd_ne n]; exact q3'⟩, q4, vs, by rw [upd_ne n]; exact q5, q6⟩
    | ownK ds =>
      obtain ⟨q1, q2, ⟨q3, q3'⟩, q4, vs, q5, q6⟩ := q
      have n := nep q3'
      have q3' : upd c.P p o (α i) = none := q3'
      rw [upd_ne n] at q3'
      exact ⟨q1, q2, ⟨q3, by show upd c.P p o' (α i) = none; rw [upd_ne n]; exact q3'⟩, q4, vs, by rw [upd_ne n]; exact q5, q6⟩
  · refine ⟨R.st.len, R.st.nd, R.st.fr, fun k a ob e1 e2 => (R.st.ok k a ob e1 e2).step (Mono.refl _ _) fun u e' => ?_⟩
    rw [upd_ne fun z => by subst z; exact p3 (List.mem_of_getElem? e1)]; exact e'
  · have e : upd c.P p o' b = some u := e
    by_cases hb : b = p
    · subst hb
      rw [upd_same] at e ⊢
      exact ⟨e, p2, p3, p4⟩
    · rw [upd_ne hb] at e ⊢
      exact R.prot b u (by show upd c.P p o b = some u; rw [upd_ne hb]; exact e)
/-- the held thing becomes a slot -/
theorem Rel.unhold {p : Addr} {o : HO} {x : Sl} (R : Rel K { c with P := upd c.P p o } F μ σ H (ρ, S)) (hP : c.P p = none) (hx : (∃ ds vs, x = .own ds ∧ o = .lst vs ∧ Reps K F μ ds vs) ∨ ∃ ds vs, x = .ownK ds ∧ o = .dK vs ∧ RepKs K F μ ds vs) :
    Rel K c F μ (σ ++ [some (.ref p)]) H (ρ ++ [x], S) := by
  obtain ⟨p1, p2, p3, p4⟩ := R.prot p o upd_same
  have hl' : ρ.length = σ.length := R.len
  refine ⟨R.sub, R.ext, R.newF, R.frame, R.mu, by show (ρ ++ [x]).length = _; simp [hl'], ?_, R.st, fun b u e => ?_⟩
  · obtain ⟨α, h1, h2⟩ := R.slots
    have low : ∀ {i : Nat} {y : Sl}, (ρ ++ [x])[i]? = some y → (i < ρ.length ∧ ρ[i]? = some y) ∨ (i = ρ.length ∧ y = x) := fun {i y} e => by
      by_cases hi : i < ρ.length
      · rw [List.getElem?_append_left hi] at e; exact .inl ⟨hi, e⟩
      · rw [List.getElem?_append_right (by omega)] at e
        have : i - ρ.length = 0 := by
          cases h : i - ρ.length with
          | zero => rfl
          | succ n => rw [h] at e; simp at e
        rw [this] at e
        simp at e
        exact .inr ⟨by omega, e.symm⟩
    have nep : ∀ {i : Nat} {y : Sl}, ρ[i]? = some y → y.isOwn = true → α i ≠ p := fun {i y} e oy z => by
      have q := h1 i y e
      cases y with
      | un => cases oy
      | val d => cases oy
      | own ds => have q3 : upd c.P p o (α i) = none := q.2.2.1.2; rw [z, upd_same] at q3; cases q3
      | ownK ds => have q3 : upd c.P p o (α i) = none := q.2.2.1.2; rw [z, upd_same] at q3; cases q3
    refine ⟨fun i => if i < ρ.length then α i else p, fun i y e => ?_, fun i j y z e1 e2 o1 o2 he => ?_⟩
    · rcases low e with ⟨hi, e⟩ | ⟨hi, rfl⟩
      · dsimp only
        rw [if_pos hi, List.getElem?_append_left (by omega)]
        have q := h1 i y e
        cases y with
        | un => trivial
        | val d => exact q
        | own ds =>
          obtain ⟨q1, q2, ⟨q3, q3'⟩, q4⟩ := q
          have q3' : upd c.P p o (α i) = none := q3'
          rw [upd_ne (nep e rfl)] at q3'
          exact ⟨q1, q2, ⟨q3, q3'⟩, q4⟩
        | ownK ds =>
          obtain ⟨q1, q2, ⟨q3, q3'⟩, q4⟩ := q
          have q3' : upd c.P p o (α i) = none := q3'
          rw [upd_ne (nep e rfl)] at q3'
          exact ⟨q1, q2, ⟨q3, q3'⟩, q4⟩
      · dsimp only
        rw [if_neg (by omega), List.getElem?_append_right (by omega)]
        rw [show i - σ.length = 0 by omega]
        rcases hx with ⟨ds, vs, rfl, rfl, r⟩ | ⟨ds, vs, rfl, rfl, r⟩
        · exact ⟨rfl, p2, ⟨p4, hP⟩, p3, vs, p1, r⟩
        · exact ⟨rfl, p2, ⟨p4, hP⟩, p3, vs, p1, r⟩
    · dsimp only at he
      rcases low e1 with ⟨hi, e1'⟩ | ⟨hi, hy⟩
      · rcases low e2 with ⟨hj, e2'⟩ | ⟨hj, hz⟩
        · rw [if_pos hi, if_pos hj] at he; exact h2 i j y z e1' e2' o1 o2 he
        · rw [if_pos hi, if_neg (by omega)] at he; exact (nep e1' o1 he).elim
      · rcases low e2 with ⟨hj, e2'⟩ | ⟨hj, hz⟩
        · rw [if_neg (by omega), if_pos hj] at he; exact (nep e2' o2 he.symm).elim
        · omega
  · refine R.prot b u ?_
    show upd c.P p o b = some u
    rw [upd_ne fun z => by subst z; exact ne_none e hP]; exact e
/-- names forgotten -/
theorem Rel.forget {i : Nat} {sv : Option V} (R : Rel K c F μ σ H (ρ, S)) : Rel K c F μ (σ.set i sv) H (ρ.set i .un, S) := by
  refine ⟨R.sub, R.ext, R.newF, R.frame, R.mu, by simpa using R.len, ?_, R.st, R.prot⟩
  obtain ⟨α, h1, h2⟩ := R.slots
  have cas : ∀ {j : Nat} {z : Sl}, (ρ.set i .un)[j]? = some z → (j = i ∧ z = .un) ∨ (j ≠ i ∧ ρ[j]? = some z) := fun {j z} e => by
    by_cases hj : i = j
    · subst hj
      rw [List.getElem?_set] at e
      simp only [if_true] at e
      split at e
      · cases e; exact .inl ⟨rfl, rfl⟩
      · cases e
    · rw [List.getElem?_set_ne hj] at e
      exact .inr ⟨Ne.symm hj, e⟩
  refine ⟨α, fun j z e => ?_, fun j k y z e1 e2 o1 o2 he => ?_⟩
  · rcases cas e with ⟨rfl, rfl⟩ | ⟨hj, e⟩
    · trivial
    · rw [List.getElem?_set_ne (Ne.symm hj)]; exact h1 j z e
  · rcases cas e1 with ⟨_, w1⟩ | ⟨hj, f1⟩
    · subst w1; cases o1
    · rcases cas e2 with ⟨_, w2⟩ | ⟨hk, f2⟩
      · subst w2; cases o2
      · exact h2 j k y z f1 f2 o1 o2 he
end
end DL

set_option Elab.async false
set_option linter.all false
set_option maxRecDepth 100000
namespace DL
open PySem PySem.Spec PyProof.Rows L2

theorem imp {X : Cx} {e : Expr} {t t' : TE} (h : PE X e t) (k : ∀ σ H Q, t' σ H Q → t σ H Q) : PE X e t' := ⟨fun pins s σ H Q I w => h.run pins s σ H Q I (k _ _ _ w)⟩
theorem impT {X : Cx} {e : Expr} {t t' : TT} (h : PT X e t) (k : ∀ σ H Q, t' σ H Q → t σ H Q) : PT X e t' := ⟨fun pins s σ H Q I w => h.run pins s σ H Q I (k _ _ _ w)⟩
theorem impW {X : Cx} {e : Expr} {t t' : TT} (h : PW X e t) (k : ∀ σ H Q, t' σ H Q → t σ H Q) : PW X e t' := ⟨fun wh pins s σ H Q I w => h.run wh pins s σ H Q I (k _ _ _ w)⟩
theorem impA {X : Cx} {e : List Expr} {t t' : TA} (h : PA X e t) (k : ∀ σ H Q, t' σ H Q → t σ H Q) : PA X e t' := ⟨fun pos pins s σ H Q I w => h.run pos pins s σ H Q I (k _ _ _ w)⟩
theorem impS {X : Cx} {e : Stmt} {t t' : TS} (h : PS X e t) (k : ∀ D σ H, t' D σ H → t D σ H) : PS X e t' := ⟨fun pins s σ H D I w => h.run pins s σ H D I (k _ _ _ w)⟩
theorem impSs {X : Cx} {e : List Stmt} {t t' : TS} (h : PSs X e t) (k : ∀ D σ H, t' D σ H → t D σ H) : PSs X e t' := ⟨fun pins s σ H D I w => h.run pins s σ H D I (k _ _ _ w)⟩

/-! ### what an evaluator asks -/
def TD (K : PySem.W.Frag) (cls : Nat → Addr) (f : Ev D) : TE := fun σ H Q => ∃ c F μ s, c.cls = cls ∧ Rel K c F μ σ H s ∧ ∃ d s', f s = some (d, s') ∧
  ∀ v H' F' μ', Rel K c F' μ' σ H' s' → Mono F μ F' μ' → Rep K F' μ' d v → Q v H'
def TDT (K : PySem.W.Frag) (cls : Nat → Addr) (f : Ev Bool) : TT := fun σ H Q => ∃ c F μ s, c.cls = cls ∧ Rel K c F μ σ H s ∧ ∃ d s', f s = some (d, s') ∧
  ∀ H' F' μ', Rel K c F' μ' σ H' s' → Mono F μ F' μ' → Q d H'
def TDA (K : PySem.W.Frag) (cls : Nat → Addr) (f : Ev (List D)) : TA := fun σ H Q => ∃ c F μ s, c.cls = cls ∧ Rel K c F μ σ H s ∧ ∃ d s', f s = some (d, s') ∧
  ∀ v H' F' μ', Rel K c F' μ' σ H' s' → Mono F μ F' μ' → Reps K F' μ' d v → Q v H'
/-- a new list of its own -/
def TDF (K : PySem.W.Frag) (cls : Nat → Addr) (f : Ev (List D)) : TE := fun σ H Q => ∃ c F μ ρ S, c.cls = cls ∧ Rel K c F μ σ H (ρ, S) ∧ ∃ d ρ' S', f (ρ, S) = some (d, (ρ', S')) ∧
  ∀ v H' F' μ', Rel K c F' μ' (σ ++ [some v]) H' (ρ' ++ [.own d], S') → Mono F μ F' μ' → Q v H'
/-- a new dict of its own -/
def TDK (K : PySem.W.Frag) (cls : Nat → Addr) (f : Ev (List (DK × D))) : TE := fun σ H Q => ∃ c F μ ρ S, c.cls = cls ∧ Rel K c F μ σ H (ρ, S) ∧ ∃ d ρ' S', f (ρ, S) = some (d, (ρ', S')) ∧
  ∀ v H' F' μ', Rel K c F' μ' (σ ++ [some v]) H' (ρ' ++ [.ownK d], S') → Mono F μ F' μ' → Q v H'
abbrev DE (cls : Nat → Addr) (X : Cx) (e : Expr) (f : Ev D) : Prop := PE X e (TD X.K cls f)
abbrev DT (cls : Nat → Addr) (X : Cx) (e : Expr) (f : Ev Bool) : Prop := PT X e (TDT X.K cls f)
abbrev DW (cls : Nat → Addr) (X : Cx) (e : Expr) (f : Ev Bool) : Prop := PW X e (TDT X.K cls f)
abbrev DA (cls : Nat → Addr) (X : Cx) (e : List Expr) (f : Ev (List D)) : Prop := PA X e (TDA X.K cls f)
abbrev DF (cls : Nat → Addr) (X : Cx) (e : Expr) (f : Ev (List D)) : Prop := PE X e (TDF X.K cls f)
abbrev DFK (cls : Nat → Addr) (X : Cx) (e : Expr) (f : Ev (List (DK × D))) : Prop := PE X e (TDK X.K cls f)

section
variable {cls : Nat → Addr} {X : Cx} {a b e e' : Expr} {f g h : Ev D} {p q : Ev Bool} {pos : Pos} {es : List Expr}

/-! ### names, constants -/
def eVar (i : Nat) : Ev D := fun s => match s.1[i]? with
  | some (.val d) => some (d, s)
  | _ => none
theorem de_var (i : Nat) {x : Str} (hN : X.N[i]? = some x := by rfl) (hv : Vis X.env.scope x := by first | exact Or.inl rfl | exact Or.inr (Or.inl rfl) | exact Or.inr (Or.inr rfl)) (hd : (x == ("__debug__" : Str)) = false := by decide)
    (hcd : (x == ("__classdict__" : Str)) = false := by decide) : DE cls X (.Name x pos) (eVar i) := by
  refine imp (pe_var hN hv hd hcd) fun σ H Q ⟨c, F, μ, s, _, R, d, s', e, k⟩ => ?_
  unfold eVar at e
  split at e
  · rename_i d' hd
    cases e
    obtain ⟨α, h1, _⟩ := R.slots
    obtain ⟨v, ev, r⟩ := h1 i _ hd
    exact ⟨v, ev, k v H F μ R (Mono.refl _ _) r⟩
  · cases e
/-- a name whose owned list (dict) is given out: frozen from now on -/
def eOut (i : Nat) : Ev D := fun s => match s.1[i]? with
  | some (.val d) => some (d, s)
  | some (.own ds) => some (.lst ds, (s.1.set i (.val (.lst ds)), s.2))
  | some (.ownK ds) => some (.dct ds, (s.1.set i (.val (.dct ds)), s.2))
  | _ => none
theorem de_out (i : Nat) {x : Str} (hN : X.N[i]? = some x := by rfl) (hv : Vis X.env.scope x := by first | exact Or.inl rfl | exact Or.inr (Or.inl rfl) | exact Or.inr (Or.inr rfl)) (hd : (x == ("__debug__" : Str)) = false := by decide)
    (hcd : (x == ("__classdict__" : Str)) = false := by decide) : DE cls X (.Name x pos) (eOut i) := by
  refine imp (pe_var hN hv hd hcd) fun σ H Q ⟨c, F, μ, s, _, R, d, s', e, k⟩ => ?_
  obtain ⟨ρ, S⟩ := s
  unfold eOut at e
  split at e
  · rename_i d' hd
    cases e
    obtain ⟨α, h1, _⟩ := R.slots
    obtain ⟨v, ev, r⟩ := h1 i _ hd
    exact ⟨v, ev, k v H F μ R (Mono.refl _ _) r⟩
  · rename_i ds hd
    cases e
    obtain ⟨a, F', e1, R', m, r⟩ := R.freeze hd rfl (.inl ⟨ds, rfl, rfl⟩)
    exact ⟨_, e1, k _ _ _ _ R' m r⟩
  · rename_i ds hd
    cases e
    obtain ⟨a, F', e1, R', m, r⟩ := R.freeze hd rfl (.inr ⟨ds, rfl, rfl⟩)
    exact ⟨_, e1, k _ _ _ _ R' m r⟩
  · cases e
theorem de_const {d : D} {v : V} (h : PE X e (tC v)) (r : ∀ F μ, Rep X.K F μ d v) : DE cls X e (ret d) := by
  refine imp h fun σ H Q ⟨c, F, μ, s, _, R, d', s', e, k⟩ => ?_
  obtain ⟨e1, e2⟩ := ret_some e
  subst e1 e2
  exact k v H F μ R (Mono.refl _ _) (r F μ)
theorem de_int {i j} : DE cls X (.Constant (.int i) j pos) (ret (.int i)) := de_const pe_int fun _ _ => .int i
theorem de_bl {i j} : DE cls X (.Constant (.bool i) j pos) (ret (.bl i)) := de_const pe_bl fun _ _ => .bl i
theorem de_non {j} : DE cls X (.Constant .none j pos) (ret .non) := de_const pe_non fun _ _ => .non
theorem de_str {x : Str} {j} (s : List Nat) (hx : x = mkS s := by decide +kernel) : DE cls X (.Constant (.str x) j pos) (ret (.str s)) := by
  subst hx
  exact de_const pe_str fun _ _ => .str s
/-- a name of the module -/
theorem de_glob {d : D} {x : Str} {v : V} {u : Value} (hg : Gl X x) (hm : X.mg x = some u) (r : RelV v u) (rp : ∀ F μ, Rep X.K F μ d v) (hd : (x == ("__debug__" : Str)) = false := by decide) : DE cls X (.Name x pos) (ret d) :=
  de_const (pe_glob hg hm r hd) rp

/-! ### operators -/
/-- an operation on values and on data -/
def OpD (X : Cx) (fo : Value → Value → Sem Value) (op : D → D → Option D) : Prop :=
  ∃ r : R2, OpR X fo r ∧ ∀ (c : Ct) (F : Hp) (μ : List Addr) (σ : L2.St) (H : Hp) (s : Sto) (x y : V) (d e z : D) (Q : VK), Rel X.K c F μ σ H s → Rep X.K F μ d x → Rep X.K F μ e y → op d e = some z →
    (∀ v H' F' μ', Rel X.K c F' μ' σ H' s → Mono F μ F' μ' → Rep X.K F' μ' z v → Q v H') → r x y H Q
def eBin (op : D → D → Option D) (f g : Ev D) : Ev D := bnd f fun x => bnd g fun y => lft (op x y)
theorem run_bin {op : D → D → Option D} {r : R2} (hr : ∀ (c : Ct) (F : Hp) (μ : List Addr) (σ : L2.St) (H : Hp) (s : Sto) (x y : V) (d e z : D) (Q : VK), Rel X.K c F μ σ H s → Rep X.K F μ d x → Rep X.K F μ e y → op d e = some z →
    (∀ v H' F' μ', Rel X.K c F' μ' σ H' s → Mono F μ F' μ' → Rep X.K F' μ' z v → Q v H') → r x y H Q) (σ : L2.St) (H : Hp) (Q : VK) (w : TD X.K cls (eBin op f g) σ H Q) : tOp r (TD X.K cls f) (TD X.K cls g) σ H Q := by
  obtain ⟨c, F, μ, s, hc, R, z, s', e, k⟩ := w
  obtain ⟨x, s1, e1, e_1⟩ := bnd_some e
  obtain ⟨y, s2, e2, e_2⟩ := bnd_some e_1
  obtain ⟨e3, rfl⟩ := lft_some e_2
  refine ⟨c, F, μ, s, hc, R, x, s1, e1, fun v H1 F1 μ1 R1 m1 r1 => ⟨c, F1, μ1, s1, hc, R1, y, s', e2, fun u H2 F2 μ2 R2 m2 r2 => ?_⟩⟩
  exact hr c F2 μ2 σ H2 s' v u x y z Q R2 (r1.mono m2) r2 e3 fun v' H' F' μ' R' m' r' => k v' H' F' μ' R' (m1.trans (m2.trans m')) r'
theorem de_op {op : Operator} {o : D → D → Option D} (ho : OpD X (binaryOp op) o) (ha : DE cls X a f) (hb : DE cls X b g) : DE cls X (.BinOp a op b pos) (eBin o f g) := by
  obtain ⟨r, h1, h2⟩ := ho
  exact imp (pe_op h1 ha hb) (run_bin h2)
theorem de_cmp {op : CmpOp} {o : D → D → Option D} (ho : OpD X (compareOp op) o) (ha : DE cls X a f) (hb : DE cls X b g) (hm : behindInMarks op b = false) : DE cls X (.Compare a [op] [b] pos) (eBin o f g) := by
  obtain ⟨r, h1, h2⟩ := ho
  exact imp (pe_cmpR h1 ha hb hm) (run_bin h2)
/-- a datum's truth where it is a bool -/
def asB : D → Option Bool
  | .bl b => some b
  | _ => none
def eB (f : Ev D) : Ev Bool := bnd f fun x => lft (asB x)
theorem asB_some {d : D} {k : Bool} (h : asB d = some k) : d = .bl k := by
  cases d <;> simp [asB] at h
  subst h; rfl
theorem Rep.bl_inv {K : PySem.W.Frag} {F : Hp} {μ : List Addr} {k : Bool} {v : V} (r : Rep K F μ (.bl k) v) : v = .bl k := by cases r; rfl
theorem Rep.int_inv {K : PySem.W.Frag} {F : Hp} {μ : List Addr} {k : Int} {v : V} (r : Rep K F μ (.int k) v) : v = .int k := by cases r; rfl
theorem Rep.str_inv {K : PySem.W.Frag} {F : Hp} {μ : List Addr} {k : List Nat} {v : V} (r : Rep K F μ (.str k) v) : v = .str (mkS k) := by cases r; rfl
theorem run_B {f : Ev D} (σ : L2.St) (H : Hp) (Q : Bool → Hp → Prop) (w : TDT X.K cls (eB f) σ H Q) : TD X.K cls f σ H (fun x H' => ∃ k, x = .bl k ∧ Q k H') := by
  obtain ⟨c, F, μ, s, hc, R, z, s', e, k⟩ := w
  obtain ⟨x, s1, e1, e_1⟩ := bnd_some e
  obtain ⟨e3, rfl⟩ := lft_some e_1
  have := asB_some e3
  subst this
  exact ⟨c, F, μ, s, hc, R, _, s', e1, fun v H1 F1 μ1 R1 m1 r1 => ⟨z, r1.bl_inv, k H1 F1 μ1 R1 m1⟩⟩
theorem dt_cmp {op : CmpOp} {o : D → D → Option D} (ho : OpD X (compareOp op) o) (ha : DE cls X a f) (hb : DE cls X b g) (hm : behindInMarks op b = false) : DT cls X (.Compare a [op] [b] pos) (eB (eBin o f g)) := by
  obtain ⟨r, h1, h2⟩ := ho
  refine impT (pt_cmpR h1 ha hb hm) fun σ H Q w => ?_
  exact run_bin h2 σ H _ (run_B σ H Q w)
/-- a op b op' c -/
def eChain (o o' : D → D → Option D) (f g h : Ev D) : Ev D := bnd f fun x => bnd g fun y => bnd (lft (o x y)) fun z => bnd (lft (asB z)) fun k => if k = true then bnd h fun w => lft (o' y w) else ret (.bl false)
theorem run_chain {o o' : D → D → Option D} {r r' : R2} (hr : ∀ (c : Ct) (F : Hp) (μ : List Addr) (σ : L2.St) (H : Hp) (s : Sto) (x y : V) (d e z : D) (Q : VK), Rel X.K c F μ σ H s → Rep X.K F μ d x → Rep X.K F μ e y → o d e = some z →
    (∀ v H' F' μ', Rel X.K c F' μ' σ H' s → Mono F μ F' μ' → Rep X.K F' μ' z v → Q v H') → r x y H Q) (hr' : ∀ (c : Ct) (F : Hp) (μ : List Addr) (σ : L2.St) (H : Hp) (s : Sto) (x y : V) (d e z : D) (Q : VK), Rel X.K c F μ σ H s → Rep X.K F μ d x → Rep X.K F μ e y → o' d e = some z →
    (∀ v H' F' μ', Rel X.K c F' μ' σ H' s → Mono F μ F' μ' → Rep X.K F' μ' z v → Q v H') → r' x y H Q) (σ : L2.St) (H : Hp) (Q : VK) (w : TD X.K cls (eChain o o' f g h) σ H Q) : tChain r r' (TD X.K cls f) (TD X.K cls g) (TD X.K cls h) σ H Q := by
  obtain ⟨c, F, μ, s, hc, R, z, s', e, k⟩ := w
  obtain ⟨x, s1, e1, e_1⟩ := bnd_some e
  obtain ⟨y, s2, e2, e_2⟩ := bnd_some e_1
  obtain ⟨z1, s3, p3, e_3⟩ := bnd_some e_2
  obtain ⟨q3, w3⟩ := lft_some p3
  obtain ⟨kb, s4, p4, e_4⟩ := bnd_some e_3
  obtain ⟨q4, w4⟩ := lft_some p4
  have w5 := asB_some q4
  subst w4 w3 w5
  refine ⟨c, F, μ, s, hc, R, x, s1, e1, fun v H1 F1 μ1 R1 m1 r1 => ⟨c, F1, μ1, s1, hc, R1, y, s4, e2, fun u H2 F2 μ2 R2 m2 r2 => ?_⟩⟩
  refine hr c F2 μ2 σ H2 s4 v u x y _ _ R2 (r1.mono m2) r2 q3 fun v' H3 F3 μ3 R3 m3 r3 => ⟨kb, r3.bl_inv, ?_⟩
  cases kb with
  | true =>
    rw [if_pos rfl] at e_4
    rw [if_pos rfl]
    obtain ⟨w', s5, e5, e_5⟩ := bnd_some e_4
    obtain ⟨e6, rfl⟩ := lft_some e_5
    refine ⟨c, F3, μ3, s4, hc, R3, w', s', e5, fun u' H4 F4 μ4 R4 m4 r4 => ?_⟩
    exact hr' c F4 μ4 σ H4 s' u u' y w' z Q R4 (r2.mono (m3.trans m4)) r4 e6 fun v5 H5 F5 μ5 R5 m5 r5 => k v5 H5 F5 μ5 R5 (m1.trans (m2.trans (m3.trans (m4.trans m5)))) r5
  | false =>
    rw [if_neg Bool.false_ne_true] at e_4
    rw [if_neg Bool.false_ne_true]
    obtain ⟨rfl, rfl⟩ := ret_some e_4
    exact k _ H3 F3 μ3 R3 (m1.trans (m2.trans m3)) (.bl false)
theorem de_chain {op op' : CmpOp} {o o' : D → D → Option D} {c : Expr} (ho : OpD X (compareOp op) o) (ho' : OpD X (compareOp op') o') (ha : DE cls X a f) (hb : DE cls X b g) (hc : DE cls X c h) (hm : lastMarks [op, op'] [b, c] = false := by with_unfolding_all rfl) :
    DE cls X (.Compare a [op, op'] [b, c] pos) (eChain o o' f g h) := by
  obtain ⟨r, h1, h2⟩ := ho
  obtain ⟨r', h1', h2'⟩ := ho'
  exact imp (pe_chain h1 h1' ha hb hc hm) (run_chain h2 h2')
theorem dt_chain {op op' : CmpOp} {o o' : D → D → Option D} {c : Expr} (ho : OpD X (compareOp op) o) (ho' : OpD X (compareOp op') o') (ha : DE cls X a f) (hb : DE cls X b g) (hc : DE cls X c h) (hm : lastMarks [op, op'] [b, c] = false := by with_unfolding_all rfl) :
    DT cls X (.Compare a [op, op'] [b, c] pos) (eB (eChain o o' f g h)) := by
  obtain ⟨r, h1, h2⟩ := ho
  obtain ⟨r', h1', h2'⟩ := ho'
  refine impT (pt_chain h1 h1' ha hb hc hm) fun σ H Q w => ?_
  exact run_chain h2 h2' σ H _ (run_B σ H Q w)
theorem dt_val (he : DE cls X e f) (hi : ∀ whole, isTrue e X.env whole = (do let v ← whole; standAt e.pos; holding [v] (truthy v)) := by intro _; rfl) : DT cls X e (eB f) := by
  refine impT (pt_val he hi) fun σ H Q w => ?_
  exact run_B σ H Q w

/-! ### tests -/
def eAndT (p q : Ev Bool) : Ev Bool := bnd p fun k => if k = true then q else ret false
def eOrT (p q : Ev Bool) : Ev Bool := bnd p fun k => if k = true then ret true else q
def eNotT (p : Ev Bool) : Ev Bool := bnd p fun k => ret (!k)
theorem dw_and1 (ha : DT cls X a p) : DW cls X (.BoolOp .And [a] pos) p := pw_and1 ha
theorem dw_or1 (ha : DT cls X a p) : DW cls X (.BoolOp .Or [a] pos) p := pw_or1 ha
theorem dw_and (ha : DT cls X a p) (hb : DW cls X (.BoolOp .And (b :: es) pos) q) : DW cls X (.BoolOp .And (a :: b :: es) pos) (eAndT p q) := by
  refine impW (pw_and ha hb) fun σ H Q ⟨c, F, μ, s, hc, R, z, s', e, k⟩ => ?_
  obtain ⟨x, s1, e1, e_1⟩ := bnd_some e
  refine ⟨c, F, μ, s, hc, R, x, s1, e1, fun H1 F1 μ1 R1 m1 => ?_⟩
  cases x with
  | true =>
    rw [if_pos rfl] at e_1 ⊢
    exact ⟨c, F1, μ1, s1, hc, R1, z, s', e_1, fun H2 F2 μ2 R2 m2 => k H2 F2 μ2 R2 (m1.trans m2)⟩
  | false =>
    rw [if_neg Bool.false_ne_true] at e_1 ⊢
    obtain ⟨rfl, rfl⟩ := ret_some e_1
    exact k H1 F1 μ1 R1 m1
theorem dw_or (ha : DT cls X a p) (hb : DW cls X (.BoolOp .Or (b :: es) pos) q) : DW cls X (.BoolOp .Or (a :: b :: es) pos) (eOrT p q) := by
  refine impW (pw_or ha hb) fun σ H Q ⟨c, F, μ, s, hc, R, z, s', e, k⟩ => ?_
  obtain ⟨x, s1, e1, e_1⟩ := bnd_some e
  refine ⟨c, F, μ, s, hc, R, x, s1, e1, fun H1 F1 μ1 R1 m1 => ?_⟩
  cases x with
  | true =>
    rw [if_pos rfl] at e_1 ⊢
    obtain ⟨rfl, rfl⟩ := ret_some e_1
    exact k H1 F1 μ1 R1 m1
  | false =>
    rw [if_neg Bool.false_ne_true] at e_1 ⊢
    exact ⟨c, F1, μ1, s1, hc, R1, z, s', e_1, fun H2 F2 μ2 R2 m2 => k H2 F2 μ2 R2 (m1.trans m2)⟩
theorem dt_w (h : DW cls X e p) : DT cls X e p := h.pt
theorem dt_not (ha : DT cls X a p) : DT cls X (.UnaryOp .Not a pos) (eNotT p) := by
  refine impT (pt_not ha) fun σ H Q ⟨c, F, μ, s, hc, R, z, s', e, k⟩ => ?_
  obtain ⟨x, s1, e1, e_1⟩ := bnd_some e
  obtain ⟨rfl, rfl⟩ := ret_some e_1
  exact ⟨c, F, μ, s, hc, R, x, s', e1, fun H1 F1 μ1 R1 m1 => k H1 F1 μ1 R1 m1⟩
/-- .. as values: bools -/
def eAnd (f g : Ev D) : Ev D := bnd f fun x => bnd (lft (asB x)) fun k => if k = true then g else ret (.bl false)
def eOr (f g : Ev D) : Ev D := bnd f fun x => bnd (lft (asB x)) fun k => if k = true then ret (.bl true) else g
def eNot (f : Ev D) : Ev D := bnd f fun x => bnd (lft (asB x)) fun k => ret (.bl (!k))
theorem de_one {op} (ha : DE cls X a f) : DE cls X (.BoolOp op [a] pos) f := pe_one ha
theorem de_and (ha : DE cls X a f) (hb : DE cls X (.BoolOp .And (b :: es) pos) g) : DE cls X (.BoolOp .And (a :: b :: es) pos) (eAnd f g) := by
  refine imp (pe_and ha hb) fun σ H Q ⟨c, F, μ, s, hc, R, z, s', e, k⟩ => ?_
  obtain ⟨x, s1, e1, e_1⟩ := bnd_some e
  obtain ⟨kb, s2, p2, e_2⟩ := bnd_some e_1
  obtain ⟨q2, w2⟩ := lft_some p2
  have w3 := asB_some q2
  subst w2 w3
  refine ⟨c, F, μ, s, hc, R, _, s2, e1, fun v H1 F1 μ1 R1 m1 r1 => ⟨kb, r1.bl_inv, ?_⟩⟩
  cases kb with
  | true =>
    rw [if_pos rfl] at e_2 ⊢
    exact ⟨c, F1, μ1, s2, hc, R1, z, s', e_2, fun v H2 F2 μ2 R2 m2 r2 => k v H2 F2 μ2 R2 (m1.trans m2) r2⟩
  | false =>
    rw [if_neg Bool.false_ne_true] at e_2 ⊢
    obtain ⟨rfl, rfl⟩ := ret_some e_2
    exact k _ H1 F1 μ1 R1 m1 (.bl false)
theorem de_or (ha : DE cls X a f) (hb : DE cls X (.BoolOp .Or (b :: es) pos) g) : DE cls X (.BoolOp .Or (a :: b :: es) pos) (eOr f g) := by
  refine imp (pe_or ha hb) fun σ H Q ⟨c, F, μ, s, hc, R, z, s', e, k⟩ => ?_
  obtain ⟨x, s1, e1, e_1⟩ := bnd_some e
  obtain ⟨kb, s2, p2, e_2⟩ := bnd_some e_1
  obtain ⟨q2, w2⟩ := lft_some p2
  have w3 := asB_some q2
  subst w2 w3
  refine ⟨c, F, μ, s, hc, R, _, s2, e1, fun v H1 F1 μ1 R1 m1 r1 => ⟨kb, r1.bl_inv, ?_⟩⟩
  cases kb with
  | true =>
    rw [if_pos rfl] at e_2 ⊢
    obtain ⟨rfl, rfl⟩ := ret_some e_2
    exact k _ H1 F1 μ1 R1 m1 (.bl true)
  | false =>
    rw [if_neg Bool.false_ne_true] at e_2 ⊢
    exact ⟨c, F1, μ1, s2, hc, R1, z, s', e_2, fun v H2 F2 μ2 R2 m2 r2 => k v H2 F2 μ2 R2 (m1.trans m2) r2⟩
theorem de_not (ha : DE cls X a f) : DE cls X (.UnaryOp .Not a pos) (eNot f) := by
  refine imp (pe_not ha) fun σ H Q ⟨c, F, μ, s, hc, R, z, s', e, k⟩ => ?_
  obtain ⟨x, s1, e1, e_1⟩ := bnd_some e
  obtain ⟨kb, s2, p2, e_2⟩ := bnd_some e_1
  obtain ⟨q2, w2⟩ := lft_some p2
  obtain ⟨w4, w5⟩ := ret_some e_2
  have w3 := asB_some q2
  subst w2 w3 w4 w5
  exact ⟨c, F, μ, s, hc, R, _, s', e1, fun v H1 F1 μ1 R1 m1 r1 => ⟨kb, r1.bl_inv, k _ H1 F1 μ1 R1 m1 (.bl _)⟩⟩
def eIf (p : Ev Bool) (f g : Ev D) : Ev D := bnd p fun k => if k = true then f else g
theorem de_if {c : Expr} (hc : DT cls X c p) (ha : DE cls X a f) (hb : DE cls X b g) : DE cls X (.IfExp c a b pos) (eIf p f g) := by
  refine imp (pe_ifExp hc ha hb) fun σ H Q ⟨c, F, μ, s, hc, R, z, s', e, k⟩ => ?_
  obtain ⟨x, s1, e1, e_1⟩ := bnd_some e
  refine ⟨c, F, μ, s, hc, R, x, s1, e1, fun H1 F1 μ1 R1 m1 => ?_⟩
  cases x with
  | true =>
    rw [if_pos rfl] at e_1 ⊢
    exact ⟨c, F1, μ1, s1, hc, R1, z, s', e_1, fun v H2 F2 μ2 R2 m2 r2 => k v H2 F2 μ2 R2 (m1.trans m2) r2⟩
  | false =>
    rw [if_neg Bool.false_ne_true] at e_1 ⊢
    exact ⟨c, F1, μ1, s1, hc, R1, z, s', e_1, fun v H2 F2 μ2 R2 m2 r2 => k v H2 F2 μ2 R2 (m1.trans m2) r2⟩

/-! ### argument lists, displays -/
def eNil : Ev (List D) := ret []
def eCons (f : Ev D) (g : Ev (List D)) : Ev (List D) := bnd f fun x => bnd g fun xs => ret (x :: xs)
theorem da_nil : DA cls X [] eNil := by
  refine impA pa_nil fun σ H Q ⟨c, F, μ, s, hc, R, z, s', e, k⟩ => ?_
  obtain ⟨rfl, rfl⟩ := ret_some e
  exact k [] H F μ R (Mono.refl _ _) .nil
theorem da_cons {g : Ev (List D)} (ha : DE cls X a f) (hb : DA cls X es g) (hs : starEach (a :: es) X.env = (false, eval a X.env) :: starEach es X.env := by rfl) : DA cls X (a :: es) (eCons f g) := by
  refine impA (pa_cons ha hb hs) fun σ H Q ⟨c, F, μ, s, hc, R, z, s', e, k⟩ => ?_
  obtain ⟨x, s1, e1, e_1⟩ := bnd_some e
  obtain ⟨xs, s2, e2, e_2⟩ := bnd_some e_1
  obtain ⟨rfl, rfl⟩ := ret_some e_2
  refine ⟨c, F, μ, s, hc, R, x, s1, e1, fun v H1 F1 μ1 R1 m1 r1 => ⟨c, F1, μ1, s1, hc, R1, xs, s', e2, fun vs H2 F2 μ2 R2 m2 r2 => ?_⟩⟩
  exact k _ H2 F2 μ2 R2 (m1.trans m2) (.cons (r1.mono m2) r2)
def LIM : Nat := 16777216
theorem lim_le {n : Nat} (h : n ≤ LIM) : n ≤ sizeLine := by rw [sizeLine_eq]; exact h
theorem lim_lt {n : Nat} (h : n < LIM) : n < sizeLine := by rw [sizeLine_eq]; exact h
def few {α : Type} (n : Nat) (a : α) : Option α := if n ≤ LIM then some a else none
theorem few_some {α : Type} {n : Nat} {a b : α} (h : few n a = some b) : n ≤ LIM ∧ b = a := by
  unfold few at h
  split at h
  · rename_i hn; cases h; exact ⟨hn, rfl⟩
  · cases h
def eTup (g : Ev (List D)) : Ev D := bnd g fun xs => lft (few xs.length (.tup xs))
theorem de_tup {g : Ev (List D)} {j} (h : DA cls X es g) : DE cls X (.Tuple es j pos) (eTup g) := by
  refine imp (pe_tup h) fun σ H Q ⟨c, F, μ, s, hc, R, z, s', e, k⟩ => ?_
  obtain ⟨xs, s1, e1, e_1⟩ := bnd_some e
  obtain ⟨e2, rfl⟩ := lft_some e_1
  obtain ⟨hn, rfl⟩ := few_some e2
  refine ⟨c, F, μ, s, hc, R, xs, s', e1, fun vs H1 F1 μ1 R1 m1 r1 => ⟨lim_le (by rw [← r1.length]; exact hn), fun p hp => ?_⟩⟩
  have m2 : Mono F1 μ1 (upd F1 p (.tup vs)) μ1 := Mono.new (R1.fnone hp)
  exact k _ _ _ _ (R1.alloc hp) (m1.trans m2) (.tup (SqT.of upd_same) (r1.mono m2))
/-- a new owned list -/
theorem Rel.pushL {K : PySem.W.Frag} {c : Ct} {F : Hp} {μ : List Addr} {σ : L2.St} {H : Hp} {ρ : List Sl} {S : List O} {p : Addr} {ds : List D} {vs : List V} (R : Rel K c F μ σ H (ρ, S)) (hp : H p = none) (r : Reps K F μ ds vs) :
    Rel K c F μ (σ ++ [some (.ref p)]) (upd H p (.lst vs)) (ρ ++ [.own ds], S) := by
  refine R.push hp ⟨rfl, R.fnone hp, ⟨R.h0none hp, R.pnone hp⟩, fun hm => ?_, vs, upd_same, r⟩
  obtain ⟨o, e⟩ := R.st.has hm
  exact ne_none e hp
theorem Rel.pushK {K : PySem.W.Frag} {c : Ct} {F : Hp} {μ : List Addr} {σ : L2.St} {H : Hp} {ρ : List Sl} {S : List O} {p : Addr} {ds : List (DK × D)} {vs : List (Key × V)} (R : Rel K c F μ σ H (ρ, S)) (hp : H p = none) (r : RepKs K F μ ds vs) :
    Rel K c F μ (σ ++ [some (.ref p)]) (upd H p (.dK vs)) (ρ ++ [.ownK ds], S) := by
  refine R.push hp ⟨rfl, R.fnone hp, ⟨R.h0none hp, R.pnone hp⟩, fun hm => ?_, vs, upd_same, r⟩
  obtain ⟨o, e⟩ := R.st.has hm
  exact ne_none e hp
def eLst (g : Ev (List D)) : Ev (List D) := bnd g fun xs => lft (few xs.length xs)
theorem df_lst {g : Ev (List D)} (h : DA cls X es g) : DF cls X (.List es pos) (eLst g) := by
  refine imp (pe_lst h) fun σ H Q ⟨c, F, μ, ρ, S, hc, R, z, ρ', S', e, k⟩ => ?_
  obtain ⟨xs, s1, e1, e_1⟩ := bnd_some e
  obtain ⟨e2, rfl⟩ := lft_some e_1
  obtain ⟨hn, rfl⟩ := few_some e2
  refine ⟨c, F, μ, _, hc, R, z, _, e1, fun vs H1 F1 μ1 R1 m1 r1 => ⟨lim_le (by rw [← r1.length]; exact hn), fun p hp => ?_⟩⟩
  exact k _ _ _ _ (R1.pushL hp r1) m1
/-- a new list, as a value that nobody changes -/
def eFz (g : Ev (List D)) : Ev D := bnd g fun xs => ret (.lst xs)
theorem de_fz {g : Ev (List D)} (h : DF cls X e g) : DE cls X e (eFz g) := by
  refine imp h fun σ H Q ⟨c, F, μ, s, hc, R, z, s', e, k⟩ => ?_
  obtain ⟨ρ, S⟩ := s
  obtain ⟨xs, ⟨ρ', S'⟩, e1, e_1⟩ := bnd_some e
  obtain ⟨rfl, rfl⟩ := ret_some e_1
  refine ⟨c, F, μ, ρ, S, hc, R, xs, ρ', S', e1, fun v H1 F1 μ1 R1 m1 => ?_⟩
  have hl : (ρ' ++ [Sl.own xs]).length = (σ ++ [some v]).length := R1.len
  have hl' : ρ'.length = σ.length := by simpa using hl
  have hx : (ρ' ++ [Sl.own xs])[ρ'.length]? = some (.own xs) := by rw [List.getElem?_append_right (Nat.le_refl _)]; simp
  obtain ⟨a, F2, e2, R2, m2, r2⟩ := R1.freeze hx rfl (.inl ⟨xs, rfl, rfl⟩)
  rw [hl', List.getElem?_append_right (Nat.le_refl _)] at e2
  simp at e2
  subst e2
  rw [List.set_append_right _ _ (Nat.le_refl _)] at R2
  simp only [Nat.sub_self, List.set_cons_zero] at R2
  exact k _ _ _ _ R2.pop (m1.trans m2) r2
def eFzK (g : Ev (List (DK × D))) : Ev D := bnd g fun xs => ret (.dct xs)
theorem de_fzK {g : Ev (List (DK × D))} (h : DFK cls X e g) : DE cls X e (eFzK g) := by
  refine imp h fun σ H Q ⟨c, F, μ, s, hc, R, z, s', e, k⟩ => ?_
  obtain ⟨ρ, S⟩ := s
  obtain ⟨xs, ⟨ρ', S'⟩, e1, e_1⟩ := bnd_some e
  obtain ⟨rfl, rfl⟩ := ret_some e_1
  refine ⟨c, F, μ, ρ, S, hc, R, xs, ρ', S', e1, fun v H1 F1 μ1 R1 m1 => ?_⟩
  have hl : (ρ' ++ [Sl.ownK xs]).length = (σ ++ [some v]).length := R1.len
  have hl' : ρ'.length = σ.length := by simpa using hl
  have hx : (ρ' ++ [Sl.ownK xs])[ρ'.length]? = some (.ownK xs) := by rw [List.getElem?_append_right (Nat.le_refl _)]; simp
  obtain ⟨a, F2, e2, R2, m2, r2⟩ := R1.freeze hx rfl (.inr ⟨xs, rfl, rfl⟩)
  rw [hl', List.getElem?_append_right (Nat.le_refl _)] at e2
  simp at e2
  subst e2
  rw [List.set_append_right _ _ (Nat.le_refl _)] at R2
  simp only [Nat.sub_self, List.set_cons_zero] at R2
  exact k _ _ _ _ R2.pop (m1.trans m2) r2
end
end DL

set_option Elab.async false
set_option linter.all false
set_option maxRecDepth 100000
namespace DL
open PySem PySem.Spec PyProof.Rows L2

/-! ### data as the model's data: equality -/
mutual
def toPy : D → PyData
  | .non => .none
  | .bl b => .bool b
  | .int i => .int i
  | .str s => .str (mkS s)
  | .lst xs => .list (toPys xs)
  | .tup xs => .tuple (toPys xs)
  | .dct _ => .dict []
  | .scr _ => .dict []
  | .ptr _ => .dict []
def toPys : List D → List PyData
  | [] => []
  | x :: xs => toPy x :: toPys xs
end
mutual
/-- plain data of at most so many levels -/
def flat : Nat → D → Bool
  | _, .non => true
  | _, .bl _ => true
  | _, .int _ => true
  | _, .str s => s.all fun c => decide (c < 1000)
  | n, .lst xs => flats n xs
  | n, .tup xs => flats n xs
  | _, .dct _ => false
  | _, .scr _ => false
  | _, .ptr _ => false
def flats : Nat → List D → Bool
  | _, [] => true
  | 0, _ :: _ => false
  | n + 1, x :: xs => flat n x && flats (n + 1) xs
end
mutual
def eqv : D → D → Bool
  | .non, .non => true
  | .bl a, .bl b => a == b
  | .bl a, .int j => (if a then 1 else 0) == j
  | .int i, .bl b => i == (if b then 1 else 0)
  | .int i, .int j => i == j
  | .str x, .str y => x == y
  | .lst xs, .lst ys => eqvs xs ys
  | .tup xs, .tup ys => eqvs xs ys
  | _, _ => false
def eqvs : List D → List D → Bool
  | [], [] => true
  | x :: xs, y :: ys => eqv x y && eqvs xs ys
  | _, _ => false
end
theorem mkS_eq (s t : List Nat) : (mkS s == mkS t) = (s == t) := by
  rw [Bool.eq_iff_iff, beq_iff_eq, beq_iff_eq]
  constructor
  · intro h; injection h with h; simpa using congrArg Array.toList h
  · rintro rfl; rfl
mutual
theorem toPy_eqv : ∀ d e : D, PyData.eqv (toPy d) (toPy e) = eqv d e
  | .non, e => by cases e <;> simp [toPy, PyData.eqv, eqv]
  | .bl b, e => by cases e <;> simp [toPy, PyData.eqv, eqv]
  | .int i, e => by cases e <;> simp [toPy, PyData.eqv, eqv]
  | .str s, e => by
    cases e <;> simp only [toPy, PyData.eqv, eqv]
    exact mkS_eq _ _
  | .lst xs, e => by
    cases e <;> simp only [toPy, PyData.eqv, eqv]
    exact toPys_eqv _ _
  | .tup xs, e => by
    cases e <;> simp only [toPy, PyData.eqv, eqv]
    exact toPys_eqv _ _
  | .dct _, e => by cases e <;> simp [toPy, PyData.eqv, eqv]
  | .scr _, e => by cases e <;> simp [toPy, PyData.eqv, eqv]
  | .ptr _, e => by cases e <;> simp [toPy, PyData.eqv, eqv]
theorem toPys_eqv : ∀ d e : List D, PyData.eqvAll (toPys d) (toPys e) = eqvs d e
  | [], [] => by simp [toPys, PyData.eqvAll, eqvs]
  | [], y :: ys => by simp [toPys, PyData.eqvAll, eqvs]
  | x :: xs, [] => by simp [toPys, PyData.eqvAll, eqvs]
  | x :: xs, y :: ys => by
    simp only [toPys, PyData.eqvAll, eqvs]
    rw [toPy_eqv x y, toPys_eqv xs ys]
end

theorem strOk_of {s : List Nat} (h : (s.all fun c => decide (c < 1000)) = true) : PyData.strOk (mkS s) = true := by
  unfold PyData.strOk
  rw [← Array.all_toList, List.all_eq_true]
  rw [List.all_eq_true] at h
  intro x hx
  have := of_decide_eq_true (h x (by simpa using hx))
  exact decide_eq_true (by omega)
mutual
theorem flat_ok : ∀ (n : Nat) (d : D), flat n d = true → (toPy d).canLay0 = true ∧ (toPy d).depth ≤ n + 1
  | n, .non, _ => by simp [toPy, PyData.canLay0, PyData.depth]
  | n, .bl _, _ => by simp [toPy, PyData.canLay0, PyData.depth]
  | n, .int _, _ => by simp [toPy, PyData.canLay0, PyData.depth]
  | n, .str s, h => by
    simp only [flat] at h
    simp only [toPy, PyData.canLay0, PyData.depth]
    exact ⟨strOk_of h, by omega⟩
  | n, .lst xs, h => by
    simp only [flat] at h
    obtain ⟨h1, h2⟩ := flats_ok n xs h
    simp only [toPy, PyData.canLay0, PyData.depth]
    exact ⟨h1, by omega⟩
  | n, .tup xs, h => by
    simp only [flat] at h
    obtain ⟨h1, h2⟩ := flats_ok n xs h
    simp only [toPy, PyData.canLay0, PyData.depth]
    exact ⟨h1, by omega⟩
  | _, .dct _, h => by simp [flat] at h
  | _, .scr _, h => by simp [flat] at h
  | _, .ptr _, h => by simp [flat] at h
theorem flats_ok : ∀ (n : Nat) (d : List D), flats n d = true → PyData.canLayAll0 (toPys d) = true ∧ PyData.depthAll (toPys d) ≤ n
  | n, [], _ => by simp [toPys, PyData.canLayAll0, PyData.depthAll]
  | 0, x :: xs, h => by simp [flats] at h
  | n + 1, x :: xs, h => by
    simp only [flats, Bool.and_eq_true] at h
    obtain ⟨h1, h2⟩ := flat_ok n x h.1
    obtain ⟨h3, h4⟩ := flats_ok (n + 1) xs h.2
    simp only [toPys, PyData.canLayAll0, PyData.depthAll, h1, h3]
    exact ⟨rfl, by omega⟩
end
theorem flat_shaped {d : D} (h : flat 8 d = true) : SeqAt.shaped (toPy d) = true := by
  obtain ⟨h1, h2⟩ := flat_ok 8 d h
  unfold SeqAt.shaped
  rw [h1, decide_eq_true (by omega)]
  rfl
section
variable {K : PySem.W.Frag} {F H : Hp} {μ : List Addr}
mutual
theorem Rep.dp (m : Same F H) : ∀ {n : Nat} {d : D} {v : V}, flat n d = true → Rep K F μ d v → Dp K H v (toPy d)
  | _, _, _, _, .non => .non
  | _, _, _, _, .bl b => .bl b
  | _, _, _, _, .int i => .int i
  | _, _, _, _, .str s => .str _
  | _, _, _, h, .lst e r => by
    simp only [flat] at h
    exact .lst (SqL.of (m _ _ e)) (Reps.dp m h r)
  | _, _, _, h, .tup e r => by
    simp only [flat] at h
    exact .tup (Same.sqT m e) (Reps.dp m h r)
  | _, _, _, h, .dct _ _ => by simp [flat] at h
  | _, _, _, h, .scr _ => by simp [flat] at h
  | _, _, _, h, .ptr _ => by simp [flat] at h
theorem Reps.dp (m : Same F H) : ∀ {n : Nat} {ds : List D} {vs : List V}, flats n ds = true → Reps K F μ ds vs → DpAll K H vs (toPys ds)
  | _, _, _, _, .nil => .nil
  | 0, _, _, h, .cons e r => by simp [flats] at h
  | n + 1, _, _, h, .cons e r => by
    simp only [flats, Bool.and_eq_true] at h
    exact .cons (Rep.dp m h.1 e) (Reps.dp m h.2 r)
end
/-- a value as it may be read now: frozen data, or an owned list (dict) as it stands -/
inductive RepH (K : PySem.W.Frag) (F : Hp) (μ : List Addr) (H : Hp) : D → V → Prop
  | rep {d : D} {v : V} : Rep K F μ d v → RepH K F μ H d v
  | lst {a : Addr} {ds : List D} {vs : List V} : H a = some (.lst vs) → Reps K F μ ds vs → RepH K F μ H (.lst ds) (.ref a)
  | dct {a : Addr} {ds : List (DK × D)} {vs : List (Key × V)} : H a = some (.dK vs) → RepKs K F μ ds vs → RepH K F μ H (.dct ds) (.ref a)
theorem RepH.lst_inv (m : Same F H) {ds : List D} {v : V} (r : RepH K F μ H (.lst ds) v) : ∃ a vs, v = .ref a ∧ H a = some (.lst vs) ∧ Reps K F μ ds vs := by
  cases r with
  | rep r => cases r with | lst e r => exact ⟨_, _, rfl, m _ _ e, r⟩
  | lst e r => exact ⟨_, _, rfl, e, r⟩
theorem RepH.dct_inv (m : Same F H) {ds : List (DK × D)} {v : V} (r : RepH K F μ H (.dct ds) v) : ∃ a vs, v = .ref a ∧ H a = some (.dK vs) ∧ RepKs K F μ ds vs := by
  cases r with
  | rep r => cases r with | dct e r => exact ⟨_, _, rfl, m _ _ e, r⟩
  | dct e r => exact ⟨_, _, rfl, e, r⟩
theorem RepH.tup_inv (m : Same F H) {ds : List D} {v : V} (r : RepH K F μ H (.tup ds) v) : ∃ a vs, v = .ref a ∧ SqT K H a vs ∧ Reps K F μ ds vs := by
  cases r with
  | rep r => cases r with | tup e r => exact ⟨_, _, rfl, Same.sqT m e, r⟩
theorem RepH.int_inv {i : Int} {v : V} (r : RepH K F μ H (.int i) v) : v = .int i := by
  cases r with
  | rep r => cases r; rfl
theorem RepH.bl_inv {i : Bool} {v : V} (r : RepH K F μ H (.bl i) v) : v = .bl i := by
  cases r with
  | rep r => cases r; rfl
theorem RepH.str_inv {i : List Nat} {v : V} (r : RepH K F μ H (.str i) v) : v = .str (mkS i) := by
  cases r with
  | rep r => cases r; rfl
theorem RepH.non_inv {v : V} (r : RepH K F μ H .non v) : v = .non := by
  cases r with
  | rep r => cases r; rfl
theorem RepH.dp (m : Same F H) {d : D} {v : V} (h : flat 8 d = true) (r : RepH K F μ H d v) : Dp K H v (toPy d) := by
  cases r with
  | rep r => exact r.dp m h
  | lst e r =>
    simp only [flat] at h
    exact .lst (SqL.of e) (r.dp m h)
  | dct e r => simp [flat] at h
end
end DL

set_option Elab.async false
set_option linter.all false
set_option maxRecDepth 100000
namespace DL
open PySem PySem.Spec PyProof.Rows L2

/-- what a slot holds, read as it stands -/
def eRd (i : Nat) : Ev D := fun s => match s.1[i]? with
  | some (.val d) => some (d, s)
  | some (.own ds) => some (.lst ds, s)
  | some (.ownK ds) => some (.dct ds, s)
  | _ => none
theorem eRd_some {K : PySem.W.Frag} {c : Ct} {F : Hp} {μ : List Addr} {σ : L2.St} {H : Hp} {s s' : Sto} {i : Nat} {d : D} (R : Rel K c F μ σ H s) (h : eRd i s = some (d, s')) : s' = s ∧ ∃ v, σ[i]? = some (some v) ∧ RepH K F μ H d v := by
  obtain ⟨α, h1, _⟩ := R.slots
  unfold eRd at h
  split at h
  · rename_i d' hd
    cases h
    obtain ⟨v, ev, r⟩ := h1 i _ hd
    exact ⟨rfl, v, ev, .rep r⟩
  · rename_i d' hd
    cases h
    obtain ⟨e1, _, _, _, vs, e2, r⟩ := h1 i _ hd
    exact ⟨rfl, _, e1, .lst e2 r⟩
  · rename_i d' hd
    cases h
    obtain ⟨e1, _, _, _, vs, e2, r⟩ := h1 i _ hd
    exact ⟨rfl, _, e1, .dct e2 r⟩
  · cases h

/-- an operation on values and on data, as they may be read -/
def OpH (X : Cx) (fo : Value → Value → Sem Value) (op : D → D → Option D) : Prop :=
  ∃ r : R2, OpR X fo r ∧ ∀ (c : Ct) (F : Hp) (μ : List Addr) (σ : L2.St) (H : Hp) (s : Sto) (x y : V) (d e z : D) (Q : VK), Rel X.K c F μ σ H s → RepH X.K F μ H d x → RepH X.K F μ H e y → op d e = some z →
    (∀ v H' F' μ', Rel X.K c F' μ' σ H' s → Mono F μ F' μ' → Rep X.K F' μ' z v → Q v H') → r x y H Q
theorem OpH.d {X : Cx} {fo : Value → Value → Sem Value} {op : D → D → Option D} (h : OpH X fo op) : OpD X fo op := by
  obtain ⟨r, h1, h2⟩ := h
  exact ⟨r, h1, fun c F μ σ H s x y d e z Q R r1 r2 => h2 c F μ σ H s x y d e z Q R (.rep r1) (.rep r2)⟩
/-- a call of a built-in with values and with data -/
def ClH (X : Cx) (fv : Value) (op : List D → Option D) : Prop :=
  ∃ r : List V → Hp → VK → Prop, CallR X fv r ∧ ∀ (c : Ct) (F : Hp) (μ : List Addr) (σ : L2.St) (H : Hp) (s : Sto) (xs : List V) (ds : List D) (z : D) (Q : VK), Rel X.K c F μ σ H s → Paired (RepH X.K F μ H) ds xs → op ds = some z →
    (∀ v H' F' μ', Rel X.K c F' μ' σ H' s → Mono F μ F' μ' → Rep X.K F' μ' z v → Q v H') → r xs H Q

section
variable {cls : Nat → Addr} {X : Cx} {a b e e' : Expr} {f g h : Ev D} {p q : Ev Bool} {pos : Pos} {es : List Expr}
/-- x op e, x a name whose owned list is read -/
def eBinL (op : D → D → Option D) (i : Nat) (g : Ev D) : Ev D := bnd (eRd i) fun _ => bnd g fun y => bnd (eRd i) fun x => lft (op x y)
theorem run_binL {op : D → D → Option D} {r : R2} {i : Nat} (hr : ∀ (c : Ct) (F : Hp) (μ : List Addr) (σ : L2.St) (H : Hp) (s : Sto) (x y : V) (d e z : D) (Q : VK), Rel X.K c F μ σ H s → RepH X.K F μ H d x → RepH X.K F μ H e y → op d e = some z →
    (∀ v H' F' μ', Rel X.K c F' μ' σ H' s → Mono F μ F' μ' → Rep X.K F' μ' z v → Q v H') → r x y H Q) (σ : L2.St) (H : Hp) (Q : VK) (w : TD X.K cls (eBinL op i g) σ H Q) : tOp r (tVar i) (TD X.K cls g) σ H Q := by
  obtain ⟨c, F, μ, s, hc, R, z, s', e, k⟩ := w
  obtain ⟨_, s0, e0, f0⟩ := bnd_some e
  obtain ⟨w0, v, hv, _⟩ := eRd_some R e0
  subst w0
  obtain ⟨y, s1, e1, f1⟩ := bnd_some f0
  obtain ⟨x, s2, e2, f2⟩ := bnd_some f1
  obtain ⟨e3, w3⟩ := lft_some f2
  subst w3
  refine ⟨v, hv, c, F, μ, s0, hc, R, y, s1, e1, fun u H1 F1 μ1 R1 m1 r1 => ?_⟩
  obtain ⟨w2, v', hv', r2⟩ := eRd_some R1 e2
  subst w2
  have : v' = v := by rw [hv] at hv'; cases hv'; rfl
  subst this
  exact hr c F1 μ1 σ H1 s' v' u x y z Q R1 r2 (.rep r1) e3 fun v' H' F' μ' R' m' r' => k v' H' F' μ' R' (m1.trans m') r'
/-- e op x, x a name whose owned list is read -/
def eBinR (op : D → D → Option D) (f : Ev D) (i : Nat) : Ev D := bnd f fun x => bnd (eRd i) fun y => lft (op x y)
theorem run_binR {op : D → D → Option D} {r : R2} {i : Nat} (hr : ∀ (c : Ct) (F : Hp) (μ : List Addr) (σ : L2.St) (H : Hp) (s : Sto) (x y : V) (d e z : D) (Q : VK), Rel X.K c F μ σ H s → RepH X.K F μ H d x → RepH X.K F μ H e y → op d e = some z →
    (∀ v H' F' μ', Rel X.K c F' μ' σ H' s → Mono F μ F' μ' → Rep X.K F' μ' z v → Q v H') → r x y H Q) (σ : L2.St) (H : Hp) (Q : VK) (w : TD X.K cls (eBinR op f i) σ H Q) : tOp r (TD X.K cls f) (tVar i) σ H Q := by
  obtain ⟨c, F, μ, s, hc, R, z, s', e, k⟩ := w
  obtain ⟨x, s1, e1, f1⟩ := bnd_some e
  obtain ⟨y, s2, e2, f2⟩ := bnd_some f1
  obtain ⟨e3, w3⟩ := lft_some f2
  subst w3
  refine ⟨c, F, μ, s, hc, R, x, s1, e1, fun u H1 F1 μ1 R1 m1 r1 => ?_⟩
  obtain ⟨w2, v, hv, r2⟩ := eRd_some R1 e2
  subst w2
  exact ⟨v, hv, hr c F1 μ1 σ H1 s' u v x y z Q R1 (.rep r1) r2 e3 fun v' H' F' μ' R' m' r' => k v' H' F' μ' R' (m1.trans m') r'⟩
theorem de_cmpL {op : CmpOp} {o : D → D → Option D} (i : Nat) {x : Str} (ho : OpH X (compareOp op) o) (ha : PE X (.Name x pos) (tVar i)) (hb : DE cls X b g) (hm : behindInMarks op b = false) {pos' : Pos} : DE cls X (.Compare (.Name x pos) [op] [b] pos') (eBinL o i g) := by
  obtain ⟨r, h1, h2⟩ := ho
  exact imp (pe_cmpR h1 ha hb hm) (run_binL h2)
theorem de_cmpR {op : CmpOp} {o : D → D → Option D} (i : Nat) {x : Str} (ho : OpH X (compareOp op) o) (ha : DE cls X a f) (hb : PE X (.Name x pos) (tVar i)) (hm : behindInMarks op (.Name x pos) = false) {pos' : Pos} : DE cls X (.Compare a [op] [.Name x pos] pos') (eBinR o f i) := by
  obtain ⟨r, h1, h2⟩ := ho
  exact imp (pe_cmpR h1 ha hb hm) (run_binR h2)
theorem dt_cmpL {op : CmpOp} {o : D → D → Option D} (i : Nat) {x : Str} (ho : OpH X (compareOp op) o) (ha : PE X (.Name x pos) (tVar i)) (hb : DE cls X b g) (hm : behindInMarks op b = false) {pos' : Pos} : DT cls X (.Compare (.Name x pos) [op] [b] pos') (eB (eBinL o i g)) := by
  obtain ⟨r, h1, h2⟩ := ho
  refine impT (pt_cmpR h1 ha hb hm) fun σ H Q w => ?_
  exact run_binL h2 σ H _ (run_B σ H Q w)
theorem dt_cmpR {op : CmpOp} {o : D → D → Option D} (i : Nat) {x : Str} (ho : OpH X (compareOp op) o) (ha : DE cls X a f) (hb : PE X (.Name x pos) (tVar i)) (hm : behindInMarks op (.Name x pos) = false) {pos' : Pos} : DT cls X (.Compare a [op] [.Name x pos] pos') (eB (eBinR o f i)) := by
  obtain ⟨r, h1, h2⟩ := ho
  refine impT (pt_cmpR h1 ha hb hm) fun σ H Q w => ?_
  exact run_binR h2 σ H _ (run_B σ H Q w)
theorem de_opL {op : Operator} {o : D → D → Option D} (i : Nat) {x : Str} (ho : OpH X (binaryOp op) o) (ha : PE X (.Name x pos) (tVar i)) (hb : DE cls X b g) {pos' : Pos} : DE cls X (.BinOp (.Name x pos) op b pos') (eBinL o i g) := by
  obtain ⟨r, h1, h2⟩ := ho
  exact imp (pe_op h1 ha hb) (run_binL h2)
theorem de_opR {op : Operator} {o : D → D → Option D} (i : Nat) {x : Str} (ho : OpH X (binaryOp op) o) (ha : DE cls X a f) (hb : PE X (.Name x pos) (tVar i)) {pos' : Pos} : DE cls X (.BinOp a op (.Name x pos) pos') (eBinR o f i) := by
  obtain ⟨r, h1, h2⟩ := ho
  exact imp (pe_op h1 ha hb) (run_binR h2)

/-! ### calls of built-ins -/
theorem paired_of {K : PySem.W.Frag} {F H : Hp} {μ : List Addr} : ∀ {ds : List D} {vs : List V}, Reps K F μ ds vs → Paired (RepH K F μ H) ds vs
  | _, _, .nil => .nil
  | _, _, .cons h r => .cons (.rep h) (paired_of r)
def eCl (op : List D → Option D) (g : Ev (List D)) : Ev D := bnd g fun xs => lft (op xs)
theorem run_cl {op : List D → Option D} {g : Ev (List D)} {r : List V → Hp → VK → Prop} (hr : ∀ (c : Ct) (F : Hp) (μ : List Addr) (σ : L2.St) (H : Hp) (s : Sto) (xs : List V) (ds : List D) (z : D) (Q : VK), Rel X.K c F μ σ H s → Paired (RepH X.K F μ H) ds xs → op ds = some z →
    (∀ v H' F' μ', Rel X.K c F' μ' σ H' s → Mono F μ F' μ' → Rep X.K F' μ' z v → Q v H') → r xs H Q) (σ : L2.St) (H : Hp) (Q : VK) (w : TD X.K cls (eCl op g) σ H Q) : tCB r (TDA X.K cls g) σ H Q := by
  obtain ⟨c, F, μ, s, hc, R, z, s', e, k⟩ := w
  obtain ⟨x, s1, e1, f1⟩ := bnd_some e
  obtain ⟨e3, w3⟩ := lft_some f1
  subst w3
  exact ⟨c, F, μ, s, hc, R, x, s', e1, fun u H1 F1 μ1 R1 m1 r1 => hr c F1 μ1 σ H1 s' u x z Q R1 (paired_of r1) e3 fun v' H' F' μ' R' m' r' => k v' H' F' μ' R' (m1.trans m') r'⟩
/-- the only argument is a name whose owned list is read -/
def eCl1 (op : List D → Option D) (i : Nat) : Ev D := bnd (eRd i) fun x => lft (op [x])
theorem run_cl1 {op : List D → Option D} {i : Nat} {r : List V → Hp → VK → Prop} (hr : ∀ (c : Ct) (F : Hp) (μ : List Addr) (σ : L2.St) (H : Hp) (s : Sto) (xs : List V) (ds : List D) (z : D) (Q : VK), Rel X.K c F μ σ H s → Paired (RepH X.K F μ H) ds xs → op ds = some z →
    (∀ v H' F' μ', Rel X.K c F' μ' σ H' s → Mono F μ F' μ' → Rep X.K F' μ' z v → Q v H') → r xs H Q) (σ : L2.St) (H : Hp) (Q : VK) (w : TD X.K cls (eCl1 op i) σ H Q) : tCB r (tCons (tVar i) tNil) σ H Q := by
  obtain ⟨c, F, μ, s, hc, R, z, s', e, k⟩ := w
  obtain ⟨x, s1, e1, f1⟩ := bnd_some e
  obtain ⟨e3, w3⟩ := lft_some f1
  subst w3
  obtain ⟨w2, v, hv, r2⟩ := eRd_some R e1
  subst w2
  exact ⟨v, hv, hr c F μ σ H s' [v] [x] z Q R (.cons r2 .nil) e3 k⟩
theorem de_clB {id : String} {x : Str} {pp : Pos} {g : Ev (List D)} {op : List D → Option D} (hc : ClH X (.builtin id) op) (hg : Gl X x) (hm : X.mg x = none) (hv : bootBuiltins x = some (.builtin id)) (ha : DA cls X (e :: es) g) (hn : x ≠ "__name__" := by decide)
    (hdb : (x == ("__debug__" : Str)) = false := by decide) (he : starEach (e :: es) X.env = (false, eval e X.env) :: starEach es X.env := by rfl) (hpl : (backTo pos (starEach es X.env)).any (·.1) = false := by rfl) :
    DE cls X (.Call (.Name x pp) (e :: es) [] pos) (eCl op g) := by
  obtain ⟨r, h1, h2⟩ := hc
  exact imp (pe_callB h1 hg hm hv ha hn hdb he hpl) (run_cl h2)
theorem de_clT {id : String} {x : Str} {pp : Pos} {g : Ev (List D)} {op : List D → Option D} (hc : ClH X (.type id) op) (hg : Gl X x) (hm : X.mg x = none) (hv : bootBuiltins x = some (.type id)) (ha : DA cls X (e :: es) g) (hn : x ≠ "__name__" := by decide)
    (hdb : (x == ("__debug__" : Str)) = false := by decide) (he : starEach (e :: es) X.env = (false, eval e X.env) :: starEach es X.env := by rfl) (hpl : (backTo pos (starEach es X.env)).any (·.1) = false := by rfl) :
    DE cls X (.Call (.Name x pp) (e :: es) [] pos) (eCl op g) := by
  obtain ⟨r, h1, h2⟩ := hc
  exact imp (pe_callTy h1 hg hm hv ha hn hdb he hpl) (run_cl h2)
theorem de_clB1 {id : String} {x y : Str} {pp py : Pos} {op : List D → Option D} (i : Nat) (hc : ClH X (.builtin id) op) (hg : Gl X x) (hm : X.mg x = none) (hv : bootBuiltins x = some (.builtin id)) (ha : PE X (.Name y py) (tVar i)) (hn : x ≠ "__name__" := by decide)
    (hdb : (x == ("__debug__" : Str)) = false := by decide) (he : starEach [.Name y py] X.env = (false, eval (.Name y py) X.env) :: starEach [] X.env := by rfl) (hpl : (backTo pos (starEach [] X.env)).any (·.1) = false := by rfl) :
    DE cls X (.Call (.Name x pp) [.Name y py] [] pos) (eCl1 op i) := by
  obtain ⟨r, h1, h2⟩ := hc
  exact imp (pe_callB h1 hg hm hv (pa_cons ha pa_nil he) hn hdb he hpl) (run_cl1 h2)
theorem de_clT1 {id : String} {x y : Str} {pp py : Pos} {op : List D → Option D} (i : Nat) (hc : ClH X (.type id) op) (hg : Gl X x) (hm : X.mg x = none) (hv : bootBuiltins x = some (.type id)) (ha : PE X (.Name y py) (tVar i)) (hn : x ≠ "__name__" := by decide)
    (hdb : (x == ("__debug__" : Str)) = false := by decide) (he : starEach [.Name y py] X.env = (false, eval (.Name y py) X.env) :: starEach [] X.env := by rfl) (hpl : (backTo pos (starEach [] X.env)).any (·.1) = false := by rfl) :
    DE cls X (.Call (.Name x pp) [.Name y py] [] pos) (eCl1 op i) := by
  obtain ⟨r, h1, h2⟩ := hc
  exact imp (pe_callTy h1 hg hm hv (pa_cons ha pa_nil he) hn hdb he hpl) (run_cl1 h2)
end

/-! ### the operations -/
section
variable {X : Cx}
/-- an answer that needs no room -/
theorem atom {K : PySem.W.Frag} {c : Ct} {F : Hp} {μ : List Addr} {σ : L2.St} {H : Hp} {s : Sto} {z : D} {v : V} {Q : VK} (R : Rel K c F μ σ H s) (r : Rep K F μ z v)
    (k : ∀ v H' F' μ', Rel K c F' μ' σ H' s → Mono F μ F' μ' → Rep K F' μ' z v → Q v H') : Q v H := k v H F μ R (Mono.refl _ _) r
theorem newTup {K : PySem.W.Frag} {c : Ct} {F : Hp} {μ : List Addr} {σ : L2.St} {H : Hp} {s : Sto} {ds : List D} {vs : List V} {Q : VK} (R : Rel K c F μ σ H s) (r : Reps K F μ ds vs)
    (k : ∀ v H' F' μ', Rel K c F' μ' σ H' s → Mono F μ F' μ' → Rep K F' μ' (.tup ds) v → Q v H') : ∀ p, H p = none → Q (.ref p) (upd H p (.tup vs)) := fun p hp => by
  have m : Mono F μ (upd F p (.tup vs)) μ := Mono.new (R.fnone hp)
  exact k _ _ _ _ (R.alloc hp) m (.tup (SqT.of upd_same) (r.mono m))
theorem newLst {K : PySem.W.Frag} {c : Ct} {F : Hp} {μ : List Addr} {σ : L2.St} {H : Hp} {s : Sto} {ds : List D} {vs : List V} {Q : VK} (R : Rel K c F μ σ H s) (r : Reps K F μ ds vs)
    (k : ∀ v H' F' μ', Rel K c F' μ' σ H' s → Mono F μ F' μ' → Rep K F' μ' (.lst ds) v → Q v H') : ∀ p, H p = none → Q (.ref p) (upd H p (.lst vs)) := fun p hp => by
  have m : Mono F μ (upd F p (.lst vs)) μ := Mono.new (R.fnone hp)
  exact k _ _ _ _ (R.alloc hp) m (.lst upd_same (r.mono m))
def guard' {α : Type} (b : Bool) (a : α) : Option α := if b = true then some a else none
theorem guard_some {α : Type} {b : Bool} {a z : α} (h : guard' b a = some z) : b = true ∧ z = a := by
  unfold guard' at h
  split at h
  · rename_i hb; cases h; exact ⟨hb, rfl⟩
  · cases h
theorem mkS_app (s t : List Nat) : (mkS s ++ mkS t : Str) = mkS (s ++ t) := by
  show Str.append _ _ = _
  simp [Str.append]
theorem mkS_len (s : List Nat) : (mkS s).length = s.length := by simp [Str.length]

def dAdd : D → D → Option D
  | .int a, .int b => some (.int (a + b))
  | .str s, .str t => guard' (decide (s.length + t.length ≤ LIM)) (.str (s ++ t))
  | .tup xs, .tup ys => guard' (decide (xs.length + ys.length ≤ LIM)) (.tup (xs ++ ys))
  | .lst xs, .lst ys => guard' (decide (xs.length + ys.length ≤ LIM)) (.lst (xs ++ ys))
  | _, _ => none
theorem oh_add : OpH X (binaryOp .Add) dAdd := by
  refine ⟨_, ((op_add.or op_add_str).or op_catA).or op_cat, ?_⟩
  intro c F μ σ H s x y d e z Q R r1 r2 h k
  cases d <;> cases e <;> try (simp [dAdd] at h; done)
  case int.int a b =>
    simp only [dAdd, Option.some.injEq] at h; subst h
    rw [r1.int_inv, r2.int_inv]
    exact .inl (.inl (.inl ⟨a, b, rfl, rfl, atom R (.int _) k⟩))
  case str.str a b =>
    simp only [dAdd] at h
    obtain ⟨hn, rfl⟩ := guard_some h
    rw [r1.str_inv, r2.str_inv]
    refine .inl (.inl (.inr ⟨_, _, rfl, rfl, ?_, ?_⟩))
    · rw [mkS_len, mkS_len]; exact lim_le (of_decide_eq_true hn)
    · rw [mkS_app]; exact atom R (.str _) k
  case tup.tup xs ys =>
    simp only [dAdd] at h
    obtain ⟨hn, rfl⟩ := guard_some h
    obtain ⟨a, vs, rfl, e1, q1⟩ := r1.tup_inv R.sub
    obtain ⟨b, ws, rfl, e2, q2⟩ := r2.tup_inv R.sub
    have l1 := q1.length
    have l2 := q2.length
    have hn' := of_decide_eq_true hn
    cases r1 with
    | rep r1 =>
      cases r2 with
      | rep r2 =>
        refine .inl (.inr ⟨a, b, vs, ws, rfl, rfl, e1, e2, lim_le (by omega), fun hv => ?_, fun _ hw => ?_, fun _ _ => ?_⟩)
        · subst hv
          have : xs = [] := by cases xs <;> simp at l1 ⊢
          subst this
          rw [List.nil_append] at k
          exact atom R r2 k
        · subst hw
          have : ys = [] := by cases ys <;> simp at l2 ⊢
          subst this
          rw [List.append_nil] at k
          exact atom R r1 k
        · exact newTup R (q1.append q2) k
  case lst.lst xs ys =>
    simp only [dAdd] at h
    obtain ⟨hn, rfl⟩ := guard_some h
    obtain ⟨a, vs, rfl, e1, q1⟩ := r1.lst_inv R.sub
    obtain ⟨b, ws, rfl, e2, q2⟩ := r2.lst_inv R.sub
    have l1 := q1.length
    have l2 := q2.length
    have hn' := of_decide_eq_true hn
    exact .inr ⟨a, b, vs, ws, rfl, rfl, e1, e2, lim_le (by omega), newLst R (q1.append q2) k⟩
end
end DL

set_option Elab.async false
set_option linter.all false
set_option maxRecDepth 100000
namespace DL
open PySem PySem.Spec PyProof.Rows L2
section
variable {X : Cx}
theorem oh_ii {fo : Value → Value → Sem Value} {C : Int → Int → Prop} {g : Int → Int → Int} {c : Int → Int → Bool} {op : D → D → Option D} (hr : OpR X fo (rI C fun i j => .int (g i j))) (hc : ∀ i j, c i j = true → C i j)
    (hop : ∀ d e z, op d e = some z → ∃ i j, d = .int i ∧ e = .int j ∧ c i j = true ∧ z = .int (g i j)) : OpH X fo op := by
  refine ⟨_, hr, ?_⟩
  intro c F μ σ H s x y d e z Q R r1 r2 h k
  obtain ⟨i, j, rfl, rfl, h1, rfl⟩ := hop d e z h
  rw [r1.int_inv, r2.int_inv]
  exact ⟨i, j, rfl, rfl, hc _ _ h1, atom R (.int _) k⟩
def dSub : D → D → Option D
  | .int a, .int b => some (.int (a - b))
  | _, _ => none
theorem oh_sub : OpH X (binaryOp .Sub) dSub := by
  refine ⟨_, op_sub, ?_⟩
  intro c F μ σ H s x y d e z Q R r1 r2 h k
  cases d <;> cases e <;> try (simp [dSub] at h; done)
  simp only [dSub, Option.some.injEq] at h; subst h
  rw [r1.int_inv, r2.int_inv]
  exact ⟨_, _, rfl, rfl, atom R (.int _) k⟩
def dMod : D → D → Option D
  | .int a, .int b => guard' (decide (0 < b)) (.int (a % b))
  | _, _ => none
theorem oh_mod : OpH X (binaryOp .Mod) dMod := by
  refine oh_ii (c := fun _ b => decide (0 < b)) op_mod (fun i j h => of_decide_eq_true h) fun d e z h => ?_
  cases d <;> cases e <;> try (simp [dMod] at h; done)
  simp only [dMod] at h
  obtain ⟨h1, rfl⟩ := guard_some h
  exact ⟨_, _, rfl, rfl, h1, rfl⟩
def dDiv : D → D → Option D
  | .int a, .int b => guard' (decide (0 < b) && decide (b.natAbs.log2 < 9000)) (.int (a / b))
  | _, _ => none
theorem oh_div : OpH X (binaryOp .FloorDiv) dDiv := by
  refine oh_ii (c := fun _ b => decide (0 < b) && decide (b.natAbs.log2 < 9000)) op_fdivW (fun i j h => ?_) fun d e z h => ?_
  · simp only [Bool.and_eq_true, decide_eq_true_eq] at h; exact h
  cases d <;> cases e <;> try (simp [dDiv] at h; done)
  simp only [dDiv] at h
  obtain ⟨h1, rfl⟩ := guard_some h
  exact ⟨_, _, rfl, rfl, h1, rfl⟩
def dShl : D → D → Option D
  | .int a, .int b => guard' (decide (0 ≤ b) && decide (b ≤ 1000000) && decide (a.natAbs.log2 < 1000000)) (.int (a * 2 ^ b.toNat))
  | _, _ => none
theorem oh_shl : OpH X (binaryOp .LShift) dShl := by
  refine oh_ii (c := fun a b => decide (0 ≤ b) && decide (b ≤ 1000000) && decide (a.natAbs.log2 < 1000000)) op_shlW (fun i j h => ?_) fun d e z h => ?_
  · simp only [Bool.and_eq_true, decide_eq_true_eq] at h
    refine ⟨h.1.1, ?_⟩
    have : Builtin.Int.intBits i ≤ i.natAbs.log2 + 1 := by
      unfold Builtin.Int.intBits
      split <;> omega
    have h2 := h.2
    have h3 := h.1.2
    have : (Builtin.Int.intBits i : Int) + j ≤ 1000001 + 1000000 := by omega
    exact Int.le_trans this (by decide)
  cases d <;> cases e <;> try (simp [dShl] at h; done)
  simp only [dShl] at h
  obtain ⟨h1, rfl⟩ := guard_some h
  exact ⟨_, _, rfl, rfl, h1, rfl⟩
def dShr : D → D → Option D
  | .int a, .int b => guard' (decide (0 ≤ b)) (.int (a / 2 ^ b.toNat))
  | _, _ => none
theorem oh_shr : OpH X (binaryOp .RShift) dShr := by
  refine oh_ii (c := fun _ b => decide (0 ≤ b)) op_shr (fun i j h => of_decide_eq_true h) fun d e z h => ?_
  cases d <;> cases e <;> try (simp [dShr] at h; done)
  simp only [dShr] at h
  obtain ⟨h1, rfl⟩ := guard_some h
  exact ⟨_, _, rfl, rfl, h1, rfl⟩
/-- & 1 alone -/
def dAnd : D → D → Option D
  | .int a, .int b => guard' (decide (0 ≤ a) && decide (b = 1)) (.int (a % 2))
  | _, _ => none
theorem oh_and : OpH X (binaryOp .BitAnd) dAnd := by
  refine ⟨_, op_odd, ?_⟩
  intro c F μ σ H s x y d e z Q R r1 r2 h k
  cases d <;> cases e <;> try (simp [dAnd] at h; done)
  simp only [dAnd] at h
  obtain ⟨h1, rfl⟩ := guard_some h
  simp only [Bool.and_eq_true, decide_eq_true_eq] at h1
  obtain ⟨h1, rfl⟩ := h1
  rw [r1.int_inv, r2.int_inv]
  rename_i a
  obtain ⟨n, rfl⟩ := Int.eq_ofNat_of_zero_le h1
  refine ⟨n, rfl, rfl, ?_⟩
  have e : ((n % 2 : Nat) : Int) = (n : Int) % 2 := by omega
  rw [e]
  exact atom R (.int _) k
def dPow : D → D → Option D
  | .int a, .int b => guard' (decide (0 ≤ b) && decide (b ≤ 1000000) && decide (a.natAbs < 2 ^ 64)) (.int (a ^ b.toNat))
  | _, _ => none
theorem oh_pow : OpH X (binaryOp .Pow) dPow := by
  refine oh_ii (c := fun a b => decide (0 ≤ b) && decide (b ≤ 1000000) && decide (a.natAbs < 2 ^ 64)) op_pow (fun i j h => ?_) fun d e z h => ?_
  · simp only [Bool.and_eq_true, decide_eq_true_eq] at h
    exact ⟨h.1.1, h.1.2, h.2⟩
  cases d <;> cases e <;> try (simp [dPow] at h; done)
  simp only [dPow] at h
  obtain ⟨h1, rfl⟩ := guard_some h
  exact ⟨_, _, rfl, rfl, h1, rfl⟩

/-! ### comparisons -/
def isAtom : D → Bool
  | .non => true | .bl _ => true | .int _ => true | .str _ => true | _ => false
def dEq (d e : D) : Option D := guard' ((isAtom d && isAtom e && !(match d, e with | .bl _, .int _ => true | .int _, .bl _ => true | _, _ => false)) || (flat 8 d && flat 8 e)) (.bl (eqv d e))
def dNe (d e : D) : Option D := guard' ((isAtom d && isAtom e && !(match d, e with | .bl _, .int _ => true | .int _, .bl _ => true | _, _ => false)) || (flat 8 d && flat 8 e)) (.bl (!eqv d e))
theorem atom_eq {K : PySem.W.Frag} {F H : Hp} {μ : List Addr} {d e : D} {x y : V} (h : (isAtom d && isAtom e && !(match d, e with | .bl _, .int _ => true | .int _, .bl _ => true | _, _ => false)) = true) (r1 : RepH K F μ H d x) (r2 : RepH K F μ H e y) :
    scal x y = true ∧ decide (x = y) = eqv d e := by
  cases d <;> cases e <;> simp only [isAtom, Bool.and_false, Bool.false_and, Bool.not_true, Bool.and_true, Bool.not_false, Bool.false_eq_true, Bool.true_and] at h <;> try (cases h; done)
  all_goals first
    | rw [r1.int_inv] | rw [r1.str_inv] | rw [r1.bl_inv] | rw [r1.non_inv]
  all_goals first
    | rw [r2.int_inv] | rw [r2.str_inv] | rw [r2.bl_inv] | rw [r2.non_inv]
  all_goals refine ⟨rfl, ?_⟩
  all_goals first
    | (simp [eqv]; done)
    | (rw [dec_str]; exact mkS_eq _ _)
    | (rw [dec_int]; rfl)
    | (rw [dec_bl]; rfl)
theorem oh_eq (hu : X.A.units + 64 < cLine) : OpH X (compareOp .Eq) dEq := by
  refine ⟨_, op_eq.or (op_eqD hu), ?_⟩
  intro c F μ σ H s x y d e z Q R r1 r2 h k
  obtain ⟨h1, rfl⟩ := guard_some h
  rcases Bool.or_eq_true_iff.mp h1 with h1 | h1
  · obtain ⟨e1, e2⟩ := atom_eq h1 r1 r2
    exact .inl ⟨e1, by rw [e2]; exact atom R (.bl _) k⟩
  · simp only [Bool.and_eq_true] at h1
    exact .inr ⟨_, _, r1.dp R.sub h1.1, r2.dp R.sub h1.2, flat_shaped h1.1, flat_shaped h1.2, by rw [toPy_eqv]; exact atom R (.bl _) k⟩
theorem oh_ne (hu : X.A.units + 64 < cLine) : OpH X (compareOp .NotEq) dNe := by
  refine ⟨_, op_ne.or (op_neD hu), ?_⟩
  intro c F μ σ H s x y d e z Q R r1 r2 h k
  obtain ⟨h1, rfl⟩ := guard_some h
  rcases Bool.or_eq_true_iff.mp h1 with h1 | h1
  · obtain ⟨e1, e2⟩ := atom_eq h1 r1 r2
    exact .inl ⟨e1, by rw [e2]; exact atom R (.bl _) k⟩
  · simp only [Bool.and_eq_true] at h1
    exact .inr ⟨_, _, r1.dp R.sub h1.1, r2.dp R.sub h1.2, flat_shaped h1.1, flat_shaped h1.2, by rw [toPy_eqv]; exact atom R (.bl _) k⟩
def dLt : D → D → Option D
  | .int a, .int b => some (.bl (decide (a < b)))
  | .str a, .str b => some (.bl (decide (a < b)))
  | _, _ => none
def dLe : D → D → Option D
  | .int a, .int b => some (.bl (decide (a ≤ b)))
  | .str a, .str b => some (.bl (!decide (b < a)))
  | _, _ => none
def dGt : D → D → Option D
  | .int a, .int b => some (.bl (decide (b < a)))
  | .str a, .str b => some (.bl (decide (b < a)))
  | _, _ => none
def dGe : D → D → Option D
  | .int a, .int b => some (.bl (decide (b ≤ a)))
  | .str a, .str b => some (.bl (!decide (a < b)))
  | _, _ => none
theorem oh_lt : OpH X (compareOp .Lt) dLt := by
  refine ⟨_, op_lt.or op_lt_str, ?_⟩
  intro c F μ σ H s x y d e z Q R r1 r2 h k
  cases d <;> cases e <;> try (simp [dLt] at h; done)
  · simp only [dLt, Option.some.injEq] at h; subst h
    rw [r1.int_inv, r2.int_inv]
    exact .inl ⟨_, _, rfl, rfl, atom R (.bl _) k⟩
  · simp only [dLt, Option.some.injEq] at h; subst h
    rw [r1.str_inv, r2.str_inv]
    exact .inr ⟨_, _, rfl, rfl, atom R (.bl _) k⟩
theorem oh_le : OpH X (compareOp .LtE) dLe := by
  refine ⟨_, op_le.or op_le_str, ?_⟩
  intro c F μ σ H s x y d e z Q R r1 r2 h k
  cases d <;> cases e <;> try (simp [dLe] at h; done)
  · simp only [dLe, Option.some.injEq] at h; subst h
    rw [r1.int_inv, r2.int_inv]
    exact .inl ⟨_, _, rfl, rfl, atom R (.bl _) k⟩
  · simp only [dLe, Option.some.injEq] at h; subst h
    rw [r1.str_inv, r2.str_inv]
    exact .inr ⟨_, _, rfl, rfl, atom R (.bl _) k⟩
theorem oh_gt : OpH X (compareOp .Gt) dGt := by
  refine ⟨_, op_gt.or op_gt_str, ?_⟩
  intro c F μ σ H s x y d e z Q R r1 r2 h k
  cases d <;> cases e <;> try (simp [dGt] at h; done)
  · simp only [dGt, Option.some.injEq] at h; subst h
    rw [r1.int_inv, r2.int_inv]
    exact .inl ⟨_, _, rfl, rfl, atom R (.bl _) k⟩
  · simp only [dGt, Option.some.injEq] at h; subst h
    rw [r1.str_inv, r2.str_inv]
    exact .inr ⟨_, _, rfl, rfl, atom R (.bl _) k⟩
theorem oh_ge : OpH X (compareOp .GtE) dGe := by
  refine ⟨_, op_ge.or op_ge_str, ?_⟩
  intro c F μ σ H s x y d e z Q R r1 r2 h k
  cases d <;> cases e <;> try (simp [dGe] at h; done)
  · simp only [dGe, Option.some.injEq] at h; subst h
    rw [r1.int_inv, r2.int_inv]
    exact .inl ⟨_, _, rfl, rfl, atom R (.bl _) k⟩
  · simp only [dGe, Option.some.injEq] at h; subst h
    rw [r1.str_inv, r2.str_inv]
    exact .inr ⟨_, _, rfl, rfl, atom R (.bl _) k⟩
def isNonD : D → Bool
  | .non => true
  | _ => false
def dIs : D → D → Option D
  | d, .non => some (.bl (isNonD d))
  | _, _ => none
def dIsNot : D → D → Option D
  | d, .non => some (.bl (!isNonD d))
  | _, _ => none
theorem rep_non_iff {K : PySem.W.Frag} {F H : Hp} {μ : List Addr} {d : D} {x : V} (r : RepH K F μ H d x) : decide (x = .non) = isNonD d := by
  cases r with
  | rep r => cases r <;> simp [isNonD]
  | lst _ _ => simp [isNonD]
  | dct _ _ => simp [isNonD]
theorem oh_is : OpH X (compareOp .Is) dIs := by
  refine ⟨_, op_isN, ?_⟩
  intro c F μ σ H s x y d e z Q R r1 r2 h k
  cases e <;> try (simp [dIs] at h; done)
  simp only [dIs, Option.some.injEq] at h; subst h
  exact ⟨r2.non_inv, by rw [rep_non_iff r1]; exact atom R (.bl _) k⟩
theorem oh_isnot : OpH X (compareOp .IsNot) dIsNot := by
  refine ⟨_, op_notN, ?_⟩
  intro c F μ σ H s x y d e z Q R r1 r2 h k
  cases e <;> try (simp [dIsNot] at h; done)
  simp only [dIsNot, Option.some.injEq] at h; subst h
  exact ⟨r2.non_inv, by rw [rep_non_iff r1]; exact atom R (.bl _) k⟩
end
end DL

set_option Elab.async false
set_option linter.all false
set_option maxRecDepth 100000
namespace DL
open PySem PySem.Spec PyProof.Rows L2
section
variable {X : Cx}
/-! ### repetition -/
theorem rep_codes (x : Array Nat) : ∀ n : Nat, (List.replicate n x).foldl (· ++ ·) #[] = ((List.replicate n x.toList).flatten).toArray := by
  have h : ∀ (n : Nat) (acc : Array Nat), (List.replicate n x).foldl (· ++ ·) acc = acc ++ ((List.replicate n x.toList).flatten).toArray := by
    intro n
    induction n with
    | zero => intro acc; simp
    | succ n ih =>
      intro acc
      rw [List.replicate_succ, List.foldl_cons, ih, List.replicate_succ, List.flatten_cons]
      apply Array.ext'
      simp
  intro n
  rw [h n #[]]
  apply Array.ext'
  simp
theorem op_mul_str : OpR X (binaryOp .Mult) (fun x y H Q => ∃ (z : List Nat) (k : Int), x = .str (mkS z) ∧ y = .int k ∧ -(2 ^ 62) < k ∧ k < 2 ^ 62 ∧ z.length * k.toNat ≤ LIM ∧ Q (.str (mkS (List.replicate k.toNat z).flatten)) H) := by
  intro pins s σ H x y v u Q I rx ry h
  obtain ⟨z, k, rfl, rfl, h1, h2, h3, q⟩ := h
  obtain ⟨t, rfl⟩ := rx
  obtain ⟨t', rfl⟩ := ry
  have hl : (mkS z).length = z.length := mkS_len z
  refine PySem.P.mul_str (by rw [decide_eq_false (by omega), decide_eq_false (by omega)]; rfl) (fun hk hz => ?_) (fun hk hz => ?_) ?_
  · rw [hl]
    have hk1 : 1 ≤ k := by omega
    have h3' : (z.length : Int) * k ≤ 16777216 := by
      have : ((z.length * k.toNat : Nat) : Int) ≤ (LIM : Nat) := by exact_mod_cast h3
      rw [Int.natCast_mul, Int.toNat_of_nonneg (by omega)] at this
      exact this
    have h4 : (z.length : Int) ≤ (2 ^ 63 - 1) / k := (Int.le_ediv_iff_mul_le (by omega)).mpr (by omega)
    omega
  · rw [hl]
    exact (by
      have h4 := lim_le h3
      show Builtin.Str.tooLong _ = false; simp only [Builtin.Str.tooLong, decide_eq_false_iff_not]
      omega)
  · by_cases hk : k < 1
    · rw [if_pos hk]
      have e : k.toNat = 0 := by omega
      rw [e] at q
      exact ⟨by decide, ⟨.str (mkS []), H, I.tok _, ⟨_, rfl⟩, by simpa using q⟩⟩
    · rw [if_neg hk]
      by_cases hb : (k == 1 || (mkS z).length == 0) = true
      · rw [if_pos hb]
        have e : (List.replicate k.toNat z).flatten = z := by
          rcases Bool.or_eq_true_iff.mp hb with hb | hb
          · have : k = 1 := by simpa using hb
            subst this
            simp
          · rw [hl] at hb
            have : z = [] := by simpa using hb
            subst this
            simp
        rw [e] at q
        exact ⟨.str (mkS z), H, I, ⟨_, rfl⟩, q⟩
      · rw [if_neg hb]
        refine ⟨?_, ⟨.str (mkS (List.replicate k.toNat z).flatten), H, I.tok _, ?_, q⟩⟩
        · rw [rep_codes]
          have : ((List.replicate k.toNat z).flatten).length = k.toNat * z.length := by simp
          have h4 : k.toNat * z.length ≤ LIM := by rw [Nat.mul_comm]; exact h3
          have h5 := lim_le h4
          simp [Str.length, Builtin.Str.tooLong]
          omega
        · rw [rep_codes]; exact ⟨_, rfl⟩

def dMul : D → D → Option D
  | .int a, .int b => guard' (decide (a.natAbs.log2 + b.natAbs.log2 < 1000000)) (.int (a * b))
  | .str z, .int k => guard' (decide (-(2 ^ 62) < k) && decide (k < 2 ^ 62) && decide (z.length * k.toNat ≤ LIM)) (.str (List.replicate k.toNat z).flatten)
  | .lst z, .int k => guard' (decide (-(2 ^ 62) < k) && decide (k < 2 ^ 62) && decide (z.length * k.toNat ≤ LIM)) (.lst (List.replicate k.toNat z).flatten)
  | .tup z, .int k => guard' (!z.isEmpty && decide (2 ≤ k) && decide (k ≤ 1000) && decide (z.length ≤ 1000)) (.tup (List.replicate k.toNat z).flatten)
  | _, _ => none
theorem oh_mul : OpH X (binaryOp .Mult) dMul := by
  refine ⟨_, ((op_mulW.or op_mul_str).or op_rep).or op_repT, ?_⟩
  intro c F μ σ H s x y d e z Q R r1 r2 h k
  cases d <;> cases e <;> try (simp [dMul] at h; done)
  case int.int a b =>
    simp only [dMul] at h
    obtain ⟨h1, rfl⟩ := guard_some h
    rw [r1.int_inv, r2.int_inv]
    exact .inl (.inl (.inl ⟨_, _, rfl, rfl, (by have q := of_decide_eq_true h1; exact q), atom R (.int _) k⟩))
  case str.int a b =>
    simp only [dMul] at h
    obtain ⟨h1, rfl⟩ := guard_some h
    simp only [Bool.and_eq_true, decide_eq_true_eq] at h1
    rw [r1.str_inv, r2.int_inv]
    exact .inl (.inl (.inr ⟨_, _, rfl, rfl, h1.1.1, h1.1.2, h1.2, atom R (.str _) k⟩))
  case lst.int a b =>
    simp only [dMul] at h
    obtain ⟨h1, rfl⟩ := guard_some h
    simp only [Bool.and_eq_true, decide_eq_true_eq] at h1
    obtain ⟨l, vs, rfl, e1, q1⟩ := r1.lst_inv R.sub
    rw [r2.int_inv]
    have l1 := q1.length
    exact .inl (.inr ⟨l, b, vs, rfl, rfl, e1, by omega, by omega, lim_le (by rw [← l1]; exact h1.2), newLst R (q1.rep _) k⟩)
  case tup.int a b =>
    simp only [dMul] at h
    obtain ⟨h1, rfl⟩ := guard_some h
    simp only [Bool.and_eq_true, decide_eq_true_eq, Bool.not_eq_true'] at h1
    obtain ⟨l, vs, rfl, e1, q1⟩ := r1.tup_inv R.sub
    rw [r2.int_inv]
    have l1 := q1.length
    refine .inr ⟨l, b, vs, rfl, rfl, e1, fun hv => ?_, h1.1.1.2, h1.1.2, by omega, newTup R (q1.rep _) k⟩
    subst hv
    have : a = [] := by cases a <;> simp at l1 ⊢
    subst this
    simp at h1

/-! ### one-place operations -/
def UnH (X : Cx) (fo : Value → Sem Value) (op : D → Option D) : Prop :=
  ∃ r : V → Hp → VK → Prop, UnR X fo r ∧ ∀ (c : Ct) (F : Hp) (μ : List Addr) (σ : L2.St) (H : Hp) (s : Sto) (x : V) (d z : D) (Q : VK), Rel X.K c F μ σ H s → RepH X.K F μ H d x → op d = some z →
    (∀ v H' F' μ', Rel X.K c F' μ' σ H' s → Mono F μ F' μ' → Rep X.K F' μ' z v → Q v H') → r x H Q
def eUn (op : D → Option D) (f : Ev D) : Ev D := bnd f fun x => lft (op x)
theorem de_un {cls : Nat → Addr} {a : Expr} {f : Ev D} {pos : Pos} {op : UnaryOp} {o : D → Option D} (ho : UnH X (unaryOp op) o) (ha : DE cls X a f) : DE cls X (.UnaryOp op a pos) (eUn o f) := by
  obtain ⟨r, h1, h2⟩ := ho
  refine imp (pe_un h1 ha) fun σ H Q ⟨c, F, μ, s, hc, R, z, s', e, k⟩ => ?_
  obtain ⟨x, s1, e1, f1⟩ := bnd_some e
  obtain ⟨e3, w3⟩ := lft_some f1
  subst w3
  exact ⟨c, F, μ, s, hc, R, x, s', e1, fun u H1 F1 μ1 R1 m1 r1 => h2 c F1 μ1 σ H1 s' u x z Q R1 (.rep r1) e3 fun v' H' F' μ' R' m' r' => k v' H' F' μ' R' (m1.trans m') r'⟩
def dNeg : D → Option D
  | .int a => some (.int (-a))
  | _ => none
theorem uh_neg : UnH X (unaryOp .USub) dNeg := by
  refine ⟨_, un_neg, ?_⟩
  intro c F μ σ H s x d z Q R r1 h k
  cases d <;> try (simp [dNeg] at h; done)
  simp only [dNeg, Option.some.injEq] at h; subst h
  rw [r1.int_inv]
  exact ⟨_, rfl, atom R (.int _) k⟩

/-! ### calls -/
theorem p1 {α β : Type} {G : α → β → Prop} {a : α} {ys : List β} (h : Paired G [a] ys) : ∃ y, ys = [y] ∧ G a y := by
  cases h with
  | cons h t => cases t; exact ⟨_, rfl, h⟩
theorem p2 {α β : Type} {G : α → β → Prop} {a b : α} {ys : List β} (h : Paired G [a, b] ys) : ∃ y z, ys = [y, z] ∧ G a y ∧ G b z := by
  cases h with
  | cons h t =>
    cases t with
    | cons h' t => cases t; exact ⟨_, _, rfl, h, h'⟩
def dLen : List D → Option D
  | [.str s] => guard' (decide (s.length ≤ LIM)) (.int s.length)
  | [.lst s] => some (.int s.length)
  | [.tup s] => some (.int s.length)
  | [.dct s] => some (.int s.length)
  | _ => none
theorem RepKs.length {K : PySem.W.Frag} {F : Hp} {μ : List Addr} : ∀ {ds : List (DK × D)} {vs : List (Key × V)}, RepKs K F μ ds vs → ds.length = vs.length
  | _, _, .nil => rfl
  | _, _, .cons _ r => by rw [List.length_cons, List.length_cons, RepKs.length r]
theorem ch_len : ClH X (.builtin "len") dLen := by
  refine ⟨_, call_len.or call_lenD, ?_⟩
  intro c F μ σ H s xs ds z Q R r h k
  match ds, h, r with
  | [.str t], h, r =>
    simp only [dLen] at h
    obtain ⟨h1, rfl⟩ := guard_some h
    obtain ⟨y, rfl, r1⟩ := p1 r
    rw [r1.str_inv]
    exact .inl ⟨_, t.length, rfl, ⟨by rw [mkS_len]; exact lim_le (of_decide_eq_true h1), (mkS_len t).symm⟩, atom R (.int _) k⟩
  | [.lst t], h, r =>
    simp only [dLen, Option.some.injEq] at h; subst h
    obtain ⟨y, rfl, r1⟩ := p1 r
    obtain ⟨a, vs, rfl, e1, q1⟩ := r1.lst_inv R.sub
    exact .inl ⟨_, t.length, rfl, .inl ⟨vs, SqL.of e1, q1.length⟩, atom R (.int _) k⟩
  | [.tup t], h, r =>
    simp only [dLen, Option.some.injEq] at h; subst h
    obtain ⟨y, rfl, r1⟩ := p1 r
    obtain ⟨a, vs, rfl, e1, q1⟩ := r1.tup_inv R.sub
    exact .inl ⟨_, t.length, rfl, .inr ⟨vs, e1, q1.length⟩, atom R (.int _) k⟩
  | [.dct t], h, r =>
    simp only [dLen, Option.some.injEq] at h; subst h
    obtain ⟨y, rfl, r1⟩ := p1 r
    obtain ⟨a, vs, rfl, e1, q1⟩ := r1.dct_inv R.sub
    exact .inr ⟨_, vs, rfl, e1, by rw [← q1.length]; exact atom R (.int _) k⟩
def dAbs : List D → Option D
  | [.int a] => some (.int (if a < 0 then -a else a))
  | _ => none
theorem ch_abs : ClH X (.builtin "abs") dAbs := by
  refine ⟨_, call_abs, ?_⟩
  intro c F μ σ H s xs ds z Q R r h k
  match ds, h, r with
  | [.int t], h, r =>
    simp only [dAbs, Option.some.injEq] at h; subst h
    obtain ⟨y, rfl, r1⟩ := p1 r
    rw [r1.int_inv]
    exact ⟨_, rfl, atom R (.int _) k⟩
/-- int of an int, a bool; of a text of one digit -/
def dInt : List D → Option D
  | [.int a] => some (.int a)
  | [.bl b] => some (.int (if b then 1 else 0))
  | [.str [c]] => guard' (decide (48 ≤ c) && decide (c ≤ 57)) (.int ((c : Int) - 48))
  | _ => none
theorem digit_int : ∀ c : Nat, 48 ≤ c → c ≤ 57 → PySem.intText? (mkS [c]) = some ((c : Int) - 48) := by
  intro c h1 h2
  have : ∀ k : Fin 10, PySem.intText? (mkS [48 + k.val]) = some (((48 + k.val : Nat) : Int) - 48) := by decide +kernel
  have e := this ⟨c - 48, by omega⟩
  have e2 : 48 + (c - 48) = c := by omega
  simp only [e2] at e
  exact e
theorem ch_int : ClH X (.type "int") dInt := by
  refine ⟨_, call_int1.or call_int_str, ?_⟩
  intro c F μ σ H s xs ds z Q R r h k
  match ds, h, r with
  | [.int t], h, r =>
    simp only [dInt, Option.some.injEq] at h; subst h
    obtain ⟨y, rfl, r1⟩ := p1 r
    rw [r1.int_inv]
    exact .inl (.inl ⟨_, rfl, atom R (.int _) k⟩)
  | [.bl t], h, r =>
    simp only [dInt, Option.some.injEq] at h; subst h
    obtain ⟨y, rfl, r1⟩ := p1 r
    rw [r1.bl_inv]
    exact .inl (.inr ⟨_, rfl, atom R (.int _) k⟩)
  | [.str [t]], h, r =>
    simp only [dInt] at h
    obtain ⟨h1, rfl⟩ := guard_some h
    simp only [Bool.and_eq_true, decide_eq_true_eq] at h1
    obtain ⟨y, rfl, r1⟩ := p1 r
    rw [r1.str_inv]
    exact .inr ⟨_, _, rfl, digit_int t h1.1 h1.2, by rw [mkS_len]; show 1 ≤ 640; decide, atom R (.int _) k⟩
/-- str of an int of at most some digits -/
def intCodes (i : Int) : List Nat := (toString i).toList.map Char.toNat
def dStr : List D → Option D
  | [.int a] => guard' (decide (a.natAbs.log2 < 1920)) (.str (intCodes a))
  | [.str a] => some (.str a)
  | _ => none
theorem ch_str : ClH X (.type "str") dStr := by
  refine ⟨_, call_str_int.or SkE.call_str_str, ?_⟩
  intro c F μ σ H s xs ds z Q R r h k
  match ds, h, r with
  | [.int t], h, r =>
    simp only [dStr] at h
    obtain ⟨h1, rfl⟩ := guard_some h
    obtain ⟨y, rfl, r1⟩ := p1 r
    rw [r1.int_inv]
    refine .inl ⟨_, rfl, of_decide_eq_true h1, ?_⟩
    have e : ((toString t : String) : Str) = mkS (intCodes t) := Str.ofString_eq_toList _
    rw [e]
    exact atom R (.str _) k
  | [.str t], h, r =>
    simp only [dStr, Option.some.injEq] at h; subst h
    obtain ⟨y, rfl, r1⟩ := p1 r
    rw [r1.str_inv]
    exact .inr ⟨_, rfl, atom R (.str _) k⟩
def dTuple : List D → Option D
  | [.lst xs] => some (.tup xs)
  | [.tup xs] => some (.tup xs)
  | _ => none
theorem ch_tuple : ClH X (.type "tuple") dTuple := by
  refine ⟨_, call_tuple_of, ?_⟩
  intro c F μ σ H s xs ds z Q R r h k
  match ds, h, r with
  | [.lst t], h, r =>
    simp only [dTuple, Option.some.injEq] at h; subst h
    obtain ⟨y, rfl, r1⟩ := p1 r
    obtain ⟨a, vs, rfl, e1, q1⟩ := r1.lst_inv R.sub
    exact ⟨a, vs, rfl, .inl ⟨SqL.of e1, newTup R q1 k⟩⟩
  | [.tup t], h, r =>
    simp only [dTuple, Option.some.injEq] at h; subst h
    obtain ⟨y, rfl, r1⟩ := p1 r
    obtain ⟨a, vs, rfl, e1, q1⟩ := r1.tup_inv R.sub
    cases r1 with
    | rep r1 => exact ⟨a, vs, rfl, .inr ⟨e1, atom R r1 k⟩⟩
def dMax2 : List D → Option D
  | [.int a, .int b] => some (.int (if b > a then b else a))
  | _ => none
theorem ch_max2 (hc : X.calm = true) : ClH X (.builtin "max") dMax2 := by
  refine ⟨_, call_max2 hc, ?_⟩
  intro c F μ σ H s xs ds z Q R r h k
  match ds, h, r with
  | [.int t, .int u], h, r =>
    simp only [dMax2, Option.some.injEq] at h; subst h
    obtain ⟨y, z, rfl, r1, r2⟩ := p2 r
    rw [r1.int_inv, r2.int_inv]
    exact ⟨_, _, rfl, atom R (.int _) k⟩
def dMin2 : List D → Option D
  | [.int a, .int b] => some (.int (if b < a then b else a))
  | _ => none
theorem ch_min2 (hc : X.calm = true) : ClH X (.builtin "min") dMin2 := by
  refine ⟨_, call_min2 hc, ?_⟩
  intro c F μ σ H s xs ds z Q R r h k
  match ds, h, r with
  | [.int t, .int u], h, r =>
    simp only [dMin2, Option.some.injEq] at h; subst h
    obtain ⟨y, z, rfl, r1, r2⟩ := p2 r
    rw [r1.int_inv, r2.int_inv]
    exact ⟨_, _, rfl, atom R (.int _) k⟩
/-- lists of bools, of ints -/
def asBs : List D → Option (List Bool)
  | [] => some []
  | .bl b :: r => (asBs r).map (b :: ·)
  | _ :: _ => none
def asIs : List D → Option (List Int)
  | [] => some []
  | .int b :: r => (asIs r).map (b :: ·)
  | _ :: _ => none
def asSs : List D → Option (List (List Nat))
  | [] => some []
  | .str b :: r => (asSs r).map (b :: ·)
  | _ :: _ => none
theorem asBs_rep {K : PySem.W.Frag} {F : Hp} {μ : List Addr} : ∀ {ds : List D} {vs : List V} {bs : List Bool}, Reps K F μ ds vs → asBs ds = some bs → vs = bs.map V.bl
  | [], _, bs, .nil, h => by simp [asBs] at h; subst h; rfl
  | .bl b :: r, _, bs, .cons h1 h2, h => by
    simp only [asBs, Option.map_eq_some_iff] at h
    obtain ⟨t, e, rfl⟩ := h
    rw [asBs_rep h2 e, h1.bl_inv]; rfl
theorem asIs_rep {K : PySem.W.Frag} {F : Hp} {μ : List Addr} : ∀ {ds : List D} {vs : List V} {bs : List Int}, Reps K F μ ds vs → asIs ds = some bs → vs = bs.map V.int
  | [], _, bs, .nil, h => by simp [asIs] at h; subst h; rfl
  | .int b :: r, _, bs, .cons h1 h2, h => by
    simp only [asIs, Option.map_eq_some_iff] at h
    obtain ⟨t, e, rfl⟩ := h
    rw [asIs_rep h2 e, h1.int_inv]; rfl
theorem asSs_rep {K : PySem.W.Frag} {F : Hp} {μ : List Addr} : ∀ {ds : List D} {vs : List V} {bs : List (List Nat)}, Reps K F μ ds vs → asSs ds = some bs → vs = (bs.map mkS).map V.str
  | [], _, bs, .nil, h => by simp [asSs] at h; subst h; rfl
  | .str b :: r, _, bs, .cons h1 h2, h => by
    simp only [asSs, Option.map_eq_some_iff] at h
    obtain ⟨t, e, rfl⟩ := h
    rw [asSs_rep h2 e, h1.str_inv]; rfl
def dAll : List D → Option D
  | [.lst xs] => (asBs xs).map fun bs => .bl (bs.all id)
  | _ => none
theorem ch_all (hc : X.calm = true) : ClH X (.builtin "all") dAll := by
  refine ⟨_, cr_all hc, ?_⟩
  intro c F μ σ H s xs ds z Q R r h k
  match ds, h, r with
  | [.lst t], h, r =>
    simp only [dAll, Option.map_eq_some_iff] at h
    obtain ⟨bs, e, rfl⟩ := h
    obtain ⟨y, rfl, r1⟩ := p1 r
    obtain ⟨a, vs, rfl, e1, q1⟩ := r1.lst_inv R.sub
    exact ⟨a, bs, rfl, by rw [← asBs_rep q1 e]; exact SqL.of e1, atom R (.bl _) k⟩
def dAny : List D → Option D
  | [.lst xs] => (asBs xs).map fun bs => .bl (bs.any id)
  | _ => none
theorem ch_any (hc : X.calm = true) : ClH X (.builtin "any") dAny := by
  refine ⟨_, cr_any hc, ?_⟩
  intro c F μ σ H s xs ds z Q R r h k
  match ds, h, r with
  | [.lst t], h, r =>
    simp only [dAny, Option.map_eq_some_iff] at h
    obtain ⟨bs, e, rfl⟩ := h
    obtain ⟨y, rfl, r1⟩ := p1 r
    obtain ⟨a, vs, rfl, e1, q1⟩ := r1.lst_inv R.sub
    exact ⟨a, bs, rfl, by rw [← asBs_rep q1 e]; exact SqL.of e1, atom R (.bl _) k⟩
/-- sum of a list of ints -/
def dSum : List D → Option D
  | [.lst xs] => (asIs xs).map fun bs => .int bs.sum
  | _ => none
theorem ch_sum (hc : X.calm = true) : ClH X (.builtin "sum") dSum := by
  refine ⟨_, cr_sum hc, ?_⟩
  intro c F μ σ H s xs ds z Q R r h k
  match ds, h, r with
  | [.lst t], h, r =>
    simp only [dSum, Option.map_eq_some_iff] at h
    obtain ⟨bs, e, rfl⟩ := h
    obtain ⟨y, rfl, r1⟩ := p1 r
    obtain ⟨a, vs, rfl, e1, q1⟩ := r1.lst_inv R.sub
    exact ⟨a, bs, rfl, by rw [← asIs_rep q1 e]; exact SqL.of e1, atom R (.int _) k⟩
end
end DL

set_option Elab.async false
set_option linter.all false
set_option maxRecDepth 100000
namespace DL
open PySem PySem.Spec PyProof.Rows L2

/-! ### statements -/
/-- what is wanted behind a statement, by its outcome -/
def EndsOk (K : PySem.W.Frag) (c : Ct) (F : Hp) (μ : List Addr) (D : Ends) : Out → Prop
  | .nx s' => ∀ σ' H' F' μ', Rel K c F' μ' σ' H' s' → Mono F μ F' μ' → D.nx σ' H'
  | .rt d s' => ∀ v σ' H' F' μ', Rel K c F' μ' σ' H' s' → Mono F μ F' μ' → Rep K F' μ' d v → D.rt v H'
  | .bk s' => ∀ σ' H' F' μ', Rel K c F' μ' σ' H' s' → Mono F μ F' μ' → D.bk σ' H'
  | .ct s' => ∀ σ' H' F' μ', Rel K c F' μ' σ' H' s' → Mono F μ F' μ' → D.ct σ' H'
theorem EndsOk.mono {K : PySem.W.Frag} {c : Ct} {F F1 : Hp} {μ μ1 : List Addr} {D : Ends} {o : Out} (h : EndsOk K c F μ D o) (m : Mono F μ F1 μ1) : EndsOk K c F1 μ1 D o := by
  cases o with
  | nx s => exact fun σ' H' F' μ' R' m' => h σ' H' F' μ' R' (m.trans m')
  | rt d s => exact fun v σ' H' F' μ' R' m' r => h v σ' H' F' μ' R' (m.trans m') r
  | bk s => exact fun σ' H' F' μ' R' m' => h σ' H' F' μ' R' (m.trans m')
  | ct s => exact fun σ' H' F' μ' R' m' => h σ' H' F' μ' R' (m.trans m')
def TSd (K : PySem.W.Frag) (cls : Nat → Addr) (f : Es) : TS := fun D σ H => ∃ c F μ s, c.cls = cls ∧ Rel K c F μ σ H s ∧ ∃ o, f s = some o ∧ EndsOk K c F μ D o
abbrev DS (cls : Nat → Addr) (X : Cx) (e : Stmt) (f : Es) : Prop := PS X e (TSd X.K cls f)
abbrev DSs (cls : Nat → Addr) (X : Cx) (e : List Stmt) (f : Es) : Prop := PSs X e (TSd X.K cls f)
/-- targets -/
def Off (vs : List Nat) (σ σ' : L2.St) : Prop := σ'.length = σ.length ∧ ∀ (i : Nat), i ∉ vs → σ'[i]? = σ[i]?
theorem Off.refl (vs : List Nat) (σ : L2.St) : Off vs σ σ := ⟨rfl, fun _ _ => rfl⟩
theorem Off.trans {vs ws : List Nat} {σ σ1 σ2 : L2.St} (a : Off vs σ σ1) (b : Off ws σ1 σ2) : Off (vs ++ ws) σ σ2 := ⟨b.1.trans a.1, fun i hi => by
  rw [List.mem_append] at hi
  rw [b.2 i fun h => hi (.inr h), a.2 i fun h => hi (.inl h)]⟩
def TDG (K : PySem.W.Frag) (cls : Nat → Addr) (vs : List Nat) (t : D → Sto → Option Sto) : TG := fun v σ H Q => ∃ c F μ s d, c.cls = cls ∧ Rel K c F μ σ H s ∧ Rep K F μ d v ∧ ∃ s', t d s = some s' ∧
  ∀ σ' H' F' μ', Rel K c F' μ' σ' H' s' → Mono F μ F' μ' → Off vs σ σ' → Q σ' H'
def TDGs (K : PySem.W.Frag) (cls : Nat → Addr) (vs : List Nat) (t : List D → Sto → Option Sto) : TGs := fun v σ H Q => ∃ c F μ s d, c.cls = cls ∧ Rel K c F μ σ H s ∧ Reps K F μ d v ∧ ∃ s', t d s = some s' ∧
  ∀ σ' H' F' μ', Rel K c F' μ' σ' H' s' → Mono F μ F' μ' → Off vs σ σ' → Q σ' H'
abbrev DG (cls : Nat → Addr) (X : Cx) (e : Expr) (vs : List Nat) (t : D → Sto → Option Sto) : Prop := PG X e (TDG X.K cls vs t)
abbrev DGs (cls : Nat → Addr) (X : Cx) (e : List Expr) (vs : List Nat) (t : List D → Sto → Option Sto) : Prop := PGs X e (TDGs X.K cls vs t)
theorem impG {X : Cx} {e : Expr} {t t' : TG} (h : PG X e t) (k : ∀ v σ H Q, t' v σ H Q → t v σ H Q) : PG X e t' := ⟨fun pins s σ H v u Q I r w => h.run pins s σ H v u Q I r (k _ _ _ _ w)⟩
theorem impGs {X : Cx} {e : List Expr} {t t' : TGs} (h : PGs X e t) (k : ∀ v σ H Q, t' v σ H Q → t v σ H Q) : PGs X e t' := ⟨fun pins s σ H v u Q I r w => h.run pins s σ H v u Q I r (k _ _ _ _ w)⟩

section
variable {cls : Nat → Addr} {X : Cx} {a b e e' : Expr} {f g h : Ev D} {p q : Ev Bool} {pos : Pos} {es : List Expr} {st : Stmt} {sts : List Stmt} {u v w : Es}
def tNm (i : Nat) : D → Sto → Option Sto := fun d s => some (s.1.set i (.val d), s.2)
def tNl : List D → Sto → Option Sto
  | [], s => some s
  | _, _ => none
def tCs (t : D → Sto → Option Sto) (u : List D → Sto → Option Sto) : List D → Sto → Option Sto
  | d :: ds, s => match t d s with
    | some s1 => u ds s1
    | none => none
  | _, _ => none
def tTp (u : List D → Sto → Option Sto) : D → Sto → Option Sto
  | .tup ds, s => u ds s
  | _, _ => none
theorem dg_name (i : Nat) {x : Str} (hN : X.N.Nodup) (hi : X.N[i]? = some x := by rfl) (hx : Loc X.env.scope x := by first | exact Or.inl rfl | exact Or.inr rfl) (hf : X.fn x = true ∨ X.env.scope.names.lookup x = some .local := by first | exact .inl rfl | exact .inr rfl | assumption) : DG cls X (.Name x pos) [i] (tNm i) := by
  refine impG (pg_name hN hi hx hf) fun v σ H Q ⟨c, F, μ, s, d, hc, R, r, s', e, k⟩ => ?_
  unfold tNm at e
  cases e
  exact k _ _ _ _ (R.setVal r) (Mono.refl _ _) ⟨by simp, fun j hj => by rw [List.getElem?_set_ne (fun z => hj (by simp [z]))]⟩
theorem dgs_nil : DGs cls X [] [] tNl := by
  refine impGs pgs_nil fun v σ H Q ⟨c, F, μ, s, d, hc, R, r, s', e, k⟩ => ?_
  cases d with
  | nil =>
    cases r
    unfold tNl at e
    cases e
    exact ⟨rfl, k _ _ _ _ R (Mono.refl _ _) (Off.refl _ _)⟩
  | cons _ _ => simp [tNl] at e
theorem dgs_cons {vs ws : List Nat} {t : D → Sto → Option Sto} {u : List D → Sto → Option Sto} (h1 : DG cls X a vs t) (h2 : DGs cls X es ws u) (hs : (assignEach (a :: es) X.env).map (·.2) = assign a X.env :: (assignEach es X.env).map (·.2) := by rfl) : DGs cls X (a :: es) (vs ++ ws) (tCs t u) := by
  refine impGs (pgs_cons h1 h2 hs) fun v σ H Q ⟨c, F, μ, s, d, hc, R, r, s', e, k⟩ => ?_
  cases d with
  | nil => simp [tCs] at e
  | cons d ds =>
    cases r with
    | cons r rr =>
      simp only [tCs] at e
      split at e
      · rename_i s1 e1
        refine ⟨_, _, rfl, c, F, μ, s, d, hc, R, r, s1, e1, fun σ' H' F' μ' R' m' o' => ⟨c, F', μ', s1, ds, hc, R', rr.mono m', s', e, fun σ2 H2 F2 μ2 R2 m2 o2 => k σ2 H2 F2 μ2 R2 (m'.trans m2) (o'.trans o2)⟩⟩
      · cases e
theorem dg_tup {k : Nat} {n : Nat} {vs : List Nat} {u : List D → Sto → Option Sto} (hc : X.calm = true) (h : DGs cls X es vs u) (hn : (assignEach es X.env).length = n := by rfl) (hst : (assignEach es X.env).findIdx? (·.1) = none := by rfl)
    (hu : ∀ ds s s', u ds s = some s' → ds.length = n) : DG cls X (.Tuple es k pos) vs (tTp u) := by
  refine impG (pg_tup hc h hn hst) fun v σ H Q ⟨c, F, μ, s, d, hc, R, r, s', e, k⟩ => ?_
  cases d <;> simp only [tTp] at e <;> try (cases e; done)
  rename_i ds
  cases r with
  | tup e1 r =>
    exact ⟨_, _, rfl, Same.sqT R.sub e1, by rw [← r.length]; exact hu _ _ _ e, c, F, μ, s, ds, hc, R, r, s', e, k⟩
theorem len_nl {ds : List D} {s s' : Sto} (h : tNl ds s = some s') : ds.length = 0 := by
  cases ds with
  | nil => rfl
  | cons _ _ => simp [tNl] at h
theorem len_cs {t : D → Sto → Option Sto} {u : List D → Sto → Option Sto} {n : Nat} (hu : ∀ ds s s', u ds s = some s' → ds.length = n) : ∀ ds s s', tCs t u ds s = some s' → ds.length = n + 1 := by
  intro ds s s' h
  cases ds with
  | nil => simp [tCs] at h
  | cons d ds =>
    simp only [tCs] at h
    split at h
    · rw [List.length_cons, hu _ _ _ h]
    · cases h

/-! blocks -/
def sNil : Es := fun s => some (.nx s)
def sSeq (u v : Es) : Es := fun s => match u s with
  | some (.nx s') => v s'
  | o => o
theorem ds_nil : DSs cls X [] sNil := by
  refine impSs pss_nil fun D σ H ⟨c, F, μ, s, hc, R, o, e, k⟩ => ?_
  unfold sNil at e
  cases e
  exact k _ _ _ _ R (Mono.refl _ _)
theorem ds_cons (h1 : DS cls X st u) (h2 : DSs cls X sts v) : DSs cls X (st :: sts) (sSeq u v) := by
  refine impSs (pss_cons h1 h2) fun D σ H ⟨c, F, μ, s, hc, R, o, e, k⟩ => ?_
  unfold sSeq at e
  cases hu : u s with
  | none => rw [hu] at e; simp at e
  | some o1 =>
    refine ⟨c, F, μ, s, hc, R, o1, hu, ?_⟩
    rw [hu] at e
    cases o1 with
    | nx s1 => exact fun σ' H' F' μ' R' m' => ⟨c, F', μ', s1, hc, R', o, e, k.mono m'⟩
    | rt d s1 => cases e; exact k
    | bk s1 => cases e; exact k
    | ct s1 => cases e; exact k
theorem ds_one (h1 : DS cls X st u) : DSs cls X [st] u := by
  refine impSs (pss_one h1) fun D σ H w => w
/-- x = e -/
def sSet (i : Nat) (f : Ev D) : Es := fun s => match f s with
  | some (d, s') => some (.nx (s'.1.set i (.val d), s'.2))
  | none => none
theorem ds_set (i : Nat) {x : Str} {pos' : Pos} (hN : X.N.Nodup) (he : DE cls X e f) (hi : X.N[i]? = some x := by rfl) (hx : Loc X.env.scope x := by first | exact Or.inl rfl | exact Or.inr rfl) (hs : swapsWith e (some (.Name x pos')) pos.line X.env = pure false := by rfl)
    (hf : X.fn x = true ∨ X.env.scope.names.lookup x = some .local := by first | exact .inl rfl | exact .inr rfl | assumption) : DS cls X (.Assign [.Name x pos'] e pos) (sSet i f) := by
  refine impS (ps_set hN hi hx he hs hf) fun D σ H ⟨c, F, μ, s, hc, R, o, e, k⟩ => ?_
  unfold sSet at e
  split at e
  · rename_i d s1 e1
    cases e
    exact ⟨c, F, μ, s, hc, R, d, s1, e1, fun v H' F' μ' R' m' r' => k _ _ _ _ (R'.setVal r') m'⟩
  · cases e
/-- x = a new list (dict) of its own -/
def sOwn (i : Nat) (f : Ev (List D)) : Es := fun s => match f s with
  | some (d, s') => some (.nx (s'.1.set i (.own d), s'.2))
  | none => none
theorem ds_own (i : Nat) {x : Str} {pos' : Pos} {f : Ev (List D)} (hN : X.N.Nodup) (he : DF cls X e f) (hi : X.N[i]? = some x := by rfl) (hx : Loc X.env.scope x := by first | exact Or.inl rfl | exact Or.inr rfl) (hs : swapsWith e (some (.Name x pos')) pos.line X.env = pure false := by rfl)
    (hf : X.fn x = true ∨ X.env.scope.names.lookup x = some .local := by first | exact .inl rfl | exact .inr rfl | assumption) : DS cls X (.Assign [.Name x pos'] e pos) (sOwn i f) := by
  refine impS (ps_set hN hi hx he hs hf) fun D σ H ⟨c, F, μ, s, hc, R, o, e, k⟩ => ?_
  obtain ⟨ρ, S⟩ := s
  unfold sOwn at e
  split at e
  · rename_i d s1 e1
    cases e
    exact ⟨c, F, μ, ρ, S, hc, R, d, s1.1, s1.2, e1, fun v H' F' μ' R' m' => k _ _ _ _ R'.move m'⟩
  · cases e
def sOwnK (i : Nat) (f : Ev (List (DK × D))) : Es := fun s => match f s with
  | some (d, s') => some (.nx (s'.1.set i (.ownK d), s'.2))
  | none => none
theorem ds_ownK (i : Nat) {x : Str} {pos' : Pos} {f : Ev (List (DK × D))} (hN : X.N.Nodup) (he : DFK cls X e f) (hi : X.N[i]? = some x := by rfl) (hx : Loc X.env.scope x := by first | exact Or.inl rfl | exact Or.inr rfl) (hs : swapsWith e (some (.Name x pos')) pos.line X.env = pure false := by rfl)
    (hf : X.fn x = true ∨ X.env.scope.names.lookup x = some .local := by first | exact .inl rfl | exact .inr rfl | assumption) : DS cls X (.Assign [.Name x pos'] e pos) (sOwnK i f) := by
  refine impS (ps_set hN hi hx he hs hf) fun D σ H ⟨c, F, μ, s, hc, R, o, e, k⟩ => ?_
  obtain ⟨ρ, S⟩ := s
  unfold sOwnK at e
  split at e
  · rename_i d s1 e1
    cases e
    exact ⟨c, F, μ, ρ, S, hc, R, d, s1.1, s1.2, e1, fun v H' F' μ' R' m' => k _ _ _ _ R'.move m'⟩
  · cases e
/-- target = e -/
def sAsg (t : D → Sto → Option Sto) (f : Ev D) : Es := fun s => match f s with
  | some (d, s') => (t d s').map Out.nx
  | none => none
theorem ds_asg {tg : Expr} {vs : List Nat} {t : D → Sto → Option Sto} (hg : DG cls X tg vs t) (he : DE cls X e f) (hs : swapsWithSole [tg] e pos.line X.env = pure false := by rfl) (hw : swappedStores [tg] e X.env = pure none := by rfl)
    (h1 : (assignEach [tg] X.env).map (·.2) = [assign tg X.env] := by rfl) : DS cls X (.Assign [tg] e pos) (sAsg t f) := by
  refine impS (ps_asg he hg hs hw h1) fun D σ H ⟨c, F, μ, s, hc, R, o, e, k⟩ => ?_
  unfold sAsg at e
  split at e
  · rename_i d s1 e1
    rw [Option.map_eq_some_iff] at e
    obtain ⟨s2, e2, rfl⟩ := e
    exact ⟨c, F, μ, s, hc, R, d, s1, e1, fun v H' F' μ' R' m' r' => ⟨c, F', μ', s1, d, hc, R', r', s2, e2, fun σ2 H2 F2 μ2 R2 m2 _ => k _ _ _ _ R2 (m'.trans m2)⟩⟩
  · cases e
/-- a, b = e1, e2 -/
def sPar (i j : Nat) (g : Ev (List D)) : Es := fun s => match g s with
  | some ([a, b], s') => some (.nx ((s'.1.set i (.val a)).set j (.val b), s'.2))
  | _ => none
theorem ds_par (i j : Nat) {x y : Str} {g : Ev (List D)} {px py pt : Pos} {kt k2 pt2} (hc : X.calm = true) (hN : X.N.Nodup) (ha : DA cls X [a, b] g) (hi : X.N[i]? = some x := by rfl) (hj : X.N[j]? = some y := by rfl) (hij : i ≠ j := by decide)
    (hx : X.env.scope.names.lookup x = some .local := by rfl) (hy : X.env.scope.names.lookup y = some .local := by rfl) (hw : swappedStores [.Tuple [.Name x px, .Name y py] kt pt] (.Tuple [a, b] k2 pt2) X.env = pure (some [x, y]) := by rfl)
    (hs : swapsWithSole [.Tuple [.Name x px, .Name y py] kt pt] (.Tuple [a, b] k2 pt2) pos.line X.env = pure false := by rfl) : DS cls X (.Assign [.Tuple [.Name x px, .Name y py] kt pt] (.Tuple [a, b] k2 pt2) pos) (sPar i j g) := by
  refine impS (ps_par hc hN hi hj hij hx hy ha hw hs) fun D σ H ⟨c, F, μ, s, hc, R, o, e, k⟩ => ?_
  unfold sPar at e
  split at e
  · rename_i d1 d2 s1 e1
    cases e
    refine ⟨c, F, μ, s, hc, R, _, s1, e1, fun vs H' F' μ' R' m' r' => ?_⟩
    cases r' with
    | cons r1 rr =>
      cases rr with
      | cons r2 rr =>
        cases rr
        exact ⟨_, _, rfl, k _ _ _ _ ((R'.setVal r1).setVal r2) m'⟩
  · cases e
/-- x op= e -/
def sAug (i : Nat) (op : D → D → Option D) (f : Ev D) : Es := fun s => match s.1[i]? with
  | some (.val x) => match f s with
    | some (y, s') => (op x y).map fun z => .nx (s'.1.set i (.val z), s'.2)
    | none => none
  | _ => none
theorem ds_aug (i : Nat) {x : Str} {pos' : Pos} {op : Operator} {o : D → D → Option D} (hN : X.N.Nodup) (ho : OpD X (inplaceOp op) o) (he : DE cls X e f) (hi : X.N[i]? = some x := by rfl) (hx : Loc X.env.scope x := by first | exact Or.inl rfl | exact Or.inr rfl)
    (hf : X.fn x = true ∨ X.env.scope.names.lookup x = some .local := by first | exact .inl rfl | exact .inr rfl | assumption) : DS cls X (.AugAssign (.Name x pos') op e pos) (sAug i o f) := by
  obtain ⟨r, h1, h2⟩ := ho
  refine impS (ps_aug hN hi hx he (ti := r) h1 hf) fun D σ H ⟨c, F, μ, s, hc, R, o, e, k⟩ => ?_
  unfold sAug at e
  split at e
  · rename_i x' hx'
    split at e
    · rename_i y s1 e1
      rw [Option.map_eq_some_iff] at e
      obtain ⟨z, e2, rfl⟩ := e
      obtain ⟨α, hsl, _⟩ := R.slots
      obtain ⟨v, ev, rv⟩ := hsl i _ hx'
      refine ⟨v, ev, c, F, μ, s, hc, R, y, s1, e1, fun u H1 F1 μ1 R1 m1 r1 => ?_⟩
      exact h2 c F1 μ1 σ H1 s1 v u x' y z _ R1 (rv.mono m1) r1 e2 fun v' H' F' μ' R' m' r' => k _ _ _ _ (R'.setVal r') (m1.trans m')
    · cases e
  · cases e
def sRet (f : Ev D) : Es := fun s => match f s with
  | some (d, s') => some (.rt d s')
  | none => none
theorem ds_ret (he : DE cls X e f) : DS cls X (.Return (some e) pos) (sRet f) := by
  refine impS (ps_ret he) fun D σ H ⟨c, F, μ, s, hc, R, o, e, k⟩ => ?_
  unfold sRet at e
  split at e
  · rename_i d s1 e1
    cases e
    exact ⟨c, F, μ, s, hc, R, d, s1, e1, fun v H' F' μ' R' m' r' => k v _ _ _ _ R' m' r'⟩
  · cases e
def sExpr (f : Ev D) : Es := fun s => match f s with
  | some (_, s') => some (.nx s')
  | none => none
theorem ds_expr (he : DE cls X e f) (hs : swapsWith e none pos.line X.env = pure false := by rfl) : DS cls X (.Expr e pos) (sExpr f) := by
  refine impS (ps_expr he hs) fun D σ H ⟨c, F, μ, s, hc, R, o, e, k⟩ => ?_
  unfold sExpr at e
  split at e
  · rename_i d s1 e1
    cases e
    exact ⟨c, F, μ, s, hc, R, d, s1, e1, fun v H' F' μ' R' m' r' => k _ _ _ _ R' m'⟩
  · cases e
def sIf (p : Ev Bool) (u v : Es) : Es := fun s => match p s with
  | some (k, s') => if k = true then u s' else v s'
  | none => none
theorem ds_if {c : Expr} {sts sts' : List Stmt} (hc : DT cls X c p) (ha : DSs cls X sts u) (hb : DSs cls X sts' v) : DS cls X (.If c sts sts' pos) (sIf p u v) := by
  refine impS (ps_if hc ha hb) fun D σ H ⟨c, F, μ, s, hc, R, o, e, k⟩ => ?_
  unfold sIf at e
  split at e
  · rename_i kb s1 e1
    refine ⟨c, F, μ, s, hc, R, kb, s1, e1, fun H' F' μ' R' m' => ?_⟩
    cases kb with
    | true => rw [if_pos rfl] at e ⊢; exact ⟨c, F', μ', s1, hc, R', o, e, k.mono m'⟩
    | false => rw [if_neg Bool.false_ne_true] at e ⊢; exact ⟨c, F', μ', s1, hc, R', o, e, k.mono m'⟩
  · cases e
def sNever : Es := fun _ => none
theorem ds_never : DS cls X st sNever := by
  refine impS ps_never fun D σ H ⟨c, F, μ, s, hc, R, o, e, k⟩ => ?_
  cases e
theorem dss_never : DSs cls X sts sNever := by
  refine impSs pss_never fun D σ H ⟨c, F, μ, s, hc, R, o, e, k⟩ => ?_
  cases e
def sBreak : Es := fun s => some (.bk s)
theorem ds_break : DS cls X (.Break pos) sBreak := by
  refine impS ps_break fun D σ H ⟨c, F, μ, s, hc, R, o, e, k⟩ => ?_
  cases e
  exact k _ _ _ _ R (Mono.refl _ _)
def sCont : Es := fun s => some (.ct s)
theorem ds_cont : DS cls X (.Continue pos) sCont := by
  refine impS ps_continue fun D σ H ⟨c, F, μ, s, hc, R, o, e, k⟩ => ?_
  cases e
  exact k _ _ _ _ R (Mono.refl _ _)
theorem ds_pass : DS cls X (.Pass pos) sNil := by
  refine impS ps_pass fun D σ H ⟨c, F, μ, s, hc, R, o, e, k⟩ => ?_
  cases e
  exact k _ _ _ _ R (Mono.refl _ _)
/-- while -/
def whileF (p : Ev Bool) (u : Es) : Nat → Sto → Option Out
  | 0, _ => none
  | n + 1, s => match p s with
    | some (true, s1) => match u s1 with
      | some (.nx s2) => whileF p u n s2
      | some (.ct s2) => whileF p u n s2
      | some (.bk s2) => some (.nx s2)
      | some (.rt d s2) => some (.rt d s2)
      | none => none
    | some (false, s1) => some (.nx s1)
    | none => none
def FUEL : Nat := 1000000
def sWhile (p : Ev Bool) (u : Es) : Es := whileF p u FUEL
theorem ds_while {c : Expr} {body : List Stmt} (hp : PassesOwn (model X.prog X.w) X.A X.env X.xe) (hc : DT cls X c p) (hb : DSs cls X body u) : DS cls X (.While c body [] pos) (sWhile p u) := by
  refine impS (ps_while hp hc hb) fun D σ H ⟨c, F, μ, s, hc, R, o, e, k⟩ => ?_
  refine ⟨fun m σ' H' => ∃ F' μ' s', Rel X.K c F' μ' σ' H' s' ∧ Mono F μ F' μ' ∧ whileF p u m s' = some o, ⟨FUEL, F, μ, s, R, Mono.refl _ _, e⟩, ?_⟩
  rintro m σ1 H1 ⟨F1, μ1, s1, R1, m1, e1⟩
  cases m with
  | zero => cases e1
  | succ m =>
    unfold whileF at e1
    cases hp' : p s1 with
    | none => rw [hp'] at e1; cases e1
    | some r =>
      obtain ⟨kb, s2⟩ := r
      rw [hp'] at e1
      refine ⟨c, F1, μ1, s1, hc, R1, kb, s2, hp', fun H2 F2 μ2 R2 m2 => ?_⟩
      cases kb with
      | false =>
        dsimp only at e1
        cases e1
        rw [if_neg Bool.false_ne_true]
        exact k _ _ _ _ R2 (m1.trans m2)
      | true =>
        dsimp only at e1
        rw [if_pos rfl]
        refine ⟨fun σ' H' => ∃ F' μ' s', Rel X.K c F' μ' σ' H' s' ∧ Mono F μ F' μ' ∧ whileF p u m s' = some o, fun σ' H' h => ⟨m, Nat.lt_succ_self _, h⟩, ?_⟩
        cases hu : u s2 with
        | none => rw [hu] at e1; cases e1
        | some o2 =>
          rw [hu] at e1
          refine ⟨c, F2, μ2, s2, hc, R2, o2, hu, ?_⟩
          cases o2 with
          | nx s3 => exact fun σ3 H3 F3 μ3 R3 m3 => ⟨F3, μ3, s3, R3, m1.trans (m2.trans m3), e1⟩
          | ct s3 => exact fun σ3 H3 F3 μ3 R3 m3 => ⟨F3, μ3, s3, R3, m1.trans (m2.trans m3), e1⟩
          | bk s3 => cases e1; exact fun σ3 H3 F3 μ3 R3 m3 => k _ _ _ _ R3 (m1.trans (m2.trans m3))
          | rt d s3 => cases e1; exact fun v3 σ3 H3 F3 μ3 R3 m3 r3 => k _ _ _ _ _ R3 (m1.trans (m2.trans m3)) r3
end
end DL

set_option Elab.async false
set_option linter.all false
set_option maxRecDepth 100000
namespace DL
open PySem PySem.Spec PyProof.Rows L2

/-! ### what is walked -/
structure Serve (K : PySem.W.Frag) (F : Hp) (μ : List Addr) (J : It) (ds : List D) : Prop where
  go : ∀ i H, i < ds.length → Same F H → J.go i H
  stop : ∀ i H, ds.length ≤ i → Same F H → J.stop i H
  yld : ∀ i H x H', i < ds.length → Same F H → J.yld i H x H' → (H' = H ∧ ∃ d, ds[i]? = some d ∧ Rep K F μ d x) ∨
    ∃ T vs es, H T = none ∧ H' = upd H T (.tup vs) ∧ x = .ref T ∧ ds[i]? = some (.tup es) ∧ Reps K F μ es vs
def TDI (K : PySem.W.Frag) (cls : Nat → Addr) (f : Ev (List D)) : TI := fun σ H R => ∃ c F μ s, c.cls = cls ∧ Rel K c F μ σ H s ∧ ∃ ds s', f s = some (ds, s') ∧
  ∀ J H' F' μ', Rel K c F' μ' σ H' s' → Mono F μ F' μ' → Serve K F' μ' J ds → R J H'
abbrev DI (cls : Nat → Addr) (X : Cx) (tg e : Expr) (f : Ev (List D)) : Prop := PI X tg e (TDI X.K cls f)
theorem impI {X : Cx} {tg e : Expr} {t t' : TI} (h : PI X tg e t) (k : ∀ σ H Q, t' σ H Q → t σ H Q) : PI X tg e t' := ⟨fun pins s σ H R I w => h.run pins s σ H R I (k _ _ _ w)⟩
theorem pi_or {X : Cx} {tg e : Expr} {t t' : TI} (h : PI X tg e t) (h' : PI X tg e t') : PI X tg e (fun σ H R => t σ H R ∨ t' σ H R) := ⟨fun pins s σ H R I w => w.elim (h.run pins s σ H R I) (h'.run pins s σ H R I)⟩

def items : D → Option (List D)
  | .lst xs => some xs
  | .tup xs => some xs
  | .str s => some (s.map fun c => .str [c])
  | .scr xs => some (xs.map .int)
  | _ => none
def eItems (f : Ev D) : Ev (List D) := bnd f fun d => lft (items d)

section
variable {K : PySem.W.Frag} {F H : Hp} {μ : List Addr}
theorem serve_list {a : Addr} {ds : List D} {vs : List V} (h : F a = some (.lst vs)) (r : Reps K F μ ds vs) (hj : ∀ H, Same F H → ∀ xs, SqL K H a xs → xs = vs) : Serve K F μ (Itl K a) ds where
  go := fun i H hi m => ⟨vs, vs[i]'(by rw [← r.length]; exact hi), SqL.of (m _ _ h), by simp⟩
  stop := fun i H hi m => ⟨vs, SqL.of (m _ _ h), by rw [← r.length]; exact hi⟩
  yld := fun i H x H' hi m y => by
    obtain ⟨e, y⟩ := y
    have hx := y vs (SqL.of (m _ _ h))
    obtain ⟨d, hd, rd⟩ := r.get' hx
    exact .inl ⟨e, d, hd, rd⟩
theorem serve_seqL {a : Addr} {ds : List D} {vs : List V} (h : SqL K F a vs) (r : Reps K F μ ds vs) : Serve K F μ (Itl K a) ds where
  go := fun i H hi m => ⟨vs, vs[i]'(by rw [← r.length]; exact hi), m.seq h, by simp⟩
  stop := fun i H hi m => ⟨vs, m.seq h, by rw [← r.length]; exact hi⟩
  yld := fun i H x H' hi m y => by
    obtain ⟨e, y⟩ := y
    have hx := y vs (m.seq h)
    obtain ⟨d, hd, rd⟩ := r.get' hx
    exact .inl ⟨e, d, hd, rd⟩
theorem serve_seqT {a : Addr} {ds : List D} {vs : List V} (h : SqT K F a vs) (r : Reps K F μ ds vs) : Serve K F μ (Itt K a) ds where
  go := fun i H hi m => ⟨vs, vs[i]'(by rw [← r.length]; exact hi), Same.sqT m h, by simp⟩
  stop := fun i H hi m => ⟨vs, Same.sqT m h, by rw [← r.length]; exact hi⟩
  yld := fun i H x H' hi m y => by
    obtain ⟨e, y⟩ := y
    have hx := y vs (Same.sqT m h)
    obtain ⟨d, hd, rd⟩ := r.get' hx
    exact .inl ⟨e, d, hd, rd⟩
theorem serve_str (s : List Nat) : Serve K F μ (Its (mkS s)) (s.map fun c => .str [c]) where
  go := fun i H hi m => by simpa [Its] using hi
  stop := fun i H hi m => by simpa [Its] using hi
  yld := fun i H x H' hi m y => by
    obtain ⟨e, c, hc, rfl⟩ := y
    refine .inl ⟨e, .str [c], ?_, .str [c]⟩
    have : s[i]? = some c := by simpa [mkS] using hc
    rw [List.getElem?_map, this]; rfl
theorem reps_ints : ∀ xs : List Int, Reps K F μ (xs.map .int) (xs.map V.int)
  | [] => .nil
  | x :: xs => .cons (.int x) (reps_ints xs)
def rangeL (lo c : Int) (n : Nat) : List D := (List.range n).map fun (i : Nat) => D.int (lo + (i : Int) * c)
theorem serve_rng (lo : Int) (n : Nat) : Serve K F μ (Itr lo n) (rangeL lo 1 n) where
  go := fun i H hi m => by simpa [rangeL, Itr] using hi
  stop := fun i H hi m => by simpa [rangeL, Itr] using hi
  yld := fun i H x H' hi m y => by
    obtain ⟨e, rfl⟩ := y
    have hi : i < n := by simpa [rangeL] using hi
    refine .inl ⟨e, .int (lo + i), ?_, .int _⟩
    unfold rangeL
    rw [List.getElem?_map, List.getElem?_range hi]
    simp
theorem serve_rngC (lo c : Int) (n : Nat) : Serve K F μ (Itc lo c n) (rangeL lo c n) where
  go := fun i H hi m => by simpa [rangeL, Itc] using hi
  stop := fun i H hi m => by simpa [rangeL, Itc] using hi
  yld := fun i H x H' hi m y => by
    obtain ⟨e, rfl⟩ := y
    have hi : i < n := by simpa [rangeL] using hi
    refine .inl ⟨e, .int (lo + i * c), ?_, .int _⟩
    unfold rangeL
    rw [List.getElem?_map, List.getElem?_range hi]
    simp
end

section
variable {cls : Nat → Addr} {X : Cx} {a b e e' iter tg : Expr} {f g h : Ev D} {p q : Ev Bool} {pos : Pos} {es : List Expr} {u v : Es}
theorem di_de (he : DE cls X e f) : DI cls X tg e (eItems f) := by
  refine impI (pi_or (pi_or (pi_list he) (pi_tup he)) (pi_str he)) fun σ H R ⟨c, F, μ, s, hc, Rl, ds, s', e, k⟩ => ?_
  obtain ⟨d, s1, e1, f1⟩ := bnd_some e
  obtain ⟨e2, w2⟩ := lft_some f1
  subst w2
  cases d <;> simp only [items] at e2 <;> try (cases e2; done)
  · cases e2
    refine .inr ⟨c, F, μ, s, hc, Rl, _, s', e1, fun v H1 F1 μ1 R1 m1 r1 => ?_⟩
    exact ⟨_, r1.str_inv, k _ _ _ _ R1 m1 (serve_str _)⟩
  · cases e2
    refine .inl (.inl ⟨c, F, μ, s, hc, Rl, _, s', e1, fun v H1 F1 μ1 R1 m1 r1 => ?_⟩)
    cases r1 with
    | lst h r => exact ⟨_, rfl, ⟨_, SqL.of (R1.sub _ _ h)⟩, k _ _ _ _ R1 m1 (serve_seqL (SqL.of h) r)⟩
  · cases e2
    refine .inl (.inr ⟨c, F, μ, s, hc, Rl, _, s', e1, fun v H1 F1 μ1 R1 m1 r1 => ?_⟩)
    cases r1 with
    | tup h r => exact ⟨_, rfl, ⟨_, Same.sqT R1.sub h⟩, k _ _ _ _ R1 m1 (serve_seqT h r)⟩
  · cases e2
    refine .inl (.inl ⟨c, F, μ, s, hc, Rl, _, s', e1, fun v H1 F1 μ1 R1 m1 r1 => ?_⟩)
    cases r1 with
    | scr h => exact ⟨_, rfl, ⟨_, R1.sub.seq h⟩, k _ _ _ _ R1 m1 (serve_seqL h (reps_ints _))⟩
/-- range -/
def inB62 (i : Int) : Bool := decide (-(2 ^ 62) ≤ i) && decide (i < 2 ^ 62)
def dRange1 : List D → Option (List D)
  | [.int j] => guard' (inB62 j) (rangeL 0 1 j.toNat)
  | _ => none
def dRange2 : List D → Option (List D)
  | [.int i, .int j] => guard' (inB62 i && inB62 j) (rangeL i 1 (j - i).toNat)
  | _ => none
def dRange3 : List D → Option (List D)
  | [.int i, .int j, .int c] => guard' (decide (c ≠ 0) && decide (c.natAbs < 1073741824) && Builtin.Range.small i j c && decide (0 ≤ Builtin.Range.rangeSize i j c)) (rangeL i c (Builtin.Range.rangeSize i j c).toNat)
  | _ => none
def eRange (op : List D → Option (List D)) (g : Ev (List D)) : Ev (List D) := bnd g fun d => lft (op d)
theorem reps1 {K : PySem.W.Frag} {F : Hp} {μ : List Addr} {i : Int} {vs : List V} (r : Reps K F μ [.int i] vs) : vs = [.int i] := by
  cases r with
  | cons h r => cases r; rw [h.int_inv]
theorem reps2 {K : PySem.W.Frag} {F : Hp} {μ : List Addr} {i j : Int} {vs : List V} (r : Reps K F μ [.int i, .int j] vs) : vs = [.int i, .int j] := by
  cases r with
  | cons h r => rw [h.int_inv, reps1 r]
theorem reps3 {K : PySem.W.Frag} {F : Hp} {μ : List Addr} {i j k : Int} {vs : List V} (r : Reps K F μ [.int i, .int j, .int k] vs) : vs = [.int i, .int j, .int k] := by
  cases r with
  | cons h r => rw [h.int_inv, reps2 r]
theorem di_range1 {g : Ev (List D)} {pp : Pos} (hg : Gl X "range") (hm : X.mg "range" = none) (ha : DA cls X [a] g) (hs : starEach [a] X.env = [(false, eval a X.env)] := by rfl) : DI cls X tg (.Call (.Name "range" pp) [a] [] pos) (eRange dRange1 g) := by
  refine impI (pi_range1 hg hm ha hs) fun σ H R ⟨c, F, μ, s, hc, Rl, ds, s', e, k⟩ => ?_
  obtain ⟨d, s1, e1, f1⟩ := bnd_some e
  obtain ⟨e2, w2⟩ := lft_some f1
  subst w2
  refine ⟨c, F, μ, s, hc, Rl, d, s', e1, fun vs H1 F1 μ1 R1 m1 r1 => ?_⟩
  match d, e2, r1 with
  | [.int j], e2, r1 =>
    simp only [dRange1] at e2
    obtain ⟨h1, rfl⟩ := guard_some e2
    simp only [inB62, Bool.and_eq_true, decide_eq_true_eq] at h1
    exact ⟨j, reps1 r1, h1.1, h1.2, k _ _ _ _ R1 m1 (serve_rng 0 _)⟩
theorem di_range2 {g : Ev (List D)} {pp : Pos} (hg : Gl X "range") (hm : X.mg "range" = none) (ha : DA cls X [a, b] g) (hs : starEach [a, b] X.env = [(false, eval a X.env), (false, eval b X.env)] := by rfl) (hs2 : starEach [b] X.env = [(false, eval b X.env)] := by rfl) : DI cls X tg (.Call (.Name "range" pp) [a, b] [] pos) (eRange dRange2 g) := by
  refine impI (pi_range2 hg hm ha hs hs2) fun σ H R ⟨c, F, μ, s, hc, Rl, ds, s', e, k⟩ => ?_
  obtain ⟨d, s1, e1, f1⟩ := bnd_some e
  obtain ⟨e2, w2⟩ := lft_some f1
  subst w2
  refine ⟨c, F, μ, s, hc, Rl, d, s', e1, fun vs H1 F1 μ1 R1 m1 r1 => ?_⟩
  match d, e2, r1 with
  | [.int i, .int j], e2, r1 =>
    simp only [dRange2] at e2
    obtain ⟨h1, rfl⟩ := guard_some e2
    simp only [inB62, Bool.and_eq_true, decide_eq_true_eq] at h1
    exact ⟨i, j, reps2 r1, ⟨h1.1.1, h1.1.2, h1.2.1, h1.2.2⟩, k _ _ _ _ R1 m1 (serve_rng _ _)⟩
theorem di_range3 {e3 : Expr} {g : Ev (List D)} {pp : Pos} (hg : Gl X "range") (hm : X.mg "range" = none) (ha : DA cls X [a, b, e3] g) (hs : starEach [a, b, e3] X.env = (false, eval a X.env) :: starEach [b, e3] X.env := by rfl)
    (hpl : (backTo pos (starEach [b, e3] X.env)).any (·.1) = false := by rfl) : DI cls X tg (.Call (.Name "range" pp) [a, b, e3] [] pos) (eRange dRange3 g) := by
  refine impI (pi_range3 hg hm ha hs hpl) fun σ H R ⟨c, F, μ, s, hc, Rl, ds, s', e, k⟩ => ?_
  obtain ⟨d, s1, e1, f1⟩ := bnd_some e
  obtain ⟨e2, w2⟩ := lft_some f1
  subst w2
  refine ⟨c, F, μ, s, hc, Rl, d, s', e1, fun vs H1 F1 μ1 R1 m1 r1 => ?_⟩
  match d, e2, r1 with
  | [.int i, .int j, .int st], e2, r1 =>
    simp only [dRange3] at e2
    obtain ⟨h1, rfl⟩ := guard_some e2
    simp only [Bool.and_eq_true, decide_eq_true_eq] at h1
    exact ⟨i, j, st, _, reps3 r1, ⟨h1.1.1.1, h1.1.1.2, h1.1.2, (Int.toNat_of_nonneg h1.2).symm⟩, k _ _ _ _ R1 m1 (serve_rngC _ _ _)⟩

/-! ### for -/
def forL (t : D → Sto → Option Sto) (u : Es) : List D → Sto → Option Out
  | [], s => some (.nx s)
  | d :: ds, s => match t d s with
    | none => none
    | some s1 => match u s1 with
      | some (.nx s2) => forL t u ds s2
      | some (.ct s2) => forL t u ds s2
      | some (.bk s2) => some (.nx s2)
      | some (.rt r s2) => some (.rt r s2)
      | none => none
def sFor (f : Ev (List D)) (t : D → Sto → Option Sto) (u : Es) : Es := fun s => match f s with
  | some (ds, s') => forL t u ds s'
  | none => none
theorem drop_cons {α : Type} {ds : List α} {i : Nat} {d : α} (h : ds[i]? = some d) : ds.drop i = d :: ds.drop (i + 1) := by
  have hi := (List.getElem?_eq_some_iff.mp h).1
  have e := (List.getElem?_eq_some_iff.mp h).2
  rw [List.drop_eq_getElem_cons hi, e]
/-- one item comes -/
theorem comes {K : PySem.W.Frag} {c : Ct} {F1 F' : Hp} {μ1 μ' : List Addr} {σ : L2.St} {H H' : Hp} {s : Sto} {J : It} {ds : List D} {i : Nat} {x : V} (S : Serve K F1 μ1 J ds) (R : Rel K c F' μ' σ H s) (m : Mono F1 μ1 F' μ') (hi : i < ds.length) (y : J.yld i H x H') :
    ∃ d F2, ds[i]? = some d ∧ Rel K c F2 μ' σ H' s ∧ Mono F' μ' F2 μ' ∧ Rep K F2 μ' d x := by
  rcases S.yld i H x H' hi (m.1.trans R.sub) y with ⟨rfl, d, hd, r⟩ | ⟨T, vs, es, hT, rfl, rfl, hd, r⟩
  · exact ⟨d, F', hd, R, Mono.refl _ _, r.mono m⟩
  · have m2 : Mono F' μ' (upd F' T (.tup vs)) μ' := Mono.new (R.fnone hT)
    exact ⟨.tup es, _, hd, R.alloc hT, m2, .tup (SqT.of upd_same) (r.mono (m.trans m2))⟩
theorem ds_for {body : List Stmt} {f : Ev (List D)} {ts : List Nat} {t : D → Sto → Option Sto} (hp : PassesOwn (model X.prog X.w) X.A X.env X.xe) (hc : X.calm = true) (hi : DI cls X tg iter f) (hg : DG cls X tg ts t) (hb : DSs cls X body u)
    (hs : ∀ x, foldedSetIterable iter X.env x = pure x := by intro _; rfl) : DS cls X (.For tg iter body [] pos) (sFor f t u) := by
  refine impS (ps_for hp hc hi hg hb hs) fun D σ H ⟨c, F, μ, s, hc, R, o, e, k⟩ => ?_
  unfold sFor at e
  split at e
  · rename_i ds s1 e1
    refine ⟨c, F, μ, s, hc, R, ds, s1, e1, fun J H1 F1 μ1 R1 m1 S => ?_⟩
    refine ⟨fun i m σ' H' => m = ds.length - i ∧ i ≤ ds.length ∧ ∃ F' μ' s', Rel X.K c F' μ' σ' H' s' ∧ Mono F1 μ1 F' μ' ∧ forL t u (ds.drop i) s' = some o, ⟨ds.length, rfl, Nat.zero_le _, F1, μ1, s1, R1, Mono.refl _ _, e⟩, ?_⟩
    rintro i m σ2 H2 ⟨rfl, hil, F2, μ2, s2, R2, m2, e2⟩
    by_cases hlt : i < ds.length
    · refine .inr ⟨S.go i H2 hlt (m2.1.trans R2.sub), fun σ' H' => i + 1 ≤ ds.length ∧ ∃ F' μ' s', Rel X.K c F' μ' σ' H' s' ∧ Mono F1 μ1 F' μ' ∧ forL t u (ds.drop (i + 1)) s' = some o, fun σ' H' h => ⟨ds.length - (i + 1), by omega, rfl, h⟩, fun x H3 y => ?_⟩
      obtain ⟨d, F3, hd, R3, m3, r3⟩ := comes S R2 m2 hlt y
      rw [drop_cons hd] at e2
      unfold forL at e2
      cases ht : t d s2 with
      | none => rw [ht] at e2; cases e2
      | some s3 =>
        rw [ht] at e2
        dsimp only at e2
        refine ⟨c, F3, μ2, s2, d, hc, R3, r3, s3, ht, fun σ4 H4 F4 μ4 R4 m4 _ => ?_⟩
        cases hu : u s3 with
        | none => rw [hu] at e2; cases e2
        | some o4 =>
          rw [hu] at e2
          refine ⟨c, F4, μ4, s3, hc, R4, o4, hu, ?_⟩
          have mm : Mono F1 μ1 F4 μ4 := m2.trans (m3.trans m4)
          cases o4 with
          | nx s5 => exact fun σ5 H5 F5 μ5 R5 m5 => ⟨hlt, F5, μ5, s5, R5, mm.trans m5, e2⟩
          | ct s5 => exact fun σ5 H5 F5 μ5 R5 m5 => ⟨hlt, F5, μ5, s5, R5, mm.trans m5, e2⟩
          | bk s5 => cases e2; exact fun σ5 H5 F5 μ5 R5 m5 => k _ _ _ _ R5 (m1.trans (mm.trans m5))
          | rt r s5 => cases e2; exact fun v5 σ5 H5 F5 μ5 R5 m5 r5 => k _ _ _ _ _ R5 (m1.trans (mm.trans m5)) r5
    · have hi' : i = ds.length := by omega
      subst hi'
      rw [List.drop_length] at e2
      cases e2
      exact .inl ⟨S.stop _ H2 (Nat.le_refl _) (m2.1.trans R2.sub), k _ _ _ _ R2 (m1.trans m2)⟩
  · cases e

/-! ### comprehensions -/
def wipeS (ρ : List Sl) : List Nat → List Sl
  | [] => ρ
  | v :: vs => (wipeS ρ vs).set v .un
def restS (ρ0 ρ : List Sl) : List Nat → List Sl
  | [] => ρ
  | v :: vs => (restS ρ0 ρ vs).set v (ρ0[v]?.getD .un)
theorem wipe_get (σ : L2.St) (vs : List Nat) (i : Nat) : (wipe σ vs)[i]? = if i ∈ vs then σ[i]?.map (fun _ => none) else σ[i]? := by
  induction vs with
  | nil => simp [wipe]
  | cons v vs ih =>
    unfold wipe
    rw [List.getElem?_set]
    by_cases hv : v = i
    · subst hv
      simp only [if_true, wipe_length, List.mem_cons, true_or]
      by_cases hl : v < σ.length
      · simp [hl]
      · simp [hl]
    · rw [if_neg hv, ih]
      have : (i ∈ v :: vs) ↔ i ∈ vs := by simp [Ne.symm hv]
      simp only [this]
theorem wipeS_length (ρ : List Sl) : ∀ vs, (wipeS ρ vs).length = ρ.length
  | [] => rfl
  | v :: vs => by unfold wipeS; rw [List.length_set, wipeS_length ρ vs]
theorem restS_length (ρ0 ρ : List Sl) : ∀ vs, (restS ρ0 ρ vs).length = ρ.length
  | [] => rfl
  | v :: vs => by unfold restS; rw [List.length_set, restS_length ρ0 ρ vs]
theorem wipeS_get (ρ : List Sl) (vs : List Nat) (i : Nat) : (wipeS ρ vs)[i]? = if i ∈ vs then ρ[i]?.map (fun _ => .un) else ρ[i]? := by
  induction vs with
  | nil => simp [wipeS]
  | cons v vs ih =>
    unfold wipeS
    rw [List.getElem?_set]
    by_cases hv : v = i
    · subst hv
      simp only [if_true, wipeS_length, List.mem_cons, true_or]
      by_cases hl : v < ρ.length
      · simp [hl]
      · simp [hl]
    · rw [if_neg hv, ih]
      have : (i ∈ v :: vs) ↔ i ∈ vs := by simp [Ne.symm hv]
      simp only [this]
theorem restS_get (ρ0 ρ : List Sl) (vs : List Nat) (i : Nat) : (restS ρ0 ρ vs)[i]? = if i ∈ vs then ρ[i]?.map (fun _ => ρ0[i]?.getD .un) else ρ[i]? := by
  induction vs with
  | nil => simp [restS]
  | cons v vs ih =>
    unfold restS
    rw [List.getElem?_set]
    by_cases hv : v = i
    · subst hv
      simp only [if_true, restS_length, List.mem_cons, true_or]
      by_cases hl : v < ρ.length
      · simp [hl]
      · simp [hl]
    · rw [if_neg hv, ih]
      have : (i ∈ v :: vs) ↔ i ∈ vs := by simp [Ne.symm hv]
      simp only [this]
/-- other slots that hold what is known -/
theorem Rel.congr {K : PySem.W.Frag} {c : Ct} {F : Hp} {μ : List Addr} {σ σ' : L2.St} {H : Hp} {ρ ρ' : List Sl} {S : List O} (R : Rel K c F μ σ H (ρ, S)) (hl : ρ'.length = σ'.length)
    (h : ∀ (i : Nat) x, ρ'[i]? = some x → x = .un ∨ (∃ d v, x = .val d ∧ σ'[i]? = some (some v) ∧ Rep K F μ d v) ∨ (ρ[i]? = some x ∧ σ'[i]? = σ[i]?)) : Rel K c F μ σ' H (ρ', S) := by
  refine ⟨R.sub, R.ext, R.newF, R.frame, R.mu, hl, ?_, R.st, R.prot⟩
  obtain ⟨α, h1, h2⟩ := R.slots
  refine ⟨α, fun i x e => ?_, fun i j x y e1 e2 o1 o2 he => ?_⟩
  · rcases h i x e with rfl | ⟨d, v, rfl, e1, r⟩ | ⟨e1, e2⟩
    · trivial
    · exact ⟨v, e1, r⟩
    · rw [e2]; exact h1 i x e1
  · have own : ∀ {i : Nat} {x : Sl}, ρ'[i]? = some x → x.isOwn = true → ρ[i]? = some x := fun {i x} e o => by
      rcases h i x e with rfl | ⟨d, v, rfl, _, _⟩ | ⟨e1, _⟩
      · cases o
      · cases o
      · exact e1
    exact h2 i j x y (own e1 o1) (own e2 o2) o1 o2 he
theorem Rel.wiped {K : PySem.W.Frag} {c : Ct} {F : Hp} {μ : List Addr} {σ : L2.St} {H : Hp} {ρ : List Sl} {S : List O} (R : Rel K c F μ σ H (ρ, S)) (vs : List Nat) : Rel K c F μ (wipe σ vs) H (wipeS ρ vs, S) := by
  refine R.congr (by rw [wipeS_length, wipe_length]; exact R.len) fun i x e => ?_
  rw [wipeS_get] at e
  by_cases hi : i ∈ vs
  · rw [if_pos hi] at e
    rw [Option.map_eq_some_iff] at e
    obtain ⟨_, _, rfl⟩ := e
    exact .inl rfl
  · rw [if_neg hi] at e
    exact .inr (.inr ⟨e, by rw [wipe_get, if_neg hi]⟩)
theorem Rel.rest {K : PySem.W.Frag} {c c' : Ct} {F F' : Hp} {μ μ' : List Addr} {σ : L2.St} {H H' : Hp} {ρ0 ρ : List Sl} {S0 S : List O} {vs : List Nat} (R0 : Rel K c F μ σ H (ρ0, S0)) (hn : ∀ v ∈ vs, (ρ0[v]?.getD .un).isOwn = false) (m : Mono F μ F' μ')
    (R : Rel K c' F' μ' (wipe σ vs) H' (wipeS ρ vs, S)) : Rel K c' F' μ' σ H' (restS ρ0 ρ vs, S) := by
  have hl : (wipeS ρ vs).length = (wipe σ vs).length := R.len
  rw [wipeS_length, wipe_length] at hl
  have hl0 : ρ0.length = σ.length := R0.len
  refine R.congr (by rw [restS_length]; exact hl) fun i x e => ?_
  rw [restS_get] at e
  by_cases hi : i ∈ vs
  · rw [if_pos hi] at e
    rw [Option.map_eq_some_iff] at e
    obtain ⟨y, hy, rfl⟩ := e
    have hi' := (List.getElem?_eq_some_iff.mp hy).1
    obtain ⟨α, h1, _⟩ := R0.slots
    have e0 : ρ0[i]? = some (ρ0[i]'(by omega)) := List.getElem?_eq_getElem _
    have hno := hn i hi
    rw [e0] at hno ⊢
    simp only [Option.getD_some] at hno ⊢
    have q := h1 i _ e0
    cases hx : ρ0[i]'(by omega) with
    | un => exact .inl rfl
    | val d =>
      rw [hx] at q
      obtain ⟨v, e1, r⟩ := q
      exact .inr (.inl ⟨d, v, rfl, e1, r.mono m⟩)
    | own ds => rw [hx] at hno; cases hno
    | ownK ds => rw [hx] at hno; cases hno
  · rw [if_neg hi] at e
    exact .inr (.inr ⟨by rw [wipeS_get, if_neg hi]; exact e, by rw [wipe_get, if_neg hi]⟩)

def lcL (vs : List Nat) (t : D → Sto → Option Sto) (p : Ev Bool) (g : Ev D) : List D → Sto → Option (List D × Sto)
  | [], s => some ([], s)
  | d :: ds, s => match t d (wipeS s.1 vs, s.2) with
    | none => none
    | some s1 => match p s1 with
      | none => none
      | some (false, s2) => lcL vs t p g ds s2
      | some (true, s2) => match g s2 with
        | none => none
        | some (y, s3) => match lcL vs t p g ds s3 with
          | none => none
          | some (ys, s4) => some (y :: ys, s4)
def eLc (vs : List Nat) (f : Ev (List D)) (t : D → Sto → Option Sto) (p : Ev Bool) (g : Ev D) : Ev (List D) := fun s => match f s with
  | none => none
  | some (ds, s1) => if (vs.all fun v => !(s1.1[v]?.getD .un).isOwn) && decide (ds.length ≤ LIM) then
      match lcL vs t p g ds s1 with
      | none => none
      | some (ys, s2) => some (ys, (restS s1.1 s2.1 vs, s2.2))
    else none
def pYes : Ev Bool := ret true
abbrev DTs (cls : Nat → Addr) (X : Cx) (es : List Expr) (p : Ev Bool) : Prop := PTs X es (TDT X.K cls p)
theorem impTs {X : Cx} {e : List Expr} {t t' : TT} (h : PTs X e t) (k : ∀ σ H Q, t' σ H Q → t σ H Q) : PTs X e t' := ⟨fun pins s σ H Q I w => h.run pins s σ H Q I (k _ _ _ w)⟩
theorem dts_nil : DTs cls X [] pYes := by
  refine impTs pts_nil fun σ H Q ⟨c, F, μ, s, hc, R, d, s', e, k⟩ => ?_
  obtain ⟨rfl, rfl⟩ := ret_some e
  exact k _ _ _ R (Mono.refl _ _)
theorem dts_one {c : Expr} (h : DT cls X c p) : DTs cls X [c] p := pts_one h
theorem wipe_off {vs ws : List Nat} {σ σ' : L2.St} (h : ∀ i ∈ ws, i ∈ vs) (o : Off ws (wipe σ vs) σ') : wipe σ' vs = wipe σ vs := by
  apply List.ext_getElem?
  intro i
  rw [wipe_get]
  by_cases hi : i ∈ vs
  · rw [if_pos hi, wipe_get, if_pos hi]
    have l : σ'.length = σ.length := by rw [o.1, wipe_length]
    by_cases hl : i < σ.length
    · rw [List.getElem?_eq_getElem (by omega), List.getElem?_eq_getElem hl]; simp
    · rw [List.getElem?_eq_none (by omega), List.getElem?_eq_none (by omega)]
  · rw [if_neg hi, o.2 i fun z => hi (h i z)]
theorem run_lc {vs ws : List Nat} {f : Ev (List D)} {t : D → Sto → Option Sto} {p : Ev Bool} {g : Ev D} (hv : ∀ i ∈ ws, i ∈ vs) (σ : L2.St) (H : Hp) (Q : VK) (w : TDF X.K cls (eLc vs f t p g) σ H Q) :
    tLc (TDI X.K cls f) (TDG X.K cls ws t) (TDT X.K cls p) (TD X.K cls g) vs σ H Q := by
  obtain ⟨c, F, μ, ρ, S, hc, R, ys, ρ', S', e, k⟩ := w
  unfold eLc at e
  split at e
  · cases e
  rename_i ds s1 e1
  split at e
  · rename_i hcond
    split at e
    · cases e
    rename_i ys' s2 e2
    cases e
    simp only [Bool.and_eq_true, List.all_eq_true, Bool.not_eq_true', decide_eq_true_eq] at hcond
    obtain ⟨hno, hlim⟩ := hcond
    refine ⟨c, F, μ, (ρ, S), hc, R, ds, s1, e1, fun J H1 F1 μ1 R1 m1 Sv => ?_⟩
    intro L hL
    refine ⟨fun i m H' => m = ds.length - i ∧ i ≤ ds.length ∧ ∃ F' μ' s' acc va ys2, Rel X.K { c with P := upd c.P L (.lst va) } F' μ' (wipe σ vs) H' (wipeS s'.1 vs, s'.2) ∧ Mono F1 μ1 F' μ' ∧ Reps X.K F' μ' acc va ∧ acc.length ≤ i ∧
      lcL vs t p g (ds.drop i) s' = some (ys2, s2) ∧ ys = acc ++ ys2,
      ⟨ds.length, rfl, Nat.zero_le _, F1, μ1, s1, [], [], ys, (R1.wiped vs).hold hL, Mono.refl _ _, .nil, Nat.zero_le _, e2, rfl⟩, ?_⟩
    rintro i m H2 ⟨rfl, hil, F2, μ2, s3, acc, va, ys2, R2, m2, ra, la, e3, rfl⟩
    by_cases hlt : i < ds.length
    · refine .inr ⟨Sv.go i H2 hlt (m2.1.trans R2.sub), fun H' => i + 1 ≤ ds.length ∧ ∃ F' μ' s' acc' va' ys3, Rel X.K { c with P := upd c.P L (.lst va') } F' μ' (wipe σ vs) H' (wipeS s'.1 vs, s'.2) ∧ Mono F1 μ1 F' μ' ∧ Reps X.K F' μ' acc' va' ∧ acc'.length ≤ i + 1 ∧
        lcL vs t p g (ds.drop (i + 1)) s' = some (ys3, s2) ∧ acc ++ ys2 = acc' ++ ys3, fun H' h => ⟨ds.length - (i + 1), by omega, rfl, h⟩, fun x H3 y => ?_⟩
      obtain ⟨d, F3, hd, R3, m3, r3⟩ := comes Sv R2 m2 hlt y
      rw [drop_cons hd] at e3
      unfold lcL at e3
      cases ht : t d (wipeS s3.1 vs, s3.2) with
      | none => rw [ht] at e3; cases e3
      | some s4 =>
        rw [ht] at e3
        dsimp only at e3
        refine ⟨{ c with P := upd c.P L (.lst va) }, F3, μ2, _, d, hc, R3, r3, s4, ht, fun σ4 H4 F4 μ4 R4 m4 o4 => ?_⟩
        have ew : L2.wipe σ4 vs = L2.wipe σ vs := wipe_off hv o4
        refine ⟨ew, ?_⟩
        cases hp : p s4 with
        | none => rw [hp] at e3; cases e3
        | some r =>
          obtain ⟨kb, s5⟩ := r
          rw [hp] at e3
          refine ⟨{ c with P := upd c.P L (.lst va) }, F4, μ4, s4, hc, R4, kb, s5, hp, fun H5 F5 μ5 R5 m5 => ?_⟩
          have mm : Mono F2 μ2 F5 μ5 := m3.trans (m4.trans m5)
          cases kb with
          | false =>
            dsimp only
            rw [if_neg Bool.false_ne_true]
            dsimp only at e3
            have R5' := Rel.wiped (ρ := s5.1) (S := s5.2) R5 vs
            rw [ew] at R5'
            exact ⟨hlt, F5, μ5, s5, acc, va, ys2, R5', m2.trans mm, ra.mono mm, by omega, e3, rfl⟩
          | true =>
            dsimp only
            rw [if_pos rfl]
            dsimp only at e3
            cases hg : g s5 with
            | none => rw [hg] at e3; cases e3
            | some r =>
              obtain ⟨yd, s6⟩ := r
              rw [hg] at e3
              dsimp only at e3
              refine ⟨{ c with P := upd c.P L (.lst va) }, F5, μ5, s5, hc, R5, yd, s6, hg, fun u H6 F6 μ6 R6 m6 r6 => ?_⟩
              have mm6 : Mono F2 μ2 F6 μ6 := mm.trans m6
              have hD : H6 L = some (.lst va) := (R6.prot L (.lst va) upd_same).1
              cases hl : lcL vs t p g (ds.drop (i + 1)) s6 with
              | none => rw [hl] at e3; cases e3
              | some r =>
                obtain ⟨ys3, s7⟩ := r
                rw [hl] at e3
                dsimp only at e3
                cases e3
                have hla : va.length = acc.length := ra.length.symm
                refine ⟨va, hD, lim_lt (by omega), hlt, F6, μ6, s6, acc ++ [yd], va ++ [u], ys3, ?_, m2.trans mm6, (ra.mono mm6).append (.cons r6 .nil), by simp; omega, hl, by simp⟩
                have R6' := Rel.wiped (ρ := s6.1) (S := s6.2) (R6.holdW (o' := .lst (va ++ [u]))) vs
                rw [ew] at R6'
                exact R6'
    · have hi' : i = ds.length := by omega
      subst hi'
      rw [List.drop_length] at e3
      cases e3
      rw [List.append_nil] at k
      refine .inl ⟨Sv.stop _ H2 (Nat.le_refl _) (m2.1.trans R2.sub), ?_⟩
      have R3 := Rel.rest (ρ0 := s1.1) (S0 := s1.2) R1 hno m2 R2
      exact k _ _ _ _ (R3.unhold (R1.pnone hL) (.inl ⟨_, _, rfl, rfl, ra⟩)) (m1.trans m2)
  · cases e
theorem df_lc {elt : Expr} {ifs : List Expr} {scope : Scope} {own : List (Str × Nat)} {ws : List Nat} {f : Ev (List D)} {t : D → Sto → Option Sto} {p : Ev Bool} {g : Ev D} (hc : X.calm = true) (hN : X.N.Nodup) (hi : DI cls X tg iter f) (ok : BlkOk X.N X.env.scope scope own)
    (hg : ∀ (s : Shared) (H : Hp) (C : Addr) (cl : List (Str × Addr)) (fp : List Addr), DG cls (X.blk s H scope (compEnvC scope cl C X.env) fp) tg ws t) (ht : ∀ (s : Shared) (H : Hp) (C : Addr) (cl : List (Str × Addr)) (fp : List Addr), DTs cls (X.blk s H scope (compEnvC scope cl C X.env) fp) ifs p)
    (he : ∀ (s : Shared) (H : Hp) (C : Addr) (cl : List (Str × Addr)) (fp : List Addr), DE cls (X.blk s H scope (compEnvC scope cl C X.env) fp) elt g) (hv : ∀ i ∈ ws, i ∈ own.map (·.2)) (hs : ∀ x, foldedSetIterable iter X.env x = pure x := by intro _; rfl) :
    DF cls X (.ListComp elt [⟨tg, iter, ifs, 0⟩] scope pos) (eLc (own.map (·.2)) f t p g) :=
  imp (pe_lc hc hN hi ok hg ht he hs) (run_lc hv)
end
end DL

set_option Elab.async false
set_option linter.all false
set_option maxRecDepth 100000
namespace DL
open PySem PySem.Spec PyProof.Rows L2

theorem PE.or {X : Cx} {e : Expr} {t t' : TE} (h : PE X e t) (h' : PE X e t') : PE X e (fun σ H Q => t σ H Q ∨ t' σ H Q) := ⟨fun pins s σ H Q I w => w.elim (h.run pins s σ H Q I) (h'.run pins s σ H Q I)⟩

section
variable {K : PySem.W.Frag} {c : Ct} {F F' H : Hp} {μ μ' : List Addr} {σ : L2.St} {s : Sto} {ρ : List Sl} {S : List O}
/-- an owned dict becomes a by-reference object -/
theorem Rel.toStore {p : Addr} {ds : List (DK × D)} (R : Rel K c F μ (σ ++ [some (.ref p)]) H (ρ ++ [.ownK ds], S)) : Rel K c F (μ ++ [p]) σ H (ρ, S ++ [.dct ds]) ∧ Mono F μ F (μ ++ [p]) := by
  have hl : (ρ ++ [Sl.ownK ds]).length = (σ ++ [some (V.ref p)]).length := R.len
  have hl' : ρ.length = σ.length := by simpa using hl
  obtain ⟨α, h1, h2⟩ := R.slots
  have lastx : (ρ ++ [Sl.ownK ds])[ρ.length]? = some (.ownK ds) := by rw [List.getElem?_append_right (Nat.le_refl _)]; simp
  have lastv : (σ ++ [some (V.ref p)])[ρ.length]? = some (some (.ref p)) := by rw [hl', List.getElem?_append_right (Nat.le_refl _)]; simp
  have q := h1 _ _ lastx
  rw [lastv] at q
  obtain ⟨q1, q2, ⟨q3, q3'⟩, q4, vs, q5, q6⟩ := q
  have ep : α ρ.length = p := by cases q1; rfl
  rw [ep] at q2 q3 q3' q4 q5
  have m : Mono F μ F (μ ++ [p]) := ⟨Same.refl F, fun k a e => by rw [List.getElem?_append_left (List.getElem?_eq_some_iff.mp e).1]; exact e⟩
  refine ⟨?_, m⟩
  obtain ⟨ν, e0, hν⟩ := R.mu
  have up : ∀ {i : Nat} {y : Sl}, ρ[i]? = some y → (ρ ++ [Sl.ownK ds])[i]? = some y ∧ (σ ++ [some (V.ref p)])[i]? = σ[i]? ∧ i < ρ.length := fun {i y} e => by
    have hi : i < ρ.length := (List.getElem?_eq_some_iff.mp e).1
    exact ⟨by rw [List.getElem?_append_left hi]; exact e, by rw [List.getElem?_append_left (by omega)], hi⟩
  refine ⟨R.sub, R.ext, R.newF, R.frame, ⟨ν ++ [p], by rw [e0, List.append_assoc], fun b hb => ?_⟩, hl', ⟨α, fun i y e => ?_, fun i j y z e1 e2 => h2 i j y z (up e1).1 (up e2).1⟩, ?_, fun b o e => ?_⟩
  · rcases List.mem_append.mp hb with hb | hb
    · exact hν b hb
    · rw [List.mem_singleton.mp hb]; exact q3
  · have q := h1 i y (up e).1
    rw [(up e).2.1] at q
    refine q.step m (fun o => q.fnone o) (fun o => ?_) fun _ _ z => z
    intro hm
    rcases List.mem_append.mp hm with hm | hm
    · exact q.nmem o hm
    · have := h2 i ρ.length y _ (up e).1 lastx o rfl (by rw [ep]; exact List.mem_singleton.mp hm)
      have := (up e).2.2
      omega
  · refine ⟨by simp [R.st.len], ?_, fun a ha => ?_, fun k a o e1 e2 => ?_⟩
    · rw [List.nodup_append]
      refine ⟨R.st.nd, by simp, fun a ha b hb => ?_⟩
      rw [List.mem_singleton.mp hb]
      exact fun z => q4 (z ▸ ha)
    · rcases List.mem_append.mp ha with ha | ha
      · exact R.st.fr a ha
      · rw [List.mem_singleton.mp ha]; exact q2
    · have e2 : (S ++ [O.dct ds])[k]? = some o := e2
      by_cases hk : k < S.length
      · rw [List.getElem?_append_left (by rw [R.st.len]; exact hk)] at e1
        rw [List.getElem?_append_left hk] at e2
        exact (R.st.ok k a o e1 e2).step m fun _ z => z
      · rw [List.getElem?_append_right (by rw [R.st.len]; show S.length ≤ k; omega)] at e1
        rw [List.getElem?_append_right (by omega)] at e2
        have : k - S.length = 0 := by
          cases h : k - S.length with
          | zero => rfl
          | succ n => rw [h] at e2; simp at e2
        have hlen : μ.length = S.length := R.st.len
        rw [this] at e2
        rw [hlen, this] at e1
        simp at e1 e2
        subst e1 e2
        exact ⟨vs, q5, q6.mono m⟩
  · obtain ⟨w1, w2, w3, w4⟩ := R.prot b o e
    refine ⟨w1, w2, fun hm => ?_, w4⟩
    rcases List.mem_append.mp hm with hm | hm
    · exact w3 hm
    · rw [List.mem_singleton.mp hm] at e; exact ne_none e q3'
end

section
variable {cls : Nat → Addr} {X : Cx} {a b e e' iter tg : Expr} {f g h : Ev D} {p q : Ev Bool} {pos : Pos} {es : List Expr} {u v : Es}
/-- a new dict as a by-reference object -/
def eNewO (g : Ev (List (DK × D))) : Ev D := fun s => match g s with
  | some (ds, (ρ, S)) => some (.ptr S.length, (ρ, S ++ [.dct ds]))
  | none => none
theorem de_newO {g : Ev (List (DK × D))} (h : DFK cls X e g) : DE cls X e (eNewO g) := by
  refine imp h fun σ H Q ⟨c, F, μ, s, hc, R, z, s', e, k⟩ => ?_
  obtain ⟨ρ, S⟩ := s
  unfold eNewO at e
  split at e
  · rename_i ds ρ' S' e1
    cases e
    refine ⟨c, F, μ, ρ, S, hc, R, ds, ρ', S', e1, fun v H1 F1 μ1 R1 m1 => ?_⟩
    obtain ⟨α, h1, _⟩ := R1.slots
    have hl : (ρ' ++ [Sl.ownK ds]).length = (σ ++ [some v]).length := R1.len
    have hl' : ρ'.length = σ.length := by simpa using hl
    have lastx : (ρ' ++ [Sl.ownK ds])[ρ'.length]? = some (.ownK ds) := by rw [List.getElem?_append_right (Nat.le_refl _)]; simp
    have lastv : (σ ++ [some v])[ρ'.length]? = some (some v) := by rw [hl', List.getElem?_append_right (Nat.le_refl _)]; simp
    have q := h1 _ _ lastx
    rw [lastv] at q
    have ev : v = .ref (α ρ'.length) := by
      have := q.1
      cases this; rfl
    rw [ev] at R1 ⊢
    obtain ⟨R2, m2⟩ := R1.toStore
    have hlen : μ1.length = S'.length := R1.st.len
    exact k _ _ _ _ R2 (m1.trans m2) (.ptr (by rw [← hlen, List.getElem?_append_right (Nat.le_refl _)]; simp))
  · cases e

/-! ### subscripts -/
def ixStr (s : List Nat) (i : Int) : Option D := (atI s i).map fun c => .str [c]
def dIx : D → D → Option D
  | .lst xs, .int i => atI xs i
  | .tup xs, .int i => atI xs i
  | .str s, .int i => if s.length ≤ LIM then ixStr s i else none
  | _, _ => none
theorem atI_rep {K : PySem.W.Frag} {F : Hp} {μ : List Addr} {ds : List D} {vs : List V} {i : Int} {d : D} (r : Reps K F μ ds vs) (h : atI ds i = some d) : ∃ v, atI vs i = some v ∧ Rep K F μ d v := by
  unfold atI at h ⊢
  rw [← r.length]
  rw [Option.bind_eq_some_iff] at h
  obtain ⟨j, e1, e2⟩ := h
  obtain ⟨v, e3, rv⟩ := r.get e2
  exact ⟨v, by rw [e1]; exact e3, rv⟩
theorem ix_ok {K : PySem.W.Frag} {c : Ct} {F : Hp} {μ : List Addr} {σ : L2.St} {H : Hp} {s : Sto} {x y : V} {d e z : D} {Q : VK} (R : Rel K c F μ σ H s) (r1 : RepH K F μ H d x) (r2 : RepH K F μ H e y) (h : dIx d e = some z)
    (k : ∀ v H' F' μ', Rel K c F' μ' σ H' s → Mono F μ F' μ' → Rep K F' μ' z v → Q v H') : (rIxL K x y H Q ∨ rIxT K x y H Q) ∨ rIxS x y H Q := by
  cases d <;> cases e <;> simp only [dIx] at h <;> try (cases h; done)
  case str.int t i =>
    split at h
    · rename_i hl
      unfold ixStr at h
      rw [Option.map_eq_some_iff] at h
      obtain ⟨c', e1, rfl⟩ := h
      rw [r1.str_inv, r2.int_inv]
      exact .inr ⟨_, i, c', rfl, rfl, by rw [mkS_len]; exact lim_le hl, by simpa using e1, atom R (.str [c']) k⟩
    · cases h
  case lst.int t i =>
    obtain ⟨a, vs, rfl, e1, q1⟩ := r1.lst_inv R.sub
    obtain ⟨v, e2, rv⟩ := atI_rep q1 h
    rw [r2.int_inv]
    exact .inl (.inl ⟨a, vs, i, v, rfl, rfl, SqL.of e1, e2, atom R rv k⟩)
  case tup.int t i =>
    obtain ⟨a, vs, rfl, e1, q1⟩ := r1.tup_inv R.sub
    obtain ⟨v, e2, rv⟩ := atI_rep q1 h
    rw [r2.int_inv]
    exact .inl (.inr ⟨a, vs, i, v, rfl, rfl, e1, e2, atom R rv k⟩)
theorem de_ix (ha : DE cls X a f) (hb : DE cls X b g) (hs : PlainIx b) : DE cls X (.Subscript a b pos) (eBin dIx f g) := by
  refine imp (pe_ix ((ix_list.or ix_tup).or ix_str) ha hb hs) fun σ H Q w => ?_
  exact run_bin (fun c F μ σ H s x y d e z Q R r1 r2 h k => ix_ok R (.rep r1) (.rep r2) h k) σ H Q w
theorem de_ixL (i : Nat) {x : Str} {pos' : Pos} (ha : PE X (.Name x pos') (tVar i)) (hb : DE cls X b g) (hs : PlainIx b) : DE cls X (.Subscript (.Name x pos') b pos) (eBinL dIx i g) := by
  refine imp (pe_ix ((ix_list.or ix_tup).or ix_str) ha hb hs) fun σ H Q w => ?_
  exact run_binL (fun c F μ σ H s x y d e z Q R r1 r2 h k => ix_ok R r1 r2 h k) σ H Q w

/-! ### dicts -/
def asK : D → Option DK
  | .int i => some (.inl i)
  | .str s => some (.inr s)
  | _ => none
theorem mkK_inj {k j : DK} (h : mkK k = mkK j) : k = j := by
  cases k <;> cases j <;> simp only [mkK] at h
  · injection h with h; rw [h]
  · cases h
  · cases h
  · injection h with h
    injection h with h
    have := congrArg Array.toList h
    simp at this
    rw [this]
theorem asK_rep {K : PySem.W.Frag} {F : Hp} {μ : List Addr} {d : D} {k : DK} {v : V} (r : Rep K F μ d v) (h : asK d = some k) : v = kV (mkK k) := by
  cases d <;> simp only [asK] at h <;> try (cases h; done)
  · cases h; exact r.int_inv
  · cases h; exact r.str_inv
def kGet (kvs : List (DK × D)) (k : DK) : Option D := (kvs.find? fun kv => decide (kv.1 = k)).map (·.2)
def kPut (kvs : List (DK × D)) (k : DK) (v : D) : List (DK × D) :=
  if (kvs.any fun kv => decide (kv.1 = k)) = true then kvs.map (fun kv => if kv.1 = k then (kv.1, v) else kv) else kvs ++ [(k, v)]
theorem kGet_rep {K : PySem.W.Frag} {F : Hp} {μ : List Addr} (k : DK) : ∀ {ds : List (DK × D)} {vs : List (Key × V)}, RepKs K F μ ds vs → (∀ d, kGet ds k = some d → ∃ v, valV vs (mkK k) = some v ∧ Rep K F μ d v) ∧ (kGet ds k = none → valV vs (mkK k) = none)
  | _, _, .nil => ⟨fun d h => by simp [kGet] at h, fun _ => rfl⟩
  | _, _, @RepKs.cons _ _ _ j d v ds vs r rr => by
    have ih := kGet_rep k rr
    unfold kGet valV
    rw [List.find?_cons, List.find?_cons]
    by_cases hj : j = k
    · subst hj
      simp only [decide_true]
      exact ⟨fun d' h => by simp at h; subst h; exact ⟨v, rfl, r⟩, fun h => by simp at h⟩
    · have hj' : ¬ mkK j = mkK k := fun z => hj (mkK_inj z)
      simp only [decide_eq_false hj, decide_eq_false hj']
      exact ih
theorem kPut_rep {K : PySem.W.Frag} {F : Hp} {μ : List Addr} {k : DK} {d : D} {v : V} (rv : Rep K F μ d v) {ds : List (DK × D)} {vs : List (Key × V)} (r : RepKs K F μ ds vs) : RepKs K F μ (kPut ds k d) (putK vs (mkK k) v) := by
  have hany : ∀ {ds : List (DK × D)} {vs : List (Key × V)}, RepKs K F μ ds vs → (ds.any fun kv => decide (kv.1 = k)) = (vs.any fun kv => decide (kv.1 = mkK k)) := by
    intro ds vs r
    induction ds generalizing vs with
    | nil => cases r; rfl
    | cons p ds ih =>
      cases r with
      | cons r rr =>
        rw [List.any_cons, List.any_cons, ih rr]
        congr 1
        rw [Bool.eq_iff_iff]
        simp only [decide_eq_true_eq]
        exact ⟨fun h => by rw [h], fun h => mkK_inj h⟩
  have hmap : ∀ {ds : List (DK × D)} {vs : List (Key × V)}, RepKs K F μ ds vs → RepKs K F μ (ds.map (fun kv => if kv.1 = k then (kv.1, d) else kv)) (vs.map (fun kv => if kv.1 = mkK k then (kv.1, v) else kv)) := by
    intro ds vs r
    induction ds generalizing vs with
    | nil => cases r; exact .nil
    | cons p ds ih =>
      cases r with
      | @cons j d' v' _ _ r rr =>
        rw [List.map_cons, List.map_cons]
        dsimp only
        by_cases hj : j = k
        · rw [if_pos hj, if_pos (by rw [hj])]
          exact .cons rv (ih rr)
        · rw [if_neg hj, if_neg fun z => hj (mkK_inj z)]
          exact .cons r (ih rr)
  have happ : ∀ {ds : List (DK × D)} {vs : List (Key × V)}, RepKs K F μ ds vs → RepKs K F μ (ds ++ [(k, d)]) (vs ++ [(mkK k, v)]) := by
    intro ds vs r
    induction ds generalizing vs with
    | nil => cases r; exact .cons rv .nil
    | cons p ds ih =>
      cases r with
      | cons r rr => exact .cons r (ih rr)
  unfold kPut putK
  rw [hany r]
  split
  · exact hmap r
  · exact happ r
/-- what a dict is: frozen, owned, or by reference -/
def dctOf (S : List O) : D → Option (List (DK × D))
  | .dct kvs => some kvs
  | .ptr k => match S[k]? with
    | some (.dct kvs) => some kvs
    | _ => none
  | _ => none
theorem dctOf_rep {K : PySem.W.Frag} {c : Ct} {F : Hp} {μ : List Addr} {σ : L2.St} {H : Hp} {s : Sto} {x : V} {d : D} {kvs : List (DK × D)} (R : Rel K c F μ σ H s) (r : RepH K F μ H d x) (h : dctOf s.2 d = some kvs) :
    ∃ a vs, x = .ref a ∧ H a = some (.dK vs) ∧ RepKs K F μ kvs vs := by
  cases d <;> simp only [dctOf] at h <;> try (cases h; done)
  · cases h; exact r.dct_inv R.sub
  · rename_i k
    cases r with
    | rep r =>
      cases r with
      | ptr hk =>
        split at h
        · rename_i kv hS
          cases h
          obtain ⟨vs, e, q⟩ := R.st.ok k _ _ hk hS
          exact ⟨_, vs, rfl, e, q⟩
        · cases h
/-- d[k] -/
def eDGet (f g : Ev D) : Ev D := bnd f fun x => bnd g fun y => fun s => match dctOf s.2 x, asK y with
  | some kvs, some k => (kGet kvs k).map fun d => (d, s)
  | _, _ => none
theorem de_dget (hu : X.A.units + 1 < cLine) (ho : DE cls X a f) (hi : DE cls X b g) (hs : NoSl b) : DE cls X (.Subscript a b pos) (eDGet f g) := by
  refine imp (pe_dget hu ho hi hs) fun σ H Q ⟨c, F, μ, s, hc, R, z, s', e, k⟩ => ?_
  obtain ⟨x, s1, e1, f1⟩ := bnd_some e
  obtain ⟨y, s2, e2, f2⟩ := bnd_some f1
  split at f2
  · rename_i kvs kk h1 h2
    rw [Option.map_eq_some_iff] at f2
    obtain ⟨d, e3, w⟩ := f2
    cases w
    refine ⟨c, F, μ, s, hc, R, x, s1, e1, fun v H1 F1 μ1 R1 m1 r1 => ⟨c, F1, μ1, s1, hc, R1, y, s', e2, fun u H2 F2 μ2 R2 m2 r2 => ?_⟩⟩
    obtain ⟨a, vs, rfl, ha, q⟩ := dctOf_rep R2 (.rep (r1.mono m2)) h1
    obtain ⟨w, hw, rw'⟩ := (kGet_rep kk q).1 _ e3
    exact ⟨a, w, rfl, .inl ⟨vs, mkK kk, .inl ha, asK_rep r2 h2, hw.symm⟩, k _ _ _ _ R2 (m1.trans m2) rw'⟩
  · cases f2
/-- d.get(k, x) -/
def eDGet2 (f g h : Ev D) : Ev D := bnd f fun x => fun s0 => match dctOf s0.2 x with
  | none => none
  | some _ => (bnd g fun y => bnd h fun z => fun s => match dctOf s.2 x, asK y with
    | some kvs, some k => some ((kGet kvs k).getD z, s)
    | _, _ => none) s0
theorem de_dget2 {apos cpos : Pos} (hu : X.A.units + 1 < cLine) (ho : DE cls X a f) (he : DE cls X b g) (hf : DE cls X e h) (m : M2 X a "get" apos b e cpos) : DE cls X (.Call (.Attribute a "get" apos) [b, e] [] cpos) (eDGet2 f g h) := by
  refine imp (pe_dget2 hu ho he hf m) fun σ H Q ⟨c, F, μ, s, hc, R, z, s', e, k⟩ => ?_
  obtain ⟨x, s1, e1, f1⟩ := bnd_some e
  split at f1
  · cases f1
  rename_i kvs0 h0
  obtain ⟨y, s2, e2, f2⟩ := bnd_some f1
  obtain ⟨t, s3, e3, f3⟩ := bnd_some f2
  split at f3
  · rename_i kvs kk h1 h2
    cases f3
    refine ⟨c, F, μ, s, hc, R, x, s1, e1, fun v H1 F1 μ1 R1 m1 r1 => ?_⟩
    obtain ⟨a0, vs0, rfl, ha0, q0⟩ := dctOf_rep R1 (.rep r1) h0
    refine ⟨a0, rfl, .inl ⟨vs0, .inl ha0⟩, c, F1, μ1, s1, hc, R1, y, s2, e2, fun u H2 F2 μ2 R2 m2 r2 => ⟨c, F2, μ2, s2, hc, R2, t, s', e3, fun w H3 F3 μ3 R3 m3 r3 => ?_⟩⟩
    obtain ⟨a, vs, ea, ha, q⟩ := dctOf_rep R3 (.rep (r1.mono (m2.trans m3))) h1
    cases ea
    refine ⟨_, .inl ⟨vs, mkK kk, .inl ha, asK_rep r2 h2, rfl⟩, ?_⟩
    have kg := kGet_rep kk q
    cases hk : kGet kvs kk with
    | none =>
      rw [hk] at k
      rw [kg.2 hk]
      exact k _ _ _ _ R3 (m1.trans (m2.trans m3)) r3
    | some d =>
      rw [hk] at k
      obtain ⟨w', hw, rw'⟩ := kg.1 _ hk
      rw [hw]
      exact k _ _ _ _ R3 (m1.trans (m2.trans m3)) rw'
  · cases f3
/-- d.get(k, x), d a name that owns the dict -/
def ownKOf (s : Sto) (i : Nat) : Option (List (DK × D)) := match s.1[i]? with
  | some (.ownK kvs) => some kvs
  | _ => none
theorem ownKOf_rep {K : PySem.W.Frag} {c : Ct} {F : Hp} {μ : List Addr} {σ : L2.St} {H : Hp} {s : Sto} {i : Nat} {kvs : List (DK × D)} (R : Rel K c F μ σ H s) (h : ownKOf s i = some kvs) :
    ∃ a vs, σ[i]? = some (some (.ref a)) ∧ H a = some (.dK vs) ∧ RepKs K F μ kvs vs := by
  unfold ownKOf at h
  split at h
  · rename_i kv hs
    cases h
    obtain ⟨α, h1, _⟩ := R.slots
    obtain ⟨e1, _, _, _, vs, e2, r⟩ := h1 i _ hs
    exact ⟨_, vs, e1, e2, r⟩
  · cases h
def eDGet2L (i : Nat) (g h : Ev D) : Ev D := fun s0 => match ownKOf s0 i with
  | none => none
  | some _ => (bnd g fun y => bnd h fun z => fun s => match ownKOf s i, asK y with
    | some kvs, some k => some ((kGet kvs k).getD z, s)
    | _, _ => none) s0
theorem de_dget2L (i : Nat) {x : Str} {pos' apos cpos : Pos} (hu : X.A.units + 1 < cLine) (ho : PE X (.Name x pos') (tVar i)) (he : DE cls X b g) (hf : DE cls X e h) (m : M2 X (.Name x pos') "get" apos b e cpos) : DE cls X (.Call (.Attribute (.Name x pos') "get" apos) [b, e] [] cpos) (eDGet2L i g h) := by
  refine imp (pe_dget2 hu ho he hf m) fun σ H Q ⟨c, F, μ, s, hc, R, z, s', e, k⟩ => ?_
  unfold eDGet2L at e
  split at e
  · cases e
  rename_i kvs0 h0
  obtain ⟨y, s2, e2, f2⟩ := bnd_some e
  obtain ⟨t, s3, e3, f3⟩ := bnd_some f2
  split at f3
  · rename_i kvs kk h1 h2
    cases f3
    obtain ⟨a0, vs0, es0, ha0, q0⟩ := ownKOf_rep R h0
    refine ⟨_, es0, a0, rfl, .inl ⟨vs0, .inl ha0⟩, c, F, μ, s, hc, R, y, s2, e2, fun u H2 F2 μ2 R2 m2 r2 => ⟨c, F2, μ2, s2, hc, R2, t, s', e3, fun w H3 F3 μ3 R3 m3 r3 => ?_⟩⟩
    obtain ⟨a, vs, es, ha, q⟩ := ownKOf_rep R3 h1
    rw [es0] at es; cases es
    refine ⟨_, .inl ⟨vs, mkK kk, .inl ha, asK_rep (r2.mono m3) h2, rfl⟩, ?_⟩
    have kg := kGet_rep kk q
    cases hk : kGet kvs kk with
    | none =>
      rw [hk] at k
      rw [kg.2 hk]
      exact k _ _ _ _ R3 (m2.trans m3) r3
    | some d =>
      rw [hk] at k
      obtain ⟨w', hw, rw'⟩ := kg.1 _ hk
      rw [hw]
      exact k _ _ _ _ R3 (m2.trans m3) rw'
  · cases f3
/-- d[k] = e, d a by-reference object -/
def sDPutO (f g h : Ev D) : Es := fun s => (match h s with
  | none => none
  | some (z, s1) => match f s1 with
    | some (.ptr n, s2) => match g s2 with
      | some (y, s3) => match s3.2[n]?, asK y with
        | some (.dct kvs), some k => if kvs.length < LIM then some (.nx (s3.1, s3.2.set n (.dct (kPut kvs k z)))) else none
        | _, _ => none
      | none => none
    | _ => none)
theorem ds_dputO {value : Expr} {pos' : Pos} (hu : X.A.units + 1 < cLine) (ho : DE cls X a f) (hi : DE cls X b g) (hv : DE cls X value h) (hs : swapsWith value (some (.Subscript a b pos')) pos.line X.env = pure false := by rfl) : DS cls X (.Assign [.Subscript a b pos'] value pos) (sDPutO f g h) := by
  refine impS (ps_dput hu ho hi hv hs) fun D σ H ⟨c, F, μ, s, hc, R, o, e, k⟩ => ?_
  unfold sDPutO at e
  split at e
  · cases e
  rename_i z s1 e1
  split at e
  · rename_i n s2 e2
    split at e
    · rename_i y s3 e3
      split at e
      · rename_i kvs kk h1 h2
        split at e
        · rename_i hl
          cases e
          refine ⟨c, F, μ, s, hc, R, z, s1, e1, fun v H1 F1 μ1 R1 m1 r1 => ⟨c, F1, μ1, s1, hc, R1, _, s2, e2, fun u H2 F2 μ2 R2 m2 r2 => ⟨c, F2, μ2, s2, hc, R2, y, s3, e3, fun w H3 F3 μ3 R3 m3 r3 => ?_⟩⟩⟩
          cases r2 with
          | @ptr ad _ hk =>
            have hk' := m3.2 _ _ hk
            obtain ⟨vs, e4, q⟩ := R3.st.ok n _ _ hk' h1
            have ql := q.length
            refine ⟨_, _, rfl, .inl ⟨vs, mkK kk, e4, asK_rep r3 h2, lim_lt (by omega), rfl⟩, ?_⟩
            exact k _ _ _ _ (Rel.writeO (ρ := s3.1) (S := s3.2) R3 hk' ⟨_, upd_same, kPut_rep (r1.mono (m2.trans m3)) q⟩) (m1.trans (m2.trans m3))
        · cases e
      · cases e
    · cases e
  · cases e
/-- d[k] = e, d a name that owns the dict -/
def sDPutL (i : Nat) (g h : Ev D) : Es := fun s => (match h s with
  | none => none
  | some (z, s1) => match ownKOf s1 i with
    | none => none
    | some _ => match g s1 with
      | some (y, s3) => match ownKOf s3 i, asK y with
        | some kvs, some k => if kvs.length < LIM then some (.nx (s3.1.set i (.ownK (kPut kvs k z)), s3.2)) else none
        | _, _ => none
      | none => none)
theorem ds_dputL (i : Nat) {x : Str} {px : Pos} {value : Expr} {pos' : Pos} (hu : X.A.units + 1 < cLine) (ho : PE X (.Name x px) (tVar i)) (hi : DE cls X b g) (hv : DE cls X value h) (hs : swapsWith value (some (.Subscript (.Name x px) b pos')) pos.line X.env = pure false := by rfl) :
    DS cls X (.Assign [.Subscript (.Name x px) b pos'] value pos) (sDPutL i g h) := by
  refine impS (ps_dput hu ho hi hv hs) fun D σ H ⟨c, F, μ, s, hc, R, o, e, k⟩ => ?_
  unfold sDPutL at e
  split at e
  · cases e
  rename_i z s1 e1
  split at e
  · cases e
  rename_i kvs0 h0
  split at e
  · rename_i y s3 e3
    split at e
    · rename_i kvs kk h1 h2
      split at e
      · rename_i hl
        cases e
        refine ⟨c, F, μ, s, hc, R, z, s1, e1, fun v H1 F1 μ1 R1 m1 r1 => ?_⟩
        obtain ⟨a0, vs0, es0, ha0, q0⟩ := ownKOf_rep R1 h0
        refine ⟨_, es0, c, F1, μ1, s1, hc, R1, y, s3, e3, fun w H3 F3 μ3 R3 m3 r3 => ?_⟩
        unfold ownKOf at h1
        split at h1
        · rename_i kv hs3
          cases h1
          obtain ⟨α, hsl, _⟩ := R3.slots
          obtain ⟨q1, q2, q3, q4, vs, q5, q6⟩ := hsl i _ hs3
          have ea : α i = a0 := by rw [es0] at q1; cases q1; rfl
          rw [ea] at q1 q2 q3 q4 q5
          have ql := q6.length
          refine ⟨_, _, rfl, .inl ⟨vs, mkK kk, q5, asK_rep r3 h2, lim_lt (by omega), rfl⟩, ?_⟩
          refine k _ _ _ _ (Rel.write (ρ := s3.1) (S := s3.2) R3 hs3 rfl rfl q1 ⟨rfl, q2, q3, q4, _, upd_same, kPut_rep (r1.mono m3) q6⟩) (m1.trans m3)
        · cases h1
      · cases e
    · cases e
  · cases e
/-- {} -/
theorem df_dnew : DFK cls X (.Dict [] [] pos) (ret []) := by
  refine imp pe_dnewK fun σ H Q ⟨c, F, μ, ρ, S, hc, R, z, ρ', S', e, k⟩ => ?_
  obtain ⟨w1, w2⟩ := ret_some e
  cases w2
  subst w1
  intro p hp
  exact k _ _ _ _ (R.pushK hp .nil) (Mono.refl _ _)
end
end DL

set_option Elab.async false
set_option linter.all false
set_option maxRecDepth 100000
namespace DL
open PySem PySem.Spec PyProof.Rows L2
section
variable {cls : Nat → Addr} {X : Cx} {a b e e' iter tg : Expr} {f g h : Ev D} {p q : Ev Bool} {pos : Pos} {es : List Expr} {u v : Es}
/-! ### slices -/
def TDO (K : PySem.W.Frag) (cls : Nat → Addr) (f : Ev (Option Int)) : TO := fun σ H Q => ∃ c F μ s, c.cls = cls ∧ Rel K c F μ σ H s ∧ ∃ d s', f s = some (d, s') ∧
  ∀ H' F' μ', Rel K c F' μ' σ H' s' → Mono F μ F' μ' → Q d H'
abbrev DO (cls : Nat → Addr) (X : Cx) (e : Option Expr) (f : Ev (Option Int)) : Prop := PO X e (TDO X.K cls f)
theorem impO {X : Cx} {e : Option Expr} {t t' : TO} (h : PO X e t) (k : ∀ σ H Q, t' σ H Q → t σ H Q) : PO X e t' := ⟨fun pins s σ H Q I w => h.run pins s σ H Q I (k _ _ _ w)⟩
def asI : D → Option Int
  | .int i => some i
  | _ => none
def ePart (f : Ev D) : Ev (Option Int) := bnd f fun d => lft ((asI d).map some)
theorem do_none : DO cls X none (ret none) := by
  refine impO po_none fun σ H Q ⟨c, F, μ, s, hc, R, d, s', e, k⟩ => ?_
  obtain ⟨w1, w2⟩ := ret_some e
  subst w1 w2
  exact k _ _ _ R (Mono.refl _ _)
theorem do_some (he : DE cls X e f) : DO cls X (some e) (ePart f) := by
  refine impO (po_some he) fun σ H Q ⟨c, F, μ, s, hc, R, d, s', e, k⟩ => ?_
  obtain ⟨x, s1, e1, f1⟩ := bnd_some e
  obtain ⟨e2, w2⟩ := lft_some f1
  subst w2
  rw [Option.map_eq_some_iff] at e2
  obtain ⟨i, e3, rfl⟩ := e2
  cases x <;> simp only [asI] at e3 <;> cases e3
  exact ⟨c, F, μ, s, hc, R, _, s', e1, fun v H1 F1 μ1 R1 m1 r1 => ⟨_, r1.int_inv, k _ _ _ R1 m1⟩⟩
def cutG {α : Type} (xs : List α) (lo hi : Option Int) : List α := (xs.drop (HT.sIx xs.length 0 lo)).take (HT.sIx xs.length xs.length hi - HT.sIx xs.length 0 lo)
def dSl : D → Option Int → Option Int → Option D
  | .lst xs, lo, hi => some (.lst (cutG xs lo hi))
  | .tup xs, lo, hi => some (.tup (cutG xs lo hi))
  | .str xs, lo, hi => if xs.length ≤ LIM then some (.str (cutG xs lo hi)) else none
  | _, _, _ => none
theorem cut_rep {K : PySem.W.Frag} {F : Hp} {μ : List Addr} {ds : List D} {vs : List V} (r : Reps K F μ ds vs) (lo hi : Option Int) : Reps K F μ (cutG ds lo hi) (cutV vs lo hi) := by
  unfold cutG cutV
  rw [r.length]
  exact (r.drop _).take _
theorem cut_all {α : Type} {xs : List α} {lo hi : Option Int} (h : HT.sIx xs.length 0 lo = 0 ∧ HT.sIx xs.length xs.length hi = xs.length) : cutG xs lo hi = xs := by
  unfold cutG
  rw [h.1, h.2]
  simp
def eSl (f : Ev D) (l h : Ev (Option Int)) : Ev D := bnd f fun x => bnd l fun lo => bnd h fun hi => lft (dSl x lo hi)
theorem de_slice {lo hi : Option Expr} {l h : Ev (Option Int)} {p2 : Pos} (he : DE cls X e f) (hl : DO cls X lo l) (hh : DO cls X hi h) : DE cls X (.Subscript e (.Slice lo hi none p2) pos) (eSl f l h) := by
  refine imp (pe_slice ((sl_list.or sl_tupA).or sl_str) he hl hh) fun σ H Q ⟨c, F, μ, s, hc, R, z, s', e, k⟩ => ?_
  obtain ⟨x, s1, e1, f1⟩ := bnd_some e
  obtain ⟨i, s2, e2, f2⟩ := bnd_some f1
  obtain ⟨j, s3, e3, f3⟩ := bnd_some f2
  obtain ⟨e4, w4⟩ := lft_some f3
  subst w4
  refine ⟨c, F, μ, s, hc, R, x, s1, e1, fun v H1 F1 μ1 R1 m1 r1 => ⟨c, F1, μ1, s1, hc, R1, i, s2, e2, fun H2 F2 μ2 R2 m2 => ⟨c, F2, μ2, s2, hc, R2, j, s', e3, fun H3 F3 μ3 R3 m3 => ?_⟩⟩⟩
  have k' : ∀ v H' F' μ', Rel X.K c F' μ' σ H' s' → Mono F3 μ3 F' μ' → Rep X.K F' μ' z v → Q v H' := fun v H' F' μ' R' m' r' => k v H' F' μ' R' (m1.trans (m2.trans (m3.trans m'))) r'
  have r3 := r1.mono (m2.trans m3)
  cases x <;> simp only [dSl] at e4 <;> try (cases e4; done)
  · rename_i sx
    split at e4
    · rename_i hl
      cases e4
      rw [r3.str_inv]
      refine .inr ⟨_, rfl, by rw [mkS_len]; exact lim_le hl, ?_⟩
      have : cutS (mkS sx) i j = mkS (cutG sx i j) := by
        unfold cutS cutG
        rw [mkS_len]
      rw [this]
      exact atom R3 (.str _) k'
    · cases e4
  · cases e4
    cases r3 with
    | lst h r => exact .inl (.inl ⟨_, _, rfl, SqL.of (R3.sub _ _ h), newLst R3 (cut_rep r i j) k'⟩)
  · cases e4
    cases r3 with
    | tup h r =>
      refine .inl (.inr ⟨_, _, rfl, Same.sqT R3.sub h, fun hh => ?_, fun hh => newTup R3 (cut_rep r i j) k'⟩)
      rw [← r.length] at hh
      rw [cut_all hh] at k'
      exact atom R3 (.tup h r) k'

/-! ### join -/
def dJoin : D → D → Option D
  | .str a, .lst xs => (asSs xs).bind fun ss => if (ss.map List.length).sum + ss.length * a.length ≤ LIM then some (.str (TL.joinL a ss)) else none
  | .str a, .tup xs => (asSs xs).bind fun ss => if (ss.map List.length).sum + ss.length * a.length ≤ LIM then some (.str (TL.joinL a ss)) else none
  | _, _ => none
theorem mkS_tl (x : Str) : mkS (TL.tl x) = x := by cases x; simp [TL.tl]
theorem join_mk (a : List Nat) (ss : List (List Nat)) : Txt.join (mkS a) (ss.map mkS) = mkS (TL.joinL a ss) := by
  rw [← mkS_tl (Txt.join (mkS a) (ss.map mkS)), show Txt.join (mkS a) (ss.map mkS) = Builtin.Str.glued (mkS a) (ss.map mkS) from rfl, StrLaws.glued_eq_join, TL.tl_join]
  congr 2
  rw [List.map_map]
  induction ss with
  | nil => rfl
  | cons s ss ih => rw [List.map_cons, ih]; rfl
theorem join_ok {K : PySem.W.Frag} {c : Ct} {F : Hp} {μ : List Addr} {σ : L2.St} {H : Hp} {s : Sto} {x y : V} {d e z : D} {Q : VK} (R : Rel K c F μ σ H s) (r1 : Rep K F μ d x) (r2 : RepH K F μ H e y) (h : dJoin d e = some z)
    (k : ∀ v H' F' μ', Rel K c F' μ' σ H' s → Mono F μ F' μ' → Rep K F' μ' z v → Q v H') :
    ∃ a p, ∃ ys : List Str, x = .str a ∧ [y] = [.ref p] ∧ (SqL K H p (ys.map V.str) ∨ SqT K H p (ys.map V.str)) ∧ (ys.map (·.length)).sum + ys.length * a.length ≤ 16777216 ∧ Q (.str (Txt.join a ys)) H := by
  have hl : ∀ ss : List (List Nat), ((ss.map mkS).map (·.length)).sum = (ss.map List.length).sum := fun ss => by
    rw [List.map_map]
    congr 1
    all_goals
      apply List.map_congr_left
      intro s _
      exact mkS_len s
  cases d <;> cases e <;> simp only [dJoin] at h <;> try (cases h; done)
  · rw [Option.bind_eq_some_iff] at h
    obtain ⟨ss, e1, h⟩ := h
    split at h
    · rename_i hh
      cases h
      obtain ⟨p, vs, rfl, ha, q⟩ := r2.lst_inv R.sub
      have := asSs_rep q e1
      subst this
      refine ⟨_, p, ss.map mkS, r1.str_inv, rfl, .inl (SqL.of ha), by rw [hl, List.length_map, mkS_len]; exact hh, ?_⟩
      rw [join_mk]
      exact atom R (.str _) k
    · cases h
  · rw [Option.bind_eq_some_iff] at h
    obtain ⟨ss, e1, h⟩ := h
    split at h
    · rename_i hh
      cases h
      obtain ⟨p, vs, rfl, ha, q⟩ := r2.tup_inv R.sub
      have := asSs_rep q e1
      subst this
      refine ⟨_, p, ss.map mkS, r1.str_inv, rfl, .inr ha, by rw [hl, List.length_map, mkS_len]; exact hh, ?_⟩
      rw [join_mk]
      exact atom R (.str _) k
    · cases h
def isStrD : D → Bool
  | .str _ => true
  | _ => false
theorem de_join {apos : Pos} (ho : DE cls X a f) (he : DE cls X e g) (hs : starEach [e] X.env = [(false, eval e X.env)] := by rfl) (hbase : attributeBase a "join" X.env (eval a X.env) = eval a X.env := by rfl) (hline : (apos.endLine == pos.line) = true := by rfl) :
    DE cls X (.Call (.Attribute a "join" apos) [e] [] pos) (eBin dJoin f g) := by
  refine imp (pe_join ho he hs hbase hline) fun σ H Q ⟨c, F, μ, s, hc, R, z, s', e, k⟩ => ?_
  obtain ⟨x, s1, e1, f1⟩ := bnd_some e
  obtain ⟨y, s2, e2, f2⟩ := bnd_some f1
  obtain ⟨e3, w3⟩ := lft_some f2
  subst w3
  have hx : ∃ t, x = .str t := by
    cases x <;> cases y <;> simp only [dJoin] at e3 <;> first | exact ⟨_, rfl⟩ | cases e3
  obtain ⟨t, rfl⟩ := hx
  refine ⟨c, F, μ, s, hc, R, _, s1, e1, fun v H1 F1 μ1 R1 m1 r1 => ⟨⟨_, r1.str_inv⟩, c, F1, μ1, s1, hc, R1, y, s', e2, fun u H2 F2 μ2 R2 m2 r2 => ?_⟩⟩
  exact join_ok R2 (r1.mono m2) (.rep r2) e3 fun v' H' F' μ' R' m' r' => k v' H' F' μ' R' (m1.trans (m2.trans m')) r'
theorem de_joinL (i : Nat) {x : Str} {px apos : Pos} (ho : DE cls X a f) (he : PE X (.Name x px) (tVar i)) (hs : starEach [.Name x px] X.env = [(false, eval (.Name x px) X.env)] := by rfl) (hbase : attributeBase a "join" X.env (eval a X.env) = eval a X.env := by rfl)
    (hline : (apos.endLine == pos.line) = true := by rfl) : DE cls X (.Call (.Attribute a "join" apos) [.Name x px] [] pos) (eBinR dJoin f i) := by
  refine imp (pe_join ho he hs hbase hline) fun σ H Q ⟨c, F, μ, s, hc, R, z, s', e, k⟩ => ?_
  obtain ⟨x, s1, e1, f1⟩ := bnd_some e
  obtain ⟨y, s2, e2, f2⟩ := bnd_some f1
  obtain ⟨e3, w3⟩ := lft_some f2
  subst w3
  have hx : ∃ t, x = .str t := by
    cases x <;> cases y <;> simp only [dJoin] at e3 <;> first | exact ⟨_, rfl⟩ | cases e3
  obtain ⟨t, rfl⟩ := hx
  refine ⟨c, F, μ, s, hc, R, _, s1, e1, fun v H1 F1 μ1 R1 m1 r1 => ⟨⟨_, r1.str_inv⟩, ?_⟩⟩
  obtain ⟨w2, v', hv', r2⟩ := eRd_some R1 e2
  subst w2
  exact ⟨v', hv', join_ok R1 r1 r2 e3 fun v' H' F' μ' R' m' r' => k v' H' F' μ' R' (m1.trans m') r'⟩

/-! ### methods of an owned list -/
def ownOf (s : Sto) (i : Nat) : Option (List D) := match s.1[i]? with
  | some (.own ds) => some ds
  | _ => none
theorem ownOf_rep {K : PySem.W.Frag} {c : Ct} {F : Hp} {μ : List Addr} {σ : L2.St} {H : Hp} {s : Sto} {i : Nat} {ds : List D} (R : Rel K c F μ σ H s) (h : ownOf s i = some ds) :
    ∃ a vs, σ[i]? = some (some (.ref a)) ∧ H a = some (.lst vs) ∧ Reps K F μ ds vs ∧ (∀ ds' vs', Reps K F μ ds' vs' → Rel K c F μ σ (upd H a (.lst vs')) (s.1.set i (.own ds'), s.2)) := by
  unfold ownOf at h
  split at h
  · rename_i kv hs
    cases h
    obtain ⟨α, h1, _⟩ := id R.slots
    obtain ⟨e1, e2, e3, e4, vs, e5, r⟩ := h1 i _ hs
    exact ⟨_, vs, e1, e5, r, fun ds' vs' r' => Rel.write (ρ := s.1) (S := s.2) R hs rfl rfl e1 ⟨rfl, e2, e3, e4, _, upd_same, r'⟩⟩
  · cases h
def setOwn (s : Sto) (i : Nat) (ds : List D) : Sto := (s.1.set i (.own ds), s.2)
/-- x.m(e): op on the owned list and the argument: the answer and the new list -/
def eMtL (i : Nat) (op : List D → D → Option (D × List D)) (f : Ev D) : Ev D := fun s0 => match ownOf s0 i with
  | none => none
  | some _ => match f s0 with
    | none => none
    | some (y, s) => match ownOf s i with
      | none => none
      | some ds => match op ds y with
        | none => none
        | some (z, ds') => some (z, setOwn s i ds')
def MtO (X : Cx) (id : String) (op : List D → D → Option (D × List D)) : Prop :=
  ∃ r : V → List V → Hp → VK → Prop, MtR X id r ∧ ∀ (K : PySem.W.Frag) (F : Hp) (μ : List Addr) (H : Hp) (a : Addr) (vs : List V) (ds : List D) (y z : D) (ds' : List D) (w : V) (Q : VK), H a = some (.lst vs) → Reps K F μ ds vs → Same F H → Rep K F μ y w → op ds y = some (z, ds') →
    (∀ v vs', Reps K F μ ds' vs' → Rep K F μ z v → Q v (upd H a (.lst vs'))) → r (.ref a) [w] H Q
theorem de_mtL (i : Nat) {x : Str} {px apos cpos : Pos} {m : Str} {id : String} {op : List D → D → Option (D × List D)} (hm : MtO X id op) (slot : PySem.Slot "list" m id) (hty : typeOf (.builtin id) = pure (.type "method_descriptor"))
    (ho : PE X (.Name x px) (tVar i)) (he : DE cls X e f) (hbase : attributeBase (.Name x px) m X.env (eval (.Name x px) X.env) = eval (.Name x px) X.env := by rfl)
    (hfew : ((backTo cpos (starEach [e] X.env)).all (fun x => !x.1) && (backToKw cpos (keywordEach [] X.env)).all (fun x => x.1.isSome)
      && decide (([e] : List Expr).length + ([] : List Keyword).length + (if ([] : List Keyword).isEmpty then 0 else 1) < 30)) = true := by rfl)
    (hline : (apos.endLine == cpos.line) = true := by rfl) (hs : starEach [e] X.env = (false, eval e X.env) :: starEach [] X.env := by rfl) (hplain : (backTo cpos (starEach [] X.env)).any (·.1) = false := by rfl) :
    DE cls X (.Call (.Attribute (.Name x px) m apos) [e] [] cpos) (eMtL i op f) := by
  obtain ⟨r, h1, h2⟩ := hm
  refine imp (pe_bm PySem.F.plainAttrs_list slot hty h1 ho (pa_cons he pa_nil hs) hbase hfew hline hs hplain) fun σ H Q ⟨c, F, μ, s, hc, R, z, s', e, k⟩ => ?_
  unfold eMtL at e
  split at e
  · cases e
  rename_i ds0 h0
  split at e
  · cases e
  rename_i y s1 e1
  split at e
  · cases e
  rename_i ds hd
  split at e
  · cases e
  rename_i z' ds' h3
  cases e
  obtain ⟨a0, vs0, es0, ha0, q0, _⟩ := ownOf_rep R h0
  refine ⟨_, es0, .inl ⟨rfl, _, SqL.of ha0⟩, c, F, μ, s, hc, R, y, s1, e1, fun w H1 F1 μ1 R1 m1 r1 => ?_⟩
  obtain ⟨a, vs, es, ha, q, kw⟩ := ownOf_rep R1 hd
  have ea : a = a0 := by rw [es0] at es; cases es; rfl
  subst ea
  exact h2 X.K F1 μ1 H1 a vs ds y _ ds' w Q ha q R1.sub r1 h3 fun v vs' q' rz => k v _ F1 μ1 (kw ds' vs' q') m1 rz
theorem MtM.toR {id : String} {r : V → List V → Hp → VK → Prop} (h : MtM X id r) : MtR X id r := h
def mAppend : List D → D → Option (D × List D) := fun ds y => if ds.length < LIM then some (.non, ds ++ [y]) else none
theorem mo_append : MtO X "list.append" mAppend := by
  refine ⟨_, MtM.toR mt_append, ?_⟩
  intro K F μ H a vs ds y z ds' w Q ha r m rw' h k
  unfold mAppend at h
  split at h
  · rename_i hl
    cases h
    have := r.length
    exact ⟨a, vs, w, rfl, rfl, ha, lim_lt (by omega), k _ _ (r.append (.cons rw' .nil)) .non⟩
  · cases h
def mPopAt : List D → D → Option (D × List D)
  | ds, .int i => if 0 ≤ i ∧ i < ds.length ∧ ds.length ≤ LIM then (ds[i.toNat]?).map fun d => (d, ds.eraseIdx i.toNat) else none
  | _, _ => none
theorem mo_popAt : MtO X "list.pop" mPopAt := by
  refine ⟨_, MtM.toR mt_popAt, ?_⟩
  intro K F μ H a vs ds y z ds' w Q ha r m rw' h k
  cases y <;> simp only [mPopAt] at h <;> try (cases h; done)
  rename_i i
  split at h
  · rename_i hc
    obtain ⟨h1, h2, h3⟩ := hc
    rw [Option.map_eq_some_iff] at h
    obtain ⟨d, e1, h⟩ := h
    cases h
    obtain ⟨x, hx, rx⟩ := r.get e1
    have hl := r.length
    rw [rw'.int_inv]
    have hL : LIM = 16777216 := rfl
    refine ⟨a, vs, i, i.toNat, x, rfl, rfl, ha, by omega, by omega, ?_, hx, k _ _ (r.eraseIdx _) rx⟩
    exact PySem.StrLaws.seqIndex_nonneg h1 (by omega)
  · cases h
def mExtend : List D → D → Option (D × List D)
  | ds, .lst es => if ds.length + es.length ≤ LIM then some (.non, ds ++ es) else none
  | _, _ => none
theorem mo_extend : MtO X "list.extend" mExtend := by
  refine ⟨_, MtM.toR mt_extend, ?_⟩
  intro K F μ H a vs ds y z ds' w Q ha r m rw' h k
  cases y <;> simp only [mExtend] at h <;> try (cases h; done)
  split at h
  · rename_i hl
    cases h
    cases rw' with
    | @lst b _ ws hb r2 =>
      have l1 := r.length
      have l2 := r2.length
      exact ⟨a, b, vs, ws, rfl, rfl, ha, m _ _ hb, lim_le (by omega), k _ _ (r.append r2) .non⟩
  · cases h
/-- x.pop() -/
def ePopL (i : Nat) : Ev D := fun s => match ownOf s i with
  | none => none
  | some ds => (ds[ds.length - 1]?).map fun d => (d, setOwn s i ds.dropLast)
theorem Reps.dropLast {K : PySem.W.Frag} {F : Hp} {μ : List Addr} {ds : List D} {vs : List V} (r : Reps K F μ ds vs) : Reps K F μ ds.dropLast vs.dropLast := by
  rw [List.dropLast_eq_take, List.dropLast_eq_take, r.length]
  exact r.take _
theorem de_popL (i : Nat) {x : Str} {px apos cpos : Pos} (ho : PE X (.Name x px) (tVar i)) (hbase : attributeBase (.Name x px) "pop" X.env (eval (.Name x px) X.env) = eval (.Name x px) X.env := by rfl) (hline : (apos.endLine == cpos.line) = true := by rfl) :
    DE cls X (.Call (.Attribute (.Name x px) "pop" apos) [] [] cpos) (ePopL i) := by
  refine imp (pe_bm0 PySem.F.plainAttrs_list PySem.F.slot_list_pop PySem.F.type_list_pop (MtM.toR mt_pop) ho hbase hline) fun σ H Q ⟨c, F, μ, s, hc, R, z, s', e, k⟩ => ?_
  unfold ePopL at e
  split at e
  · cases e
  rename_i ds hd
  rw [Option.map_eq_some_iff] at e
  obtain ⟨d, e1, e⟩ := e
  cases e
  obtain ⟨a, vs, es, ha, q, kw⟩ := ownOf_rep R hd
  obtain ⟨x', hx, rx⟩ := q.get e1
  rw [q.length] at hx
  exact ⟨_, es, .inl ⟨rfl, _, SqL.of ha⟩, a, vs, x', rfl, rfl, ha, hx, k _ _ _ _ (kw _ _ q.dropLast) (Mono.refl _ _) rx⟩
/-- x[i] = e of an owned list -/
def sSetL (i : Nat) (g h : Ev D) : Es := fun s => match h s with
  | none => none
  | some (z, s1) => match ownOf s1 i with
    | none => none
    | some _ => match g s1 with
      | none => none
      | some (y, s2) => match ownOf s2 i, y with
        | some ds, .int k => match ixN ds.length k with
          | some j => some (.nx (setOwn s2 i (ds.set j z)))
          | none => none
        | _, _ => none
theorem ds_setL (i : Nat) {x : Str} {px pos' : Pos} {value : Expr} (ho : PE X (.Name x px) (tVar i)) (hi : DE cls X b g) (hv : DE cls X value h) (hs1 : swapsWithSole [.Subscript (.Name x px) b pos'] value pos.line X.env = pure false := by rfl)
    (hw : swappedStores [.Subscript (.Name x px) b pos'] value X.env = pure none := by rfl) (h1 : (assignEach [.Subscript (.Name x px) b pos'] X.env).map (·.2) = [assign (.Subscript (.Name x px) b pos') X.env] := by rfl)
    (ha : ∀ v, assign (.Subscript (.Name x px) b pos') X.env v = (do
      let ov ← holding [v] (eval (.Name x px) X.env)
      let iv ← holding [v, ov] (eval b X.env)
      standAt pos'
      holding [v, ov, iv] (setItem ov iv v)
      release [v, ov, iv] []) := by intro _; rfl) : DS cls X (.Assign [.Subscript (.Name x px) b pos'] value pos) (sSetL i g h) := by
  refine impS (ps_asg hv (pg_sub ho hi set_list ha) hs1 hw h1) fun D σ H ⟨c, F, μ, s, hc, R, o, e, k⟩ => ?_
  unfold sSetL at e
  split at e
  · cases e
  rename_i z s1 e1
  split at e
  · cases e
  rename_i ds0 h0
  split at e
  · cases e
  rename_i y s2 e2
  split at e
  · rename_i ds kk h3 
    split at e
    · rename_i j hj
      cases e
      refine ⟨c, F, μ, s, hc, R, z, s1, e1, fun v H1 F1 μ1 R1 m1 r1 => ?_⟩
      obtain ⟨a0, vs0, es0, ha0, q0, _⟩ := ownOf_rep R1 h0
      refine ⟨_, es0, c, F1, μ1, s1, hc, R1, _, s2, e2, fun w H2 F2 μ2 R2 m2 r2 => ?_⟩
      obtain ⟨a, vs, es, ha, q, kw⟩ := ownOf_rep R2 h3
      have ea : a = a0 := by rw [es0] at es; cases es; rfl
      subst ea
      refine ⟨a, vs, kk, j, rfl, r2.int_inv, ha, by rw [← q.length]; exact hj, ?_⟩
      exact k _ _ _ _ (kw _ _ (q.set (r1.mono m2) j)) (m1.trans m2)
    · cases e
  · cases e

/-! ### defs -/
abbrev Fn := List D → List O → Option (D × List O)
/-- the promise of a def: it answers as F does -/
def spF (K : PySem.W.Frag) (cls : Nat → Addr) (n : Nat) (F : Fn) : Sp := fun vs H Q _ => ∃ Fz μ S ds r S', Same Fz H ∧ StOk K cls Fz μ H S ∧ Reps K Fz μ ds vs ∧ ds.length = n ∧ F ds S = some (r, S') ∧
  ∀ v H' F' μ', Step cls K Fz μ H F' μ' H' S' → Rep K F' μ' r v → Q v H'
def runF (N : Nat) (u : Es) : Fn := fun ds S => match u (ds.map .val ++ List.replicate (N - ds.length) .un, S) with
  | some (.rt d s') => some (d, s'.2)
  | some (.nx s') => some (.non, s'.2)
  | _ => none
theorem start_rel {K : PySem.W.Frag} {Fz H : Hp} {μ : List Addr} {S : List O} {ds : List D} {vs : List V} {N : List Str} (m : Same Fz H) (st : StOk K cls Fz μ H S) (r : Reps K Fz μ ds vs) :
    Rel K ⟨cls, H, Fz, μ, fun _ => none⟩ Fz μ (L2.start N vs) H (ds.map .val ++ List.replicate (N.length - ds.length) .un, S) := by
  refine ⟨m, Same.refl _, fun b o e => .inl e, fun b o e _ => e, ⟨[], by simp, fun b hb => by cases hb⟩, ?_, ⟨fun _ => 0, fun i x e => ?_, fun i j x y e1 e2 o1 o2 => ?_⟩, st, fun b o e => by cases e⟩
  · unfold L2.start; simp [r.length]
  · by_cases hi : i < ds.length
    · rw [List.getElem?_append_left (by simpa using hi)] at e
      rw [List.getElem?_map] at e
      obtain ⟨d, hd⟩ : ∃ d, ds[i]? = some d := ⟨_, List.getElem?_eq_getElem hi⟩
      rw [hd] at e
      cases e
      obtain ⟨v, hv, rv⟩ := r.get hd
      refine ⟨v, ?_, rv⟩
      unfold L2.start
      rw [List.getElem?_append_left (by rw [List.length_map, ← r.length]; exact hi), List.getElem?_map, hv]
      rfl
    · rw [List.getElem?_append_right (by simpa using hi)] at e
      have := List.mem_of_getElem? e
      rw [List.mem_replicate] at this
      rw [this.2]
      trivial
  · exfalso
    have no : ∀ {i : Nat} {x : Sl}, (ds.map Sl.val ++ List.replicate (N.length - ds.length) Sl.un)[i]? = some x → x.isOwn = true → False := fun {i x} e o => by
      have := List.mem_of_getElem? e
      rw [List.mem_append, List.mem_map, List.mem_replicate] at this
      rcases this with ⟨d, _, rfl⟩ | ⟨_, rfl⟩
      · cases o
      · cases o
    exact no e1 o1
theorem Rel.toStep {K : PySem.W.Frag} {Fz F' H H' : Hp} {μ μ' : List Addr} {σ : L2.St} {s : Sto} (R : Rel K ⟨cls, H, Fz, μ, fun _ => none⟩ F' μ' σ H' s) : Step cls K Fz μ H F' μ' H' s.2 :=
  ⟨R.sub, R.ext, R.newF, R.frame, R.mu, R.st⟩
theorem fn_ok {P : Program} {w : World} {K : PySem.W.Frag} {mg : Str → Option Value} {base : Heap} {x qual : Str} {st : Stmt} {f : Addr} {fd : FuncData} {N ps : List Str} {k : Nat} {u : Es} (F : Fun K x qual st f fd) (S : FnScope N ps (defScope st))
    (hbody : ∀ (cdv : Value) (A : Around) (outer : List Env) (s : Shared) (H : Hp) (E : XK), Room k (A.deeper (envOfC qual (defScope st) s.heap.objs.size f cdv)) →
      DSs cls (cxOf CX0 P w K mg base N qual (defScope st) f cdv A outer s H E).nox (defBody st) u) : FnOk P w K mg base CX0 (k + 1) f fd ps (spF K cls ps.length (runF N.length u)) := by
  refine F.ok S (fun vs H Q E h => ?_) (fun cdv A outer s H vs Q E hr h => ?_)
  · obtain ⟨Fz, μ, S, ds, r, S', m, st, rp, hl, _⟩ := h
    rw [← rp.length]; exact hl
  · obtain ⟨Fz, μ, S, ds, r, S', m, st, rp, hl, e, kk⟩ := h
    refine ⟨_, hbody cdv A outer s H E hr, ?_⟩
    unfold runF at e
    split at e
    · rename_i d s' e1
      cases e
      exact ⟨_, Fz, μ, _, rfl, start_rel m st rp, _, e1, fun v σ' H' F' μ' R' m' r' => kk v H' F' μ' R'.toStep r'⟩
    · rename_i s' e1
      cases e
      exact ⟨_, Fz, μ, _, rfl, start_rel m st rp, _, e1, fun σ' H' F' μ' R' m' => kk .non H' F' μ' R'.toStep .non⟩
    · cases e
def eCall (F : Fn) (g : Ev (List D)) : Ev D := fun s => match g s with
  | some (ds, (ρ, S)) => match F ds S with
    | some (r, S') => some (r, (ρ, S'))
    | none => none
  | none => none
theorem run_call {F : Fn} {n : Nat} {g : Ev (List D)} (hn : ∀ ds s s', g s = some (ds, s') → ds.length = n) (σ : L2.St) (H : Hp) (Q : VK) (w : TD X.K cls (eCall F g) σ H Q) : tCall (spF X.K cls n F) [] E0 (TDA X.K cls g) σ H Q := by
  obtain ⟨c, Fz, μ, s, hc, R, z, s', e, k⟩ := w
  unfold eCall at e
  split at e
  · rename_i ds ρ S e1
    split at e
    · rename_i r S' e2
      cases e
      refine ⟨c, Fz, μ, s, hc, R, ds, (ρ, S), e1, fun vs H1 F1 μ1 R1 m1 r1 => ?_⟩
      show spF X.K cls n F (vs ++ []) H1 Q E0
      rw [List.append_nil]
      subst hc
      exact ⟨F1, μ1, S, ds, z, S', R1.sub, R1.st, r1, hn _ _ _ e1, e2, fun v H' F' μ' t r' => k v H' F' μ' (R1.step t) (m1.trans t.mono) r'⟩
    · cases e
  · cases e
theorem len_nil (ds : List D) (s s' : Sto) (h : eNil s = some (ds, s')) : ds.length = 0 := by
  obtain ⟨w, _⟩ := ret_some h
  subst w; rfl
theorem len_cons {f : Ev D} {g : Ev (List D)} {n : Nat} (hn : ∀ ds s s', g s = some (ds, s') → ds.length = n) : ∀ ds s s', eCons f g s = some (ds, s') → ds.length = n + 1 := by
  intro ds s s' h
  obtain ⟨x, s1, e1, f1⟩ := bnd_some h
  obtain ⟨xs, s2, e2, f2⟩ := bnd_some f1
  obtain ⟨w, _⟩ := ret_some f2
  subst w
  rw [List.length_cons, hn _ _ _ e2]
theorem de_call {x : Str} {pp : Pos} {g : Ev (List D)} {n : Nat} {F : Fn} {k : Nat} {fa : Addr} {fd : FuncData} {ps : List Str} (G : FnOk X.prog X.w X.K X.mg X.base CX0 k fa fd ps (spF X.K cls n F)) (hr : Room k X.A) (hg : Gl X x) (hm : X.mg x = some (.ref fa)) (hk : PySem.W.keepIn X.K (.ref fa) = true)
    (hb : Binds X.K fd ps []) (ha : DA cls X (e :: es) g) (hn : ∀ ds s s', g s = some (ds, s') → ds.length = n) (hdb : (x == ("__debug__" : Str)) = false := by decide) (he : starEach (e :: es) X.env = (false, eval e X.env) :: starEach es X.env := by rfl)
    (hpl : (backTo pos (starEach es X.env)).any (·.1) = false := by rfl) : DE cls X (.Call (.Name x pp) (e :: es) [] pos) (eCall F g) :=
  imp (pe_call G hr hg hm hk hb .nil pass0 ha hdb he hpl) (run_call hn)
end
end DL

set_option Elab.async false
set_option linter.all false
set_option maxRecDepth 100000
namespace DL
open PySem PySem.Spec PyProof.Rows L2

/-! ### enumerate and zip over lists, tuples, texts -/
set_option maxHeartbeats 1000000 in
theorem meets_enum1 {v : Value} {o : Obj} {Hh : Heap → Prop} (B : Begins v o Hh) :
    Meets (Builtin.«enumerate.__new__» ⟨[.type "enumerate", v], []⟩) (fun _ R s => Hh s.heap ∧
      R (.ok (.ret (.ref (s.heap.push o).objs.size)))
        { s with heap := (s.heap.push o).push { cls := .type "enumerate", data := .fields #[.none, .bool false, .ref s.heap.objs.size, rawInt 0, .none, .none] } }) :=
  .of_wp fun prog w A R s h => by
    obtain ⟨hp, g, d, tk, os⟩ := s
    obtain ⟨hl, h⟩ := h
    have hsub := sub_enumerate
    have it : ∀ {A : Around} {E : Value → Shared → Prop} {Q : Value → Shared → Prop}, Q (.ref hp.objs.size) ⟨hp.push o, g, d, tk, os⟩ → wpAny (model prog w) A (pyIter v) Q E ⟨hp, g, d, tk, os⟩ := fun {A E Q} q => B.iter prog w A E _ Q hl q
    wp_walk
    refine wpAny_stack_any fun st => wpAny_pure ?_
    split
    · rename_i c _ _ _ _ _
      cases (c == Value.type "enumerate")
      · wp_walk using it
        exact ⟨_, rfl, h⟩
      · wp_walk using it
        exact ⟨_, rfl, h⟩
    · wp_walk using it
      exact ⟨_, rfl, h⟩

theorem call_enum1 {prog : Program} {w : World} {A : Around} {E : Value → Shared → Prop} {s : Shared} {v : Value} {o : Obj} {Hh : Heap → Prop} {Q : Value → Shared → Prop} (B : Begins v o Hh) (h1 : Hh s.heap)
    (h : ∀ h', IsEnum h' (s.heap.objs.size + 1) s.heap.objs.size 0 .none → h'.get? s.heap.objs.size = some o → (∀ b o, s.heap.get? b = some o → h'.get? b = some o) → Q (.ref (s.heap.objs.size + 1)) { s with heap := h' }) :
    wpAny (model prog w) A (call (.type "enumerate") [v]) Q E s := by
  refine callType_new F.called_enumerate (by decide) (F.typeCall_enumerate_1 _) (F.newCall_enumerate_1 _) (fun obj => F.args_object_init_2 obj _) F.entry_enumerate_new
    (meets_enum1 B) ⟨h1, ?_⟩
  have hz : (s.heap.push o).objs.size = s.heap.objs.size + 1 := Heap.size_push ..
  show _ ∧ _
  rw [hz]
  have he : IsEnum ((s.heap.push o).push { cls := .type "enumerate", data := .fields #[.none, .bool false, .ref s.heap.objs.size, rawInt 0, .none, .none] }) (s.heap.objs.size + 1) s.heap.objs.size 0 .none := by
    have := Heap.get?_push_size (s.heap.push o) (o := { cls := .type "enumerate", data := .fields #[.none, .bool false, .ref s.heap.objs.size, rawInt 0, .none, .none] }) rfl
    rw [hz] at this; exact this
  exact ⟨⟨_, he, rfl⟩, h _ he (Heap.get?_push_of_some _ (Heap.get?_push_size _ B.free)) fun b o x => Heap.get?_push_of_some _ (Heap.get?_push_of_some _ x)⟩

/-- a source: its items, its address (a text has none), the state of its iterator -/
structure SrcD (P : Program) (w : World) (K : PySem.W.Frag) (G : Hp → Prop) (xs : List V) (u : Value) (o : Obj) (src : List Addr) (St : Addr → Nat → Heap → Prop) : Prop where
  free : o.isFreed = false
  beg : ∀ (X : Cx) (pins : List (Addr × Obj)) (σ : L2.St) (H : Hp) (s : Shared), X.prog = P → X.w = w → X.K = K → Inv X pins σ H s → G H → (∃ Hc, Begins u o Hc ∧ Hc s.heap) ∧ ∀ b ∈ src, b < s.heap.objs.size
  st0 : ∀ (it : Addr) (h : Heap), h.get? it = some o → St it 0 h
  keep : ∀ (it : Addr) (i : Nat) (h h' : Heap), St it i h → (∀ o, h.get? it = some o → h'.get? it = some o) → St it i h'
  obj : ∀ (it : Addr) (i : Nat) (h : Heap), St it i h → ∃ o, h.get? it = some o ∧ ∀ v, o.data ≠ .cell v
  draws : ∀ (X : Cx) (pins : List (Addr × Obj)) (σ : L2.St) (H : Hp) (s : Shared) (it : Addr) (A : Around), X.prog = P → X.w = w → X.K = K → Inv X pins σ H s → G H → A.handled = none → it ∉ src →
    ∃ ex : Heap → Prop, ex s.heap ∧ Draws P w A it (it :: src) xs.length (fun i v => ∃ y, xs[i]? = some y ∧ RelV y v) (fun i h => St it i h ∧ ex h)
theorem drawsImp {prog : Program} {w : World} {A : Around} {it : Addr} {fp : List Addr} {n m : Nat} {P P' : Nat → Value → Prop} {St : Nat → Heap → Prop} (D : Draws prog w A it fp n P St) (hn : m = n) (h : ∀ i v, P i v → P' i v) : Draws prog w A it fp m P' St := by
  subst hn
  exact ⟨D.live, D.frame, fun i s Q E hi st k => D.item i s Q E hi st fun x h' tk p st' sb => k x h' tk (h _ _ p) st' sb, D.done⟩
section
variable {P : Program} {w : World} {K : PySem.W.Frag} {xs : List V} {a : Addr}
theorem src_list : SrcD P w K (fun H => SqL K H a xs) xs (.ref a) { cls := .type "list_iterator", data := .fields #[.ref a, .int 0 0] } [a] (fun it i h => h.IsListIter it a i) where
  free := rfl
  beg := fun X pins σ H s hP hw hK I hG => by
    subst hK
    obtain ⟨its, rv, p, hz⟩ := I.list hG
    refine ⟨⟨_, begins_list a its.toArray, p.isList⟩, fun b hb => ?_⟩
    rw [List.mem_singleton.mp hb]; exact p.lt
  st0 := fun it h e => ⟨_, e, rfl, rfl⟩
  keep := fun it i h h' st k => st.at fun o e => k o e
  obj := fun it i h st => by
    obtain ⟨o, e, _, d⟩ := st
    exact ⟨o, e, fun v q => by rw [d] at q; cases q⟩
  draws := fun X pins σ H s it A hP hw hK I hG hA hit => by
    subst hP hw hK
    obtain ⟨its, rv, p, hz⟩ := I.list hG
    refine ⟨fun h => h.IsList a its.toArray, p.isList, drawsImp (Draws.list hA it a (fun z => hit (by simp [z])) its.toArray) (by simp [rv.length]) fun i v hv => ?_⟩
    have hv : its[i]? = some v := by simpa using hv
    cases hx : xs[i]? with
    | none => rw [Vals.none_of rv hx] at hv; cases hv
    | some y =>
      obtain ⟨u, hu, ru⟩ := rv.get hx
      rw [hv] at hu; cases hu
      exact ⟨y, rfl, ru⟩
theorem src_tup : SrcD P w K (fun H => SqT K H a xs) xs (.ref a) { cls := .type "tuple_iterator", data := .fields #[.ref a, .int 0 0] } [a] (fun it i h => h.IsTupleIter it a i) where
  free := rfl
  beg := fun X pins σ H s hP hw hK I hG => by
    subst hK
    obtain ⟨its, rv, p, hz⟩ := I.tuple hG
    refine ⟨⟨_, begins_tuple a its.toArray, (show s.heap.IsTuple a its.toArray from p)⟩, fun b hb => ?_⟩
    rw [List.mem_singleton.mp hb]
    obtain ⟨o, e, _⟩ := id p
    exact Heap.lt_size e
  st0 := fun it h e => ⟨_, e, rfl, rfl⟩
  keep := fun it i h h' st k => st.at fun o e => k o e
  obj := fun it i h st => by
    obtain ⟨o, e, _, d⟩ := st
    exact ⟨o, e, fun v q => by rw [d] at q; cases q⟩
  draws := fun X pins σ H s it A hP hw hK I hG hA hit => by
    subst hP hw hK
    obtain ⟨its, rv, p, hz⟩ := I.tuple hG
    refine ⟨fun h => h.IsTuple a its.toArray, (show s.heap.IsTuple a its.toArray from p), drawsImp (Draws.tuple hA it a (fun z => hit (by simp [z])) its.toArray) (by simp [rv.length]) fun i v hv => ?_⟩
    have hv : its[i]? = some v := by simpa using hv
    cases hx : xs[i]? with
    | none => rw [Vals.none_of rv hx] at hv; cases hv
    | some y =>
      obtain ⟨u, hu, ru⟩ := rv.get hx
      rw [hv] at hu; cases hu
      exact ⟨y, rfl, ru⟩
theorem src_str {z : Str} {t : Tok} : SrcD P w K (fun _ => True) (z.cps.toList.map fun c => .str ⟨#[c]⟩) (.str z t) { cls := .type (strIterType z), data := .fields #[.str z t, .int 0 0] } [] (fun it i h => h.IsStrIter it (strIterType z) z t i) where
  free := rfl
  beg := fun X pins σ H s hP hw hK I hG => ⟨⟨_, begins_text z t, trivial⟩, fun b hb => by cases hb⟩
  st0 := fun it h e => ⟨_, e, rfl, rfl⟩
  keep := fun it i h h' st k => by
    obtain ⟨o, e, c, d⟩ := st
    exact ⟨o, k o e, c, d⟩
  obj := fun it i h st => by
    obtain ⟨o, e, _, d⟩ := st
    exact ⟨o, e, fun v q => by rw [d] at q; cases q⟩
  draws := fun X pins σ H s it A hP hw hK I hG hA hit => by
    subst hP hw hK
    have D := Draws.text (prog := X.prog) (w := X.w) hA it z t
    refine ⟨fun _ => True, trivial, ⟨fun i h st => D.live i h st.1, fun i h h' st k => ⟨D.frame i h h' st.1 k, trivial⟩, fun i s Q E hi st k => D.item i s Q E (by simpa using hi) st.1 fun x h' tk p st' sb => k x h' tk ?_ ⟨st', trivial⟩ sb, fun s Q E st => D.done s Q E (by simpa using st.1)⟩⟩
    obtain ⟨c, u, hc, rfl⟩ := p
    refine ⟨.str ⟨#[c]⟩, ?_, u, rfl⟩
    rw [List.getElem?_map]
    have : z.cps.toList[i]? = some c := by simpa using hc
    rw [this]; rfl
end
/-- pairs of new tuples -/
def ItP (G : Hp → Prop) (n : Nat) (f g : Nat → Option V) : It :=
  ⟨fun i H => i < n ∧ G H, fun i H v H' => ∃ T x y, v = .ref T ∧ H T = none ∧ H' = upd H T (.tup [x, y]) ∧ f i = some x ∧ g i = some y, fun i H => n ≤ i ∧ G H⟩
theorem turn_zipD {P : Program} {w : World} {K : PySem.W.Frag} {G1 G2 : Hp → Prop} {xs ys : List V} {u1 u2 : Value} {o1 o2 : Obj} {src1 src2 : List Addr} {St1 St2 : Addr → Nat → Heap → Prop} (S1 : SrcD P w K G1 xs u1 o1 src1 St1) (S2 : SrcD P w K G2 ys u2 o2 src2 St2)
    {elts : List Expr} {kk : Nat} {tpos : Pos} {z TI TO i1 i2 : Addr} (Sp : ZipSep2 z TI TO i1 i2 (i1 :: src1) (i2 :: src2)) (n1 : i1 ∉ src1) (n2 : i2 ∉ src2) :
    Turn P w K (.Tuple elts kk tpos) (ItP (fun H => G1 H ∧ G2 H) (min xs.length ys.length) (fun i => xs[i]?) (fun i => ys[i]?)) [z, TI, TO, i1, i2] z
      (fun i h => i ≤ min xs.length ys.length ∧ IsZip h z TI TO .none ∧ IsTupOf2 h TI (.ref i1) (.ref i2) ∧ (∃ x y, IsTupOf2 h TO x y) ∧ St1 i1 i h ∧ St2 i2 i h) where
  mem := by simp
  obj := fun i h st c hc => by
    obtain ⟨_, hz, hTI, ⟨x, y, hTO⟩, h1, h2⟩ := st
    have e' : c = z ∨ c = TI ∨ c = TO ∨ c = i1 ∨ c = i2 := by simpa using hc
    rcases e' with q | q | q | q | q
    · rw [q]; exact ⟨_, hz, fun v q => nomatch q⟩
    · rw [q]; exact ⟨_, hTI, fun v q => nomatch q⟩
    · rw [q]; exact ⟨_, hTO, fun v q => nomatch q⟩
    · rw [q]; exact S1.obj _ _ _ h1
    · rw [q]; exact S2.obj _ _ _ h2
  keep := fun i h h' st k => by
    obtain ⟨hl, hz, hTI, ⟨x, y, hTO⟩, h1, h2⟩ := st
    exact ⟨hl, k z (by simp) _ hz, k TI (by simp) _ hTI, ⟨x, y, k TO (by simp) _ hTO⟩, S1.keep _ _ _ _ h1 fun o q => k i1 (by simp) o q, S2.keep _ _ _ _ h2 fun o q => k i2 (by simp) o q⟩
  item := by
    intro X hP hw hK hc i pins s σ H E I hf st hg
    obtain ⟨hl, hz, hTI, hTO, h1, h2⟩ := id st
    obtain ⟨hi, g1, g2⟩ := hg
    have hA := I.ok.hd hc
    obtain ⟨ex1, x1, D1⟩ := S1.draws X pins σ H s i1 X.A.in1 hP hw hK I g1 hA n1
    obtain ⟨ex2, x2, D2⟩ := S2.draws X pins σ H s i2 X.A.in1 hP hw hK I g2 hA n2
    have W := WalksT.zipD2 Sp D1 D2
    refine W.item i s _ _ hi ⟨hz, hTI, hTO, ⟨h1, x1⟩, ⟨h2, x2⟩⟩ fun T vals h' tk hv hT htup mid k1 => ⟨_, rfl, W.go elts kk tpos i T { s with heap := h', toks := tk } _ _ mid fun h'' st'' k2 => ?_⟩
    obtain ⟨v1, v2, ⟨y1, hy1, r1⟩, ⟨y2, hy2, r2⟩, rfl⟩ := hv
    have nT := W.apart _ _ _ mid
    have old : ∀ c ∈ [z, TI, TO, i1, i2], c < s.heap.objs.size := fun c hcm => by
      obtain ⟨x0, y0, hTO⟩ := hTO
      have e' : c = z ∨ c = TI ∨ c = TO ∨ c = i1 ∨ c = i2 := by simpa using hcm
      rcases e' with q | q | q | q | q
      · rw [q]; exact Heap.lt_size hz
      · rw [q]; exact Heap.lt_size hTI
      · rw [q]; exact Heap.lt_size hTO
      · rw [q]; obtain ⟨_, e1, _⟩ := S1.obj _ _ _ h1; exact Heap.lt_size e1
      · rw [q]; obtain ⟨_, e1, _⟩ := S2.obj _ _ _ h2; exact Heap.lt_size e1
    have ht2 : h''.IsTuple T #[v1, v2] := by
      obtain ⟨o, e, r⟩ := htup
      exact ⟨o, k2 T o nT e, r⟩
    have new : ObjOk X.prog X.w (upd H T (.tup [y1, y2])) h'' T (.tup [y1, y2]) :=
      ⟨by show 2 ≤ sizeLine; decide, [v1, v2], .cons r1 (.cons r2 .nil), ht2⟩
    have inw : ∀ b, b ∈ [z, TO, i1, i2] → b ∈ [z, TI, TO, i1, i2] := fun b hb => by
      simp only [List.mem_cons, List.not_mem_nil, or_false] at hb ⊢
      rcases hb with q | q | q | q
      · exact .inl q
      · exact .inr (.inr (.inl q))
      · exact .inr (.inr (.inr (.inl q)))
      · exact .inr (.inr (.inr (.inr q)))
    have I1 : Inv X pins σ (upd H T (.tup [y1, y2])) { s with heap := h'', toks := tk } :=
      I.turnedNew (t' := tk) (ch := [z, TI, TO, i1, i2]) (fun c o hb q => k2 c o (fun z' => hb (inw c z')) (k1 c o (fun z' => hb (inw c z')) q)) hf hT new
    obtain ⟨w1, w2, w3, w4, w5⟩ := st''
    exact ⟨.ref T, _, I1, rfl, ⟨T, y1, y2, rfl, I.hok.fresh hT, rfl, hy1, hy2⟩, ⟨hi, w1, w2, w3, w4.1, w5.1⟩, fun c hcm => by
      rw [upd_ne (Nat.ne_of_lt (Nat.lt_of_lt_of_le (old c hcm) hT))]
      exact (hf c hcm).1⟩
  done := by
    intro X hP hw hK hc i pins s σ H E I hf st hg
    obtain ⟨hl, hz, hTI, hTO, h1, h2⟩ := id st
    obtain ⟨hi, g1, g2⟩ := hg
    have hA := I.ok.hd hc
    have ei : i = min xs.length ys.length := Nat.le_antisymm hl hi
    obtain ⟨ex1, x1, D1⟩ := S1.draws X pins σ H s i1 X.A.in1 hP hw hK I g1 hA n1
    obtain ⟨ex2, x2, D2⟩ := S2.draws X pins σ H s i2 X.A.in1 hP hw hK I g2 hA n2
    have W := WalksT.zipD2 Sp D1 D2
    rw [ei] at h1 h2
    refine W.done s _ _ ⟨hz, hTI, hTO, ⟨h1, x1⟩, ⟨h2, x2⟩⟩ fun h' tk k1 => ⟨rfl, ?_⟩
    have inw : ∀ b, b ∈ [z, TO, i1, i2] → b ∈ [z, TI, TO, i1, i2] := fun b hb => by
      simp only [List.mem_cons, List.not_mem_nil, or_false] at hb ⊢
      rcases hb with q | q | q | q
      · exact .inl q
      · exact .inr (.inr (.inl q))
      · exact .inr (.inr (.inr (.inl q)))
      · exact .inr (.inr (.inr (.inr q)))
    exact I.turnedL (t' := tk) (ch := [z, TI, TO, i1, i2]) (fun c o hb q => k1 c o (fun z' => hb (inw c z')) q) hf
  self := fun A i s Q E st h => wpAny_pyIter_zip st.2.1 h
theorem turn_enumD {P : Program} {w : World} {K : PySem.W.Frag} {G1 : Hp → Prop} {xs : List V} {u1 : Value} {o1 : Obj} {src1 : List Addr} {St1 : Addr → Nat → Heap → Prop} (S1 : SrcD P w K G1 xs u1 o1 src1 St1)
    {elts : List Expr} {kk : Nat} {tpos : Pos} {z i1 : Addr} (hz1 : z ≠ i1) (hzs : z ∉ src1) (n1 : i1 ∉ src1) :
    Turn P w K (.Tuple elts kk tpos) (ItP G1 xs.length (fun i => some (.int (i : Nat))) (fun i => xs[i]?)) [z, i1] z
      (fun i h => i ≤ xs.length ∧ (∃ old, IsEnum h z i1 (0 + (i : Int)) old) ∧ St1 i1 i h) where
  mem := by simp
  obj := fun i h st c hc => by
    obtain ⟨_, ⟨old, hz⟩, h1⟩ := st
    have e' : c = z ∨ c = i1 := by simpa using hc
    rcases e' with q | q
    · rw [q]; exact ⟨_, hz, fun v q => nomatch q⟩
    · rw [q]; exact S1.obj _ _ _ h1
  keep := fun i h h' st k => by
    obtain ⟨hl, ⟨old, hz⟩, h1⟩ := st
    exact ⟨hl, ⟨old, k z (by simp) _ hz⟩, S1.keep _ _ _ _ h1 fun o q => k i1 (by simp) o q⟩
  item := by
    intro X hP hw hK hc i pins s σ H E I hf st hg
    obtain ⟨hl, hz, h1⟩ := id st
    obtain ⟨hi, g1⟩ := hg
    have hA := I.ok.hd hc
    obtain ⟨ex1, x1, D1⟩ := S1.draws X pins σ H s i1 X.A.in1 hP hw hK I g1 hA n1
    have W := WalksT.enumFrom 0 D1 z hz1 (by simp only [List.mem_cons, not_or]; exact ⟨hz1, hzs⟩) (by simp)
    refine W.item i s _ _ hi ⟨hz, ⟨h1, x1⟩⟩ fun T vals h' tk hv hT htup mid k1 => ⟨_, rfl, W.go elts kk tpos i T { s with heap := h', toks := tk } _ _ mid fun h'' st'' k2 => ?_⟩
    obtain ⟨tt, v1, ⟨y1, hy1, r1⟩, rfl⟩ := hv
    have nT := W.apart _ _ _ mid
    have old : ∀ c ∈ [z, i1], c < s.heap.objs.size := fun c hcm => by
      obtain ⟨x0, hz⟩ := hz
      have e' : c = z ∨ c = i1 := by simpa using hcm
      rcases e' with q | q
      · rw [q]; exact Heap.lt_size hz
      · rw [q]; obtain ⟨_, e1, _⟩ := S1.obj _ _ _ h1; exact Heap.lt_size e1
    have ht2 : h''.IsTuple T #[.int (0 + (i : Int)) tt, v1] := by
      obtain ⟨o, e, r⟩ := htup
      exact ⟨o, k2 T o nT e, r⟩
    have new : ObjOk X.prog X.w (upd H T (.tup [.int (i : Nat), y1])) h'' T (.tup [.int (i : Nat), y1]) :=
      ⟨by show 2 ≤ sizeLine; decide, [.int (0 + (i : Int)) tt, v1], .cons ⟨tt, by rw [Int.zero_add]⟩ (.cons r1 .nil), ht2⟩
    have I1 : Inv X pins σ (upd H T (.tup [.int (i : Nat), y1])) { s with heap := h'', toks := tk } :=
      I.turnedNew (t' := tk) (ch := [z, i1]) (fun c o hb q => k2 c o hb (k1 c o hb q)) hf hT new
    obtain ⟨w1, w2⟩ := st''
    refine ⟨.ref T, _, I1, rfl, ⟨T, _, y1, rfl, I.hok.fresh hT, rfl, rfl, hy1⟩, ⟨hi, ?_, w2.1⟩, fun c hcm => by
      rw [upd_ne (Nat.ne_of_lt (Nat.lt_of_lt_of_le (old c hcm) hT))]
      exact (hf c hcm).1⟩
    exact w1
  done := by
    intro X hP hw hK hc i pins s σ H E I hf st hg
    obtain ⟨hl, hz, h1⟩ := id st
    obtain ⟨hi, g1⟩ := hg
    have hA := I.ok.hd hc
    have ei : i = xs.length := Nat.le_antisymm hl hi
    obtain ⟨ex1, x1, D1⟩ := S1.draws X pins σ H s i1 X.A.in1 hP hw hK I g1 hA n1
    have W := WalksT.enumFrom 0 D1 z hz1 (by simp only [List.mem_cons, not_or]; exact ⟨hz1, hzs⟩) (by simp)
    rw [ei] at h1 hz
    refine W.done s _ _ ⟨hz, ⟨h1, x1⟩⟩ fun h' tk k1 => ⟨rfl, ?_⟩
    exact I.turnedL (t' := tk) (ch := [z, i1]) (fun c o hb q => k1 c o hb q) hf
  self := fun A i s Q E st h => by
    obtain ⟨_, ⟨old, hz⟩, _⟩ := st
    exact wpAny_pyIter_enum hz h

/-! ### the walked things -/
/-- what a datum is as a source -/
def srcOf (K : PySem.W.Frag) (v : V) (xs : List V) (G : Hp → Prop) : Prop :=
  (∃ a, v = .ref a ∧ G = fun H => SqL K H a xs) ∨ (∃ a, v = .ref a ∧ G = fun H => SqT K H a xs) ∨ ∃ z, v = .str z ∧ xs = z.cps.toList.map (fun c => .str ⟨#[c]⟩) ∧ G = fun _ => True
theorem srcOf_get {P : Program} {w : World} {K : PySem.W.Frag} {v : V} {xs : List V} {G : Hp → Prop} {u : Value} (h : srcOf K v xs G) (r : RelV v u) : ∃ o src St, SrcD P w K G xs u o src St := by
  rcases h with ⟨a, rfl, rfl⟩ | ⟨a, rfl, rfl⟩ | ⟨z, rfl, rfl, rfl⟩
  · cases r; exact ⟨_, _, _, src_list⟩
  · cases r; exact ⟨_, _, _, src_tup⟩
  · obtain ⟨t, rfl⟩ := r; exact ⟨_, _, _, src_str⟩
section
variable {cls : Nat → Addr} {X : Cx} {a b e e2 iter tg : Expr} {f g h : Ev D} {p q : Ev Bool} {pos : Pos} {es : List Expr} {u v : Es}
def iEnumD (K : PySem.W.Frag) (ta : TA) : TI := fun σ H R => ta σ H fun vs H1 => ∃ v xs G, vs = [v] ∧ srcOf K v xs G ∧ G H1 ∧ R (ItP G xs.length (fun i => some (.int (i : Nat))) (fun i => xs[i]?)) H1
theorem pi_enumD {ta : TA} {pp tpos : Pos} {elts : List Expr} {kk : Nat} (hg : Gl X "enumerate") (hm : X.mg "enumerate" = none) (ha : PA X [e] ta) (hs : starEach [e] X.env = [(false, eval e X.env)] := by rfl) :
    PI X (.Tuple elts kk tpos) (.Call (.Name "enumerate" pp) [e] [] pos) (iEnumD X.K ta) := by
  refine ⟨fun pins s σ H R I h => ?_⟩
  refine Call_ (ld_blt I hg hm boot_enumerate (PyProof.Rows.callWith_type1 (thn (ha.run pos pins s σ H _ I h) fun us s1 ⟨vs, H1, I1, r1, q1⟩ => ?_) hs rfl))
  obtain ⟨v, xs, G, rfl, hsrc, hG, q⟩ := q1
  obtain ⟨u, rfl, ru⟩ := vals1 r1
  obtain ⟨o, src, St, S⟩ := srcOf_get (P := X.prog) (w := X.w) hsrc ru
  obtain ⟨⟨Hc, B, hc⟩, hsl⟩ := S.beg X pins σ H1 s1 rfl rfl rfl I1 hG
  refine call_enum1 B hc fun h' he hit hk => wpAny_pyIter_enum he ?_
  have I2 : Inv X pins σ H1 { s1 with heap := h' } := I1.kept (t' := s1.toks) hk
  have nlt : ∀ k, s1.heap.objs.size + k ∉ src := fun k hm => absurd (hsl _ hm) (by
    intro hlt
    exact absurd hlt (Nat.not_lt.mpr (Nat.le_add_right s1.heap.objs.size k)))
  refine ⟨s1.heap.objs.size + 1, [s1.heap.objs.size + 1, s1.heap.objs.size], _, _, H1, rfl, I2, turn_enumD S (Nat.succ_ne_self _) (nlt 1) (nlt 0), ⟨Nat.zero_le _, ⟨.none, he⟩, S.st0 _ _ hit⟩, fun b hb => ?_, q⟩
  have e' : b = s1.heap.objs.size + 1 ∨ b = s1.heap.objs.size := by simpa using hb
  have hle : s1.heap.objs.size ≤ b := by
    rcases e' with z | z
    · rw [z]; exact Nat.le_add_right _ _
    · rw [z]; exact Nat.le_refl _
  exact I1.fpOk hle (I1.hok.fresh hle)
def iZipD (K : PySem.W.Frag) (ta : TA) : TI := fun σ H R => ta σ H fun vs H1 => ∃ v1 v2 xs ys G1 G2, vs = [v1, v2] ∧ srcOf K v1 xs G1 ∧ srcOf K v2 ys G2 ∧ G1 H1 ∧ G2 H1 ∧ R (ItP (fun H => G1 H ∧ G2 H) (min xs.length ys.length) (fun i => xs[i]?) (fun i => ys[i]?)) H1
theorem pi_zipD {ta : TA} {pp tpos : Pos} {elts : List Expr} {kk : Nat} (hg : Gl X "zip") (hm : X.mg "zip" = none) (ha : PA X [e, e2] ta)
    (hs : starEach [e, e2] X.env = (false, eval e X.env) :: starEach [e2] X.env := by rfl) (hpl : (backTo pos (starEach [e2] X.env)).any (·.1) = false := by rfl) :
    PI X (.Tuple elts kk tpos) (.Call (.Name "zip" pp) [e, e2] [] pos) (iZipD X.K ta) := by
  refine ⟨fun pins s σ H R I h => ?_⟩
  refine Call_ (ld_blt I hg hm PyProof.Rows.boot_zip (PyProof.Rows.callWith_type1 (thn (ha.run pos pins s σ H _ I h) fun us s1 ⟨vs, H1, I1, r1, q1⟩ => ?_) hs hpl))
  obtain ⟨v1, v2, xs, ys, G1, G2, rfl, hs1, hs2, hG1, hG2, q⟩ := q1
  obtain ⟨u1, u2, rfl, ru1, ru2⟩ := vals2 r1
  obtain ⟨o1, src1, St1, S1⟩ := srcOf_get (P := X.prog) (w := X.w) hs1 ru1
  obtain ⟨o2, src2, St2, S2⟩ := srcOf_get (P := X.prog) (w := X.w) hs2 ru2
  obtain ⟨⟨Hc1, B1, hc1⟩, hl1⟩ := S1.beg X pins σ H1 s1 rfl rfl rfl I1 hG1
  obtain ⟨⟨Hc2, B2, hc2⟩, hl2⟩ := S2.beg X pins σ H1 s1 rfl rfl rfl I1 hG2
  refine zip_begins2 B1 B2 hc1 hc2 fun h' hz hTI hTO hg1 hg2 hsz hk => wpAny_pyIter_zip hz ?_
  have I2 : Inv X pins σ H1 { s1 with heap := h' } := I1.kept (t' := s1.toks) hk
  have nl1 : ∀ k, s1.heap.objs.size + k ∉ src1 := fun k hm => absurd (hl1 _ hm) (Nat.not_lt.mpr (Nat.le_add_right s1.heap.objs.size k))
  have nl2 : ∀ k, s1.heap.objs.size + k ∉ src2 := fun k hm => absurd (hl2 _ hm) (Nat.not_lt.mpr (Nat.le_add_right s1.heap.objs.size k))
  generalize hN : s1.heap.objs.size = N at *
  have ne : ∀ {i j : Nat}, i ≠ j → (N + i : Addr) ≠ (N + j : Addr) := fun h z => h (Nat.add_left_cancel z)
  have Sp : ZipSep2 (N + 4 : Addr) (N + 2 : Addr) (N + 3 : Addr) (N : Addr) (N + 1 : Addr) (N :: src1) ((N + 1) :: src2) := by
    refine ⟨ne (by decide), ne (by decide), ne (by decide), ne (i := 2) (j := 0) (by decide), by simp, ?_, ?_, ne (by decide), by simp, ?_, ?_, ?_, ?_⟩
    · simp only [List.mem_cons, not_or]; exact ⟨ne (i := 4) (j := 0) (by decide), nl1 4⟩
    · simp only [List.mem_cons, not_or]; exact ⟨ne (i := 3) (j := 0) (by decide), nl1 3⟩
    · simp only [List.mem_cons, not_or]; exact ⟨ne (by decide), nl2 4⟩
    · simp only [List.mem_cons, not_or]; exact ⟨ne (by decide), nl2 3⟩
    · simp only [List.mem_cons, not_or]; exact ⟨ne (i := 0) (j := 1) (by decide), nl2 0⟩
    · simp only [List.mem_cons, not_or]; exact ⟨ne (i := 1) (j := 0) (by decide), nl1 1⟩
  refine ⟨N + 4, [N + 4, N + 2, N + 3, N, N + 1], _, _, H1, rfl, I2, turn_zipD S1 S2 Sp (nl1 0) (nl2 1), ⟨Nat.zero_le _, hz, hTI, ⟨_, _, hTO⟩, S1.st0 _ _ hg1, S2.st0 _ _ hg2⟩, fun b hb => ?_, q⟩
  have e' : b = N + 4 ∨ b = N + 2 ∨ b = N + 3 ∨ b = N ∨ b = N + 1 := by simpa using hb
  have hle : s1.heap.objs.size ≤ b := by
    rw [hN]
    rcases e' with z | z | z | z | z
    · rw [z]; exact Nat.le_add_right _ _
    · rw [z]; exact Nat.le_add_right _ _
    · rw [z]; exact Nat.le_add_right _ _
    · rw [z]; exact Nat.le_refl _
    · rw [z]; exact Nat.le_add_right _ _
  exact I1.fpOk hle (I1.hok.fresh hle)

/-- on data -/
def pairL : List D → List D → List D
  | x :: xs, y :: ys => .tup [x, y] :: pairL xs ys
  | _, _ => []
theorem pairL_get : ∀ (xs ys : List D) (i : Nat) x y, xs[i]? = some x → ys[i]? = some y → (pairL xs ys)[i]? = some (.tup [x, y])
  | [], _, i, x, y, h, _ => by simp at h
  | _ :: _, [], i, x, y, _, h => by simp at h
  | a :: xs, b :: ys, 0, x, y, h1, h2 => by simp at h1 h2; subst h1 h2; rfl
  | a :: xs, b :: ys, i + 1, x, y, h1, h2 => by
    simp only [pairL, List.getElem?_cons_succ] at h1 h2 ⊢
    exact pairL_get xs ys i x y h1 h2
theorem pairL_length : ∀ (xs ys : List D), (pairL xs ys).length = min xs.length ys.length
  | [], _ => by simp [pairL]
  | _ :: _, [] => by simp [pairL]
  | a :: xs, b :: ys => by
    have := pairL_length xs ys
    simp only [pairL, List.length_cons]
    omega
theorem src_rep {K : PySem.W.Frag} {c : Ct} {F : Hp} {μ : List Addr} {σ : L2.St} {H : Hp} {s : Sto} {d : D} {ds : List D} {v : V} (R : Rel K c F μ σ H s) (r : Rep K F μ d v) (h : items d = some ds) :
    ∃ xs G, srcOf K v xs G ∧ G H ∧ Reps K F μ ds xs ∧ ∀ H', Same F H' → G H' := by
  cases d <;> simp only [items] at h <;> try (cases h; done)
  · cases h
    rename_i t
    rw [r.str_inv]
    refine ⟨_, _, .inr (.inr ⟨_, rfl, rfl, rfl⟩), trivial, ?_, fun _ _ => trivial⟩
    have : ∀ t : List Nat, Reps K F μ (t.map fun c => .str [c]) (t.map fun c => V.str ⟨#[c]⟩) := fun t => by
      induction t with
      | nil => exact .nil
      | cons c t ih => exact .cons (.str [c]) ih
    simpa using this t
  · cases h
    cases r with
    | lst h r => exact ⟨_, _, .inl ⟨_, rfl, rfl⟩, SqL.of (R.sub _ _ h), r, fun H' m => SqL.of (m _ _ h)⟩
  · cases h
    cases r with
    | tup h r => exact ⟨_, _, .inr (.inl ⟨_, rfl, rfl⟩), Same.sqT R.sub h, r, fun H' m => Same.sqT m h⟩
  · cases h
    cases r with
    | scr h => exact ⟨_, _, .inl ⟨_, rfl, rfl⟩, R.sub.seq h, reps_ints _, fun H' m => m.seq h⟩
theorem serve_pair {K : PySem.W.Frag} {F : Hp} {μ : List Addr} {G : Hp → Prop} {n : Nat} {f g : Nat → Option V} {ds es : List D} (hG : ∀ H, Same F H → G H) (hn : (pairL ds es).length = n)
    (hf : ∀ (i : Nat) x, i < n → f i = some x → ∃ d, ds[i]? = some d ∧ Rep K F μ d x) (hg : ∀ (i : Nat) x, i < n → g i = some x → ∃ d, es[i]? = some d ∧ Rep K F μ d x) : Serve K F μ (ItP G n f g) (pairL ds es) where
  go := fun i H hi m => ⟨by omega, hG H m⟩
  stop := fun i H hi m => ⟨by omega, hG H m⟩
  yld := fun i H x H' hi m y => by
    obtain ⟨T, x1, x2, rfl, hT, rfl, e1, e2⟩ := y
    obtain ⟨d1, h1, r1⟩ := hf i x1 (by omega) e1
    obtain ⟨d2, h2, r2⟩ := hg i x2 (by omega) e2
    exact .inr ⟨T, _, _, hT, rfl, rfl, pairL_get _ _ _ _ _ h1 h2, .cons r1 (.cons r2 .nil)⟩
def countL (n : Nat) : List D := (List.range n).map fun i => D.int (i : Nat)
def dEnum : List D → Option (List D)
  | [d] => (items d).map fun ds => pairL (countL ds.length) ds
  | _ => none
def dZip : List D → Option (List D)
  | [d, e] => (items d).bind fun ds => (items e).map fun es => pairL ds es
  | _ => none
def eArg (op : List D → Option (List D)) (g : Ev (List D)) : Ev (List D) := bnd g fun d => lft (op d)
theorem di_enum {g : Ev (List D)} {pp tpos : Pos} {elts : List Expr} {kk : Nat} (hg : Gl X "enumerate") (hm : X.mg "enumerate" = none) (ha : DA cls X [e] g) (hs : starEach [e] X.env = [(false, eval e X.env)] := by rfl) :
    DI cls X (.Tuple elts kk tpos) (.Call (.Name "enumerate" pp) [e] [] pos) (eArg dEnum g) := by
  refine impI (pi_enumD hg hm ha hs) fun σ H R ⟨c, F, μ, s, hc, Rl, ds, s', e, k⟩ => ?_
  obtain ⟨d, s1, e1, f1⟩ := bnd_some e
  obtain ⟨e2, w2⟩ := lft_some f1
  subst w2
  refine ⟨c, F, μ, s, hc, Rl, d, s', e1, fun vs H1 F1 μ1 R1 m1 r1 => ?_⟩
  match d, e2, r1 with
  | [d], e2, r1 =>
    simp only [dEnum, Option.map_eq_some_iff] at e2
    obtain ⟨es, e3, rfl⟩ := e2
    cases r1 with
    | cons ra rr =>
      cases rr
      obtain ⟨xs, G, h1, h2, h3, h4⟩ := src_rep R1 ra e3
      refine ⟨_, xs, G, rfl, h1, h2, k _ _ _ _ R1 m1 (serve_pair h4 ?_ (fun i x hi hx => ?_) fun i x hi hx => ?_)⟩
      · rw [pairL_length, ← h3.length]; simp [countL]
      · cases hx
        refine ⟨.int (i : Nat), ?_, .int _⟩
        unfold countL
        rw [List.getElem?_map, List.getElem?_range (by rw [h3.length]; exact hi)]
        rfl
      · exact h3.get' hx
theorem di_zip {g : Ev (List D)} {pp tpos : Pos} {elts : List Expr} {kk : Nat} (hg : Gl X "zip") (hm : X.mg "zip" = none) (ha : DA cls X [e, e2] g) (hs : starEach [e, e2] X.env = (false, eval e X.env) :: starEach [e2] X.env := by rfl)
    (hpl : (backTo pos (starEach [e2] X.env)).any (·.1) = false := by rfl) : DI cls X (.Tuple elts kk tpos) (.Call (.Name "zip" pp) [e, e2] [] pos) (eArg dZip g) := by
  refine impI (pi_zipD hg hm ha hs hpl) fun σ H R ⟨c, F, μ, s, hc, Rl, ds, s', e, k⟩ => ?_
  obtain ⟨d, s1, e1, f1⟩ := bnd_some e
  obtain ⟨e2, w2⟩ := lft_some f1
  subst w2
  refine ⟨c, F, μ, s, hc, Rl, d, s', e1, fun vs H1 F1 μ1 R1 m1 r1 => ?_⟩
  match d, e2, r1 with
  | [d1, d2], e2, r1 =>
    simp only [dZip, Option.bind_eq_some_iff, Option.map_eq_some_iff] at e2
    obtain ⟨es, e3, fs, e4, rfl⟩ := e2
    cases r1 with
    | cons ra rr =>
      cases rr with
      | cons rb rq =>
        cases rq
        obtain ⟨xs, G, h1, h2, h3, h4⟩ := src_rep R1 ra e3
        obtain ⟨ys, G', h1', h2', h3', h4'⟩ := src_rep R1 rb e4
        refine ⟨_, _, xs, ys, G, G', rfl, h1, h1', h2, h2', k _ _ _ _ R1 m1 (serve_pair (fun H m => ⟨h4 H m, h4' H m⟩) ?_ (fun i x hi hx => ?_) fun i x hi hx => ?_)⟩
        · rw [pairL_length, ← h3.length, ← h3'.length]
        · exact h3.get' hx
        · exact h3'.get' hx
end
end DL

set_option Elab.async false
set_option linter.all false
set_option maxRecDepth 100000
namespace DL
open PySem PySem.Spec PyProof.Rows L2

/-! ### x[::-1] -/
theorem fmc {α β : Type} {f g : α → Option β} : {l : List α} → (∀ x ∈ l, f x = g x) → l.filterMap f = l.filterMap g
  | [], _ => rfl
  | x :: xs, h => by
    rw [List.filterMap_cons, List.filterMap_cons, h x (by simp), fmc fun y hy => h y (by simp [hy])]
section
variable {prog : Program} {w : World} {A : Around} {E : Value → Shared → Prop} {s : Shared}
theorem rev_codes (x : Str) (t : Tok) : (slicePicked x none none (some (-1, t))).filterMap (x.cps[·]?) = x.cps.toList.reverse := by
  have e : slicePicked x none none (some (-1, t)) = sliceRange ((x.cps.size : Int) - 1) (-1) (-1) := rfl
  rw [e, PySem.W.krv_sliceRange, PySem.W.krv_range, List.filterMap_reverse, PySem.W.krv_all]
theorem getItem_str_rev {x : Str} {t tk : Tok} {a : Addr} {Q : Value → Shared → Prop} (hs : s.heap.IsSlice a none none (some (-1, tk))) (hz : x.length ≤ sizeLine)
    (h : Q (.str ⟨x.cps.toList.reverse.toArray⟩ s.toks) { s with toks := s.toks + 1 }) : wpAny (model prog w) A (getItem (.str x t) (.ref a)) Q E s := by
  refine wpAny_getItem_str_slice hs (by rfl) ?_
  unfold sliceMade
  rw [if_neg (by simp), rev_codes]
  exact ⟨by simpa [Str.length] using hz, h⟩
theorem getItem_tup_rev {t sl : Addr} {items : Array Value} {vs : Value} {Q : Value → Shared → Prop} (ht : IsTup s.heap t items) (hs : s.heap.IsSliceOf sl .none .none vs) (pv : IsPart vs (some (-1)))
    (h : Q (.ref s.heap.objs.size) { s with heap := s.heap.push { cls := .type "tuple", data := .seq items.toList.reverse.toArray } }) (hsz : items.size ≤ sizeLine) : wpAny (model prog w) A (getItem (.ref t) (.ref sl)) Q E s := by
  obtain ⟨os, hos, hcs, hds⟩ := id hs
  have hTs : s.TypeIs (.ref sl) "slice" := ⟨os, hos, hcs⟩
  have htake : sizeOk (.seq items.toList.reverse.toArray) := by
    show items.toList.reverse.toArray.size ≤ sizeLine
    rw [List.size_toArray, List.length_reverse, Array.length_toList]
    exact hsz
  unfold getItem
  try with_reducible refine wpAny_holding ?_
  first | refine wpAny_bind (wpAny_pure ?_) | skip
  refine wpAny_bind (wpAny_sequenceKey ht.typeIs (by decide) ?_)
  refine wpAny_bind (wpAny_callSpecial?_slot (name := Str.ofString "__getitem__") ht.typeIs PyProof.Rows.slot_tuple_getitem
    (wpAny_call_entry PyProof.Rows.slot_tuple_getitem ht.typeIs entry_tuple_getitem ?_ (args_tuple_getitem _ _)))
  show wpAny _ _ (Builtin.Tuple.tupleItemsOf (.ref t) >>= _) _ _ s
  refine wpAny_bind (tupleItemsOf_ ht ?_)
  refine wpAny_bind (wpAny_typeOf hTs ?_)
  rw [if_pos (by decide)]
  have app : ∀ {A' : Around} {Q' : Int × Int × Nat → Shared → Prop}, Q' ((items.size : Int) - 1, -1, items.size) s → wpAny (model prog w) A' (Builtin.Slice.sliceApplied (.ref sl) (pure (items.size : Int))) Q' E s := fun {A' Q'} q => by
    unfold Builtin.Slice.sliceApplied Builtin.Slice.sliceFields
    refine wpAny_bind (wpAny_bind (wpAny_field hos hds (x := .none) rfl (wpAny_bind (wpAny_field hos hds (x := .none) rfl (wpAny_bind (wpAny_field hos hds (x := vs) rfl (wpAny_pure ?_)))))))
    refine wpAny_bind (HT.slicePart_ pv ?_)
    show wpAny _ _ (if ((-1 : Int) == 0) = true then _ else _) _ _ s
    rw [if_neg (by decide)]
    refine wpAny_bind (HT.slicePart_ .none (wpAny_bind (HT.slicePart_ .none (wpAny_bind (wpAny_pure ?_)))))
    have e1 : Builtin.Slice.sliceAdjust none none (-1) (items.size : Int) = ((items.size : Int) - 1, -1) := by
      unfold Builtin.Slice.sliceAdjust
      rfl
    have e2 : Builtin.Slice.slicePlaces ((items.size : Int) - 1) (-1) (-1) = items.size := by
      unfold Builtin.Slice.slicePlaces
      simp only [show ¬ ((-1 : Int) > 0) by decide, if_false]
      by_cases hz : items.size = 0
      · rw [hz]; simp
      · have : ((items.size : Int) - 1) > -1 := by omega
        simp only [show (- -1 : Int) = 1 by decide, Int.ediv_one]
        split <;> omega
    show wpAny _ _ (match Builtin.Slice.sliceAdjust none none (-1) (items.size : Int) with | (lo, hi) => pure (lo, (-1 : Int), Builtin.Slice.slicePlaces lo hi (-1))) _ _ s
    rw [e1]
    show wpAny _ _ (pure ((items.size : Int) - 1, (-1 : Int), Builtin.Slice.slicePlaces ((items.size : Int) - 1) (-1) (-1))) _ _ s
    rw [e2]
    exact wpAny_pure q
  refine wpAny_bind (app ?_)
  have epick : ((List.range items.size).filterMap fun (m : Nat) => items[((items.size : Int) - 1 + (m : Int) * -1).toNat]?).toArray = items.toList.reverse.toArray := by
    congr 1
    rw [← PySem.W.krv_all items, ← List.filterMap_reverse, ← PySem.W.krv_range, List.filterMap_map]
    apply fmc
    intro m hm
    have := List.mem_range.mp hm
    have e : ((items.size : Int) - 1 + (m : Int) * -1).toNat = items.size - 1 - m := by omega
    rw [e]; rfl
  show wpAny _ _ (if (((items.size : Int) - 1) == 0 && (-1 : Int) == 1 && items.size == items.size) = true then _ else _) _ _ s
  rw [if_neg (by simp), epick]
  first
    | exact wpAny_bind (m := Builtin.Tuple.tupleExact _) (wpAny_newObj_type (wpAny_pure ⟨_, rfl, wpAny_pure h⟩) htake)
    | exact wpAny_bind (m := Builtin.Tuple.tupleExact _) (wpAny_newObj_type (wpAny_bind (wpAny_pure (wpAny_pure ⟨_, rfl, wpAny_pure h⟩))) htake)
    | exact wpAny_bind (wpAny_bind (m := Builtin.Tuple.tupleExact _) (wpAny_newObj_type (wpAny_pure (wpAny_pure ⟨_, rfl, wpAny_pure h⟩)) htake))
    | exact wpAny_bind (wpAny_bind (m := Builtin.Tuple.tupleExact _) (wpAny_newObj_type (wpAny_pure ⟨_, rfl, wpAny_pure h⟩) htake))
end
section
variable {cls : Nat → Addr} {X : Cx} {e : Expr} {f : Ev D} {pos : Pos}
def tRevX (K : PySem.W.Frag) (te : TE) : TE := fun σ H Q => te σ H fun x H1 => (∃ z, x = .str z ∧ z.length ≤ sizeLine ∧ Q (.str ⟨z.cps.toList.reverse.toArray⟩) H1) ∨ ∃ a xs, x = .ref a ∧ SqT K H1 a xs ∧ ∀ p, H1 p = none → Q (.ref p) (upd H1 p (.tup xs.reverse))
theorem pe_revX {te : TE} {k : Nat} {p1 p2 p3 : Pos} (he : PE X e te) : PE X (.Subscript e (.Slice none none (some (.UnaryOp .USub (.Constant (.int 1) k p1) p2)) p3) pos) (tRevX X.K te) := by
  refine ⟨fun pins s σ H Q I h => ?_⟩
  refine Subscript_ (thn (he.run pins s σ H _ I h) fun v s1 ⟨x, H1, I1, r1, q1⟩ => ?_)
  have hst : PO X (some (.UnaryOp .USub (.Constant (.int 1) k p1) p2)) (tPart (tUn (rU fun i => .int (-i)) (tC (.int 1)))) := po_some (pe_un un_neg pe_int)
  refine wpAny_Slice (thn (po_none.run pins s1 σ H1 (fun o H2 => o = none ∧ H2 = H1) I1 ⟨rfl, rfl⟩) fun vl s2 ⟨l, H2, I2, pl, el, e2⟩ => ?_)
  subst el e2
  refine thn (po_none.run pins s2 σ H2 (fun o H3 => o = none ∧ H3 = H2) I2 ⟨rfl, rfl⟩) fun vu s3 ⟨u, H3, I3, pu, eu, e3⟩ => ?_
  subst eu e3
  refine thn (hst.run pins s3 σ H3 (fun o H4 => o = some (-1) ∧ H4 = H3) I3 ⟨1, rfl, -1, rfl, rfl, rfl⟩) fun vs s4 ⟨o, H4, I4, ps, eo, e4⟩ => ?_
  subst eo e4
  have I5 : Inv X pins σ H4 { s4 with heap := s4.heap.push { cls := .type "slice", data := .fields #[vl, vu, vs] } } := I4.kept (t' := s4.toks) fun b ob q => Heap.get?_push_of_some _ q
  cases pl
  cases pu
  cases ps with
  | int _ tk =>
    rcases q1 with ⟨z, ex, hz, q⟩ | ⟨a, xs, ex, hx, q⟩
    · subst ex
      obtain ⟨tt, rfl⟩ := r1
      show wpAny (model X.prog X.w) X.A (subscriptTail e (.Slice none none (some (.UnaryOp .USub (.Constant (.int 1) k p1) p2)) p3) (.str z tt) (.ref s4.heap.objs.size)) (EP X pins σ Q) X.xe { s4 with heap := s4.heap.push { cls := .type "slice", data := .fields #[.none, .none, .int (-1) tk] } }
      refine tail_any (ops := [.str z tt, .ref s4.heap.objs.size]) (typeIs_str _ z tt) PySem.F.slot_str_getitem.lookup ?_ (by with_unfolding_all rfl)
      refine getItem_str_rev (tk := tk) ⟨_, Heap.get?_push_size _ rfl, rfl, rfl⟩ hz ?_
      exact ⟨.str _, H4, I5.tok _, ⟨_, rfl⟩, q⟩
    · subst ex
      cases r1
      obtain ⟨its, r, ht, hz⟩ := I5.tuple hx
      have hlen := r.length
      show wpAny (model X.prog X.w) X.A (subscriptTail e (.Slice none none (some (.UnaryOp .USub (.Constant (.int 1) k p1) p2)) p3) (.ref a) (.ref s4.heap.objs.size)) (EP X pins σ Q) X.xe { s4 with heap := s4.heap.push { cls := .type "slice", data := .fields #[.none, .none, .int (-1) tk] } }
      refine tail_any (ops := [.ref a, .ref s4.heap.objs.size]) ht.typeIs PyProof.Rows.slot_tuple_getitem.lookup ?_ (by with_unfolding_all rfl)
      refine getItem_tup_rev ht (Heap.IsSliceOf.new _ _ _ _) (.int _ tk) ?_ (by rw [List.size_toArray]; omega)
      refine ⟨.ref _, _, I5.laid (t' := s4.toks) (o := .tup xs.reverse) (fun b ob q => Heap.get?_push_of_some _ q) (Nat.le_refl _) ?_, rfl, q _ (I5.hok.fresh (Nat.le_refl _))⟩
      exact ⟨by rw [List.length_reverse]; exact hz, _, r.reverse, IsTup.new _ _⟩
def dRev : D → Option D
  | .str s => if s.length ≤ LIM then some (.str s.reverse) else none
  | .tup xs => some (.tup xs.reverse)
  | .lst xs => some (.lst xs.reverse)
  | _ => none
theorem de_rev {k : Nat} {p1 p2 p3 : Pos} (he : DE cls X e f) : DE cls X (.Subscript e (.Slice none none (some (.UnaryOp .USub (.Constant (.int 1) k p1) p2)) p3) pos) (eUn dRev f) := by
  refine imp (PE.or (pe_revL he) (pe_revX he)) fun σ H Q ⟨c, F, μ, s, hc, R, z, s', e, kk⟩ => ?_
  obtain ⟨x, s1, e1, f1⟩ := bnd_some e
  obtain ⟨e2, w2⟩ := lft_some f1
  subst w2
  cases x <;> simp only [dRev] at e2 <;> try (cases e2; done)
  · split at e2
    · rename_i hl
      cases e2
      refine .inr ⟨c, F, μ, s, hc, R, _, s', e1, fun v H1 F1 μ1 R1 m1 r1 => .inl ⟨_, r1.str_inv, by rw [mkS_len]; exact lim_le hl, ?_⟩⟩
      exact kk _ _ _ _ R1 m1 (by simpa using Rep.str _)
    · cases e2
  · cases e2
    refine .inl ⟨c, F, μ, s, hc, R, _, s', e1, fun v H1 F1 μ1 R1 m1 r1 => ?_⟩
    cases r1 with
    | lst h r => exact ⟨_, _, rfl, SqL.of (R1.sub _ _ h), newLst R1 r.reverse fun v H' F' μ' R' m' r' => kk v H' F' μ' R' (m1.trans m') r'⟩
  · cases e2
    refine .inr ⟨c, F, μ, s, hc, R, _, s', e1, fun v H1 F1 μ1 R1 m1 r1 => .inr ?_⟩
    cases r1 with
    | tup h r => exact ⟨_, _, rfl, Same.sqT R1.sub h, newTup R1 r.reverse fun v H' F' μ' R' m' r' => kk v H' F' μ' R' (m1.trans m') r'⟩
end
end DL

set_option Elab.async false
set_option linter.all false
set_option maxRecDepth 100000
namespace DL
open PySem PySem.Spec PyProof.Rows L2

section
variable {cls : Nat → Addr} {X : Cx} {a b e : Expr} {f g : Ev D} {pos : Pos}
/-! ### in place -/
theorem iop_ii {fo : Value → Value → Sem Value} {C : Int → Int → Prop} {g : Int → Int → Int} {c : Int → Int → Bool} (hr : OpR X fo (rI C fun i j => .int (g i j))) (hc : ∀ i j, c i j = true → C i j) :
    OpD X fo (fun d e => match d, e with | .int i, .int j => guard' (c i j) (.int (g i j)) | _, _ => none) :=
  (oh_ii hr hc fun d e z h => by
    cases d <;> cases e <;> try (cases h; done)
    obtain ⟨h1, rfl⟩ := guard_some h
    exact ⟨_, _, rfl, rfl, h1, rfl⟩).d
def dAddI : D → D → Option D
  | .int a, .int b => some (.int (a + b))
  | .str a, .str b => guard' (decide (a.length + b.length ≤ LIM)) (.str (a ++ b))
  | _, _ => none
theorem oi_add : OpD X (inplaceOp .Add) dAddI := OpH.d (by
  refine ⟨_, iop_add.or iop_add_str, ?_⟩
  intro c F μ σ H s x y d e z Q R r1 r2 h k
  cases d <;> cases e <;> try (cases h; done)
  case int.int a b =>
    cases h
    rw [r1.int_inv, r2.int_inv]
    exact .inl ⟨a, b, rfl, rfl, atom R (.int _) k⟩
  case str.str a b =>
    simp only [dAddI] at h
    obtain ⟨hn, rfl⟩ := guard_some h
    rw [r1.str_inv, r2.str_inv]
    refine .inr ⟨_, _, rfl, rfl, ?_, ?_⟩
    · rw [mkS_len, mkS_len]; exact lim_le (of_decide_eq_true hn)
    · rw [mkS_app]; exact atom R (.str _) k)
def dSubI : D → D → Option D
  | .int i, .int j => guard' ((fun _ _ => true : Int → Int → Bool) i j) (.int (i - j))
  | _, _ => none
theorem oi_sub : OpD X (inplaceOp .Sub) dSubI := by
  have := iop_ii (X := X) (fo := inplaceOp .Sub) (C := fun _ _ => True) (g := fun i j => i - j) (c := fun _ _ => true) (by
    intro pins s σ H x y v u Q I rx ry ⟨i, j, e1, e2, _, q⟩
    exact iop_sub pins s σ H x y v u Q I rx ry ⟨i, j, e1, e2, q⟩) fun _ _ _ => trivial
  have e : dSubI = (fun d e => match d, e with | .int i, .int j => guard' ((fun _ _ => true : Int → Int → Bool) i j) (.int (i - j)) | _, _ => none) := by
    funext d e; cases d <;> cases e <;> rfl
  rw [e]; exact this
def dMulI : D → D → Option D
  | .int i, .int j => guard' ((fun i j => decide (i.natAbs < 2 ^ 64) || decide (j.natAbs < 2 ^ 64) : Int → Int → Bool) i j) (.int (i * j))
  | _, _ => none
theorem oi_mul : OpD X (inplaceOp .Mult) dMulI := by
  have := iop_ii (X := X) (fo := inplaceOp .Mult) (C := CMul) (g := fun i j => i * j) (c := fun i j => decide (i.natAbs < 2 ^ 64) || decide (j.natAbs < 2 ^ 64)) iop_mul fun i j h => by
    simp only [Bool.or_eq_true, decide_eq_true_eq] at h
    unfold CMul
    omega
  have e : dMulI = (fun d e => match d, e with | .int i, .int j => guard' ((fun i j => decide (i.natAbs < 2 ^ 64) || decide (j.natAbs < 2 ^ 64) : Int → Int → Bool) i j) (.int (i * j)) | _, _ => none) := by
    funext d e; cases d <;> cases e <;> rfl
  rw [e]; exact this
def dDivI : D → D → Option D
  | .int i, .int j => guard' ((fun _ j => decide (0 < j) && decide (j.natAbs.log2 < 9000) : Int → Int → Bool) i j) (.int (i / j))
  | _, _ => none
theorem oi_div : OpD X (inplaceOp .FloorDiv) dDivI := by
  have := iop_ii (X := X) (fo := inplaceOp .FloorDiv) (C := CDivW) (g := fun i j => i / j) (c := fun _ j => decide (0 < j) && decide (j.natAbs.log2 < 9000)) iop_fdivW fun i j h => by
    simp only [Bool.and_eq_true, decide_eq_true_eq] at h; exact h
  have e : dDivI = (fun d e => match d, e with | .int i, .int j => guard' ((fun _ j => decide (0 < j) && decide (j.natAbs.log2 < 9000) : Int → Int → Bool) i j) (.int (i / j)) | _, _ => none) := by
    funext d e; cases d <;> cases e <;> rfl
  rw [e]; exact this

/-! ### in -/
def uniA : D → Bool
  | .non => true | .bl _ => true | .int _ => true | .str _ => true | _ => false
theorem uni_flat {K : PySem.W.Frag} {F : Hp} {μ : List Addr} {d : D} {v : V} (h : uniA d = true) (r : Rep K F μ d v) : flatV v = true := by
  cases r <;> first | rfl | cases h
theorem eqV_eqv {K : PySem.W.Frag} {F G : Hp} {μ ν : List Addr} {d e : D} {v w : V} (h1 : uniA d = true) (h2 : uniA e = true) (r : Rep K F μ d v) (q : Rep K G ν e w) : eqV v w = eqv d e := by
  cases r <;> first | (cases h1; done) | skip
  all_goals cases q <;> first | (cases h2; done) | skip
  all_goals first | rfl | exact mkS_eq _ _
theorem inV_eqv {K : PySem.W.Frag} {F G : Hp} {μ ν : List Addr} {e : D} {w : V} (h2 : uniA e = true) (q : Rep K G ν e w) : ∀ {ds : List D} {vs : List V}, ds.all uniA = true → Reps K F μ ds vs → inV w vs = ds.any fun z => eqv z e
  | _, _, _, .nil => rfl
  | _, _, h, .cons r rs => by
    rw [List.all_cons, Bool.and_eq_true] at h
    have ih := inV_eqv h2 q h.2 rs
    unfold inV at ih ⊢
    rw [List.any_cons, List.any_cons, ih, eqV_eqv h.1 h2 r q]
theorem flats_V {K : PySem.W.Frag} {F : Hp} {μ : List Addr} : ∀ {ds : List D} {vs : List V}, ds.all uniA = true → Reps K F μ ds vs → vs.all flatV = true
  | _, _, _, .nil => rfl
  | _, _, h, .cons r rs => by
    rw [List.all_cons, Bool.and_eq_true] at h
    rw [List.all_cons, Bool.and_eq_true]
    exact ⟨uni_flat h.1 r, flats_V h.2 rs⟩
theorem RepH.uni {K : PySem.W.Frag} {F H : Hp} {μ : List Addr} {d : D} {v : V} (h : uniA d = true) (r : RepH K F μ H d v) : Rep K F μ d v := by
  cases d <;> first | (cases h; done) | skip
  · rw [r.non_inv]; exact .non
  · rw [r.bl_inv]; exact .bl _
  · rw [r.int_inv]; exact .int _
  · rw [r.str_inv]; exact .str _
def inD (neg : Bool) : D → D → Option D
  | .str [c], .str z => some (.bl (neg ^^ decide (c ∈ z)))
  | d, .tup z => guard' (uniA d && z.all uniA) (.bl (neg ^^ z.any fun y => eqv y d))
  | d, .lst z => guard' ((uniA d && z.all uniA) || (flat 8 d && flat 8 (.lst z))) (.bl (neg ^^ z.any fun y => eqv y d))
  | _, _ => none
theorem toPys_any (d : D) : ∀ z : List D, (toPys z).any (fun y => PyData.eqv y (toPy d)) = z.any fun y => eqv y d
  | [] => rfl
  | y :: z => by
    show ((toPy y :: toPys z).any _) = _
    rw [List.any_cons, List.any_cons, toPys_any d z, toPy_eqv]
theorem in_ok {neg : Bool} {c : Ct} {F : Hp} {μ : List Addr} {σ : L2.St} {H : Hp} {s : Sto} {x y : V} {d e z : D} {Q : VK} (R : Rel X.K c F μ σ H s) (r1 : RepH X.K F μ H d x) (r2 : RepH X.K F μ H e y) (h : inD neg d e = some z)
    (k : ∀ v H' F' μ', Rel X.K c F' μ' σ H' s → Mono F μ F' μ' → Rep X.K F' μ' z v → Q v H') :
    (∃ (c : Nat) (z : Str), x = .str ⟨#[c]⟩ ∧ y = .str z ∧ Q (.bl (neg ^^ decide (c ∈ z.cps.toList))) H) ∨
    (∃ p xs, y = .ref p ∧ (SqL X.K H p xs ∨ SqT X.K H p xs) ∧ flatV x = true ∧ xs.all flatV = true ∧ Q (.bl (neg ^^ inV x xs)) H) ∨
    (∃ d ds, Dp X.K H x d ∧ Dp X.K H y (.list ds) ∧ SeqAt.shaped d = true ∧ SeqAt.shaped (.list ds) = true ∧ Q (.bl (neg ^^ ds.any fun z => PyData.eqv z d)) H) := by
  unfold inD at h
  split at h
  · cases h
    rw [r1.str_inv, r2.str_inv]
    exact .inl ⟨_, _, rfl, rfl, by simpa [mkS] using atom R (.bl _) k⟩
  · obtain ⟨h1, rfl⟩ := guard_some h
    simp only [Bool.and_eq_true] at h1
    obtain ⟨p, vs, rfl, e1, q1⟩ := r2.tup_inv R.sub
    refine .inr (.inl ⟨p, vs, rfl, .inr e1, uni_flat h1.1 (r1.uni h1.1), flats_V h1.2 q1, ?_⟩)
    rw [inV_eqv h1.1 (r1.uni h1.1) h1.2 q1]
    exact atom R (.bl _) k
  · obtain ⟨h1, rfl⟩ := guard_some h
    rcases Bool.or_eq_true_iff.mp h1 with h1 | h1
    · simp only [Bool.and_eq_true] at h1
      obtain ⟨p, vs, rfl, e1, q1⟩ := r2.lst_inv R.sub
      refine .inr (.inl ⟨p, vs, rfl, .inl (.of e1), uni_flat h1.1 (r1.uni h1.1), flats_V h1.2 q1, ?_⟩)
      rw [inV_eqv h1.1 (r1.uni h1.1) h1.2 q1]
      exact atom R (.bl _) k
    · simp only [Bool.and_eq_true] at h1
      refine .inr (.inr ⟨_, _, r1.dp R.sub h1.1, r2.dp R.sub h1.2, flat_shaped h1.1, flat_shaped h1.2, ?_⟩)
      rw [toPys_any]
      exact atom R (.bl _) k
  · cases h
theorem oh_in (hu : X.A.units + 65 < cLine) : OpH X (compareOp .In) (inD false) := by
  refine ⟨_, op_in_sign.or (op_in_seq.or (op_inD hu)), ?_⟩
  intro c F μ σ H s x y d e z Q R r1 r2 h k
  rcases in_ok R r1 r2 h k with h | h | h
  · obtain ⟨c, z, e1, e2, q⟩ := h
    exact .inl ⟨c, z, e1, e2, by simpa using q⟩
  · obtain ⟨p, xs, e1, e2, e3, e4, q⟩ := h
    exact .inr (.inl ⟨p, xs, e1, e2, e3, e4, by simpa using q⟩)
  · obtain ⟨p, xs, e1, e2, e3, e4, q⟩ := h
    exact .inr (.inr ⟨p, xs, e1, e2, e3, e4, by simpa only [Bool.false_xor] using q⟩)
theorem oh_notin (hu : X.A.units + 65 < cLine) : OpH X (compareOp .NotIn) (inD true) := by
  refine ⟨_, op_notIn_sign.or (op_notIn_seq.or (op_notInD hu)), ?_⟩
  intro c F μ σ H s x y d e z Q R r1 r2 h k
  rcases in_ok R r1 r2 h k with h | h | h
  · obtain ⟨c, z, e1, e2, q⟩ := h
    exact .inl ⟨c, z, e1, e2, by simpa only [Bool.true_xor] using q⟩
  · obtain ⟨p, xs, e1, e2, e3, e4, q⟩ := h
    refine .inr (.inl ⟨p, xs, e1, e2, e3, e4, ?_⟩)
    rw [Bool.true_xor] at q
    rw [if_pos rfl]
    exact q
  · obtain ⟨p, xs, e1, e2, e3, e4, q⟩ := h
    exact .inr (.inr ⟨p, xs, e1, e2, e3, e4, by simpa only [Bool.true_xor] using q⟩)

/-! ### truth -/
def truD : D → Option Bool
  | .non => some false
  | .bl b => some b
  | .int i => some (i != 0)
  | .str s => if s.length ≤ LIM then some (!s.isEmpty) else none
  | .lst xs => some (!xs.isEmpty)
  | .tup xs => some (!xs.isEmpty)
  | .dct xs => some (!xs.isEmpty)
  | _ => none
theorem tru_rep {K : PySem.W.Frag} {F H : Hp} {μ : List Addr} {d : D} {v : V} {b : Bool} (m : Same F H) (r : RepH K F μ H d v) (h : truD d = some b) : TruV K v H b := by
  cases d with
  | non => cases h; rw [r.non_inv]; rfl
  | bl b => cases h; rw [r.bl_inv]; rfl
  | int i => cases h; rw [r.int_inv]; rfl
  | str s =>
    simp only [truD] at h
    split at h
    · rename_i hl
      cases h
      rw [r.str_inv]
      refine ⟨by rw [mkS_len]; exact lim_le hl, ?_⟩
      rw [mkS_len]
      cases s with
      | nil => rfl
      | cons c t =>
        have : ((((c :: t).length : Nat) : Int) != 0) = true := by
          rw [List.length_cons, bne_iff_ne]; omega
        rw [this]; rfl
    · cases h
  | lst xs =>
    cases h
    obtain ⟨a, vs, rfl, e, q⟩ := r.lst_inv m
    exact .inl ⟨vs, .of e, by have := q.length; cases xs <;> cases vs <;> simp at this ⊢⟩
  | tup xs =>
    cases h
    obtain ⟨a, vs, rfl, e, q⟩ := r.tup_inv m
    exact .inr (.inl ⟨vs, e, by have := q.length; cases xs <;> cases vs <;> simp at this ⊢⟩)
  | dct xs =>
    cases h
    obtain ⟨a, vs, rfl, e, q⟩ := r.dct_inv m
    exact .inr (.inr ⟨vs, e, by cases q <;> rfl⟩)
  | scr xs => cases h
  | ptr k => cases h
def eTr (f : Ev D) : Ev Bool := bnd f fun x => lft (truD x)
theorem dt_truth (he : DE cls X e f) (hi : ∀ whole, isTrue e X.env whole = (do let v ← whole; standAt e.pos; holding [v] (truthy v)) := by intro _; rfl) : DT cls X e (eTr f) := by
  refine impT (pt_truth he hi) fun σ H Q ⟨c, F, μ, s, hc, R, z, s', e, k⟩ => ?_
  obtain ⟨x, s1, e1, f1⟩ := bnd_some e
  obtain ⟨e3, w3⟩ := lft_some f1
  subst w3
  exact ⟨c, F, μ, s, hc, R, x, s', e1, fun v H' F' μ' R' m' r' => ⟨z, tru_rep R'.sub (.rep r') e3, k _ _ _ R' m'⟩⟩
def eTrL (i : Nat) : Ev Bool := bnd (eRd i) fun x => lft (truD x)
theorem dt_truthL (i : Nat) (he : PE X e (tVar i)) (hi : ∀ whole, isTrue e X.env whole = (do let v ← whole; standAt e.pos; holding [v] (truthy v)) := by intro _; rfl) : DT cls X e (eTrL i) := by
  refine impT (pt_truth he hi) fun σ H Q ⟨c, F, μ, s, hc, R, z, s', e, k⟩ => ?_
  obtain ⟨x, s1, e1, f1⟩ := bnd_some e
  obtain ⟨e3, w3⟩ := lft_some f1
  subst w3
  obtain ⟨rfl, v, ev, r⟩ := eRd_some R e1
  exact ⟨v, ev, z, tru_rep R.sub r e3, k _ _ _ R (Mono.refl _ _)⟩

/-! ### x = [... for ...] -/
theorem Rel.frz {K : PySem.W.Frag} {c : Ct} {F1 : Hp} {μ1 : List Addr} {σ : L2.St} {H1 : Hp} {ρ' : List Sl} {S' : List O} {xs : List D} {v : V} (R1 : Rel K c F1 μ1 (σ ++ [some v]) H1 (ρ' ++ [.own xs], S')) :
    ∃ F2, Rel K c F2 μ1 σ H1 (ρ', S') ∧ Mono F1 μ1 F2 μ1 ∧ Rep K F2 μ1 (.lst xs) v := by
  have hl : (ρ' ++ [Sl.own xs]).length = (σ ++ [some v]).length := R1.len
  have hl' : ρ'.length = σ.length := by simpa using hl
  have hx : (ρ' ++ [Sl.own xs])[ρ'.length]? = some (.own xs) := by rw [List.getElem?_append_right (Nat.le_refl _)]; simp
  obtain ⟨a, F2, e2, R2, m2, r2⟩ := R1.freeze hx rfl (.inl ⟨xs, rfl, rfl⟩)
  rw [hl', List.getElem?_append_right (Nat.le_refl _)] at e2
  simp at e2
  subst e2
  rw [List.set_append_right _ _ (Nat.le_refl _)] at R2
  simp only [Nat.sub_self, List.set_cons_zero] at R2
  exact ⟨F2, R2.pop, m2, r2⟩
theorem ds_setLc (i : Nat) {y : Str} {py : Pos} {elt tg iter : Expr} {ifs : List Expr} {scope : Scope} {own : List (Str × Nat)} {spos : Pos} {ws : List Nat} {f : Ev (List D)} {t : D → Sto → Option Sto} {p : Ev Bool} {g : Ev D} (hc : X.calm = true) (hN : X.N.Nodup) (hy : X.N[i]? = some y) (hyl : X.env.scope.names.lookup y = some .local)
    (hsw : swapsWith (.ListComp elt [⟨tg, iter, ifs, 0⟩] scope pos) (some (.Name y py)) spos.line X.env = pure true) (hi : DI cls X tg iter f) (ok : BlkOk X.N X.env.scope scope own)
    (hg : ∀ (s : Shared) (H : Hp) (C : Addr) (cl : List (Str × Addr)) (fp : List Addr), DG cls (X.blk s H scope (compEnvC scope cl C X.env) fp) tg ws t) (ht : ∀ (s : Shared) (H : Hp) (C : Addr) (cl : List (Str × Addr)) (fp : List Addr), DTs cls (X.blk s H scope (compEnvC scope cl C X.env) fp) ifs p)
    (he : ∀ (s : Shared) (H : Hp) (C : Addr) (cl : List (Str × Addr)) (fp : List Addr), DE cls (X.blk s H scope (compEnvC scope cl C X.env) fp) elt g) (hv : ∀ i ∈ ws, i ∈ own.map (·.2)) (hs : ∀ x, foldedSetIterable iter X.env x = pure x := by intro _; rfl) :
    DS cls X (.Assign [.Name y py] (.ListComp elt [⟨tg, iter, ifs, 0⟩] scope pos) spos) (sSet i (eFz (eLc (own.map (·.2)) f t p g))) := by
  refine impS (ps_setLc (g := TDG X.K cls ws t) (tt := TDT X.K cls p) (te := TD X.K cls g) hc hN hy hyl hsw hi ok hg ht he hs) fun D σ H ⟨c, F, μ, s, hc, R, o, e, k⟩ => ?_
  obtain ⟨ρ, S⟩ := s
  unfold sSet at e
  split at e
  · rename_i d s1 e1
    cases e
    obtain ⟨x, s2, e2, f2⟩ := bnd_some e1
    cases f2
    refine run_lc hv σ H _ ⟨c, F, μ, ρ, S, hc, R, x, s1.1, s1.2, e2, fun v H' F' μ' R' m' => ?_⟩
    obtain ⟨F2, R2, m2, r2⟩ := R'.frz
    exact k _ _ _ _ (R2.setVal r2) (m'.trans m2)
  · cases e
theorem ds_ownLc (i : Nat) {y : Str} {py : Pos} {elt tg iter : Expr} {ifs : List Expr} {scope : Scope} {own : List (Str × Nat)} {spos : Pos} {ws : List Nat} {f : Ev (List D)} {t : D → Sto → Option Sto} {p : Ev Bool} {g : Ev D} (hc : X.calm = true) (hN : X.N.Nodup) (hy : X.N[i]? = some y) (hyl : X.env.scope.names.lookup y = some .local)
    (hsw : swapsWith (.ListComp elt [⟨tg, iter, ifs, 0⟩] scope pos) (some (.Name y py)) spos.line X.env = pure true) (hi : DI cls X tg iter f) (ok : BlkOk X.N X.env.scope scope own)
    (hg : ∀ (s : Shared) (H : Hp) (C : Addr) (cl : List (Str × Addr)) (fp : List Addr), DG cls (X.blk s H scope (compEnvC scope cl C X.env) fp) tg ws t) (ht : ∀ (s : Shared) (H : Hp) (C : Addr) (cl : List (Str × Addr)) (fp : List Addr), DTs cls (X.blk s H scope (compEnvC scope cl C X.env) fp) ifs p)
    (he : ∀ (s : Shared) (H : Hp) (C : Addr) (cl : List (Str × Addr)) (fp : List Addr), DE cls (X.blk s H scope (compEnvC scope cl C X.env) fp) elt g) (hv : ∀ i ∈ ws, i ∈ own.map (·.2)) (hs : ∀ x, foldedSetIterable iter X.env x = pure x := by intro _; rfl) :
    DS cls X (.Assign [.Name y py] (.ListComp elt [⟨tg, iter, ifs, 0⟩] scope pos) spos) (sOwn i (eLc (own.map (·.2)) f t p g)) := by
  refine impS (ps_setLc (g := TDG X.K cls ws t) (tt := TDT X.K cls p) (te := TD X.K cls g) hc hN hy hyl hsw hi ok hg ht he hs) fun D σ H ⟨c, F, μ, s, hc, R, o, e, k⟩ => ?_
  obtain ⟨ρ, S⟩ := s
  unfold sOwn at e
  split at e
  · rename_i d s1 e1
    cases e
    exact run_lc hv σ H _ ⟨c, F, μ, ρ, S, hc, R, d, s1.1, s1.2, e1, fun v H' F' μ' R' m' => k _ _ _ _ R'.move m'⟩
  · cases e
end
end DL

set_option Elab.async false
set_option linter.all false
set_option maxRecDepth 100000
namespace DL
open PySem PySem.Spec PyProof.Rows L2

/-! ### defs by name -/
structure Cal (P : Program) (w : World) (K : PySem.W.Frag) (mg : Str → Option Value) (base : Heap) (cls : Nat → Addr) (k : Nat) (x : Str) (n : Nat) (F : Fn) : Prop where
  ex : ∃ (fa : Addr) (fd : FuncData) (ps : List Str), FnOk P w K mg base CX0 k fa fd ps (spF K cls n F) ∧ mg x = some (.ref fa) ∧ PySem.W.keepIn K (.ref fa) = true ∧ Binds K fd ps []
/-- where a def stands -/
structure At (K : PySem.W.Frag) (mg : Str → Option Value) (x qual : Str) (st : Stmt) (ps : List Str) : Prop where
  ex : ∃ (fa : Addr) (fd : FuncData), Fun K x qual st fa fd ∧ mg x = some (.ref fa) ∧ Binds K fd ps []
theorem Cal.of {P : Program} {w : World} {K : PySem.W.Frag} {mg : Str → Option Value} {base : Heap} {cls : Nat → Addr} {k : Nat} {x qual : Str} {st : Stmt} {ps : List Str} {n : Nat} {F : Fn} (a : At K mg x qual st ps)
    (h : ∀ fa fd, Fun K x qual st fa fd → FnOk P w K mg base CX0 k fa fd ps (spF K cls n F)) : Cal P w K mg base cls k x n F := by
  obtain ⟨fa, fd, F1, e, b⟩ := a.ex
  exact ⟨fa, fd, ps, h fa fd F1, e, F1.kp, b⟩
section
variable {cls : Nat → Addr} {X : Cx} {a b c e : Expr} {f g h : Ev D} {p : Ev Bool} {pos : Pos} {es : List Expr}
theorem de_cal {x : Str} {pp : Pos} {g : Ev (List D)} {n : Nat} {F : Fn} {k : Nat} (G : Cal X.prog X.w X.K X.mg X.base cls k x n F) (hr : Room k X.A) (ha : DA cls X (e :: es) g) (hn : ∀ ds s s', g s = some (ds, s') → ds.length = n) (hg : Gl X x := by rfl) (hdb : (x == ("__debug__" : Str)) = false := by decide) (he : starEach (e :: es) X.env = (false, eval e X.env) :: starEach es X.env := by rfl)
    (hpl : (backTo pos (starEach es X.env)).any (·.1) = false := by rfl) : DE cls X (.Call (.Name x pp) (e :: es) [] pos) (eCall F g) := by
  obtain ⟨fa, fd, ps, h1, h2, h3, h4⟩ := G.ex
  exact de_call h1 hr hg h2 h3 h4 ha hn hdb he hpl
/-! ### not, as a value -/
theorem de_ix' (ha : DE cls X a f) (hb : DE cls X b g) (hs : PlainIx b := by intro _ _; rfl) : DE cls X (.Subscript a b pos) (eBin dIx f g) := de_ix ha hb hs
theorem de_ixL' (i : Nat) {x : Str} {pos' : Pos} (ha : PE X (.Name x pos') (tVar i)) (hb : DE cls X b g) (hs : PlainIx b := by intro _ _; rfl) : DE cls X (.Subscript (.Name x pos') b pos) (eBinL dIx i g) := de_ixL i ha hb hs
theorem de_dget' (hu : X.A.units + 1 < cLine) (ho : DE cls X a f) (hi : DE cls X b g) (hs : NoSl b := by intro _ _; rfl) : DE cls X (.Subscript a b pos) (eDGet f g) := de_dget hu ho hi hs
/-- x[k] of a list, tuple, text or dict -/
def eIxA (f g : Ev D) : Ev D := fun s => match eBin dIx f g s with
  | some r => some r
  | none => eDGet f g s
theorem de_ixA (hu : X.A.units + 1 < cLine) (ha : DE cls X a f) (hb : DE cls X b g) (hs : PlainIx b := by intro _ _; rfl) : DE cls X (.Subscript a b pos) (eIxA f g) := by
  refine imp (PE.or (de_ix (pos := pos) ha hb hs) (de_dget (pos := pos) hu ha hb hs)) fun σ H Q ⟨c, F, μ, s, hc, R, z, s', e, k⟩ => ?_
  unfold eIxA at e
  split at e
  · rename_i r hr
    cases e
    exact .inl ⟨c, F, μ, s, hc, R, z, s', hr, k⟩
  · exact .inr ⟨c, F, μ, s, hc, R, z, s', e, k⟩
theorem m2 {o : Expr} {m : Str} {apos : Pos} {e f : Expr} {cpos : Pos} (h1 : attributeBase o m X.env (eval o X.env) = eval o X.env := by rfl)
    (h2 : ((backTo cpos (starEach [e, f] X.env)).all (fun x => !x.1) && (backToKw cpos (keywordEach [] X.env)).all (fun x => x.1.isSome)
    && decide (([e, f] : List Expr).length + ([] : List Keyword).length + (if ([] : List Keyword).isEmpty then 0 else 1) < 30)) = true := by rfl)
    (h3 : (apos.endLine == cpos.line) = true := by rfl) (h4 : backTo cpos (starEach [e, f] X.env) = [(false, eval e X.env), (false, eval f X.env)] := by rfl) : M2 X o m apos e f cpos := ⟨h1, h2, h3, h4⟩
/-! ### constants of the module -/
structure Con (K : PySem.W.Frag) (mg : Str → Option Value) (x : Str) (d : D) : Prop where
  ex : ∃ (v : V) (u : Value), mg x = some u ∧ RelV v u ∧ ∀ F μ, Rep K F μ d v
theorem de_con {d : D} {x : Str} (c : Con X.K X.mg x d) (hg : Gl X x := by rfl) (hd : (x == ("__debug__" : Str)) = false := by decide) : DE cls X (.Name x pos) (ret d) := by
  obtain ⟨v, u, h1, h2, h3⟩ := c.ex
  exact de_glob hg h1 h2 h3 hd
theorem Con.int {K : PySem.W.Frag} {mg : Str → Option Value} {x : Str} {i : Int} {t : Tok} (h : mg x = some (.int i t)) : Con K mg x (.int i) := ⟨.int i, _, h, ⟨t, rfl⟩, fun _ _ => .int i⟩
theorem Con.str {K : PySem.W.Frag} {mg : Str → Option Value} {x : Str} {z : Str} {t : Tok} (s : List Nat) (h : mg x = some (.str z t)) (e : z = mkS s) : Con K mg x (.str s) := ⟨.str z, _, h, ⟨t, rfl⟩, fun _ _ => e ▸ .str s⟩
theorem Con.tup {K : PySem.W.Frag} {mg : Str → Option Value} {x : Str} {a : Addr} {od : Option Addr} {its : Array Value} {n : Nat} {sl : Array (Option Value)} {ds : List D} {vs : List V} (h : mg x = some (.ref a)) (l : K.lookup a = some ⟨.type "tuple", od, .seq its n, sl⟩)
    (hz : its.size ≤ sizeLine) (r : Vals vs its.toList) (q : ∀ F μ, Reps K F μ ds vs) : Con K mg x (.tup ds) := ⟨.ref a, _, h, rfl, fun F μ => .tup (.inr ⟨_, its, n, l, rfl, rfl, hz, r⟩) (q F μ)⟩
end
theorem Cal.zero {P : Program} {w : World} {K : PySem.W.Frag} {mg : Str → Option Value} {base : Heap} {cls : Nat → Addr} {k : Nat} {x qual : Str} {st : Stmt} {ps : List Str} {n : Nat} {F : Fn} (a : At K mg x qual st ps) (hp : ps.length = n) (h : ∀ ds S, F ds S = none := by intros; rfl) : Cal P w K mg base cls k x n F :=
  .of a fun fa fd _ => by
    refine ⟨fun vs H Q E q => ?_, fun A outer s H args us vs Q E _ _ _ _ q => ?_⟩
    · obtain ⟨_, _, S, ds, _, _, _, _, _, _, e, _⟩ := q
      rw [h] at e; cases e
    · obtain ⟨_, _, S, ds, _, _, _, _, _, _, e, _⟩ := q
      rw [h] at e; cases e
theorem r65 {k : Nat} {A : Around} (r : Room k A) : A.units + 65 < cLine := by have := r.un; omega
theorem r64 {k : Nat} {A : Around} (r : Room k A) : A.units + 64 < cLine := by have := r.un; omega
theorem r1 {k : Nat} {A : Around} (r : Room k A) : A.units + 1 < cLine := by have := r.un; omega
/-! ### the law itself -/
theorem law_sp {K : PySem.W.Frag} {cls : Nat → Addr} {F : Fn} (h : ∀ ns : List Int, ns.length ≤ 63 → ∃ S', F [.scr ns] [] = some (.bl true, S')) {H : Hp} {a : Addr} {ns : List Int} (hl : ns.length ≤ 63) (hS : SqL K H a (ns.map V.int)) :
    spF K cls 1 F [.ref a] H (fun v _ => v = .bl true) fun _ _ _ => False := by
  obtain ⟨S', e⟩ := h ns hl
  refine ⟨H, [], [], [.scr ns], .bl true, S', Same.refl H, ⟨rfl, List.nodup_nil, fun a h => (by cases h), fun k a o h => (by simp at h)⟩, .cons (.scr hS) .nil, rfl, e, fun v H' F' μ' _ r => ?_⟩
  cases r; rfl
end DL

set_option Elab.async false
set_option linter.all false
set_option maxRecDepth 100000
namespace DL
open PySem PySem.Spec PyProof.Rows L2

/-! ### {k: v, ..} -/
section
variable {cls : Nat → Addr} {X : Cx} {a b e : Expr} {f g : Ev D} {pos : Pos} {ks : List (Option Expr)} {es : List Expr}
def TDP (K : PySem.W.Frag) (cls : Nat → Addr) (f : Ev (List (DK × D))) (σ : L2.St) (H : Hp) (Q : List (V × V) → Hp → Prop) : Prop := ∃ c F μ s, c.cls = cls ∧ Rel K c F μ σ H s ∧ ∃ d s', f s = some (d, s') ∧
  ∀ vs H' F' μ', Rel K c F' μ' σ H' s' → Mono F μ F' μ' → RepKs K F' μ' d vs → Q (vs.map fun kv => (kV kv.1, kv.2)) H'
structure DD (cls : Nat → Addr) (X : Cx) (pos : Pos) (ks : List (Option Expr)) (es : List Expr) (f : Ev (List (DK × D))) : Prop where
  ex : ∃ trs, PPs X pos ks es trs ∧ ∀ σ H Q, TDP X.K cls f σ H Q → tPairs trs σ H Q
theorem dd_nil : DD cls X pos [] [] (ret []) := ⟨[], pps_nil, fun σ H Q ⟨c, F, μ, s, hc, R, d, s', e, k⟩ => by
  obtain ⟨w1, w2⟩ := ret_some e
  subst w1 w2
  exact k [] _ _ _ R (Mono.refl _ _) .nil⟩
def eDisp (f g : Ev D) (r : Ev (List (DK × D))) : Ev (List (DK × D)) := bnd f fun x => bnd (lft (asK x)) fun k => bnd g fun v => bnd r fun ps => ret ((k, v) :: ps)
theorem dd_cons {r : Ev (List (DK × D))} (hk : DE cls X a f) (hv : DE cls X b g) (hr : DD cls X pos ks es r) : DD cls X pos (some a :: ks) (b :: es) (eDisp f g r) := by
  obtain ⟨trs, h1, h2⟩ := hr.ex
  refine ⟨_, pps_cons hk hv h1, fun σ H Q ⟨c, F, μ, s, hc, R, d, s', e, k⟩ => ?_⟩
  obtain ⟨x, s1, e1, f1⟩ := bnd_some e
  obtain ⟨kk, s2, e2, f2⟩ := bnd_some f1
  obtain ⟨w1, w2⟩ := lft_some e2
  subst w2
  obtain ⟨v, s3, e3, f3⟩ := bnd_some f2
  obtain ⟨ps, s4, e4, f4⟩ := bnd_some f3
  obtain ⟨w3, w4⟩ := ret_some f4
  subst w3 w4
  refine ⟨c, F, μ, s, hc, R, x, _, e1, fun vx H1 F1 μ1 R1 m1 r1 => ⟨c, F1, μ1, _, hc, R1, v, _, e3, fun vv H2 F2 μ2 R2 m2 r2 => ?_⟩⟩
  refine h2 σ H2 _ ⟨c, F2, μ2, _, hc, R2, ps, _, e4, fun vs H3 F3 μ3 R3 m3 r3 => ?_⟩
  have := k ((mkK kk, vv) :: vs) H3 F3 μ3 R3 (m1.trans (m2.trans m3)) (.cons (r2.mono m3) r3)
  rw [List.map_cons] at this
  rw [asK_rep r1 w1]
  exact this
def mergeD (more : List (DK × D)) : List (DK × D) := more.foldl (fun acc kv => kPut acc kv.1 kv.2) []
theorem mergeD_rep {K : PySem.W.Frag} {F : Hp} {μ : List Addr} : ∀ {more : List (DK × D)} {vs : List (Key × V)} {acc : List (DK × D)} {va : List (Key × V)}, RepKs K F μ acc va → RepKs K F μ more vs →
    RepKs K F μ (more.foldl (fun acc kv => kPut acc kv.1 kv.2) acc) (mergeK va vs)
  | _, _, _, _, h, .nil => h
  | _, _, acc, va, h, @RepKs.cons _ _ _ j d v ds vs r rs => by
    have := mergeD_rep (acc := kPut acc j d) (va := putK va (mkK j) v) (kPut_rep r h) rs
    exact this
def eDp (f : Ev (List (DK × D))) : Ev (List (DK × D)) := bnd f fun ps => if ps.length ≤ 15 then ret (mergeD ps) else fun _ => none
theorem df_disp {r : Ev (List (DK × D))} (hd : DD cls X pos ks es r) (hall : ks.all (·.isSome) = true := by rfl) (hl : ks.length = es.length := by rfl) (h0 : ks ≠ [] := by exact List.cons_ne_nil _ _) (h15 : ks.length ≤ 15 := by decide) : DFK cls X (.Dict ks es pos) (eDp r) := by
  obtain ⟨trs, h1, h2⟩ := hd.ex
  refine imp (pe_disp h1 hall hl h0 h15) fun σ H Q ⟨c, F, μ, ρ, S, hc, R, z, ρ', S', e, k⟩ => ?_
  obtain ⟨ps, s1, e1, f1⟩ := bnd_some e
  split at f1
  · rename_i hlen
    obtain ⟨w1, w2⟩ := ret_some f1
    subst w1
    subst w2
    intro p hp
    refine h2 σ _ _ ⟨{ c with P := upd c.P p (.dK []) }, F, μ, (ρ, S), hc, R.hold hp, ps, (ρ', S'), e1, fun vs H1 F1 μ1 R1 m1 r1 => ?_⟩
    have hPr := R1.prot p _ upd_same
    refine ⟨hPr.1, vs, rfl, by have := r1.length; omega, ?_⟩
    have R2 := R1.holdW (o' := .dK (mergeK [] vs))
    exact k _ _ _ _ (R2.unhold (R.pnone hp) (.inr ⟨_, _, rfl, rfl, mergeD_rep .nil r1⟩)) m1
  · cases f1
/-- d[k] of an own dict -/
def eDGetL (i : Nat) (g : Ev D) : Ev D := fun s0 => match ownKOf s0 i with
  | none => none
  | some _ => (bnd g fun y => fun s => match ownKOf s i, asK y with
    | some kvs, some k => (kGet kvs k).map fun d => (d, s)
    | _, _ => none) s0
theorem de_dgetL (i : Nat) {x : Str} {pos' : Pos} (hu : X.A.units + 1 < cLine) (ho : PE X (.Name x pos') (tVar i)) (hi : DE cls X b g) (hs : NoSl b := by intro _ _; rfl) : DE cls X (.Subscript (.Name x pos') b pos) (eDGetL i g) := by
  refine imp (pe_dget hu ho hi hs) fun σ H Q ⟨c, F, μ, s, hc, R, z, s', e, k⟩ => ?_
  unfold eDGetL at e
  split at e
  · cases e
  rename_i kvs0 h0
  obtain ⟨y, s2, e2, f2⟩ := bnd_some e
  split at f2
  · rename_i kvs kk h1 h2
    rw [Option.map_eq_some_iff] at f2
    obtain ⟨d, e3, w⟩ := f2
    cases w
    obtain ⟨a0, vs0, es0, ha0, q0⟩ := ownKOf_rep R h0
    refine ⟨_, es0, c, F, μ, s, hc, R, y, s', e2, fun u H2 F2 μ2 R2 m2 r2 => ?_⟩
    obtain ⟨a, vs, es, ha, q⟩ := ownKOf_rep R2 h1
    rw [es0] at es; cases es
    obtain ⟨w, hw, rw'⟩ := (kGet_rep kk q).1 _ e3
    exact ⟨a0, w, rfl, .inl ⟨vs, mkK kk, .inl ha, asK_rep r2 h2, hw.symm⟩, k _ _ _ _ R2 m2 rw'⟩
  · cases f2
end
/-! ### a def, made -/
theorem fn_mk' {P : Program} {w : World} {K : PySem.W.Frag} {mg : Str → Option Value} {base : Heap} {cls : Nat → Addr} {x qual : Str} {st : Stmt} {N ps : List Str} {fa : Addr} {fd : FuncData} (m : Nat) {n k k' : Nat} {F : Fn} (u : Es) (a : Fun K x qual st fa fd) (S : FnScope N ps (defScope st)) (hk : k' = k + 1) (hn : ps.length = n) (hm : N.length = m) (hF : F = runF m u)
    (hbody : ∀ (f : Addr) (cdv : Value) (A : Around) (outer : List Env) (s : Shared) (H : Hp) (E : XK), Room k (A.deeper (envOfC qual (defScope st) s.heap.objs.size f cdv)) →
      DSs cls (cxOf CX0 P w K mg base N qual (defScope st) f cdv A outer s H E).nox (defBody st) u) : FnOk P w K mg base CX0 k' fa fd ps (spF K cls n F) := by
  subst hk hn hm hF
  exact fn_ok a S fun cdv A outer s H E hr => hbody fa cdv A outer s H E hr
theorem Cal.mk' {P : Program} {w : World} {K : PySem.W.Frag} {mg : Str → Option Value} {base : Heap} {cls : Nat → Addr} {x qual : Str} {st : Stmt} {N ps : List Str} (m : Nat) {n k k' : Nat} {F : Fn} (u : Es) (a : At K mg x qual st ps) (S : FnScope N ps (defScope st)) (hk : k' = k + 1) (hn : ps.length = n) (hm : N.length = m) (hF : F = runF m u)
    (hbody : ∀ (f : Addr) (cdv : Value) (A : Around) (outer : List Env) (s : Shared) (H : Hp) (E : XK), Room k (A.deeper (envOfC qual (defScope st) s.heap.objs.size f cdv)) →
      DSs cls (cxOf CX0 P w K mg base N qual (defScope st) f cdv A outer s H E).nox (defBody st) u) : Cal P w K mg base cls k' x n F :=
  Cal.of a fun fa fd F => fn_mk' m u F S hk hn hm hF hbody
theorem at_mk {K : PySem.W.Frag} {h : Heap} {mg : Str → Option Value} {x qual : Str} {st : Stmt} {ps : List Str} {f : Addr} {oc : Value} {od an : Option Addr} {osl : Array (Option Value)} {kV doc pm cdv ct : Value} (X : K.In h) (G : h.Ns mainGlobals mg)
    (hb : ∀ (kV doc pm : Value) (an : Option Addr) (cdv ct : Value) (us : List Value), us.length = ps.length → bindArgs (PySem.W.fnOf x qual (defArgs st) (defBody st) (defScope st) .none kV doc pm an cdv ct) ⟨us, []⟩ = pure (ps.zip us))
    (a : PySem.W.nsIn K mainGlobals x = some (some (.ref f))) (l : K.lookup f = some ⟨oc, od, .func (PySem.W.fnOf x qual (defArgs st) (defBody st) (defScope st) .none kV doc pm an cdv ct), osl⟩) (c : PySem.W.codeIn K cdv qual = true) (k : PySem.W.keepIn K (.ref f) = true) : At K mg x qual st ps :=
  ⟨f, _, fun_mk l c k, PySem.W.mg_of X G a, (fun_mk l c k).binds hb⟩
theorem Con.tup2 {K : PySem.W.Frag} {mg : Str → Option Value} {x : Str} {a : Addr} {od : Option Addr} {n : Nat} {sl : Array (Option Value)} {i j : Int} {t u : Tok} (h : mg x = some (.ref a)) (l : K.lookup a = some ⟨.type "tuple", od, .seq #[.int i t, .int j u] n, sl⟩) : Con K mg x (.tup [.int i, .int j]) :=
  .tup (vs := [.int i, .int j]) h l (by rw [sizeLine_eq]; exact Nat.le_of_ble_eq_true rfl) (.cons ⟨t, rfl⟩ (.cons ⟨u, rfl⟩ .nil)) fun _ _ => .cons (.int i) (.cons (.int j) .nil)
theorem walk_mk {l : PySem.W.OpenLaw} {q : Program} {loose : List Str} {XP : (Str → Option Value) → Heap → Prop} {YP : World → Heap → Prop} {d : DefRec} {K : Params → PySem.W.Frag} {F : Fn} (k : Nat) {st : Stmt} (hk : Room k callerA) (hn : l.most = some 63) (hdf : d.params.defaults = [])
    (hY : ∀ (w : World) (h : Heap), YP w h → (K w.params).In h) (hnm : d.name = "law")
    (hlaw : ∀ ns : List Int, ns.length ≤ 63 → ∃ S', F [.scr ns] [] = some (.bl true, S'))
    (hb : ∀ (K : PySem.W.Frag) (f : Addr) (fd : FuncData), Fun K "law" "law" st f fd → ∀ (s : Shared) (u : Value), BindsTo s fd ⟨[u], []⟩ [("script", u)])
    (G : ∀ (w : World) (mg : Str → Option Value) (h : Heap), (K w.params).In h → h.Ns mainGlobals mg → At (K w.params) mg "law" "law" st ["script"] ∧ ∀ (f : Addr) (fd : FuncData), Fun (K w.params) "law" "law" st f fd → ∀ base : Heap, FnOk l.prog w (K w.params) mg base CX0 k f fd ["script"] (spF (K w.params) (fun _ => 0) 1 F)) :
    PySem.W.WalkO q loose XP YP l.row.toRowW d [] (fun f vs => PySem.call f vs) := by
  refine L2.walk_of (n := 63) (k := k) (x := "script") (CX := fun _ => CX0) (sp := fun w => spF (K w.params) (fun _ => 0) 1 F) hn (by decide) hdf hk hY (fun w mg fa h KX GX e => ?_) (fun w H a ns hl _ hS => law_sp hlaw hl hS) fun _ _ _ _ _ z => z
  obtain ⟨a, g⟩ := G w mg h KX GX
  obtain ⟨f, fd, F1, e1, b⟩ := a.ex
  rw [hnm, e1] at e
  cases e
  exact ⟨fd, hb _ _ _ F1, fun base _ _ => g _ fd F1 base⟩
end DL

set_option Elab.async false
set_option linter.all false
set_option maxRecDepth 100000
namespace DL
open PySem PySem.Spec PyProof.Rows L2

/-! ### evaluators, step by step -/
section
variable {α β : Type} {s s1 s2 s3 s' : Sto} {ρ ρ' : List Sl} {S S' : List O} {d x y z : D} {f g h : Ev D} {p q : Ev Bool} {u v : Es} {i j : Nat} {k b : Bool} {op : D → D → Option D} {o : Option Out}
theorem v_bnd {f : Ev α} {g : α → Ev β} {a : α} {r : β × Sto} (h1 : f s = some (a, s1)) (h2 : g a s1 = some r) : bnd f g s = some r := by
  unfold bnd; rw [h1]; exact h2
theorem v_lft {a : Option α} {r : α} (h : a = some r) : lft a s = some (r, s) := by rw [h]; rfl
theorem v_bin (h1 : f s = some (x, s1)) (h2 : g s1 = some (y, s2)) (h3 : op x y = some z) : eBin op f g s = some (z, s2) := v_bnd h1 (v_bnd h2 (v_lft h3))
theorem v_binL (h0 : eRd i s = some (d, s)) (h2 : g s = some (y, s2)) (h1 : eRd i s2 = some (x, s2)) (h3 : op x y = some z) : eBinL op i g s = some (z, s2) := v_bnd h0 (v_bnd h2 (v_bnd h1 (v_lft h3)))
theorem v_binR (h1 : f s = some (x, s1)) (h2 : eRd i s1 = some (y, s1)) (h3 : op x y = some z) : eBinR op f i s = some (z, s1) := v_bnd h1 (v_bnd h2 (v_lft h3))
theorem v_un {op : D → Option D} (h1 : f s = some (x, s1)) (h3 : op x = some z) : eUn op f s = some (z, s1) := v_bnd h1 (v_lft h3)
theorem v_ret {a : α} : ret a s = some (a, s) := rfl
theorem v_var (h : s.1[i]? = some (.val d)) : eVar i s = some (d, s) := by unfold eVar; rw [h]
theorem v_outV (h : s.1[i]? = some (.val d)) : eOut i s = some (d, s) := by unfold eOut; rw [h]
theorem v_outO {ds : List D} (h : s.1[i]? = some (.own ds)) : eOut i s = some (.lst ds, (s.1.set i (.val (.lst ds)), s.2)) := by unfold eOut; rw [h]
theorem v_outK {ds : List (DK × D)} (h : s.1[i]? = some (.ownK ds)) : eOut i s = some (.dct ds, (s.1.set i (.val (.dct ds)), s.2)) := by unfold eOut; rw [h]
theorem v_rdV (h : s.1[i]? = some (.val d)) : eRd i s = some (d, s) := by unfold eRd; rw [h]
theorem v_rdO {ds : List D} (h : s.1[i]? = some (.own ds)) : eRd i s = some (.lst ds, s) := by unfold eRd; rw [h]
theorem v_nil : eNil s = some ([], s) := rfl
theorem v_cons {g : Ev (List D)} {xs : List D} (h1 : f s = some (x, s1)) (h2 : g s1 = some (xs, s2)) : eCons f g s = some (x :: xs, s2) := v_bnd h1 (v_bnd h2 rfl)
theorem v_few {n : Nat} {a : α} (h : n ≤ LIM) : few n a = some a := if_pos h
theorem v_tup {g : Ev (List D)} {xs : List D} (h1 : g s = some (xs, s1)) (h2 : xs.length ≤ LIM) : eTup g s = some (.tup xs, s1) := v_bnd h1 (v_lft (v_few h2))
theorem v_lst {g : Ev (List D)} {xs : List D} (h1 : g s = some (xs, s1)) (h2 : xs.length ≤ LIM) : eLst g s = some (xs, s1) := v_bnd h1 (v_lft (v_few h2))
theorem v_fz {g : Ev (List D)} {xs : List D} (h1 : g s = some (xs, s1)) : eFz g s = some (.lst xs, s1) := v_bnd h1 rfl
theorem v_call {F : Fn} {g : Ev (List D)} {xs : List D} (h1 : g s = some (xs, (ρ, S))) (h2 : F xs S = some (z, S')) : eCall F g s = some (z, (ρ, S')) := by
  unfold eCall; rw [h1]; show (match F xs S with | some (r, S') => some (r, (ρ, S')) | none => none) = _; rw [h2]
theorem v_cl {op : List D → Option D} {g : Ev (List D)} {xs : List D} (h1 : g s = some (xs, s1)) (h2 : op xs = some z) : eCl op g s = some (z, s1) := v_bnd h1 (v_lft h2)
theorem v_cl1 {op : List D → Option D} (h1 : eRd i s = some (x, s)) (h2 : op [x] = some z) : eCl1 op i s = some (z, s) := v_bnd h1 (v_lft h2)
theorem v_B (h1 : f s = some (.bl k, s1)) : eB f s = some (k, s1) := v_bnd h1 rfl
theorem v_Tr (h1 : f s = some (x, s1)) (h2 : truD x = some k) : eTr f s = some (k, s1) := v_bnd h1 (v_lft h2)
theorem v_TrL (h1 : eRd i s = some (x, s)) (h2 : truD x = some k) : eTrL i s = some (k, s) := v_bnd h1 (v_lft h2)
theorem v_notT (h1 : p s = some (k, s1)) : eNotT p s = some (!k, s1) := v_bnd h1 rfl
theorem v_nF (h1 : p s = some (true, s1)) : eNotT p s = some (false, s1) := v_bnd h1 rfl
theorem v_nT (h1 : p s = some (false, s1)) : eNotT p s = some (true, s1) := v_bnd h1 rfl
theorem v_not (h1 : f s = some (.bl k, s1)) : eNot f s = some (.bl (!k), s1) := v_bnd h1 rfl
theorem v_ifT (h1 : p s = some (true, s1)) (h2 : f s1 = some (x, s2)) : eIf p f g s = some (x, s2) := v_bnd h1 h2
theorem v_ifF (h1 : p s = some (false, s1)) (h2 : g s1 = some (x, s2)) : eIf p f g s = some (x, s2) := v_bnd h1 h2
/-- both values are asked: the right one where the left is as said -/
theorem v_andT (h1 : p s = some (true, s1)) (h2 : q s1 = some (k, s2)) : eAndT p q s = some (k, s2) := v_bnd h1 h2
theorem v_andTF (h1 : p s = some (false, s1)) : eAndT p q s = some (false, s1) := v_bnd h1 rfl
theorem v_orT (h1 : p s = some (false, s1)) (h2 : q s1 = some (k, s2)) : eOrT p q s = some (k, s2) := v_bnd h1 h2
theorem v_orTT (h1 : p s = some (true, s1)) : eOrT p q s = some (true, s1) := v_bnd h1 rfl
theorem v_and (h1 : f s = some (.bl true, s1)) (h2 : g s1 = some (x, s2)) : eAnd f g s = some (x, s2) := v_bnd h1 h2
theorem v_andF (h1 : f s = some (.bl false, s1)) : eAnd f g s = some (.bl false, s1) := v_bnd h1 rfl
theorem v_or (h1 : f s = some (.bl false, s1)) (h2 : g s1 = some (x, s2)) : eOr f g s = some (x, s2) := v_bnd h1 h2
theorem v_orF (h1 : f s = some (.bl true, s1)) : eOr f g s = some (.bl true, s1) := v_bnd h1 rfl
/-- where nothing changes the store, both sides are told at once -/
theorem v_andB {b : Bool} (h1 : p s = some (k, s)) (h2 : k = true → q s = some (b, s)) : eAndT p q s = some (k && b, s) := by
  cases k
  · exact v_andTF h1
  · exact v_andT h1 (h2 rfl)
theorem v_orB {b : Bool} (h1 : p s = some (k, s)) (h2 : k = false → q s = some (b, s)) : eOrT p q s = some (k || b, s) := by
  cases k
  · exact v_orT h1 (h2 rfl)
  · exact v_orTT h1
theorem v_ifB {c e : D} (h1 : p s = some (k, s1)) (h2 : k = true → f s1 = some (c, s2)) (h3 : k = false → g s1 = some (e, s2)) : eIf p f g s = some (if k = true then c else e, s2) := by
  cases k
  · exact v_ifF h1 (h3 rfl)
  · exact v_ifT h1 (h2 rfl)
theorem v_chain {o o' : D → D → Option D} (h1 : f s = some (x, s1)) (h2 : g s1 = some (y, s2)) (h3 : o x y = some (.bl true)) {w r : D} (h4 : h s2 = some (w, s3)) (h5 : o' y w = some r) : eChain o o' f g h s = some (r, s3) :=
  v_bnd h1 (v_bnd h2 (v_bnd (v_lft h3) (v_bnd (v_lft (a := asB (.bl true)) rfl) (v_bnd h4 (v_lft h5)))))
theorem v_chainF {o o' : D → D → Option D} (h1 : f s = some (x, s1)) (h2 : g s1 = some (y, s2)) (h3 : o x y = some (.bl false)) : eChain o o' f g h s = some (.bl false, s2) :=
  v_bnd h1 (v_bnd h2 (v_bnd (v_lft h3) (v_bnd (v_lft (a := asB (.bl false)) rfl) rfl)))
theorem v_items {xs : List D} (h1 : f s = some (x, s1)) (h2 : items x = some xs) : eItems f s = some (xs, s1) := v_bnd h1 (v_lft h2)
theorem v_range {op : List D → Option (List D)} {g : Ev (List D)} {xs ys : List D} (h1 : g s = some (xs, s1)) (h2 : op xs = some ys) : eRange op g s = some (ys, s1) := v_bnd h1 (v_lft h2)
theorem v_arg {op : List D → Option (List D)} {g : Ev (List D)} {xs ys : List D} (h1 : g s = some (xs, s1)) (h2 : op xs = some ys) : eArg op g s = some (ys, s1) := v_bnd h1 (v_lft h2)
theorem v_part {i : Int} (h1 : f s = some (.int i, s1)) : ePart f s = some (some i, s1) := v_bnd h1 rfl
theorem v_sl {l m : Ev (Option Int)} {lo hi : Option Int} (h1 : f s = some (x, s1)) (h2 : l s1 = some (lo, s2)) (h3 : m s2 = some (hi, s3)) (h4 : dSl x lo hi = some z) : eSl f l m s = some (z, s3) := v_bnd h1 (v_bnd h2 (v_bnd h3 (v_lft h4)))
theorem v_dget {kvs : List (DK × D)} {kk : DK} (h1 : f s = some (x, s1)) (h2 : g s1 = some (y, s2)) (h3 : dctOf s2.2 x = some kvs) (h4 : asK y = some kk) (h5 : kGet kvs kk = some z) : eDGet f g s = some (z, s2) := by
  refine v_bnd h1 (v_bnd h2 ?_)
  rw [h3, h4]; show (kGet kvs kk).map _ = _; rw [h5]; rfl
theorem v_dget2 {kvs0 kvs : List (DK × D)} {kk : DK} (h1 : f s = some (x, s1)) (h0 : dctOf s1.2 x = some kvs0) (h2 : g s1 = some (y, s2)) (h6 : h s2 = some (z, s3)) (h3 : dctOf s3.2 x = some kvs) (h4 : asK y = some kk) : eDGet2 f g h s = some ((kGet kvs kk).getD z, s3) := by
  refine v_bnd h1 ?_
  rw [h0]
  refine v_bnd h2 (v_bnd h6 ?_)
  rw [h3, h4]
theorem v_dget2L {kvs0 kvs : List (DK × D)} {kk : DK} (h0 : ownKOf s i = some kvs0) (h2 : g s = some (y, s2)) (h6 : h s2 = some (z, s3)) (h3 : ownKOf s3 i = some kvs) (h4 : asK y = some kk) : eDGet2L i g h s = some ((kGet kvs kk).getD z, s3) := by
  unfold eDGet2L
  rw [h0]
  refine v_bnd h2 (v_bnd h6 ?_)
  rw [h3, h4]
/-! statements -/
theorem v_seq (h1 : u s = some (.nx s1)) (h2 : v s1 = o) : sSeq u v s = o := by unfold sSeq; rw [h1]; exact h2
theorem v_seqR (h1 : u s = some (.rt d s1)) : sSeq u v s = some (.rt d s1) := by unfold sSeq; rw [h1]
theorem v_seqB (h1 : u s = some (.bk s1)) : sSeq u v s = some (.bk s1) := by unfold sSeq; rw [h1]
theorem v_sNil : sNil s = some (.nx s) := rfl
theorem v_set (h1 : f s = some (d, (ρ, S))) : sSet i f s = some (.nx (ρ.set i (.val d), S)) := by unfold sSet; rw [h1]
theorem v_own {f : Ev (List D)} {ds : List D} (h1 : f s = some (ds, (ρ, S))) : sOwn i f s = some (.nx (ρ.set i (.own ds), S)) := by unfold sOwn; rw [h1]
theorem v_ownK {f : Ev (List (DK × D))} {ds : List (DK × D)} (h1 : f s = some (ds, (ρ, S))) : sOwnK i f s = some (.nx (ρ.set i (.ownK ds), S)) := by unfold sOwnK; rw [h1]
theorem v_asg {t : D → Sto → Option Sto} (h1 : f s = some (d, s1)) (h2 : t d s1 = some s2) : sAsg t f s = some (.nx s2) := by unfold sAsg; rw [h1]; show (t d s1).map _ = _; rw [h2]; rfl
theorem v_asg2 {a b : D} (h1 : f s = some (.tup [a, b], (ρ, S))) : sAsg (tTp (tCs (tNm i) (tCs (tNm j) tNl))) f s = some (.nx ((ρ.set i (.val a)).set j (.val b), S)) := v_asg h1 rfl
theorem v_asg3 {l : Nat} {a b c : D} (h1 : f s = some (.tup [a, b, c], (ρ, S))) : sAsg (tTp (tCs (tNm i) (tCs (tNm j) (tCs (tNm l) tNl)))) f s = some (.nx (((ρ.set i (.val a)).set j (.val b)).set l (.val c), S)) := v_asg h1 rfl
theorem v_par {g : Ev (List D)} {a b : D} (h1 : g s = some ([a, b], (ρ, S))) : sPar i j g s = some (.nx ((ρ.set i (.val a)).set j (.val b), S)) := by unfold sPar; rw [h1]
theorem v_aug (h0 : s.1[i]? = some (.val x)) (h1 : f s = some (y, (ρ, S))) (h2 : op x y = some z) : sAug i op f s = some (.nx (ρ.set i (.val z), S)) := by
  unfold sAug; rw [h0]; show (match f s with | some (y, s') => _ | none => _) = _; rw [h1]; show (op x y).map _ = _; rw [h2]; rfl
theorem v_expr (h1 : f s = some (d, s1)) : sExpr f s = some (.nx s1) := by unfold sExpr; rw [h1]
theorem v_rt (h1 : f s = some (d, s1)) : sRet f s = some (.rt d s1) := by unfold sRet; rw [h1]
theorem v_sIfT (h1 : p s = some (true, s1)) (h2 : u s1 = o) : sIf p u v s = o := by unfold sIf; rw [h1]; exact h2
theorem v_sIfF (h1 : p s = some (false, s1)) (h2 : v s1 = o) : sIf p u v s = o := by unfold sIf; rw [h1]; exact h2
theorem v_for {f : Ev (List D)} {t : D → Sto → Option Sto} {xs : List D} (h1 : f s = some (xs, s1)) (h2 : forL t u xs s1 = o) : sFor f t u s = o := by unfold sFor; rw [h1]; exact h2
theorem v_run {N : Nat} {ds : List D} (h1 : u (ds.map .val ++ List.replicate (N - ds.length) .un, S) = some (.rt d (ρ, S'))) : runF N u ds S = some (d, S') := by unfold runF; rw [h1]
theorem v_runN {N : Nat} {ds : List D} (h1 : u (ds.map .val ++ List.replicate (N - ds.length) .un, S) = some (.nx (ρ, S'))) : runF N u ds S = some (.non, S') := by unfold runF; rw [h1]
theorem v_dputL {kvs0 kvs : List (DK × D)} {kk : DK} (h1 : h s = some (z, s1)) (h0 : ownKOf s1 i = some kvs0) (h2 : g s1 = some (y, s2)) (h3 : ownKOf s2 i = some kvs) (h4 : asK y = some kk) (h5 : kvs.length < LIM) : sDPutL i g h s = some (.nx (s2.1.set i (.ownK (kPut kvs kk z)), s2.2)) := by
  unfold sDPutL
  rw [h1]
  show (match ownKOf s1 i with | none => none | some _ => _) = _
  rw [h0]
  show (match g s1 with | some (y, s3) => _ | none => _) = _
  rw [h2]
  show (match ownKOf s2 i, asK y with | some kvs, some k => _ | _, _ => none) = _
  rw [h3, h4]
  exact if_pos h5
theorem v_dputO {kvs : List (DK × D)} {kk : DK} {n : Nat} (h1 : h s = some (z, s1)) (h2 : f s1 = some (.ptr n, s2)) (h3 : g s2 = some (y, s3)) (h4 : s3.2[n]? = some (.dct kvs)) (h5 : asK y = some kk) (h6 : kvs.length < LIM) : sDPutO f g h s = some (.nx (s3.1, s3.2.set n (.dct (kPut kvs kk z)))) := by
  unfold sDPutO
  rw [h1]
  show (match f s1 with | some (.ptr n, s2) => _ | _ => none) = _
  rw [h2]
  show (match g s2 with | some (y, s3) => _ | none => none) = _
  rw [h3]
  show (match s3.2[n]?, asK y with | some (.dct kvs), some k => _ | _, _ => none) = _
  rw [h4, h5]
  exact if_pos h6
theorem v_newO {g : Ev (List (DK × D))} {ds : List (DK × D)} (h1 : g s = some (ds, (ρ, S))) : eNewO g s = some (.ptr S.length, (ρ, S ++ [.dct ds])) := by
  unfold eNewO; rw [h1]
theorem v_disp {r : Ev (List (DK × D))} {kk : DK} {ps : List (DK × D)} (h1 : f s = some (x, s1)) (h2 : asK x = some kk) (h3 : g s1 = some (y, s2)) (h4 : r s2 = some (ps, s3)) : eDisp f g r s = some ((kk, y) :: ps, s3) := v_bnd h1 (v_bnd (v_lft h2) (v_bnd h3 (v_bnd h4 rfl)))
theorem v_dp {r : Ev (List (DK × D))} {ps : List (DK × D)} (h1 : r s = some (ps, s1)) (h2 : ps.length ≤ 15) : eDp r s = some (mergeD ps, s1) := by
  refine v_bnd h1 ?_
  rw [if_pos h2]; rfl
theorem v_mtL {op : List D → D → Option (D × List D)} {ds0 ds ds' : List D} (h0 : ownOf s i = some ds0) (h1 : f s = some (y, s1)) (h2 : ownOf s1 i = some ds) (h3 : op ds y = some (z, ds')) : eMtL i op f s = some (z, setOwn s1 i ds') := by
  unfold eMtL
  rw [h0]
  show (match f s with | none => none | some (y, s) => _) = _
  rw [h1]
  show (match ownOf s1 i with | none => none | some ds => _) = _
  rw [h2]
  show (match op ds y with | none => none | some (z, ds') => _) = _
  rw [h3]
/-! loops -/
theorem v_for_cons {t : D → Sto → Option Sto} {xs : List D} (h1 : t x s = some s1) (h2 : u s1 = some (.nx s2)) (h3 : forL t u xs s2 = o) : forL t u (x :: xs) s = o := by
  unfold forL
  rw [h1]
  show (match u s1 with | some (.nx s2) => forL t u xs s2 | some (.ct s2) => forL t u xs s2 | some (.bk s2) => some (.nx s2) | some (.rt r s2) => some (.rt r s2) | none => none) = _
  rw [h2]; exact h3
/-- a loop that keeps going: the items bring the store from state to state -/
theorem v_forL {t : D → Sto → Option Sto} {γ : Type} (st : γ → Sto) (nxt : γ → D → γ) : ∀ (xs : List D) (c : γ), (∀ pre x post, xs = pre ++ x :: post → ∃ s1, t x (st (pre.foldl nxt c)) = some s1 ∧ u s1 = some (.nx (st (nxt (pre.foldl nxt c) x)))) → forL t u xs (st c) = some (.nx (st (xs.foldl nxt c)))
  | [], c, _ => rfl
  | x :: xs, c, h => by
    obtain ⟨s1, e1, e2⟩ := h [] x xs rfl
    rw [List.foldl_nil] at e1 e2
    have ih := v_forL st nxt xs (nxt c x) fun pre y post e => h (x :: pre) y post (by rw [e]; rfl)
    unfold forL
    rw [e1]
    show (match u s1 with | some (.nx s2) => forL t u xs s2 | some (.ct s2) => forL t u xs s2 | some (.bk s2) => some (.nx s2) | some (.rt r s2) => some (.rt r s2) | none => none) = _
    rw [e2]
    exact ih
/-- a loop with a statement of what holds after each item -/
theorem v_forI {t : D → Sto → Option Sto} (I : List D → Sto → Prop) : ∀ (xs pre : List D) (s : Sto), I pre s → (∀ p x q s, pre ++ xs = p ++ x :: q → I p s → ∃ s1 s2, t x s = some s1 ∧ u s1 = some (.nx s2) ∧ I (p ++ [x]) s2) → ∃ s2, forL t u xs s = some (.nx s2) ∧ I (pre ++ xs) s2
  | [], pre, s, h0, _ => ⟨s, rfl, by rw [List.append_nil]; exact h0⟩
  | x :: xs, pre, s, h0, h => by
    obtain ⟨s1, s2, e1, e2, h2⟩ := h pre x xs s rfl h0
    obtain ⟨s3, e3, h3⟩ := v_forI I xs (pre ++ [x]) s2 h2 fun p y q s e hp => h p y q s (by rw [← e]; simp) hp
    refine ⟨s3, ?_, by simpa using h3⟩
    unfold forL
    rw [e1]
    show (match u s1 with | some (.nx s2) => forL t u xs s2 | some (.ct s2) => forL t u xs s2 | some (.bk s2) => some (.nx s2) | some (.rt r s2) => some (.rt r s2) | none => none) = _
    rw [e2]
    exact e3
theorem v_while_step {n : Nat} (h1 : p s = some (true, s1)) (h2 : u s1 = some (.nx s2)) (h3 : whileF p u n s2 = o) : whileF p u (n + 1) s = o := by
  unfold whileF; rw [h1]
  show (match u s1 with | some (.nx s2) => whileF p u n s2 | some (.ct s2) => whileF p u n s2 | some (.bk s2) => some (.nx s2) | some (.rt d s2) => some (.rt d s2) | none => none) = _
  rw [h2]; exact h3
theorem v_while_end {n : Nat} (h1 : p s = some (false, s1)) : whileF p u (n + 1) s = some (.nx s1) := by unfold whileF; rw [h1]
/-- the turns of a while are counted down by a measure -/
theorem v_while {γ : Type} (st : γ → Sto) (I : γ → Prop) (m : γ → Nat) (R : γ → γ → Prop) (hr : ∀ c, R c c) (ht : ∀ a b c, R a b → R b c → R a c)
    (h : ∀ c, I c → (p (st c) = some (false, st c)) ∨ ∃ c', p (st c) = some (true, st c) ∧ u (st c) = some (.nx (st c')) ∧ I c' ∧ m c' < m c ∧ R c c') : ∀ (n : Nat) (c : γ), I c → m c < n → ∃ c', whileF p u n (st c) = some (.nx (st c')) ∧ I c' ∧ p (st c') = some (false, st c') ∧ R c c'
  | 0, c, _, hm => absurd hm (Nat.not_lt_zero _)
  | n + 1, c, hi, hm => by
    rcases h c hi with h1 | ⟨c', h1, h2, h3, h4, h5⟩
    · exact ⟨c, v_while_end h1, hi, h1, hr c⟩
    · obtain ⟨c2, e, e2, e3, e4⟩ := v_while st I m R hr ht h n c' h3 (by omega)
      exact ⟨c2, v_while_step h1 h2 e, e2, e3, ht _ _ _ h5 e4⟩
/-! comprehensions -/
theorem wipeS_gt : ∀ (vs : List Nat) (ρ : List Sl) (i : Nat), (wipeS ρ vs)[i]? = if i ∈ vs ∧ i < ρ.length then some .un else ρ[i]?
  | [], ρ, i => by simp [wipeS]
  | v :: vs, ρ, i => by
    have ih := wipeS_gt vs ρ i
    have hl : (wipeS ρ vs).length = ρ.length := by
      clear ih
      induction vs with
      | nil => rfl
      | cons a t ih => show ((wipeS ρ t).set a .un).length = _; rw [List.length_set, ih]
    show ((wipeS ρ vs).set v .un)[i]? = _
    rw [List.getElem?_set]
    by_cases e : v = i
    · subst e
      simp only [if_true, List.mem_cons, true_or, true_and, hl]
      split
      · rfl
      · rename_i h
        rw [List.getElem?_eq_none (by omega)]
    · rw [if_neg e, ih]
      have : (i ∈ v :: vs) ↔ i ∈ vs := by simp [Ne.symm e]
      simp only [this]
theorem wipe_len : ∀ (vs : List Nat) (ρ : List Sl), (wipeS ρ vs).length = ρ.length
  | [], _ => rfl
  | v :: vs, ρ => by show ((wipeS ρ vs).set v .un).length = _; rw [List.length_set, wipe_len vs ρ]
theorem rest_len (ρ0 : List Sl) : ∀ (vs : List Nat) (ρ : List Sl), (restS ρ0 ρ vs).length = ρ.length
  | [], _ => rfl
  | v :: vs, ρ => by show ((restS ρ0 ρ vs).set v _).length = _; rw [List.length_set, rest_len ρ0 vs ρ]
theorem rest_get (ρ0 : List Sl) : ∀ (vs : List Nat) (ρ : List Sl) (i : Nat), (restS ρ0 ρ vs)[i]? = if i ∈ vs ∧ i < ρ.length then some (ρ0[i]?.getD .un) else ρ[i]?
  | [], ρ, i => by simp [restS]
  | v :: vs, ρ, i => by
    have ih := rest_get ρ0 vs ρ i
    have hl := rest_len ρ0 vs ρ
    show ((restS ρ0 ρ vs).set v (ρ0[v]?.getD .un))[i]? = _
    rw [List.getElem?_set]
    by_cases e : v = i
    · subst e
      simp only [if_true, List.mem_cons, true_or, true_and, hl]
      split
      · rfl
      · rename_i h
        rw [List.getElem?_eq_none (by omega)]
    · rw [if_neg e, ih]
      have : (i ∈ v :: vs) ↔ i ∈ vs := by simp [Ne.symm e]
      simp only [this]
theorem rest_wipe {vs : List Nat} (h : wipeS ρ' vs = wipeS ρ vs) : restS ρ ρ' vs = ρ := by
  have hl : ρ'.length = ρ.length := by rw [← wipe_len vs ρ', h, wipe_len]
  apply List.ext_getElem?
  intro i
  rw [rest_get]
  have e := congrArg (fun l => l[i]?) h
  simp only [wipeS_gt] at e
  by_cases hi : i ∈ vs ∧ i < ρ'.length
  · rw [if_pos hi]
    have : i < ρ.length := by omega
    rw [List.getElem?_eq_getElem this]; rfl
  · rw [if_neg hi] at e ⊢
    rw [hl] at hi
    rw [if_neg hi] at e
    exact e
theorem wipe_set {vs : List Nat} {x : Sl} (hi : i ∈ vs) : wipeS (ρ.set i x) vs = wipeS ρ vs := by
  apply List.ext_getElem?
  intro j
  rw [wipeS_gt, wipeS_gt, List.length_set]
  split
  · rfl
  · rename_i h
    rw [List.getElem?_set]
    split
    · rename_i e
      subst e
      split
      · exact (h ⟨hi, by assumption⟩).elim
      · rw [List.getElem?_eq_none (by omega)]
    · rfl
theorem wipe_wipe {vs : List Nat} : wipeS (wipeS ρ vs) vs = wipeS ρ vs := by
  apply List.ext_getElem?
  intro j
  rw [wipeS_gt, wipe_len]
  split
  · rename_i h; rw [wipeS_gt, if_pos h]
  · rfl
/-- a comprehension whose items do not touch the objects -/
theorem v_lc {vs : List Nat} {f : Ev (List D)} {t : D → Sto → Option Sto} {xs ys : List D} (hf : f s = some (xs, (ρ, S))) (ho : (vs.all fun v => !(ρ[v]?.getD .un).isOwn) = true) (hl : xs.length ≤ LIM)
    (he : ∀ ρ1, wipeS ρ1 vs = wipeS ρ vs → ∃ ρ2, lcL vs t p g xs (ρ1, S) = some (ys, (ρ2, S')) ∧ wipeS ρ2 vs = wipeS ρ vs) : eLc vs f t p g s = some (ys, (ρ, S')) := by
  obtain ⟨ρ2, e1, e2⟩ := he ρ rfl
  unfold eLc
  rw [hf]
  show (if ((vs.all fun v => !(ρ[v]?.getD .un).isOwn) && decide (xs.length ≤ LIM)) = true then _ else none) = _
  rw [ho, if_pos (by simpa using hl), e1]
  show some (ys, (restS ρ ρ2 vs, S')) = _
  rw [rest_wipe e2]
/-- one item after the other: what an item makes (some: kept, none: left out) -/
theorem lc_pure {vs : List Nat} {t : D → Sto → Option Sto} (hh : D → Option D) : ∀ (xs : List D), (∀ x ∈ xs, ∃ ρ2, t x (wipeS ρ vs, S) = some (ρ2, S) ∧ wipeS ρ2 vs = wipeS ρ vs ∧ ((hh x = none ∧ p (ρ2, S) = some (false, (ρ2, S))) ∨ ∃ y, hh x = some y ∧ p (ρ2, S) = some (true, (ρ2, S)) ∧ g (ρ2, S) = some (y, (ρ2, S)))) →
    ∀ ρ1, wipeS ρ1 vs = wipeS ρ vs → ∃ ρ2, lcL vs t p g xs (ρ1, S) = some (xs.filterMap hh, (ρ2, S)) ∧ wipeS ρ2 vs = wipeS ρ vs
  | [], _, ρ1, h1 => ⟨ρ1, rfl, h1⟩
  | x :: xs, h, ρ1, h1 => by
    obtain ⟨ρ2, e1, e2, e3⟩ := h x (by simp)
    rcases e3 with ⟨e3, e4⟩ | ⟨y, e3, e4, e5⟩
    · obtain ⟨ρ3, e6, e7⟩ := lc_pure hh xs (fun y hy => h y (by simp [hy])) ρ2 e2
      refine ⟨ρ3, ?_, e7⟩
      unfold lcL
      rw [h1, e1]
      show (match p (ρ2, S) with | none => none | some (false, s2) => lcL vs t p g xs s2 | some (true, s2) => _) = _
      rw [e4]
      show lcL vs t p g xs (ρ2, S) = _
      rw [e6, List.filterMap_cons, e3]
    · obtain ⟨ρ3, e6, e7⟩ := lc_pure hh xs (fun y hy => h y (by simp [hy])) ρ2 e2
      refine ⟨ρ3, ?_, e7⟩
      unfold lcL
      rw [h1, e1]
      show (match p (ρ2, S) with | none => none | some (false, s2) => _ | some (true, s2) => _) = _
      rw [e4]
      show (match g (ρ2, S) with | none => none | some (y, s3) => _) = _
      rw [e5]
      show (match lcL vs t p g xs (ρ2, S) with | none => none | some (ys, s4) => some (y :: ys, s4)) = _
      rw [e6, List.filterMap_cons, e3]
/-- [g for x in f], nothing left out -/
theorem v_map1 {vs : List Nat} {f : Ev (List D)} {xs : List D} (hh : D → D) (hf : f s = some (xs, (ρ, S))) (hi : i ∈ vs) (ho : (vs.all fun v => !(ρ[v]?.getD .un).isOwn) = true) (hl : xs.length ≤ LIM)
    (he : ∀ x ∈ xs, g ((wipeS ρ vs).set i (.val x), S) = some (hh x, ((wipeS ρ vs).set i (.val x), S))) : eLc vs f (tNm i) pYes g s = some (xs.map hh, (ρ, S)) := by
  have := v_lc (S' := S) hf ho hl (lc_pure (t := tNm i) (p := pYes) (g := g) (fun x => some (hh x)) xs fun x hx => ⟨_, rfl, by rw [wipe_set hi, wipe_wipe], .inr ⟨hh x, rfl, rfl, he x hx⟩⟩)
  rw [this]
  congr 2
  induction xs with
  | nil => rfl
  | cons a t ih => simp
/-- the same over items that are made of data a by e -/
theorem v_mapT {α : Type} {vs : List Nat} {f : Ev (List D)} (xs : List α) (e hh : α → D) (hf : f s = some (xs.map e, (ρ, S))) (hl : xs.length ≤ LIM)
    (he : ∀ a ∈ xs, g ((wipeS ρ vs).set i (.val (e a)), S) = some (hh a, ((wipeS ρ vs).set i (.val (e a)), S))) (hi : i ∈ vs := by decide) (ho : (vs.all fun v => !(ρ[v]?.getD .un).isOwn) = true := by rfl) : eLc vs f (tNm i) pYes g s = some (xs.map hh, (ρ, S)) := by
  have H := v_lc (S' := S) (vs := vs) (t := tNm i) (p := pYes) (g := g) (ys := xs.map hh) hf ho (by rw [List.length_map]; exact hl) (by
    clear hf hl
    induction xs with
    | nil => exact fun ρ1 h1 => ⟨ρ1, rfl, h1⟩
    | cons a t ih =>
      intro ρ1 h1
      have e1 := he a (by simp)
      obtain ⟨ρ3, e6, e7⟩ := ih (fun y hy => he y (by simp [hy])) ((wipeS ρ vs).set i (.val (e a))) (by rw [wipe_set hi, wipe_wipe])
      refine ⟨ρ3, ?_, e7⟩
      show lcL vs (tNm i) pYes g (e a :: t.map e) (ρ1, S) = _
      unfold lcL
      rw [show (wipeS ((ρ1, S) : Sto).1 vs, ((ρ1, S) : Sto).2) = (wipeS ρ vs, S) by rw [← h1]]
      show (match g ((wipeS ρ vs).set i (.val (e a)), S) with | none => none | some (y, s3) => _) = _
      rw [e1]
      show (match lcL vs (tNm i) pYes g (t.map e) _ with | none => none | some (ys, s4) => some (hh a :: ys, s4)) = _
      rw [e6]; rfl)
  exact H
theorem v_mapT2 {α : Type} {vs : List Nat} {f : Ev (List D)} (xs : List α) (e1 e2 hh : α → D) (hf : f s = some (xs.map (fun a => .tup [e1 a, e2 a]), (ρ, S))) (hl : xs.length ≤ LIM)
    (he : ∀ a ∈ xs, g (((wipeS ρ vs).set i (.val (e1 a))).set j (.val (e2 a)), S) = some (hh a, (((wipeS ρ vs).set i (.val (e1 a))).set j (.val (e2 a)), S))) (hi : i ∈ vs := by decide) (hj : j ∈ vs := by decide) (ho : (vs.all fun v => !(ρ[v]?.getD .un).isOwn) = true := by rfl) :
    eLc vs f (tTp (tCs (tNm i) (tCs (tNm j) tNl))) pYes g s = some (xs.map hh, (ρ, S)) := by
  have H := v_lc (S' := S) (vs := vs) (t := tTp (tCs (tNm i) (tCs (tNm j) tNl))) (p := pYes) (g := g) (ys := xs.map hh) hf ho (by rw [List.length_map]; exact hl) (by
    clear hf hl
    induction xs with
    | nil => exact fun ρ1 h1 => ⟨ρ1, rfl, h1⟩
    | cons a t ih =>
      intro ρ1 h1
      have h2 := he a (by simp)
      obtain ⟨ρ3, e6, e7⟩ := ih (fun y hy => he y (by simp [hy])) (((wipeS ρ vs).set i (.val (e1 a))).set j (.val (e2 a))) (by rw [wipe_set hj, wipe_set hi, wipe_wipe])
      refine ⟨ρ3, ?_, e7⟩
      show lcL vs (tTp (tCs (tNm i) (tCs (tNm j) tNl))) pYes g (.tup [e1 a, e2 a] :: t.map (fun a => .tup [e1 a, e2 a])) (ρ1, S) = _
      unfold lcL
      rw [show (wipeS ((ρ1, S) : Sto).1 vs, ((ρ1, S) : Sto).2) = (wipeS ρ vs, S) by rw [← h1]]
      show (match g (((wipeS ρ vs).set i (.val (e1 a))).set j (.val (e2 a)), S) with | none => none | some (y, s3) => _) = _
      rw [h2]
      show (match lcL vs (tTp (tCs (tNm i) (tCs (tNm j) tNl))) pYes g (t.map (fun a => .tup [e1 a, e2 a])) _ with | none => none | some (ys, s4) => some (hh a :: ys, s4)) = _
      rw [e6]; rfl)
  exact H
theorem v_filt1 {vs : List Nat} {f : Ev (List D)} {xs : List D} (hh : D → D) (c : D → Bool) (hf : f s = some (xs, (ρ, S))) (hi : i ∈ vs) (ho : (vs.all fun v => !(ρ[v]?.getD .un).isOwn) = true) (hl : xs.length ≤ LIM)
    (hp : ∀ x ∈ xs, p ((wipeS ρ vs).set i (.val x), S) = some (c x, ((wipeS ρ vs).set i (.val x), S)))
    (he : ∀ x ∈ xs, c x = true → g ((wipeS ρ vs).set i (.val x), S) = some (hh x, ((wipeS ρ vs).set i (.val x), S))) : eLc vs f (tNm i) p g s = some ((xs.filter c).map hh, (ρ, S)) := by
  have := v_lc (S' := S) hf ho hl (lc_pure (t := tNm i) (p := p) (g := g) (fun x => if c x = true then some (hh x) else none) xs fun x hx => ⟨_, rfl, by rw [wipe_set hi, wipe_wipe], by
    cases e : c x with
    | false => exact .inl ⟨rfl, by rw [hp x hx, e]⟩
    | true => exact .inr ⟨hh x, rfl, by rw [hp x hx, e], he x hx e⟩⟩)
  rw [this]
  congr 2
  clear this hf hl hp he
  induction xs with
  | nil => rfl
  | cons a t ih =>
    rw [List.filterMap_cons]
    cases e : c a <;> simp [e, ih]
theorem v_map2 {vs : List Nat} {f : Ev (List D)} {xs : List D} (hh : D → D) (hf : f s = some (xs, (ρ, S))) (hi : i ∈ vs) (hj : j ∈ vs) (ho : (vs.all fun v => !(ρ[v]?.getD .un).isOwn) = true) (hl : xs.length ≤ LIM)
    (he : ∀ x ∈ xs, ∃ a b, x = .tup [a, b] ∧ g (((wipeS ρ vs).set i (.val a)).set j (.val b), S) = some (hh x, (((wipeS ρ vs).set i (.val a)).set j (.val b), S))) : eLc vs f (tTp (tCs (tNm i) (tCs (tNm j) tNl))) pYes g s = some (xs.map hh, (ρ, S)) := by
  have := v_lc (S' := S) hf ho hl (lc_pure (t := tTp (tCs (tNm i) (tCs (tNm j) tNl))) (p := pYes) (g := g) (fun x => some (hh x)) xs fun x hx => by
    obtain ⟨a, b, rfl, e⟩ := he x hx
    exact ⟨_, rfl, by rw [wipe_set hj, wipe_set hi, wipe_wipe], .inr ⟨_, rfl, rfl, e⟩⟩)
  rw [this]
  congr 2
  induction xs with
  | nil => rfl
  | cons a t ih => simp
/-- items that change the objects: a state J of the objects goes along -/
theorem lc_st {vs : List Nat} {t : D → Sto → Option Sto} (J : Nat → List O → Prop) (V : D → Prop) (N : Nat) : ∀ (xs : List D) (n : Nat) (S : List O), n + xs.length ≤ N → J n S →
    (∀ x ∈ xs, ∀ n S, n < N → J n S → ∃ ρ2 y S', t x (wipeS ρ vs, S) = some (ρ2, S) ∧ wipeS ρ2 vs = wipeS ρ vs ∧ p (ρ2, S) = some (true, (ρ2, S)) ∧ g (ρ2, S) = some (y, (ρ2, S')) ∧ V y ∧ J (n + 1) S') →
    ∀ ρ1, wipeS ρ1 vs = wipeS ρ vs → ∃ ρ2 ys S', lcL vs t p g xs (ρ1, S) = some (ys, (ρ2, S')) ∧ wipeS ρ2 vs = wipeS ρ vs ∧ ys.length = xs.length ∧ (∀ y ∈ ys, V y) ∧ J (n + xs.length) S'
  | [], n, S, hn, hJ, _, ρ1, h1 => ⟨ρ1, [], S, rfl, h1, rfl, by simp, hJ⟩
  | x :: xs, n, S, hn, hJ, h, ρ1, h1 => by
    rw [List.length_cons] at hn
    obtain ⟨ρ2, y, S', e1, e2, e3, e4, e5, e6⟩ := h x (by simp) n S (by omega) hJ
    obtain ⟨ρ3, ys, S2, q1, q2, q3, q4, q5⟩ := lc_st J V N xs (n + 1) S' (by omega) e6 (fun y hy => h y (by simp [hy])) ρ2 e2
    refine ⟨ρ3, y :: ys, S2, ?_, q2, by simp [q3], by simpa using ⟨e5, q4⟩, by rw [List.length_cons, show n + (xs.length + 1) = n + 1 + xs.length by omega]; exact q5⟩
    unfold lcL
    rw [h1, e1]
    show (match p (ρ2, S) with | none => none | some (false, s2) => _ | some (true, s2) => _) = _
    rw [e3]
    show (match g (ρ2, S) with | none => none | some (y, s3) => _) = _
    rw [e4]
    show (match lcL vs t p g xs (ρ2, S') with | none => none | some (ys, s4) => some (y :: ys, s4)) = _
    rw [q1]
/-- [g for k in f], g draws -/
theorem v_draw1 {vs : List Nat} {f : Ev (List D)} {xs : List D} (J : Nat → List O → Prop) (V : D → Prop) {n : Nat} (hf : f s = some (xs, (ρ, S))) (hi : i ∈ vs) (ho : (vs.all fun v => !(ρ[v]?.getD .un).isOwn) = true) (hl : xs.length ≤ LIM) (hJ : J n S)
    (he : ∀ x ∈ xs, ∀ m S, m < n + xs.length → J m S → ∃ y S', g ((wipeS ρ vs).set i (.val x), S) = some (y, ((wipeS ρ vs).set i (.val x), S')) ∧ V y ∧ J (m + 1) S') : ∃ ys S', eLc vs f (tNm i) pYes g s = some (ys, (ρ, S')) ∧ ys.length = xs.length ∧ (∀ y ∈ ys, V y) ∧ J (n + xs.length) S' := by
  obtain ⟨ρ2, ys, S', e1, e2, e3, e4, e5⟩ := lc_st (ρ := ρ) (vs := vs) (t := tNm i) (p := pYes) (g := g) J V (n + xs.length) xs n S (Nat.le_refl _) hJ (fun x hx n S hn h => by
    obtain ⟨y, S', e, hv, hj⟩ := he x hx n S hn h
    exact ⟨_, y, S', rfl, by rw [wipe_set hi, wipe_wipe], rfl, e, hv, hj⟩) ρ rfl
  refine ⟨ys, S', ?_, e3, e4, e5⟩
  unfold eLc
  rw [hf]
  show (if ((vs.all fun v => !(ρ[v]?.getD .un).isOwn) && decide (xs.length ≤ LIM)) = true then _ else none) = _
  rw [ho, if_pos (by simpa using hl), e1]
  show some (ys, (restS ρ ρ2 vs, S')) = _
  rw [rest_wipe e2]
end
/-! ### where a proof splits -/
theorem v_orS {s : Sto} {p q : Ev Bool} (h1 : p s = some (false, s)) (h2 : q s = some (false, s)) : eOrT p q s = some (false, s) := v_orT h1 h2
theorem v_binS {s : Sto} {f g : Ev D} {op : D → D → Option D} {x y z : D} (h1 : f s = some (x, s)) (h2 : g s = some (y, s)) (h3 : op x y = some z) : eBin op f g s = some (z, s) := v_bin h1 h2 h3
theorem v_seqE {s s1 : Sto} {u v : Es} {d : D} {S' : List O} (h1 : u s = some (.nx s1)) (h2 : ∃ ρ, v s1 = some (.rt d (ρ, S'))) : ∃ ρ, sSeq u v s = some (.rt d (ρ, S')) := by
  obtain ⟨ρ, h⟩ := h2
  exact ⟨ρ, v_seq h1 h⟩
theorem v_runE {N : Nat} {u : Es} {d : D} {S S' : List O} {ds : List D} (h1 : ∃ ρ, u (ds.map .val ++ List.replicate (N - ds.length) .un, S) = some (.rt d (ρ, S'))) : runF N u ds S = some (d, S') := by
  obtain ⟨ρ, h⟩ := h1
  exact v_run h
/-! ### what operations make -/
theorem o_mul {a b : Int} (h : a.natAbs.log2 + b.natAbs.log2 < 1000000) : dMul (.int a) (.int b) = some (.int (a * b)) := by
  exact if_pos (by exact decide_eq_true h)
theorem o_mulI {a b : Int} (h : a.natAbs < 2 ^ 64 ∨ b.natAbs < 2 ^ 64) : dMulI (.int a) (.int b) = some (.int (a * b)) := by
  exact if_pos (by simpa using h)
theorem o_mod {a b : Int} (h : 0 < b) : dMod (.int a) (.int b) = some (.int (a % b)) := by
  exact if_pos (by exact decide_eq_true h)
theorem o_div {a b : Int} (h : 0 < b) (h2 : b.natAbs.log2 < 9000) : dDiv (.int a) (.int b) = some (.int (a / b)) := by
  exact if_pos (by simp [h, h2])
theorem o_divI {a b : Int} (h : 0 < b) (h2 : b.natAbs.log2 < 9000) : dDivI (.int a) (.int b) = some (.int (a / b)) := by
  exact if_pos (by simp [h, h2])
theorem o_shl {a b : Int} (h : 0 ≤ b) (h1 : b ≤ 1000000) (h2 : a.natAbs.log2 < 1000000) : dShl (.int a) (.int b) = some (.int (a * 2 ^ b.toNat)) := by
  exact if_pos (by simp [h, h1, h2])
theorem o_eq {x y : D} (h : flat 8 x = true) (h2 : flat 8 y = true) : dEq x y = some (.bl (eqv x y)) := by
  unfold dEq; rw [h, h2, Bool.and_self, Bool.or_true]; rfl
theorem o_ne {x y : D} (h : flat 8 x = true) (h2 : flat 8 y = true) : dNe x y = some (.bl (!eqv x y)) := by
  unfold dNe; rw [h, h2, Bool.and_self, Bool.or_true]; rfl
theorem o_eqI {a b : Int} : dEq (.int a) (.int b) = some (.bl (a == b)) := rfl
theorem o_neI {a b : Int} : dNe (.int a) (.int b) = some (.bl (!(a == b))) := rfl
theorem o_eqS {a b : List Nat} : dEq (.str a) (.str b) = some (.bl (a == b)) := rfl
theorem o_neS {a b : List Nat} : dNe (.str a) (.str b) = some (.bl (!(a == b))) := rfl
theorem lg {x k : Nat} (h : x < 2 ^ k) : x.log2 ≤ k := by
  by_cases hx : x = 0
  · subst hx; simp
  · have := (Nat.log2_lt hx).mpr h; omega
theorem lgI {x : Int} {k : Nat} (h : x.natAbs < 2 ^ k) : x.natAbs.log2 ≤ k := lg h
end DL

set_option Elab.async false
set_option linter.all false
set_option maxRecDepth 100000
namespace LW
open PySem PySem.Spec PyProof.Rows L2 DL
def B_is_bits : Es :=
  (sRet (eCl dAll (eCons (eFz (eLc [1] (eItems (eVar 0)) (tNm 1) pYes (eBin (inD false) (eVar 1) (ret (.str [48, 49]))))) eNil)))
def F_is_bits : Fn := runF 2 B_is_bits
def B_check_bits : Es :=
  (sIf (eNotT (eB (eCall F_is_bits (eCons (eVar 0) eNil)))) sNever sNil)
def F_check_bits : Fn := runF 1 B_check_bits
def B_power : Es :=
  (sSeq (sSet 2 (ret (.int 1))) (sSeq (sWhile (eB (eBin dGt (eVar 1) (ret (.int 0)))) (sSeq (sIf (eB (eBin dEq (eBin dMod (eVar 1) (ret (.int 2))) (ret (.int 1)))) (sSet 2 (eBin dMul (eVar 2) (eVar 0))) sNil) (sSeq (sSet 0 (eBin dMul (eVar 0) (eVar 0))) (sAug 1 dDivI (ret (.int 2)))))) (sRet (eVar 2))))
def F_power : Fn := runF 3 B_power
def B_share : Es :=
  (sSeq (sIf (eB (eBin dEq (eVar 1) (ret (.int 0)))) sNever sNil) (sSeq (sIf (eB (eBin dLt (eVar 1) (ret (.int 0)))) (sPar 0 1 (eCons (eUn dNeg (eVar 0)) (eCons (eUn dNeg (eVar 1)) eNil))) sNil) (sSeq (sPar 2 3 (eCons (eCl dAbs (eCons (eVar 0) eNil)) (eCons (eVar 1) eNil))) (sSeq (sWhile (eB (eBin dGt (eVar 3) (ret (.int 0)))) (sPar 2 3 (eCons (eVar 3) (eCons (eBin dMod (eVar 2) (eVar 3)) eNil)))) (sRet (eTup (eCons (eBin dDiv (eVar 0) (eVar 2)) (eCons (eBin dDiv (eVar 1) (eVar 2)) eNil))))))))
def F_share : Fn := runF 4 B_share
def B_plus : Es :=
  (sRet (eCall F_share (eCons (eBin dAdd (eBin dMul (eBin dIx (eVar 0) (ret (.int 0))) (eBin dIx (eVar 1) (ret (.int 1)))) (eBin dMul (eBin dIx (eVar 1) (ret (.int 0))) (eBin dIx (eVar 0) (ret (.int 1))))) (eCons (eBin dMul (eBin dIx (eVar 0) (ret (.int 1))) (eBin dIx (eVar 1) (ret (.int 1)))) eNil))))
def F_plus : Fn := runF 2 B_plus
def B_times : Es :=
  (sRet (eCall F_share (eCons (eBin dMul (eBin dIx (eVar 0) (ret (.int 0))) (eBin dIx (eVar 1) (ret (.int 0)))) (eCons (eBin dMul (eBin dIx (eVar 0) (ret (.int 1))) (eBin dIx (eVar 1) (ret (.int 1)))) eNil))))
def F_times : Fn := runF 2 B_times
def B_over : Es :=
  (sRet (eCall F_share (eCons (eBin dMul (eBin dIx (eVar 0) (ret (.int 0))) (eBin dIx (eVar 1) (ret (.int 1)))) (eCons (eBin dMul (eBin dIx (eVar 0) (ret (.int 1))) (eBin dIx (eVar 1) (ret (.int 0)))) eNil))))
def F_over : Fn := runF 2 B_over
def B_less : Es :=
  (sRet (eBin dLt (eBin dMul (eBin dIx (eVar 0) (ret (.int 0))) (eBin dIx (eVar 1) (ret (.int 1)))) (eBin dMul (eBin dIx (eVar 1) (ret (.int 0))) (eBin dIx (eVar 0) (ret (.int 1))))))
def F_less : Fn := runF 2 B_less
def B_sum_of : Es :=
  (sSeq (sSet 1 (ret (.tup [(.int 0), (.int 1)]))) (sSeq (sFor (eItems (eVar 0)) (tNm 2) (sSet 1 (eCall F_plus (eCons (eVar 1) (eCons (eVar 2) eNil))))) (sRet (eVar 1))))
def F_sum_of : Fn := runF 3 B_sum_of
def B_bits_for : Es :=
  (sSeq (sIf (eOrT (eB (eBin dLe (eBin dIx (eVar 0) (ret (.int 0))) (ret (.int 0)))) (eB (eCall F_less (eCons (ret (.tup [(.int 1), (.int 1)])) (eCons (eVar 0) eNil))))) sNever sNil) (sSeq (sSet 1 (ret (.int 0))) (sSeq (sWhile (eB (eBin dLt (eBin dShl (eBin dIx (eVar 0) (ret (.int 0))) (eVar 1)) (eBin dIx (eVar 0) (ret (.int 1))))) (sAug 1 dAddI (ret (.int 1)))) (sRet (eVar 1)))))
def F_bits_for : Fn := runF 2 B_bits_for
def B_share_text : Es :=
  (sRet (eIf (eB (eBin dEq (eBin dIx (eVar 0) (ret (.int 1))) (ret (.int 1)))) (eCl dStr (eCons (eBin dIx (eVar 0) (ret (.int 0))) eNil)) (eBin dAdd (eBin dAdd (eCl dStr (eCons (eBin dIx (eVar 0) (ret (.int 0))) eNil)) (ret (.str [47]))) (eCl dStr (eCons (eBin dIx (eVar 0) (ret (.int 1))) eNil)))))
def F_share_text : Fn := runF 1 B_share_text
def B_half_share : Es :=
  (sSeq (sIf (eOrT (eB (eBin dLt (eVar 0) (ret (.int 0)))) (eOrT (eB (eBin dLt (eVar 1) (ret (.int 0)))) (eB (eBin dGt (eBin dAdd (eVar 0) (eVar 1)) (ret (.int 400)))))) sNever sNil) (sSeq (sSet 2 (ret (.tup [(.int 1), (.int 1)]))) (sSeq (sFor (eRange dRange1 (eCons (eVar 0) eNil)) (tNm 3) (sSet 2 (eCall F_times (eCons (eVar 2) (eCons (eCall F_share (eCons (eBin dAdd (eBin dMul (ret (.int 2)) (eVar 3)) (ret (.int 1))) (eCons (eBin dMul (ret (.int 2)) (eBin dAdd (eVar 3) (ret (.int 1)))) eNil))) eNil))))) (sSeq (sFor (eRange dRange1 (eCons (eVar 1) eNil)) (tNm 3) (sSet 2 (eCall F_times (eCons (eVar 2) (eCons (eCall F_share (eCons (eBin dAdd (eBin dMul (ret (.int 2)) (eVar 3)) (ret (.int 1))) (eCons (eBin dMul (ret (.int 2)) (eBin dAdd (eBin dAdd (eVar 0) (eVar 3)) (ret (.int 1)))) eNil))) eNil))))) (sRet (eVar 2))))))
def F_half_share : Fn := runF 4 B_half_share
def B_best_share : Es :=
  (sSeq (sSet 2 (eBin dAdd (eVar 0) (eVar 1))) (sRet (eCall F_share (eCons (eBin dMul (eCall F_power (eCons (eVar 0) (eCons (eVar 0) eNil))) (eCall F_power (eCons (eVar 1) (eCons (eVar 1) eNil)))) (eCons (eCall F_power (eCons (eVar 2) (eCons (eVar 2) eNil))) eNil)))))
def F_best_share : Fn := runF 3 B_best_share
def B_contexts_of : Es :=
  (sSeq (sExpr (eCall F_check_bits (eCons (eVar 0) eNil))) (sSeq (sExpr (eCall F_check_bits (eCons (eVar 2) eNil))) (sSeq (sIf (eOrT (eNotT (eB (eChain dLe dLe (ret (.int 0)) (eVar 1) (ret (.int 4))))) (eB (eBin dNe (eCl dLen (eCons (eVar 2) eNil)) (eVar 1)))) sNever sNil) (sSeq (sOwnK 3 (ret [])) (sSeq (sSet 4 (eBin dAdd (eVar 2) (eVar 0))) (sSeq (sFor (eRange dRange2 (eCons (eVar 1) (eCons (eCl dLen (eCons (eVar 4) eNil)) eNil))) (tNm 5) (sFor (eRange dRange1 (eCons (eBin dAdd (eVar 1) (ret (.int 1))) eNil)) (tNm 6) (sSeq (sSet 7 (eUn dRev (eSl (eVar 4) (ePart (eBin dSub (eVar 5) (eVar 6))) (ePart (eVar 5))))) (sSeq (sAsg (tTp (tCs (tNm 8) (tCs (tNm 9) tNl))) (eDGet2L 3 (eVar 7) (eTup (eCons (ret (.int 0)) (eCons (ret (.int 0)) eNil))))) (sDPutL 3 (eVar 7) (eIf (eB (eBin dEq (eBin dIx (eVar 4) (eVar 5)) (ret (.str [48])))) (eTup (eCons (eBin dAdd (eVar 8) (ret (.int 1))) (eCons (eVar 9) eNil))) (eTup (eCons (eVar 8) (eCons (eBin dAdd (eVar 9) (ret (.int 1))) eNil))))))))) (sRet (eOut 3))))))))
def F_contexts_of : Fn := runF 10 B_contexts_of
def B_weighed (R : Fn) : Es :=
  (sSeq (sAsg (tTp (tCs (tNm 3) (tCs (tNm 4) tNl))) (eDGet2 (eVar 0) (eVar 1) (eTup (eCons (ret (.int 0)) (eCons (ret (.int 0)) eNil))))) (sSeq (sSet 5 (eCall F_half_share (eCons (eVar 3) (eCons (eVar 4) eNil)))) (sSeq (sIf (eB (eBin dEq (eCl dLen (eCons (eVar 1) eNil)) (eVar 2))) (sRet (eVar 5)) sNil) (sSeq (sSet 6 (eCall F_times (eCons (eCall R (eCons (eVar 0) (eCons (eBin dAdd (eVar 1) (ret (.str [48]))) (eCons (eVar 2) eNil)))) (eCons (eCall R (eCons (eVar 0) (eCons (eBin dAdd (eVar 1) (ret (.str [49]))) (eCons (eVar 2) eNil)))) eNil)))) (sRet (eCall F_times (eCons (eTup (eCons (ret (.int 1)) (eCons (ret (.int 2)) eNil))) (eCons (eCall F_plus (eCons (eVar 5) (eCons (eVar 6) eNil))) eNil))))))))
def F_weighed : Nat → Fn
  | 0 => fun _ _ => none
  | d + 1 => runF 7 (B_weighed (F_weighed d))
def B_tree_share : Es :=
  (sSeq (sSet 3 (eCall F_contexts_of (eCons (eVar 0) (eCons (eVar 1) (eCons (eVar 2) eNil))))) (sRet (eCall (F_weighed 3) (eCons (eVar 3) (eCons (ret (.str [])) (eCons (eVar 1) eNil))))))
def F_tree_share : Fn := runF 4 B_tree_share
def B_trees_of (R : Fn) : Es :=
  (sSeq (sIf (eB (eBin dEq (eVar 0) (ret (.int 0)))) (sRet (eFz (eLst (eCons (eTup (eCons (ret (.str [])) eNil)) eNil)))) sNil) (sSeq (sSet 1 (eCall R (eCons (eBin dSub (eVar 0) (ret (.int 1))) eNil))) (sSeq (sOwn 2 (eLst (eCons (eTup (eCons (ret (.str [])) eNil)) eNil))) (sSeq (sFor (eItems (eVar 1)) (tNm 3) (sFor (eItems (eVar 1)) (tNm 4) (sExpr (eMtL 2 mAppend (eCl dTuple (eCons (eBin dAdd (eFz (eLc [5] (eItems (eVar 3)) (tNm 5) pYes (eBin dAdd (ret (.str [48])) (eVar 5)))) (eFz (eLc [5] (eItems (eVar 4)) (tNm 5) pYes (eBin dAdd (ret (.str [49])) (eVar 5))))) eNil)))))) (sRet (eOut 2))))))
def F_trees_of : Nat → Fn
  | 0 => fun _ _ => none
  | d + 1 => runF 6 (B_trees_of (F_trees_of d))
def B_share_by : Es :=
  (sSeq (sSet 4 (eCall F_contexts_of (eCons (eVar 0) (eCons (eVar 2) (eCons (eVar 3) eNil))))) (sSeq (sSet 5 (ret (.tup [(.int 1), (.int 1)]))) (sSeq (sFor (eItems (eVar 1)) (tNm 6) (sSeq (sAsg (tTp (tCs (tNm 7) (tCs (tNm 8) tNl))) (eDGet2 (eVar 4) (eVar 6) (eTup (eCons (ret (.int 0)) (eCons (ret (.int 0)) eNil))))) (sSet 5 (eCall F_times (eCons (eVar 5) (eCons (eCall F_half_share (eCons (eVar 7) (eCons (eVar 8) eNil))) eNil)))))) (sRet (eVar 5)))))
def F_share_by : Fn := runF 9 B_share_by
def B_weight_of : Es :=
  (sSeq (sSet 2 (eBin dSub (eCl dLen (eCons (eVar 0) eNil)) (ret (.int 1)))) (sSeq (sSet 3 (eCl dLen (eCons (eFz (eLc [4] (eItems (eVar 0)) (tNm 4) (eB (eBin dLt (eCl dLen (eCons (eVar 4) eNil)) (eVar 1))) (eVar 4))) eNil))) (sRet (eCall F_share (eCons (ret (.int 1)) (eCons (eBin dShl (ret (.int 1)) (eBin dAdd (eVar 2) (eVar 3))) eNil))))))
def F_weight_of : Fn := runF 5 B_weight_of
def B_greatest (R : Fn) : Es :=
  (sSeq (sAsg (tTp (tCs (tNm 3) (tCs (tNm 4) tNl))) (eDGet2 (eVar 0) (eVar 1) (eTup (eCons (ret (.int 0)) (eCons (ret (.int 0)) eNil))))) (sSeq (sSet 5 (eCall F_half_share (eCons (eVar 3) (eCons (eVar 4) eNil)))) (sSeq (sIf (eB (eBin dEq (eCl dLen (eCons (eVar 1) eNil)) (eVar 2))) (sRet (eTup (eCons (eVar 5) (eCons (eTup (eCons (ret (.str [])) eNil)) eNil)))) sNil) (sSeq (sPar 6 7 (eCons (eCall R (eCons (eVar 0) (eCons (eBin dAdd (eVar 1) (ret (.str [48]))) (eCons (eVar 2) eNil)))) (eCons (eCall R (eCons (eVar 0) (eCons (eBin dAdd (eVar 1) (ret (.str [49]))) (eCons (eVar 2) eNil)))) eNil))) (sSeq (sSet 8 (eCall F_times (eCons (eCall F_times (eCons (eTup (eCons (ret (.int 1)) (eCons (ret (.int 2)) eNil))) (eCons (eBin dIx (eVar 6) (ret (.int 0))) eNil))) (eCons (eBin dIx (eVar 7) (ret (.int 0))) eNil)))) (sSeq (sSet 9 (eCall F_times (eCons (eTup (eCons (ret (.int 1)) (eCons (ret (.int 2)) eNil))) (eCons (eVar 5) eNil)))) (sSeq (sIf (eB (eCall F_less (eCons (eVar 9) (eCons (eVar 8) eNil)))) (sRet (eTup (eCons (eVar 8) (eCons (eCl dTuple (eCons (eBin dAdd (eFz (eLc [10] (eItems (eBin dIx (eVar 6) (ret (.int 1)))) (tNm 10) pYes (eBin dAdd (ret (.str [48])) (eVar 10)))) (eFz (eLc [10] (eItems (eBin dIx (eVar 7) (ret (.int 1)))) (tNm 10) pYes (eBin dAdd (ret (.str [49])) (eVar 10))))) eNil)) eNil)))) sNil) (sRet (eTup (eCons (eVar 9) (eCons (eTup (eCons (ret (.str [])) eNil)) eNil)))))))))))
def F_greatest : Nat → Fn
  | 0 => fun _ _ => none
  | d + 1 => runF 11 (B_greatest (F_greatest d))
def B_best_tree : Es :=
  (sSeq (sSet 3 (eCall F_contexts_of (eCons (eVar 0) (eCons (eVar 1) (eCons (eVar 2) eNil))))) (sRet (eCall (F_greatest 3) (eCons (eVar 3) (eCons (ret (.str [])) (eCons (eVar 1) eNil))))))
def F_best_tree : Fn := runF 4 B_best_tree
def B_next_share : Es :=
  (sRet (eCall F_over (eCons (eCall F_tree_share (eCons (eBin dAdd (eVar 0) (ret (.str [49]))) (eCons (eVar 1) (eCons (eVar 2) eNil)))) (eCons (eCall F_tree_share (eCons (eVar 0) (eCons (eVar 1) (eCons (eVar 2) eNil)))) eNil))))
def F_next_share : Fn := runF 3 B_next_share
def B_check_voices : Es :=
  (sSeq (sIf (eOrT (eNotT (eTr (eVar 0))) (eNotT (eB (eCl dAll (eCons (eFz (eLc [2] (eItems (eVar 0)) (tNm 2) pYes (eBin dEq (eCl dLen (eCons (eVar 2) eNil)) (eVar 1)))) eNil))))) sNever sNil) (sIf (eNotT (eB (eCl dAll (eCons (eFz (eLc [2] (eItems (eVar 0)) (tNm 2) pYes (eCl dAll (eCons (eFz (eLc [3] (eItems (eVar 2)) (tNm 3) pYes (eAnd (eCall F_less (eCons (ret (.tup [(.int 0), (.int 1)])) (eCons (eVar 3) eNil))) (eCall F_less (eCons (eVar 3) (eCons (ret (.tup [(.int 1), (.int 1)])) eNil)))))) eNil)))) eNil)))) sNever sNil))
def F_check_voices : Fn := runF 4 B_check_voices
def B_voice_share : Es :=
  (sSeq (sSet 2 (ret (.tup [(.int 1), (.int 1)]))) (sSeq (sFor (eArg dZip (eCons (eVar 0) (eCons (eVar 1) eNil))) (tTp (tCs (tNm 3) (tCs (tNm 4) tNl))) (sSet 2 (eCall F_times (eCons (eVar 2) (eCons (eIf (eB (eBin dEq (eVar 4) (ret (.str [49])))) (eVar 3) (eTup (eCons (eBin dSub (eBin dIx (eVar 3) (ret (.int 1))) (eBin dIx (eVar 3) (ret (.int 0)))) (eCons (eBin dIx (eVar 3) (ret (.int 1))) eNil)))) eNil))))) (sRet (eVar 2))))
def F_voice_share : Fn := runF 5 B_voice_share
def B_mixed_share : Es :=
  (sSeq (sExpr (eCall F_check_bits (eCons (eVar 1) eNil))) (sSeq (sExpr (eCall F_check_voices (eCons (eVar 0) (eCons (eCl dLen (eCons (eVar 1) eNil)) eNil)))) (sRet (eCall F_times (eCons (eCall F_share (eCons (ret (.int 1)) (eCons (eCl dLen (eCons (eVar 0) eNil)) eNil))) (eCons (eCall F_sum_of (eCons (eFz (eLc [2] (eItems (eVar 0)) (tNm 2) pYes (eCall F_voice_share (eCons (eVar 2) (eCons (eVar 1) eNil))))) eNil)) eNil))))))
def F_mixed_share : Fn := runF 3 B_mixed_share
def B_heard : Es :=
  (sSeq (sSet 4 (eFz (eLc [5] (eItems (eVar 1)) (tNm 5) pYes (eIf (eB (eBin dEq (eVar 3) (ret (.str [49])))) (eBin dIx (eVar 5) (eVar 2)) (eTup (eCons (eBin dSub (eBin dIx (eBin dIx (eVar 5) (eVar 2)) (ret (.int 1))) (eBin dIx (eBin dIx (eVar 5) (eVar 2)) (ret (.int 0)))) (eCons (eBin dIx (eBin dIx (eVar 5) (eVar 2)) (ret (.int 1))) eNil))))))) (sRet (eFz (eLc [6, 7] (eArg dZip (eCons (eVar 0) (eCons (eVar 4) eNil))) (tTp (tCs (tNm 6) (tCs (tNm 7) tNl))) pYes (eCall F_times (eCons (eVar 6) (eCons (eVar 7) eNil)))))))
def F_heard : Fn := runF 8 B_heard
def B_said_next : Es :=
  (sSeq (sExpr (eCall F_check_bits (eCons (eVar 1) eNil))) (sSeq (sExpr (eCall F_check_voices (eCons (eVar 0) (eCons (eCl dLen (eCons (eVar 1) eNil)) eNil)))) (sSeq (sSet 2 (eBin dMul (eFz (eLst (eCons (eCall F_share (eCons (ret (.int 1)) (eCons (eCl dLen (eCons (eVar 0) eNil)) eNil))) eNil))) (eCl dLen (eCons (eVar 0) eNil)))) (sSeq (sOwn 3 (eLst eNil)) (sSeq (sFor (eArg dEnum (eCons (eVar 1) eNil)) (tTp (tCs (tNm 4) (tCs (tNm 5) tNl))) (sSeq (sSet 6 (eCall F_sum_of (eCons (eFz (eLc [7, 8] (eArg dZip (eCons (eVar 2) (eCons (eVar 0) eNil))) (tTp (tCs (tNm 7) (tCs (tNm 8) tNl))) pYes (eCall F_times (eCons (eVar 7) (eCons (eBin dIx (eVar 8) (eVar 4)) eNil))))) eNil))) (sSeq (sExpr (eMtL 3 mAppend (eCall F_over (eCons (eVar 6) (eCons (eCall F_sum_of (eCons (eVar 2) eNil)) eNil))))) (sSet 2 (eCall F_heard (eCons (eVar 2) (eCons (eVar 0) (eCons (eVar 4) (eCons (eVar 5) eNil))))))))) (sRet (eCl1 dTuple 3)))))))
def F_said_next : Fn := runF 9 B_said_next
def B_most_lost : Es :=
  (sSeq (sExpr (eCall F_check_voices (eCons (eVar 0) (eCons (eCl dLen (eCons (eVar 1) eNil)) eNil)))) (sSeq (sSet 2 (eCall F_voice_share (eCons (eBin dIx (eVar 0) (ret (.int 0))) (eCons (eVar 1) eNil)))) (sSeq (sFor (eItems (eVar 0)) (tNm 3) (sSeq (sSet 4 (eCall F_voice_share (eCons (eVar 3) (eCons (eVar 1) eNil)))) (sSet 2 (eIf (eB (eCall F_less (eCons (eVar 2) (eCons (eVar 4) eNil)))) (eVar 4) (eVar 2))))) (sRet (eTup (eCons (eCall F_bits_for (eCons (eCall F_mixed_share (eCons (eVar 0) (eCons (eVar 1) eNil))) eNil)) (eCons (eCall F_bits_for (eCons (eVar 2) eNil)) (eCons (eCall F_bits_for (eCons (eCall F_share (eCons (ret (.int 1)) (eCons (eCl dLen (eCons (eVar 0) eNil)) eNil))) eNil)) eNil))))))))
def F_most_lost : Fn := runF 5 B_most_lost
def B_half_lost : Es :=
  (sRet (eCall F_over (eCons (eCall F_best_share (eCons (eVar 0) (eCons (eVar 1) eNil))) (eCons (eCall F_half_share (eCons (eVar 0) (eCons (eVar 1) eNil))) eNil))))
def F_half_lost : Fn := runF 2 B_half_lost
def B_switching : Es :=
  (sSeq (sExpr (eCall F_check_bits (eCons (eVar 1) eNil))) (sSeq (sExpr (eCall F_check_voices (eCons (eVar 0) (eCons (eCl dLen (eCons (eVar 1) eNil)) eNil)))) (sSeq (sIf (eOrT (eNotT (eB (eCall F_less (eCons (ret (.tup [(.int 0), (.int 1)])) (eCons (eVar 2) eNil))))) (eOrT (eNotT (eB (eCall F_less (eCons (eVar 2) (eCons (ret (.tup [(.int 1), (.int 1)])) eNil))))) (eB (eBin dLt (eCl dLen (eCons (eVar 0) eNil)) (ret (.int 2)))))) sNever sNil) (sSeq (sSet 3 (eBin dMul (eFz (eLst (eCons (eCall F_share (eCons (ret (.int 1)) (eCons (eCl dLen (eCons (eVar 0) eNil)) eNil))) eNil))) (eCl dLen (eCons (eVar 0) eNil)))) (sSeq (sSet 4 (eCall F_over (eCons (eVar 2) (eCons (eTup (eCons (eBin dSub (eCl dLen (eCons (eVar 0) eNil)) (ret (.int 1))) (eCons (ret (.int 1)) eNil))) eNil)))) (sSeq (sSet 5 (eTup (eCons (eBin dSub (eBin dIx (eVar 2) (ret (.int 1))) (eBin dIx (eVar 2) (ret (.int 0)))) (eCons (eBin dIx (eVar 2) (ret (.int 1))) eNil)))) (sSeq (sFor (eArg dEnum (eCons (eVar 1) eNil)) (tTp (tCs (tNm 6) (tCs (tNm 7) tNl))) (sSeq (sIf (eB (eBin dGt (eVar 6) (ret (.int 0)))) (sSeq (sSet 8 (eCall F_sum_of (eCons (eVar 3) eNil))) (sSeq (sSet 9 (eFz (eLc [10] (eItems (eVar 3)) (tNm 10) pYes (eCall F_share (eCons (eBin dSub (eBin dMul (eBin dIx (eVar 8) (ret (.int 0))) (eBin dIx (eVar 10) (ret (.int 1)))) (eBin dMul (eBin dIx (eVar 10) (ret (.int 0))) (eBin dIx (eVar 8) (ret (.int 1))))) (eCons (eBin dMul (eBin dIx (eVar 8) (ret (.int 1))) (eBin dIx (eVar 10) (ret (.int 1)))) eNil)))))) (sSet 3 (eFz (eLc [10, 11] (eArg dZip (eCons (eVar 3) (eCons (eVar 9) eNil))) (tTp (tCs (tNm 10) (tCs (tNm 11) tNl))) pYes (eCall F_plus (eCons (eCall F_times (eCons (eVar 5) (eCons (eVar 10) eNil))) (eCons (eCall F_times (eCons (eVar 4) (eCons (eVar 11) eNil))) eNil)))))))) sNil) (sSet 3 (eCall F_heard (eCons (eVar 3) (eCons (eVar 0) (eCons (eVar 6) (eCons (eVar 7) eNil)))))))) (sRet (eCall F_sum_of (eCons (eVar 3) eNil))))))))))
def F_switching : Fn := runF 12 B_switching
def B__law_tape : Es :=
  (sSeq (sSet 1 (eFz (eLc [3] (eItems (eVar 0)) (tNm 3) pYes (eCl dAbs (eCons (eCl dInt (eCons (eVar 3) eNil)) eNil))))) (sSeq (sSet 2 (ret (.int 7))) (sSeq (sFor (eItems (eVar 1)) (tNm 3) (sSet 2 (eBin dMod (eCl dInt (eCons (eBin dAdd (eBin dMul (eVar 2) (ret (.int 31))) (eVar 3)) eNil)) (ret (.int 2147483647))))) (sRet (eNewO (eDp (eDisp (ret (.str [99, 101, 108, 108, 115])) (eVar 1) (eDisp (ret (.str [97, 116])) (ret (.int 0)) (eDisp (ret (.str [108, 101, 102, 116])) (ret (.int 0)) (eDisp (ret (.str [115, 101, 101, 100])) (eVar 2) (eDisp (ret (.str [115, 97, 108, 116])) (ret (.int 0)) (ret []))))))))))))
def F__law_tape : Fn := runF 4 B__law_tape
def B__law_take : Es :=
  (sSeq (sIf (eAndT (eB (eBin dEq (eDGet (eVar 0) (ret (.str [108, 101, 102, 116]))) (ret (.int 0)))) (eB (eBin dLt (eDGet (eVar 0) (ret (.str [97, 116]))) (eCl dLen (eCons (eDGet (eVar 0) (ret (.str [99, 101, 108, 108, 115]))) eNil))))) (sSeq (sDPutO (eVar 0) (ret (.str [108, 101, 102, 116])) (eBin dIx (eDGet (eVar 0) (ret (.str [99, 101, 108, 108, 115]))) (eDGet (eVar 0) (ret (.str [97, 116]))))) (sDPutO (eVar 0) (ret (.str [97, 116])) (eBin dAdd (eDGet (eVar 0) (ret (.str [97, 116]))) (ret (.int 1))))) sNil) (sSeq (sIf (eB (eBin dGt (eDGet (eVar 0) (ret (.str [108, 101, 102, 116]))) (ret (.int 0)))) (sSeq (sSet 2 (eBin dMod (eCl dInt (eCons (eDGet (eVar 0) (ret (.str [108, 101, 102, 116]))) eNil)) (eVar 1))) (sSeq (sDPutO (eVar 0) (ret (.str [108, 101, 102, 116])) (eBin dDiv (eDGet (eVar 0) (ret (.str [108, 101, 102, 116]))) (eVar 1))) (sRet (eVar 2)))) sNil) (sSeq (sDPutO (eVar 0) (ret (.str [115, 97, 108, 116])) (eBin dAdd (eDGet (eVar 0) (ret (.str [115, 97, 108, 116]))) (ret (.int 1)))) (sSeq (sSet 3 (eBin dMod (eCl dInt (eCons (eBin dAdd (eBin dMul (eDGet (eVar 0) (ret (.str [115, 101, 101, 100]))) (ret (.int 48271))) (eBin dMul (eDGet (eVar 0) (ret (.str [115, 97, 108, 116]))) (ret (.int 69621)))) eNil)) (ret (.int 2147483647)))) (sSeq (sSet 3 (eBin dMod (eCl dInt (eCons (eBin dAdd (eBin dAdd (eBin dMul (eVar 3) (eVar 3)) (eBin dMul (eDGet (eVar 0) (ret (.str [115, 97, 108, 116]))) (ret (.int 40692)))) (ret (.int 12345))) eNil)) (ret (.int 2147483399)))) (sRet (eBin dMod (eCl dInt (eCons (eVar 3) eNil)) (eVar 1))))))))
def F__law_take : Fn := runF 4 B__law_take
def B__law_other : Es :=
  (sRet (eBin dJoin (ret (.str [])) (eFz (eLc [1] (eItems (eVar 0)) (tNm 1) pYes (eBin dIx (ret (.str [49, 48])) (eCl dInt (eCons (eVar 1) eNil)))))))
def F__law_other : Fn := runF 2 B__law_other
def B__law_bits : Es :=
  (sRet (eBin dJoin (ret (.str [])) (eFz (eLc [3] (eRange dRange1 (eCons (eBin dAdd (eVar 1) (eCall F__law_take (eCons (eVar 0) (eCons (eBin dAdd (eBin dSub (eVar 2) (eVar 1)) (ret (.int 1))) eNil)))) eNil)) (tNm 3) pYes (eBin dIx (ret (.str [48, 49])) (eCall F__law_take (eCons (eVar 0) (eCons (ret (.int 2)) eNil))))))))
def F__law_bits : Fn := runF 4 B__law_bits
def B__law_trees_right : Es :=
  (sSeq (sSet 1 (eCall F__law_take (eCons (eVar 0) (eCons (ret (.int 3)) eNil)))) (sSeq (sAsg (tTp (tCs (tNm 2) (tCs (tNm 3) tNl))) (eTup (eCons (eCall F__law_bits (eCons (eVar 0) (eCons (eVar 1) (eCons (eVar 1) eNil)))) (eCons (eCall F__law_bits (eCons (eVar 0) (eCons (ret (.int 0)) (eCons (ret (.int 7)) eNil)))) eNil)))) (sSeq (sSet 4 (eCall F_tree_share (eCons (eVar 3) (eCons (eVar 1) (eCons (eVar 2) eNil))))) (sSeq (sIf (eOrT (eB (eBin dNe (eCall F_tree_share (eCons (eCall F__law_other (eCons (eVar 3) eNil)) (eCons (eVar 1) (eCons (eCall F__law_other (eCons (eVar 2) eNil)) eNil)))) (eVar 4))) (eB (eBin dNe (eCall F_plus (eCons (eCall F_tree_share (eCons (eBin dAdd (eVar 3) (ret (.str [48]))) (eCons (eVar 1) (eCons (eVar 2) eNil)))) (eCons (eCall F_tree_share (eCons (eBin dAdd (eVar 3) (ret (.str [49]))) (eCons (eVar 1) (eCons (eVar 2) eNil)))) eNil))) (eVar 4)))) (sRet (ret (.bl false))) sNil) (sSeq (sSet 5 (eCall F_next_share (eCons (eVar 3) (eCons (eVar 1) (eCons (eVar 2) eNil))))) (sSeq (sIf (eOrT (eB (eBin dNe (eCall F_plus (eCons (eVar 5) (eCons (eCall F_next_share (eCons (eCall F__law_other (eCons (eVar 3) eNil)) (eCons (eVar 1) (eCons (eCall F__law_other (eCons (eVar 2) eNil)) eNil)))) eNil))) (eTup (eCons (ret (.int 1)) (eCons (ret (.int 1)) eNil))))) (eB (eBin dNe (eCall F_times (eCons (eVar 5) (eCons (eVar 4) eNil))) (eCall F_tree_share (eCons (eBin dAdd (eVar 3) (ret (.str [49]))) (eCons (eVar 1) (eCons (eVar 2) eNil))))))) (sRet (ret (.bl false))) sNil) (sSeq (sAsg (tTp (tCs (tNm 6) (tCs (tNm 7) tNl))) (eCall F_best_tree (eCons (eVar 3) (eCons (eVar 1) (eCons (eVar 2) eNil))))) (sSeq (sSet 8 (eFz (eLc [14] (eItems (eCall (F_trees_of 3) (eCons (eVar 1) eNil))) (tNm 14) pYes (eCall F_times (eCons (eCall F_weight_of (eCons (eVar 14) (eCons (eVar 1) eNil))) (eCons (eCall F_share_by (eCons (eVar 3) (eCons (eVar 14) (eCons (eVar 1) (eCons (eVar 2) eNil))))) eNil)))))) (sSeq (sIf (eOrT (eB (eBin dNe (eCall F_sum_of (eCons (eVar 8) eNil)) (eVar 4))) (eOrT (eB (eBin dNe (eCall F_sum_of (eCons (eFz (eLc [14] (eItems (eCall (F_trees_of 3) (eCons (eVar 1) eNil))) (tNm 14) pYes (eCall F_weight_of (eCons (eVar 14) (eCons (eVar 1) eNil))))) eNil)) (eTup (eCons (ret (.int 1)) (eCons (ret (.int 1)) eNil))))) (eOrT (eB (eCl dAny (eCons (eFz (eLc [14] (eItems (eVar 8)) (tNm 14) pYes (eCall F_less (eCons (eVar 6) (eCons (eVar 14) eNil))))) eNil))) (eB (eBin (inD true) (eVar 6) (eVar 8)))))) (sRet (ret (.bl false))) sNil) (sSeq (sIf (eOrT (eB (eBin dNe (eCall F_times (eCons (eCall F_weight_of (eCons (eVar 7) (eCons (eVar 1) eNil))) (eCons (eCall F_share_by (eCons (eVar 3) (eCons (eVar 7) (eCons (eVar 1) (eCons (eVar 2) eNil))))) eNil))) (eVar 6))) (eB (eBin dNe (eBin dIx (eCall F_best_tree (eCons (eCall F__law_other (eCons (eVar 3) eNil)) (eCons (eVar 1) (eCons (eCall F__law_other (eCons (eVar 2) eNil)) eNil)))) (ret (.int 0))) (eVar 6)))) (sRet (ret (.bl false))) sNil) (sSeq (sIf (eB (eBin dLt (eVar 1) (ret (.int 2)))) (sSeq (sSet 9 (eBin dAdd (eBin dIx (ret (.str [48, 49])) (eCall F__law_take (eCons (eVar 0) (eCons (ret (.int 2)) eNil)))) (eVar 2))) (sSeq (sSet 10 (eCall F_tree_share (eCons (eVar 3) (eCons (eBin dAdd (eVar 1) (ret (.int 1))) (eCons (eVar 9) eNil))))) (sIf (eAndT (eB (eBin dEq (eVar 1) (ret (.int 0)))) (eOrT (eB (eCall F_less (eCons (eVar 10) (eCons (eCall F_times (eCons (eTup (eCons (ret (.int 1)) (eCons (ret (.int 2)) eNil))) (eCons (eVar 4) eNil))) eNil)))) (eB (eBin dNe (eVar 4) (eCall F_half_share (eCons (eCl dLen (eCons (eFz (eLc [15] (eItems (eVar 3)) (tNm 15) (eB (eBin dEq (eVar 15) (ret (.str [48])))) (eVar 15))) eNil)) (eCons (eCl dLen (eCons (eFz (eLc [15] (eItems (eVar 3)) (tNm 15) (eB (eBin dEq (eVar 15) (ret (.str [49])))) (eVar 15))) eNil)) eNil))))))) (sRet (ret (.bl false))) sNil))) sNil) (sSeq (sPar 11 12 (eCons (eCall F__law_take (eCons (eVar 0) (eCons (ret (.int 9)) eNil))) (eCons (eCall F__law_take (eCons (eVar 0) (eCons (ret (.int 9)) eNil))) eNil))) (sSeq (sIf (eOrT (eB (eBin dNe (eCall F_half_share (eCons (eVar 11) (eCons (eVar 12) eNil))) (eCall F_half_share (eCons (eVar 12) (eCons (eVar 11) eNil))))) (eB (eBin dNe (eCall F_best_share (eCons (eVar 11) (eCons (eVar 12) eNil))) (eCall F_best_share (eCons (eVar 12) (eCons (eVar 11) eNil)))))) (sRet (ret (.bl false))) sNil) (sSeq (sIf (eB (eBin dNe (eCall F_times (eCons (eCall F_half_share (eCons (eVar 11) (eCons (eVar 12) eNil))) (eCons (eCall F_share (eCons (eBin dAdd (eBin dMul (ret (.int 2)) (eVar 12)) (ret (.int 1))) (eCons (eBin dMul (ret (.int 2)) (eBin dAdd (eBin dAdd (eVar 11) (eVar 12)) (ret (.int 1)))) eNil))) eNil))) (eCall F_half_share (eCons (eVar 11) (eCons (eBin dAdd (eVar 12) (ret (.int 1))) eNil))))) (sRet (ret (.bl false))) sNil) (sSeq (sIf (eB (eBin dNe (eCall F_plus (eCons (eCall F_half_share (eCons (eBin dAdd (eVar 11) (ret (.int 1))) (eCons (eVar 12) eNil))) (eCons (eCall F_half_share (eCons (eVar 11) (eCons (eBin dAdd (eVar 12) (ret (.int 1))) eNil))) eNil))) (eCall F_half_share (eCons (eVar 11) (eCons (eVar 12) eNil))))) (sRet (ret (.bl false))) sNil) (sSeq (sIf (eOrT (eB (eBin dNe (eCall F_best_share (eCons (eBin dMul (ret (.int 2)) (eVar 11)) (eCons (eBin dMul (ret (.int 2)) (eVar 12)) eNil))) (eCall F_times (eCons (eCall F_best_share (eCons (eVar 11) (eCons (eVar 12) eNil))) (eCons (eCall F_best_share (eCons (eVar 11) (eCons (eVar 12) eNil))) eNil))))) (eB (eCall F_less (eCons (eCall F_best_share (eCons (eVar 11) (eCons (eVar 12) eNil))) (eCons (eCall F_half_share (eCons (eVar 11) (eCons (eVar 12) eNil))) eNil))))) (sRet (ret (.bl false))) sNil) (sSeq (sSet 13 (eCall F_half_lost (eCons (eVar 11) (eCons (eVar 12) eNil)))) (sRet (eAnd (eBin dEq (eVar 13) (eCall F_half_lost (eCons (eVar 12) (eCons (eVar 11) eNil)))) (eAnd (eNot (eCall F_less (eCons (eVar 13) (eCons (eTup (eCons (ret (.int 1)) (eCons (ret (.int 1)) eNil))) eNil)))) (eBin dLe (eBin dMul (eBin dIx (eVar 13) (ret (.int 0))) (eBin dIx (eVar 13) (ret (.int 0)))) (eBin dMul (eBin dMul (eBin dMul (ret (.int 4)) (eCl dMax2 (eCons (ret (.int 1)) (eCons (eBin dAdd (eVar 11) (eVar 12)) eNil)))) (eBin dIx (eVar 13) (ret (.int 1)))) (eBin dIx (eVar 13) (ret (.int 1)))))))))))))))))))))))))
def F__law_trees_right : Fn := runF 16 B__law_trees_right
def B__law_row : Es :=
  (sSeq (sOwn 2 (eLst eNil)) (sSeq (sFor (eRange dRange1 (eCons (eVar 1) eNil)) (tNm 3) (sSeq (sSet 4 (eBin dAdd (ret (.int 2)) (eCall F__law_take (eCons (eVar 0) (eCons (ret (.int 7)) eNil))))) (sExpr (eMtL 2 mAppend (eCall F_share (eCons (eBin dAdd (ret (.int 1)) (eCall F__law_take (eCons (eVar 0) (eCons (eBin dSub (eVar 4) (ret (.int 1))) eNil)))) (eCons (eVar 4) eNil))))))) (sRet (eCl1 dTuple 2))))
def F__law_row : Fn := runF 5 B__law_row
def B__law_voices_right : Es :=
  (sSeq (sSet 1 (eCall F__law_bits (eCons (eVar 0) (eCons (ret (.int 1)) (eCons (ret (.int 6)) eNil))))) (sSeq (sSet 2 (eCl dTuple (eCons (eFz (eLc [18] (eRange dRange1 (eCons (eBin dAdd (ret (.int 1)) (eCall F__law_take (eCons (eVar 0) (eCons (ret (.int 4)) eNil)))) eNil)) (tNm 18) pYes (eCall F__law_row (eCons (eVar 0) (eCons (eCl dLen (eCons (eVar 1) eNil)) eNil))))) eNil))) (sSeq (sAsg (tTp (tCs (tNm 3) (tCs (tNm 4) tNl))) (eTup (eCons (eCall F_mixed_share (eCons (eVar 2) (eCons (eVar 1) eNil))) (eCons (eCall F_said_next (eCons (eVar 2) (eCons (eVar 1) eNil))) eNil)))) (sSeq (sIf (eOrT (eB (eBin dNe (eCall F_mixed_share (eCons (eUn dRev (eVar 2)) (eCons (eVar 1) eNil))) (eVar 3))) (eOrT (eB (eBin dNe (eCall F_said_next (eCons (eUn dRev (eVar 2)) (eCons (eVar 1) eNil))) (eVar 4))) (eOrT (eB (eBin dNe (eCall F_mixed_share (eCons (eBin dAdd (eVar 2) (eVar 2)) (eCons (eVar 1) eNil))) (eVar 3))) (eB (eBin dNe (eCall F_said_next (eCons (eBin dAdd (eVar 2) (eVar 2)) (eCons (eVar 1) eNil))) (eVar 4)))))) (sRet (ret (.bl false))) sNil) (sSeq (sSet 5 (eCl dTuple (eCons (eFz (eLc [16] (eItems (eVar 2)) (tNm 16) pYes (eCl dTuple (eCons (eFz (eLc [20, 13] (eItems (eVar 16)) (tTp (tCs (tNm 20) (tCs (tNm 13) tNl))) pYes (eTup (eCons (eBin dSub (eVar 13) (eVar 20)) (eCons (eVar 13) eNil))))) eNil)))) eNil))) (sSeq (sIf (eOrT (eB (eBin dNe (eCall F_mixed_share (eCons (eVar 5) (eCons (eCall F__law_other (eCons (eVar 1) eNil)) eNil))) (eVar 3))) (eB (eBin dNe (eCall F_said_next (eCons (eVar 5) (eCons (eCall F__law_other (eCons (eVar 1) eNil)) eNil))) (eCl dTuple (eCons (eFz (eLc [20, 13] (eItems (eVar 4)) (tTp (tCs (tNm 20) (tCs (tNm 13) tNl))) pYes (eTup (eCons (eBin dSub (eVar 13) (eVar 20)) (eCons (eVar 13) eNil))))) eNil))))) (sRet (ret (.bl false))) sNil) (sSeq (sIf (eOrT (eB (eBin dNe (eCall F_voice_share (eCons (eVar 4) (eCons (eVar 1) eNil))) (eVar 3))) (eB (eCl dAny (eCons (eFz (eLc [18] (eRange dRange1 (eCons (eCl dLen (eCons (eVar 2) eNil)) eNil)) (tNm 18) pYes (eBin dNe (eCall F_voice_share (eCons (eBin dIx (eVar 5) (eVar 18)) (eCons (eCall F__law_other (eCons (eVar 1) eNil)) eNil))) (eCall F_voice_share (eCons (eBin dIx (eVar 2) (eVar 18)) (eCons (eVar 1) eNil)))))) eNil)))) (sRet (ret (.bl false))) sNil) (sSeq (sSet 6 (eCall F__law_take (eCons (eVar 0) (eCons (eBin dAdd (eCl dLen (eCons (eVar 1) eNil)) (ret (.int 1))) eNil)))) (sSeq (sSet 7 (eCl dTuple (eCons (eFz (eLc [16] (eItems (eVar 2)) (tNm 16) pYes (eSl (eVar 16) (ret none) (ePart (eVar 6))))) eNil))) (sSeq (sIf (eOrT (eB (eBin dNe (eCall F_said_next (eCons (eVar 7) (eCons (eSl (eVar 1) (ret none) (ePart (eVar 6))) eNil))) (eSl (eVar 4) (ret none) (ePart (eVar 6))))) (eB (eBin dNe (eCall F_times (eCons (eCall F_mixed_share (eCons (eVar 7) (eCons (eSl (eVar 1) (ret none) (ePart (eVar 6))) eNil))) (eCons (eCall F_voice_share (eCons (eSl (eVar 4) (ePart (eVar 6)) (ret none)) (eCons (eSl (eVar 1) (ePart (eVar 6)) (ret none)) eNil))) eNil))) (eVar 3)))) (sRet (ret (.bl false))) sNil) (sSeq (sSet 8 (eFz (eLc [16] (eItems (eVar 2)) (tNm 16) pYes (eCall F_voice_share (eCons (eVar 16) (eCons (eVar 1) eNil)))))) (sSeq (sIf (eOrT (eB (eBin dNe (eVar 3) (eCall F_times (eCons (eCall F_share (eCons (ret (.int 1)) (eCons (eCl dLen (eCons (eVar 2) eNil)) eNil))) (eCons (eCall F_sum_of (eCons (eVar 8) eNil)) eNil))))) (eB (eCl dAny (eCons (eFz (eLc [19] (eItems (eVar 8)) (tNm 19) pYes (eCall F_less (eCons (eVar 3) (eCons (eCall F_times (eCons (eCall F_share (eCons (ret (.int 1)) (eCons (eCl dLen (eCons (eVar 2) eNil)) eNil))) (eCons (eVar 19) eNil))) eNil))))) eNil)))) (sRet (ret (.bl false))) sNil) (sSeq (sAsg (tTp (tCs (tNm 9) (tCs (tNm 10) (tCs (tNm 11) tNl)))) (eCall F_most_lost (eCons (eVar 2) (eCons (eVar 1) eNil)))) (sSeq (sIf (eOrT (eB (eBin dNe (eVar 9) (eCall F_bits_for (eCons (eVar 3) eNil)))) (eOrT (eB (eBin dGt (eVar 9) (eBin dAdd (eVar 10) (eVar 11)))) (eB (eBin dNe (eCall F_most_lost (eCons (eUn dRev (eVar 2)) (eCons (eVar 1) eNil))) (eTup (eCons (eVar 9) (eCons (eVar 10) (eCons (eVar 11) eNil)))))))) (sRet (ret (.bl false))) sNil) (sSeq (sSet 12 (eFz (eLc [17] (eItems (ret (.str [48, 49]))) (tNm 17) pYes (eBin dAdd (eSl (eVar 1) (ret none) (ePart (eBin dSub (eCl dLen (eCons (eVar 1) eNil)) (ret (.int 1))))) (eVar 17))))) (sSeq (sIf (eB (eBin dNe (eCall F_sum_of (eCons (eFz (eLc [16] (eItems (eVar 12)) (tNm 16) pYes (eCall F_mixed_share (eCons (eVar 2) (eCons (eVar 16) eNil))))) eNil)) (eCall F_mixed_share (eCons (eCl dTuple (eCons (eFz (eLc [16] (eItems (eVar 2)) (tNm 16) pYes (eSl (eVar 16) (ret none) (ePart (eBin dSub (eCl dLen (eCons (eVar 1) eNil)) (ret (.int 1))))))) eNil)) (eCons (eSl (eVar 1) (ret none) (ePart (eBin dSub (eCl dLen (eCons (eVar 1) eNil)) (ret (.int 1))))) eNil))))) (sRet (ret (.bl false))) sNil) (sSeq (sIf (eB (eBin dGt (eCl dLen (eCons (eVar 2) eNil)) (ret (.int 1)))) (sSeq (sSet 13 (eBin dAdd (ret (.int 2)) (eCall F__law_take (eCons (eVar 0) (eCons (ret (.int 7)) eNil))))) (sSeq (sSet 14 (eCall F_share (eCons (eBin dAdd (ret (.int 1)) (eCall F__law_take (eCons (eVar 0) (eCons (eBin dSub (eVar 13) (ret (.int 1))) eNil)))) (eCons (eVar 13) eNil)))) (sSeq (sSet 15 (eCall F_switching (eCons (eVar 2) (eCons (eVar 1) (eCons (eVar 14) eNil))))) (sSeq (sIf (eOrT (eB (eBin dNe (eCall F_switching (eCons (eUn dRev (eVar 2)) (eCons (eVar 1) (eCons (eVar 14) eNil)))) (eVar 15))) (eB (eBin dNe (eCall F_switching (eCons (eVar 5) (eCons (eCall F__law_other (eCons (eVar 1) eNil)) (eCons (eVar 14) eNil)))) (eVar 15)))) (sRet (ret (.bl false))) sNil) (sSeq (sIf (eB (eBin dNe (eCall F_sum_of (eCons (eFz (eLc [16] (eItems (eVar 12)) (tNm 16) pYes (eCall F_switching (eCons (eVar 2) (eCons (eVar 16) (eCons (eVar 14) eNil)))))) eNil)) (eIf (eB (eBin dGt (eCl dLen (eCons (eVar 1) eNil)) (ret (.int 1)))) (eCall F_switching (eCons (eCl dTuple (eCons (eFz (eLc [16] (eItems (eVar 2)) (tNm 16) pYes (eSl (eVar 16) (ret none) (ePart (eBin dSub (eCl dLen (eCons (eVar 1) eNil)) (ret (.int 1))))))) eNil)) (eCons (eSl (eVar 1) (ret none) (ePart (eBin dSub (eCl dLen (eCons (eVar 1) eNil)) (ret (.int 1))))) (eCons (eVar 14) eNil)))) (eTup (eCons (ret (.int 1)) (eCons (ret (.int 1)) eNil)))))) (sRet (ret (.bl false))) sNil) (sIf (eOrT (eB (eBin dNe (eCall F_switching (eCons (eTup (eCons (eBin dIx (eVar 2) (ret (.int 0))) (eCons (eBin dIx (eVar 2) (ret (.int 0))) eNil))) (eCons (eVar 1) (eCons (eVar 14) eNil)))) (eBin dIx (eVar 8) (ret (.int 0))))) (eAndT (eB (eBin dEq (eCl dLen (eCons (eVar 1) eNil)) (ret (.int 1)))) (eB (eBin dNe (eVar 15) (eVar 3))))) (sRet (ret (.bl false))) sNil)))))) sNil) (sRet (eAnd (eBin dEq (eCall F_over (eCons (eVar 3) (eCons (eVar 3) eNil))) (eTup (eCons (ret (.int 1)) (eCons (ret (.int 1)) eNil)))) (eBin dEq (eCall F_share_text (eCons (eCall F_share (eCons (ret (.int 2)) (eCons (ret (.int 4)) eNil))) eNil)) (ret (.str [49, 47, 50]))))))))))))))))))))))
def F__law_voices_right : Fn := runF 21 B__law_voices_right
def B_law : Es :=
  (sSeq (sSet 1 (eCall F__law_tape (eCons (eVar 0) eNil))) (sRet (eAnd (eCall F__law_trees_right (eCons (eVar 1) eNil)) (eCall F__law_voices_right (eCons (eVar 1) eNil)))))
def F_law : Fn := runF 2 B_law
end LW

set_option Elab.async false
set_option linter.all false
set_option maxRecDepth 100000
set_option exponentiation.threshold 100000
namespace LW
open PySem PySem.Spec PyProof.Rows L2 DL

/-- a fraction as the program writes it -/
def pr (q : Rat) : D := .tup [.int q.num, .int q.den]
theorem o_abs (n : Int) : dAbs [.int n] = some (.int (n.natAbs : Int)) := by simp [dAbs]; omega
theorem rat_parts {n : Int} {d : Nat} (hd : d ≠ 0) : ((n : Rat) / ((d : Int) : Rat)).num = n / (Nat.gcd n.natAbs d : Int) ∧ (((n : Rat) / ((d : Int) : Rat)).den : Int) = (d : Int) / (Nat.gcd n.natAbs d : Int) := by
  rw [show (((d : Int)) : Rat) = (d : Rat) from rfl, ← Rat.mkRat_eq_div, Rat.mkRat_def, dif_neg hd, Rat.normalize_eq]
  exact ⟨rfl, by simp⟩
/-- the greatest measure of two by dividing -/
theorem gcd_loop (x0 x1 : D) (S : List O) (a b : Nat) (hm : a.log2 + b.log2 + 3 < FUEL) :
    sWhile (eB (eBin dGt (eVar 3) (ret (.int 0)))) (sPar 2 3 (eCons (eVar 3) (eCons (eBin dMod (eVar 2) (eVar 3)) eNil))) ([.val x0, .val x1, .val (.int a), .val (.int b)], S) = some (.nx ([.val x0, .val x1, .val (.int (Nat.gcd a b)), .val (.int 0)], S)) := by
  have h := v_while (p := eB (eBin dGt (eVar 3) (ret (.int 0)))) (u := sPar 2 3 (eCons (eVar 3) (eCons (eBin dMod (eVar 2) (eVar 3)) eNil)))
    (st := fun c : Nat × Nat => ([.val x0, .val x1, .val (.int c.1), .val (.int c.2)], S)) (I := fun _ => True) (m := fun c => c.1.log2 + c.2.log2 + (if c.1 < c.2 then 1 else 0) + (if c.2 = 0 then 0 else 1))
    (R := fun c c' => Nat.gcd c.1 c.2 = Nat.gcd c'.1 c'.2) (fun _ => rfl) (fun _ _ _ h1 h2 => h1.trans h2) ?_ FUEL (a, b) trivial ?_
  · obtain ⟨⟨a', b'⟩, e1, _, e2, e3⟩ := h
    have hb : b' = 0 := by
      have : eB (eBin dGt (eVar 3) (ret (.int 0))) (([.val x0, .val x1, .val (.int a'), .val (.int b')], S) : Sto) = some (decide ((0 : Int) < b'), ([.val x0, .val x1, .val (.int a'), .val (.int b')], S)) := rfl
      rw [this] at e2
      simp at e2
      omega
    subst hb
    simp only [Nat.gcd_zero_right] at e3
    rw [e3]
    exact e1
  · rintro ⟨a, b⟩ _
    by_cases hb : b = 0
    · subst hb
      exact .inl rfl
    · refine .inr ⟨(b, a % b), ?_, ?_, trivial, ?_, ?_⟩
      · show some (decide ((0 : Int) < b), _) = _
        rw [decide_eq_true (show (0 : Int) < (b : Int) by omega)]
      · show sPar 2 3 (eCons (eVar 3) (eCons (eBin dMod (eVar 2) (eVar 3)) eNil)) ([.val x0, .val x1, .val (.int a), .val (.int b)], S) = _
        refine Eq.trans (v_par (v_cons (v_var rfl) (v_cons (v_bin (v_var rfl) (v_var rfl) (o_mod ?_)) v_nil))) rfl
        show (0 : Int) < (b : Int)
        omega
      · show b.log2 + (a % b).log2 + (if b < a % b then 1 else 0) + (if a % b = 0 then 0 else 1) < a.log2 + b.log2 + (if a < b then 1 else 0) + (if b = 0 then 0 else 1)
        have h1 := Nat.mod_lt a (show b > 0 by omega)
        rw [if_neg (show ¬ b < a % b by omega), if_neg hb]
        by_cases hab : a < b
        · rw [if_pos hab, Nat.mod_eq_of_lt hab]
          split <;> omega
        · rw [if_neg hab]
          by_cases hr : a % b = 0
          · rw [if_pos hr, hr]; simp; omega
          · rw [if_neg hr]
            have h2 : 2 * (a % b) ≤ a := by
              have := Nat.div_add_mod a b
              have h3 : 1 ≤ a / b := (Nat.one_le_div_iff (by omega)).mpr (by omega)
              have h4 : b * 1 ≤ b * (a / b) := Nat.mul_le_mul_left b h3
              omega
            have h5 : (a % b).log2 + 1 ≤ a.log2 := by
              have e1 : (2 * (a % b)).log2 = (a % b).log2 + 1 := Nat.log2_two_mul hr
              have e2 : (2 * (a % b)).log2 ≤ a.log2 := by
                have ha : a ≠ 0 := by omega
                exact (Nat.le_log2 ha).mpr (Nat.le_trans (Nat.log2_self_le (by omega)) h2)
              omega
            omega
      · show Nat.gcd a b = Nat.gcd b (a % b)
        rw [Nat.gcd_comm a b, Nat.gcd_rec b a, Nat.gcd_comm]
  · show a.log2 + b.log2 + (if a < b then 1 else 0) + (if b = 0 then 0 else 1) < FUEL
    split <;> split <;> omega

theorem share_pos {n : Int} {d : Nat} (hd : d ≠ 0) (h1 : n.natAbs < 2 ^ 90000) (h2 : d < 2 ^ 8990) (S : List O) : F_share [.int n, .int d] S = some (pr ((n : Rat) / ((d : Int) : Rat)), S) := by
  obtain ⟨e1, e2⟩ := rat_parts (n := n) hd
  unfold F_share
  apply v_run
  unfold B_share
  refine v_seq (s1 := ([.val (.int n), .val (.int d), .un, .un], S)) ?_ ?_
  · refine v_sIfF (v_B (v_bin (v_var rfl) v_ret ?_)) rfl
    rw [o_eqI]
    congr 2
    simp; omega
  refine v_seq (s1 := ([.val (.int n), .val (.int d), .un, .un], S)) ?_ ?_
  · refine v_sIfF (v_B (v_bin (v_var rfl) v_ret ?_)) rfl
    show some (D.bl (decide ((d : Int) < 0))) = _
    rw [decide_eq_false (by omega)]
  refine v_seq (s1 := ([.val (.int n), .val (.int d), .val (.int (n.natAbs : Int)), .val (.int (d : Int))], S)) ?_ ?_
  · refine v_par (v_cons (v_cl (v_cons (v_var rfl) v_nil) (o_abs n)) (v_cons (v_var rfl) v_nil))
  refine v_seq (gcd_loop (.int n) (.int d) S n.natAbs d ?_) ?_
  · have := lg h1
    have := lg h2
    show _ < 1000000
    omega
  have hg : 0 < Nat.gcd n.natAbs d := Nat.gcd_pos_of_pos_right _ (by omega)
  have hg2 : Nat.gcd n.natAbs d < 2 ^ 8990 := Nat.lt_of_le_of_lt (Nat.gcd_le_right _ (by omega)) h2
  have hl : (Nat.gcd n.natAbs d).log2 < 9000 := by have := lg hg2; omega
  refine v_rt (v_tup (v_cons (v_bin (v_var rfl) (v_var rfl) (o_div (by omega) (by simpa using hl))) (v_cons (v_bin (v_var rfl) (v_var rfl) (o_div (by omega) (by simpa using hl))) v_nil)) (by show 2 ≤ LIM; decide)) |>.trans ?_
  unfold pr
  rw [e1, e2]
end LW

set_option Elab.async false
set_option linter.all false
set_option maxRecDepth 100000
set_option exponentiation.threshold 100000
namespace LW
open PySem PySem.Spec PyProof.Rows L2 DL

def Sz (b : Nat) (q : Rat) : Prop := q.num.natAbs < 2 ^ b ∧ q.den < 2 ^ b
theorem Sz.mono {i j : Nat} {q : Rat} (h : Sz i q) (l : i ≤ j) : Sz j q :=
  ⟨Nat.lt_of_lt_of_le h.1 (Nat.pow_le_pow_right (by decide) l), Nat.lt_of_lt_of_le h.2 (Nat.pow_le_pow_right (by decide) l)⟩
theorem sz_parts {n : Int} {d k : Nat} (hd : d ≠ 0) (h1 : n.natAbs < 2 ^ k) (h2 : d < 2 ^ k) : Sz k ((n : Rat) / ((d : Int) : Rat)) := by
  obtain ⟨e1, e2⟩ := rat_parts (n := n) hd
  have hg : 0 < Nat.gcd n.natAbs d := Nat.gcd_pos_of_pos_right _ (by omega)
  constructor
  · rw [e1]
    have : (n / (Nat.gcd n.natAbs d : Int)).natAbs ≤ n.natAbs := by
      rw [Int.natAbs_ediv_of_dvd (Int.ofNat_dvd_left.mpr (Nat.gcd_dvd_left _ _)), Int.natAbs_natCast]
      exact Nat.div_le_self _ _
    omega
  · have : (((n : Rat) / ((d : Int) : Rat)).den : Int) = ((d / Nat.gcd n.natAbs d : Nat) : Int) := by rw [e2]; rfl
    have h3 : ((n : Rat) / ((d : Int) : Rat)).den = d / Nat.gcd n.natAbs d := by exact_mod_cast this
    rw [h3]
    exact Nat.lt_of_le_of_lt (Nat.div_le_self _ _) h2
theorem den_ne (q : Rat) : ((q.den : Int) : Rat) ≠ 0 := by
  have := q.den_nz
  intro h
  apply this
  have : ((q.den : Int) : Rat) = ((0 : Int) : Rat) := by rw [h]; rfl
  have := Rat.intCast_inj.mp this
  omega
theorem val_eq (q : Rat) : ((q.num : Int) : Rat) / ((q.den : Int) : Rat) = q := by
  rw [← Rat.divInt_eq_div]; exact Rat.num_divInt_den q
theorem add_parts (a b : Rat) : ((a.num * b.den + b.num * a.den : Int) : Rat) / (((a.den * b.den : Nat) : Int) : Rat) = a + b := by
  have h1 := den_ne a
  have h2 := den_ne b
  have e1 := val_eq a
  have e2 := val_eq b
  rw [show ((a.den * b.den : Nat) : Int) = (a.den : Int) * (b.den : Int) by push_cast; rfl]
  rw [Rat.intCast_add, Rat.intCast_mul, Rat.intCast_mul, Rat.intCast_mul]
  generalize ((a.num : Int) : Rat) = an at *
  generalize ((b.num : Int) : Rat) = bn at *
  generalize (((a.den : Int)) : Rat) = ad at *
  generalize (((b.den : Int)) : Rat) = bd at *
  grind
theorem mul_parts (a b : Rat) : ((a.num * b.num : Int) : Rat) / (((a.den * b.den : Nat) : Int) : Rat) = a * b := by
  have h1 := den_ne a
  have h2 := den_ne b
  have e1 := val_eq a
  have e2 := val_eq b
  rw [show ((a.den * b.den : Nat) : Int) = (a.den : Int) * (b.den : Int) by push_cast; rfl]
  rw [Rat.intCast_mul, Rat.intCast_mul]
  generalize ((a.num : Int) : Rat) = an at *
  generalize ((b.num : Int) : Rat) = bn at *
  generalize (((a.den : Int)) : Rat) = ad at *
  generalize (((b.den : Int)) : Rat) = bd at *
  grind
theorem pow_mul_lt {x y i j : Nat} (h1 : x < 2 ^ i) (h2 : y < 2 ^ j) : x * y < 2 ^ (i + j) := by
  rw [Nat.pow_add]
  exact Nat.mul_lt_mul_of_lt_of_le h1 (Nat.le_of_lt h2) (Nat.two_pow_pos _)
theorem sz_num {a b : Rat} {i j : Nat} (ha : Sz i a) (hb : Sz j b) : (a.num * b.den + b.num * a.den).natAbs < 2 ^ (i + j + 1) := by
  have h1 : (a.num * b.den).natAbs < 2 ^ (i + j) := by rw [Int.natAbs_mul]; exact pow_mul_lt ha.1 hb.2
  have h2 : (b.num * a.den).natAbs < 2 ^ (i + j) := by rw [Int.natAbs_mul, Nat.mul_comm]; exact pow_mul_lt ha.2 hb.1
  have h3 := Int.natAbs_add_le (a.num * b.den) (b.num * a.den)
  rw [Nat.pow_succ]
  omega
theorem Sz.add {a b : Rat} {i j : Nat} (ha : Sz i a) (hb : Sz j b) : Sz (i + j + 1) (a + b) := by
  rw [← add_parts]
  refine sz_parts (Nat.mul_ne_zero a.den_nz b.den_nz) (sz_num ha hb) ?_
  exact Nat.lt_trans (pow_mul_lt ha.2 hb.2) (Nat.pow_lt_pow_right (by decide) (by omega))
theorem Sz.mul {a b : Rat} {i j : Nat} (ha : Sz i a) (hb : Sz j b) : Sz (i + j) (a * b) := by
  rw [← mul_parts]
  refine sz_parts (Nat.mul_ne_zero a.den_nz b.den_nz) ?_ (pow_mul_lt ha.2 hb.2)
  rw [Int.natAbs_mul]; exact pow_mul_lt ha.1 hb.1
theorem plus_ev {a b : Rat} {i j : Nat} (ha : Sz i a) (hb : Sz j b) (h : i + j ≤ 8900) (S : List O) : F_plus [pr a, pr b] S = some (pr (a + b), S) := by
  have e := share_pos (n := a.num * b.den + b.num * a.den) (d := a.den * b.den) (Nat.mul_ne_zero a.den_nz b.den_nz)
    (Nat.lt_of_lt_of_le (sz_num ha hb) (Nat.pow_le_pow_right (by decide) (by omega))) (Nat.lt_of_lt_of_le (pow_mul_lt ha.2 hb.2) (Nat.pow_le_pow_right (by decide) (by omega))) S
  rw [add_parts] at e
  unfold F_plus
  apply v_run
  unfold B_plus
  (repeat' (first | (with_reducible exact v_ret) | (with_reducible exact v_nil) | (with_reducible apply v_var; exact rfl) | (with_reducible apply v_bin) | (with_reducible apply v_cons) | (with_reducible apply v_call) | (with_reducible apply v_tup) | (with_reducible apply v_lst) | (with_reducible apply v_fz) | (with_reducible apply v_un) | (with_reducible apply v_cl) | (with_reducible apply v_cl1) | (with_reducible apply v_B) | (with_reducible apply v_items) | (with_reducible apply v_range) | (with_reducible apply v_arg) | (with_reducible apply v_part) | (with_reducible apply v_sl) | (with_reducible apply v_rt) | (with_reducible apply v_set) | (with_reducible apply v_own) | (with_reducible apply v_ownK) | (with_reducible apply v_par) | (with_reducible apply v_expr) | (with_reducible apply v_notT) | (with_reducible apply v_not) | (with_reducible apply v_for) | (with_reducible apply v_asg2) | (with_reducible apply o_mul) | (with_reducible apply o_mod) | (with_reducible apply o_div) | (with_reducible apply o_shl) | (with_reducible apply v_binL) | (with_reducible apply v_dget) | (with_reducible apply v_dputO) | (with_reducible apply v_newO) | (with_reducible apply v_disp) | (with_reducible apply v_dp) | exact rfl))
  case h2 => exact e
  all_goals
    have h1 := lg ha.1
    have h2 := lg ha.2
    have h3 := lg hb.1
    have h4 := lg hb.2
    try simp only [Int.natAbs_natCast]
    omega
theorem times_ev {a b : Rat} {i j : Nat} (ha : Sz i a) (hb : Sz j b) (h : i + j ≤ 8900) (S : List O) : F_times [pr a, pr b] S = some (pr (a * b), S) := by
  have e := share_pos (n := a.num * b.num) (d := a.den * b.den) (Nat.mul_ne_zero a.den_nz b.den_nz)
    (by rw [Int.natAbs_mul]; exact Nat.lt_of_lt_of_le (pow_mul_lt ha.1 hb.1) (Nat.pow_le_pow_right (by decide) (by omega))) (Nat.lt_of_lt_of_le (pow_mul_lt ha.2 hb.2) (Nat.pow_le_pow_right (by decide) (by omega))) S
  rw [mul_parts] at e
  unfold F_times
  apply v_run
  unfold B_times
  (repeat' (first | (with_reducible exact v_ret) | (with_reducible exact v_nil) | (with_reducible apply v_var; exact rfl) | (with_reducible apply v_bin) | (with_reducible apply v_cons) | (with_reducible apply v_call) | (with_reducible apply v_tup) | (with_reducible apply v_lst) | (with_reducible apply v_fz) | (with_reducible apply v_un) | (with_reducible apply v_cl) | (with_reducible apply v_cl1) | (with_reducible apply v_B) | (with_reducible apply v_items) | (with_reducible apply v_range) | (with_reducible apply v_arg) | (with_reducible apply v_part) | (with_reducible apply v_sl) | (with_reducible apply v_rt) | (with_reducible apply v_set) | (with_reducible apply v_own) | (with_reducible apply v_ownK) | (with_reducible apply v_par) | (with_reducible apply v_expr) | (with_reducible apply v_notT) | (with_reducible apply v_not) | (with_reducible apply v_for) | (with_reducible apply v_asg2) | (with_reducible apply o_mul) | (with_reducible apply o_mod) | (with_reducible apply o_div) | (with_reducible apply o_shl) | (with_reducible apply v_binL) | (with_reducible apply v_dget) | (with_reducible apply v_dputO) | (with_reducible apply v_newO) | (with_reducible apply v_disp) | (with_reducible apply v_dp) | exact rfl))
  case h2 => exact e
  all_goals
    have h1 := lg ha.1
    have h2 := lg ha.2
    have h3 := lg hb.1
    have h4 := lg hb.2
    try simp only [Int.natAbs_natCast]
    omega
theorem num_pos {b : Rat} (hb : 0 < b) : 0 < b.num := by
  have := (Rat.lt_iff 0 b).mp hb
  simpa using this
theorem div_parts {a b : Rat} (hb : 0 < b) : ((a.num * b.den : Int) : Rat) / (((a.den * b.num.natAbs : Nat) : Int) : Rat) = a / b := by
  have h0 := num_pos hb
  have h1 := den_ne a
  have h2 := den_ne b
  have e1 := val_eq a
  have e2 := val_eq b
  have h3 : (b.num : Rat) ≠ 0 := by
    intro h
    have : ((b.num : Int) : Rat) = ((0 : Int) : Rat) := by rw [h]; rfl
    have := Rat.intCast_inj.mp this
    omega
  rw [show ((a.den * b.num.natAbs : Nat) : Int) = (a.den : Int) * b.num by push_cast; rw [show ((b.num.natAbs : Nat) : Int) = b.num by omega]]
  rw [Rat.intCast_mul, Rat.intCast_mul]
  generalize ((a.num : Int) : Rat) = an at *
  generalize ((b.num : Int) : Rat) = bn at *
  generalize (((a.den : Int)) : Rat) = ad at *
  generalize (((b.den : Int)) : Rat) = bd at *
  grind
theorem Sz.div {a b : Rat} {i j : Nat} (ha : Sz i a) (hb : Sz j b) (h0 : 0 < b) : Sz (i + j) (a / b) := by
  have := num_pos h0
  rw [← div_parts h0]
  refine sz_parts (Nat.mul_ne_zero a.den_nz (by omega)) ?_ (pow_mul_lt ha.2 hb.1)
  rw [Int.natAbs_mul]; exact pow_mul_lt ha.1 hb.2
theorem over_ev {a b : Rat} {i j : Nat} (ha : Sz i a) (hb : Sz j b) (h0 : 0 < b) (h : i + j ≤ 8900) (S : List O) : F_over [pr a, pr b] S = some (pr (a / b), S) := by
  have hp := num_pos h0
  have e := share_pos (n := a.num * b.den) (d := a.den * b.num.natAbs) (Nat.mul_ne_zero a.den_nz (by omega))
    (by rw [Int.natAbs_mul]; exact Nat.lt_of_lt_of_le (pow_mul_lt ha.1 hb.2) (Nat.pow_le_pow_right (by decide) (by omega))) (Nat.lt_of_lt_of_le (pow_mul_lt ha.2 hb.1) (Nat.pow_le_pow_right (by decide) (by omega))) S
  rw [div_parts h0] at e
  rw [show ((a.den * b.num.natAbs : Nat) : Int) = (a.den : Int) * b.num by push_cast; rw [show ((b.num.natAbs : Nat) : Int) = b.num by omega]] at e
  unfold F_over
  apply v_run
  unfold B_over
  (repeat' (first | (with_reducible exact v_ret) | (with_reducible exact v_nil) | (with_reducible apply v_var; exact rfl) | (with_reducible apply v_bin) | (with_reducible apply v_cons) | (with_reducible apply v_call) | (with_reducible apply v_tup) | (with_reducible apply v_lst) | (with_reducible apply v_fz) | (with_reducible apply v_un) | (with_reducible apply v_cl) | (with_reducible apply v_cl1) | (with_reducible apply v_B) | (with_reducible apply v_items) | (with_reducible apply v_range) | (with_reducible apply v_arg) | (with_reducible apply v_part) | (with_reducible apply v_sl) | (with_reducible apply v_rt) | (with_reducible apply v_set) | (with_reducible apply v_own) | (with_reducible apply v_ownK) | (with_reducible apply v_par) | (with_reducible apply v_expr) | (with_reducible apply v_notT) | (with_reducible apply v_not) | (with_reducible apply v_for) | (with_reducible apply v_asg2) | (with_reducible apply o_mul) | (with_reducible apply o_mod) | (with_reducible apply o_div) | (with_reducible apply o_shl) | (with_reducible apply v_binL) | (with_reducible apply v_dget) | (with_reducible apply v_dputO) | (with_reducible apply v_newO) | (with_reducible apply v_disp) | (with_reducible apply v_dp) | exact rfl))
  case h2 => exact e
  all_goals
    have h1 := lg ha.1
    have h2 := lg ha.2
    have h3 := lg hb.1
    have h4 := lg hb.2
    try simp only [Int.natAbs_natCast]
    omega
theorem less_ev {a b : Rat} {i j : Nat} (ha : Sz i a) (hb : Sz j b) (h : i + j ≤ 8900) (S : List O) : F_less [pr a, pr b] S = some (.bl (decide (a < b)), S) := by
  unfold F_less
  apply v_run
  unfold B_less
  rw [decide_eq_decide.mpr (Rat.lt_iff a b)]
  (repeat' (first | (with_reducible exact v_ret) | (with_reducible exact v_nil) | (with_reducible apply v_var; exact rfl) | (with_reducible apply v_bin) | (with_reducible apply v_cons) | (with_reducible apply v_call) | (with_reducible apply v_tup) | (with_reducible apply v_lst) | (with_reducible apply v_fz) | (with_reducible apply v_un) | (with_reducible apply v_cl) | (with_reducible apply v_cl1) | (with_reducible apply v_B) | (with_reducible apply v_items) | (with_reducible apply v_range) | (with_reducible apply v_arg) | (with_reducible apply v_part) | (with_reducible apply v_sl) | (with_reducible apply v_rt) | (with_reducible apply v_set) | (with_reducible apply v_own) | (with_reducible apply v_ownK) | (with_reducible apply v_par) | (with_reducible apply v_expr) | (with_reducible apply v_notT) | (with_reducible apply v_not) | (with_reducible apply v_for) | (with_reducible apply v_asg2) | (with_reducible apply o_mul) | (with_reducible apply o_mod) | (with_reducible apply o_div) | (with_reducible apply o_shl) | (with_reducible apply v_binL) | (with_reducible apply v_dget) | (with_reducible apply v_dputO) | (with_reducible apply v_newO) | (with_reducible apply v_disp) | (with_reducible apply v_dp) | exact rfl))
  all_goals
    have h1 := lg ha.1
    have h2 := lg ha.2
    have h3 := lg hb.1
    have h4 := lg hb.2
    try simp only [Int.natAbs_natCast]
    omega
def rsum : List Rat → Rat
  | [] => 0
  | q :: qs => q + rsum qs
theorem sum_loop (X : D) (S : List O) (k : Nat) : ∀ (qs : List Rat) (q : Rat) (l : Sl) (m : Nat), Sz m q → (∀ x ∈ qs, Sz k x) → m + qs.length * (k + 1) + k ≤ 8900 →
    ∃ l', forL (tNm 2) (sSet 1 (eCall F_plus (eCons (eVar 1) (eCons (eVar 2) eNil)))) (qs.map pr) ([.val X, .val (pr q), l], S) = some (.nx ([.val X, .val (pr (q + rsum qs)), l'], S))
  | [], q, l, m, _, _, _ => ⟨l, by rw [show q + rsum [] = q from Rat.add_zero q]; rfl⟩
  | x :: qs, q, l, m, hq, hx, hm => by
    have hx0 := hx x (by simp)
    rw [List.length_cons, Nat.succ_mul] at hm
    obtain ⟨l', e⟩ := sum_loop X S k qs (q + x) (.val (pr x)) (m + k + 1) (hq.add hx0) (fun y hy => hx y (by simp [hy])) (by omega)
    refine ⟨l', ?_⟩
    rw [show q + rsum (x :: qs) = q + x + rsum qs from (Rat.add_assoc q x (rsum qs)).symm]
    refine v_for_cons rfl ?_ e
    refine Eq.trans (v_set (v_call (v_cons (v_var rfl) (v_cons (v_var rfl) v_nil)) (plus_ev hq hx0 (by omega) S))) rfl
theorem sz0 : Sz 1 0 := by unfold Sz; decide
theorem sz1 : Sz 1 1 := by unfold Sz; decide
theorem szh : Sz 2 (1 / 2) := by unfold Sz; decide +kernel
theorem pr0 : pr 0 = .tup [.int 0, .int 1] := rfl
theorem pr1 : pr 1 = .tup [.int 1, .int 1] := rfl
theorem prh : pr (1 / 2) = .tup [.int 1, .int 2] := by
  unfold pr
  rw [show ((1 : Rat) / 2).num = 1 by decide +kernel, show ((1 : Rat) / 2).den = 2 by decide +kernel]
  rfl
theorem sum_ev {k : Nat} {X : D} (qs : List Rat) (hX : items X = some (qs.map pr)) (hx : ∀ x ∈ qs, Sz k x) (hm : qs.length * (k + 1) + k ≤ 8800) (S : List O) : F_sum_of [X] S = some (pr (rsum qs), S) := by
  obtain ⟨l', e⟩ := sum_loop X S k qs 0 .un 1 sz0 hx (by omega)
  rw [Rat.zero_add] at e
  unfold F_sum_of
  apply v_run
  unfold B_sum_of
  apply v_seq
  · (repeat' (first | (with_reducible exact v_ret) | (with_reducible exact v_nil) | (with_reducible apply v_var; exact rfl) | (with_reducible apply v_bin) | (with_reducible apply v_cons) | (with_reducible apply v_call) | (with_reducible apply v_tup) | (with_reducible apply v_lst) | (with_reducible apply v_fz) | (with_reducible apply v_un) | (with_reducible apply v_cl) | (with_reducible apply v_cl1) | (with_reducible apply v_B) | (with_reducible apply v_items) | (with_reducible apply v_range) | (with_reducible apply v_arg) | (with_reducible apply v_part) | (with_reducible apply v_sl) | (with_reducible apply v_rt) | (with_reducible apply v_set) | (with_reducible apply v_own) | (with_reducible apply v_ownK) | (with_reducible apply v_par) | (with_reducible apply v_expr) | (with_reducible apply v_notT) | (with_reducible apply v_not) | (with_reducible apply v_for) | (with_reducible apply v_asg2) | (with_reducible apply o_mul) | (with_reducible apply o_mod) | (with_reducible apply o_div) | (with_reducible apply o_shl) | (with_reducible apply v_binL) | (with_reducible apply v_dget) | (with_reducible apply v_dputO) | (with_reducible apply v_newO) | (with_reducible apply v_disp) | (with_reducible apply v_dp) | exact rfl))
  apply v_seq
  · apply v_for
    · (repeat' (first | (with_reducible exact v_ret) | (with_reducible exact v_nil) | (with_reducible apply v_var; exact rfl) | (with_reducible apply v_bin) | (with_reducible apply v_cons) | (with_reducible apply v_call) | (with_reducible apply v_tup) | (with_reducible apply v_lst) | (with_reducible apply v_fz) | (with_reducible apply v_un) | (with_reducible apply v_cl) | (with_reducible apply v_cl1) | (with_reducible apply v_B) | (with_reducible apply v_items) | (with_reducible apply v_range) | (with_reducible apply v_arg) | (with_reducible apply v_part) | (with_reducible apply v_sl) | (with_reducible apply v_rt) | (with_reducible apply v_set) | (with_reducible apply v_own) | (with_reducible apply v_ownK) | (with_reducible apply v_par) | (with_reducible apply v_expr) | (with_reducible apply v_notT) | (with_reducible apply v_not) | (with_reducible apply v_for) | (with_reducible apply v_asg2) | (with_reducible apply o_mul) | (with_reducible apply o_mod) | (with_reducible apply o_div) | (with_reducible apply o_shl) | (with_reducible apply v_binL) | (with_reducible apply v_dget) | (with_reducible apply v_dputO) | (with_reducible apply v_newO) | (with_reducible apply v_disp) | (with_reducible apply v_dp) | exact rfl))
      exact hX
    · exact e
  (repeat' (first | (with_reducible exact v_ret) | (with_reducible exact v_nil) | (with_reducible apply v_var; exact rfl) | (with_reducible apply v_bin) | (with_reducible apply v_cons) | (with_reducible apply v_call) | (with_reducible apply v_tup) | (with_reducible apply v_lst) | (with_reducible apply v_fz) | (with_reducible apply v_un) | (with_reducible apply v_cl) | (with_reducible apply v_cl1) | (with_reducible apply v_B) | (with_reducible apply v_items) | (with_reducible apply v_range) | (with_reducible apply v_arg) | (with_reducible apply v_part) | (with_reducible apply v_sl) | (with_reducible apply v_rt) | (with_reducible apply v_set) | (with_reducible apply v_own) | (with_reducible apply v_ownK) | (with_reducible apply v_par) | (with_reducible apply v_expr) | (with_reducible apply v_notT) | (with_reducible apply v_not) | (with_reducible apply v_for) | (with_reducible apply v_asg2) | (with_reducible apply o_mul) | (with_reducible apply o_mod) | (with_reducible apply o_div) | (with_reducible apply o_shl) | (with_reducible apply v_binL) | (with_reducible apply v_dget) | (with_reducible apply v_dputO) | (with_reducible apply v_newO) | (with_reducible apply v_disp) | (with_reducible apply v_dp) | exact rfl))
theorem rsum_sz {k : Nat} (hk : 1 ≤ k) : ∀ (qs : List Rat), (∀ x ∈ qs, Sz k x) → Sz (qs.length * (k + 1) + 1) (rsum qs)
  | [], _ => sz0.mono (by simp)
  | x :: qs, h => by
    have := (h x (by simp)).add (rsum_sz hk qs fun y hy => h y (by simp [hy]))
    refine this.mono ?_
    rw [List.length_cons, Nat.succ_mul]
    omega
theorem pr_inj {a b : Rat} (h : pr a = pr b) : a = b := by
  unfold pr at h
  injection h with h
  injection h with h1 h2
  injection h2 with h2 _
  injection h1 with h1
  injection h2 with h2
  exact Rat.ext h1 (by omega)
theorem eqv_pr (a b : Rat) : eqv (pr a) (pr b) = decide (a = b) := by
  show (a.num == b.num && (((a.den : Nat) : Int) == ((b.den : Nat) : Int) && true)) = _
  rw [Bool.and_true]
  by_cases h : a = b
  · subst h; simp
  · rw [decide_eq_false h]
    cases e : (a.num == b.num && ((a.den : Int) == (b.den : Int)))
    · rfl
    · simp at e
      exact (h (Rat.ext e.1 (by have := e.2; omega))).elim
theorem flat_pr (a : Rat) : flat 8 (pr a) = true := rfl
theorem eq_pr (a b : Rat) : dEq (pr a) (pr b) = some (.bl (decide (a = b))) := by rw [← eqv_pr]; exact o_eq rfl rfl
theorem ne_pr (a b : Rat) : dNe (pr a) (pr b) = some (.bl (!decide (a = b))) := by rw [← eqv_pr]; exact o_ne rfl rfl
end LW

set_option Elab.async false
set_option linter.all false
set_option maxRecDepth 100000
set_option exponentiation.threshold 100000
namespace LW
open PySem PySem.Spec PyProof.Rows L2 DL

/-! ### the tape -/
def tpk (cells : List Nat) (a l se sa : Nat) : List (DK × D) :=
  [(.inr [99, 101, 108, 108, 115], .lst (cells.map fun c => .int (c : Nat))), (.inr [97, 116], .int a), (.inr [108, 101, 102, 116], .int l), (.inr [115, 101, 101, 100], .int se), (.inr [115, 97, 108, 116], .int sa)]
def tp (cells : List Nat) (a l se sa : Nat) : O := .dct (tpk cells a l se sa)
/-- a tape that has made at most n numbers of its own -/
def Tp (n : Nat) (S : List O) : Prop := ∃ cells a l se sa, S = [tp cells a l se sa] ∧ se < 2147483647 ∧ sa ≤ n ∧ cells.length < 1000
theorem tp_left (cells : List Nat) (a l se sa l' : Nat) : kPut (tpk cells a l se sa) (.inr [108, 101, 102, 116]) (.int l') = tpk cells a l' se sa := rfl
theorem tp_at (cells : List Nat) (a l se sa l' : Nat) : kPut (tpk cells a l se sa) (.inr [97, 116]) (.int l') = tpk cells l' l se sa := rfl
theorem tp_salt (cells : List Nat) (a l se sa l' : Nat) : kPut (tpk cells a l se sa) (.inr [115, 97, 108, 116]) (.int l') = tpk cells a l se l' := rfl
theorem tp_lim (cells : List Nat) (a l se sa : Nat) : (tpk cells a l se sa).length < LIM := by show 5 < LIM; decide
theorem get_left {cells : List Nat} {a l se sa : Nat} {ρ : List Sl} (h : ρ[0]? = some (.val (.ptr 0))) : eDGet (eVar 0) (ret (.str [108, 101, 102, 116])) (ρ, [tp cells a l se sa]) = some (.int l, (ρ, [tp cells a l se sa])) := v_dget (v_var h) v_ret rfl rfl rfl
theorem get_at {cells : List Nat} {a l se sa : Nat} {ρ : List Sl} (h : ρ[0]? = some (.val (.ptr 0))) : eDGet (eVar 0) (ret (.str [97, 116])) (ρ, [tp cells a l se sa]) = some (.int a, (ρ, [tp cells a l se sa])) := v_dget (v_var h) v_ret rfl rfl rfl
theorem get_cells {cells : List Nat} {a l se sa : Nat} {ρ : List Sl} (h : ρ[0]? = some (.val (.ptr 0))) : eDGet (eVar 0) (ret (.str [99, 101, 108, 108, 115])) (ρ, [tp cells a l se sa]) = some (.lst (cells.map fun c => .int (c : Nat)), (ρ, [tp cells a l se sa])) := v_dget (v_var h) v_ret rfl rfl rfl
theorem get_seed {cells : List Nat} {a l se sa : Nat} {ρ : List Sl} (h : ρ[0]? = some (.val (.ptr 0))) : eDGet (eVar 0) (ret (.str [115, 101, 101, 100])) (ρ, [tp cells a l se sa]) = some (.int se, (ρ, [tp cells a l se sa])) := v_dget (v_var h) v_ret rfl rfl rfl
theorem get_salt {cells : List Nat} {a l se sa : Nat} {ρ : List Sl} (h : ρ[0]? = some (.val (.ptr 0))) : eDGet (eVar 0) (ret (.str [115, 97, 108, 116])) (ρ, [tp cells a l se sa]) = some (.int sa, (ρ, [tp cells a l se sa])) := v_dget (v_var h) v_ret rfl rfl rfl
theorem put_left {cells : List Nat} {a l se sa l' : Nat} {ρ : List Sl} {f : Ev D} (h : ρ[0]? = some (.val (.ptr 0))) (hf : f (ρ, [tp cells a l se sa]) = some (.int l', (ρ, [tp cells a l se sa]))) : sDPutO (eVar 0) (ret (.str [108, 101, 102, 116])) f (ρ, [tp cells a l se sa]) = some (.nx (ρ, [tp cells a l' se sa])) :=
  v_dputO (y := .str [108, 101, 102, 116]) (kk := .inr [108, 101, 102, 116]) hf (v_var h) v_ret rfl rfl (tp_lim _ _ _ _ _)
theorem put_at {cells : List Nat} {a l se sa l' : Nat} {ρ : List Sl} {f : Ev D} (h : ρ[0]? = some (.val (.ptr 0))) (hf : f (ρ, [tp cells a l se sa]) = some (.int l', (ρ, [tp cells a l se sa]))) : sDPutO (eVar 0) (ret (.str [97, 116])) f (ρ, [tp cells a l se sa]) = some (.nx (ρ, [tp cells l' l se sa])) :=
  v_dputO (y := .str [97, 116]) (kk := .inr [97, 116]) hf (v_var h) v_ret rfl rfl (tp_lim _ _ _ _ _)
theorem put_salt {cells : List Nat} {a l se sa l' : Nat} {ρ : List Sl} {f : Ev D} (h : ρ[0]? = some (.val (.ptr 0))) (hf : f (ρ, [tp cells a l se sa]) = some (.int l', (ρ, [tp cells a l se sa]))) : sDPutO (eVar 0) (ret (.str [115, 97, 108, 116])) f (ρ, [tp cells a l se sa]) = some (.nx (ρ, [tp cells a l se l'])) :=
  v_dputO (y := .str [115, 97, 108, 116]) (kk := .inr [115, 97, 108, 116]) hf (v_var h) v_ret rfl rfl (tp_lim _ _ _ _ _)
theorem o_modN {a b : Nat} (h : 0 < b) : dMod (.int (a : Nat)) (.int (b : Nat)) = some (.int ((a % b : Nat) : Int)) := by rw [o_mod (by omega)]; simp
theorem o_divN {a b : Nat} (h : 0 < b) (h2 : b.log2 < 9000) : dDiv (.int (a : Nat)) (.int (b : Nat)) = some (.int ((a / b : Nat) : Int)) := by rw [o_div (by omega) (by simpa using h2)]; simp
theorem o_mulN {a b : Nat} (h : a.log2 + b.log2 < 1000000) : dMul (.int (a : Nat)) (.int (b : Nat)) = some (.int ((a * b : Nat) : Int)) := by rw [o_mul (by simpa using h)]; simp
theorem o_addN {a b : Nat} : dAdd (.int (a : Nat)) (.int (b : Nat)) = some (.int ((a + b : Nat) : Int)) := by show some (D.int _) = _; simp
theorem o_int {a : Int} : dInt [.int a] = some (.int a) := rfl
theorem lgs {a k : Nat} (h : a < 2 ^ k) (hk : k ≤ 1000) : a.log2 ≤ 1000 := Nat.le_trans (lg h) hk
theorem take_ev {m n : Nat} {S : List O} (hm : 0 < m) (hm2 : m < 2 ^ 100) (h : Tp n S) (hn : n < 2 ^ 100) : ∃ r S', F__law_take [.ptr 0, .int m] S = some (.int (r : Nat), S') ∧ r < m ∧ Tp (n + 1) S' := by
  obtain ⟨cells, a, l, se, sa, rfl, hse, hsa, hcl⟩ := h
  -- the first if: another cell, perhaps
  have h1 : ∃ a' l', sIf (eAndT (eB (eBin dEq (eDGet (eVar 0) (ret (.str [108, 101, 102, 116]))) (ret (.int 0)))) (eB (eBin dLt (eDGet (eVar 0) (ret (.str [97, 116]))) (eCl dLen (eCons (eDGet (eVar 0) (ret (.str [99, 101, 108, 108, 115]))) eNil))))) (sSeq (sDPutO (eVar 0) (ret (.str [108, 101, 102, 116])) (eBin dIx (eDGet (eVar 0) (ret (.str [99, 101, 108, 108, 115]))) (eDGet (eVar 0) (ret (.str [97, 116]))))) (sDPutO (eVar 0) (ret (.str [97, 116])) (eBin dAdd (eDGet (eVar 0) (ret (.str [97, 116]))) (ret (.int 1))))) sNil
      ([.val (.ptr 0), .val (.int m), .un, .un], [tp cells a l se sa]) = some (.nx ([.val (.ptr 0), .val (.int m), .un, .un], [tp cells a' l' se sa])) := by
    by_cases hl : l = 0
    · by_cases ha : a < cells.length
      · refine ⟨a + 1, cells[a], v_sIfT (v_andT (v_B (v_bin (get_left rfl) v_ret ?_)) (v_B (v_bin (get_at rfl) (v_cl (v_cons (get_cells rfl) v_nil) rfl) ?_))) (v_seq (put_left rfl (v_bin (get_cells rfl) (get_at rfl) ?_)) (put_at rfl (v_bin (get_at rfl) v_ret ?_)))⟩
        · rw [o_eqI, hl]; rfl
        · show some (D.bl (decide ((a : Int) < ((cells.map _).length : Nat)))) = _
          rw [List.length_map, decide_eq_true (by omega)]
        · show atI (cells.map fun c => D.int (c : Nat)) (a : Int) = _
          unfold atI ixN
          simp [ha]
        · exact o_addN (b := 1)
      · refine ⟨a, l, v_sIfF (v_andT (v_B (v_bin (get_left rfl) v_ret ?_)) (v_B (v_bin (get_at rfl) (v_cl (v_cons (get_cells rfl) v_nil) rfl) ?_))) rfl⟩
        · rw [o_eqI, hl]; rfl
        · show some (D.bl (decide ((a : Int) < ((cells.map _).length : Nat)))) = _
          rw [List.length_map, decide_eq_false (by omega)]
    · refine ⟨a, l, v_sIfF (v_andTF (v_B (v_bin (get_left rfl) v_ret ?_))) rfl⟩
      rw [o_eqI]
      congr 2
      simp; omega
  obtain ⟨a', l', h1⟩ := h1
  by_cases hl : 0 < l'
  · refine ⟨l' % m, [tp cells a' (l' / m) se sa], ?_, Nat.mod_lt _ hm, cells, a', l' / m, se, sa, rfl, hse, by omega, hcl⟩
    unfold F__law_take
    apply v_run
    unfold B__law_take
    refine v_seq h1 (v_seqR (v_sIfT (v_B (v_bin (get_left rfl) v_ret ?_)) (v_seq (v_set (v_bin (v_cl (v_cons (get_left rfl) v_nil) o_int) (v_var rfl) (o_modN hm))) (v_seq (put_left rfl (v_bin (get_left rfl) (v_var rfl) (o_divN hm ?_))) (v_rt (v_var rfl))))))
    · show some (D.bl (decide ((0 : Int) < (l' : Nat)))) = _
      rw [decide_eq_true (by omega)]
    · have := lg hm2; omega
  · let x1 := (se * 48271 + (sa + 1) * 69621) % 2147483647
    let x2 := (x1 * x1 + (sa + 1) * 40692 + 12345) % 2147483399
    have hx1 : x1 < 2 ^ 31 := Nat.lt_of_lt_of_le (Nat.mod_lt _ (by decide)) (by decide)
    refine ⟨x2 % m, [tp cells a' l' se (sa + 1)], ?_, Nat.mod_lt _ hm, cells, a', l', se, sa + 1, rfl, hse, by omega, hcl⟩
    have g1 : (sa + 1).log2 ≤ 101 := lg (k := 101) (by rw [Nat.pow_succ]; omega)
    have g2 : se.log2 ≤ 31 := lg (by omega)
    have g3 : x1.log2 ≤ 31 := lg hx1
    unfold F__law_take
    apply v_run
    unfold B__law_take
    refine v_seq h1 (v_seq (v_sIfF (v_B (v_bin (get_left rfl) v_ret ?_)) rfl) (v_seq (put_salt rfl (v_bin (get_salt rfl) v_ret (o_addN (b := 1)))) (v_seq (v_set (v_bin (v_cl (v_cons (v_bin (v_bin (get_seed rfl) v_ret (o_mulN (b := 48271) ?_)) (v_bin (get_salt rfl) v_ret (o_mulN (b := 69621) ?_)) o_addN) v_nil) o_int) v_ret (o_modN (b := 2147483647) (by decide))))
      (v_seq (v_set (v_bin (v_cl (v_cons (v_bin (v_bin (v_bin (v_var rfl) (v_var rfl) (o_mulN ?_)) (v_bin (get_salt rfl) v_ret (o_mulN (b := 40692) ?_)) o_addN) v_ret (o_addN (b := 12345))) v_nil) o_int) v_ret (o_modN (b := 2147483399) (by decide))))
      (v_rt (v_bin (v_cl (v_cons (v_var rfl) v_nil) o_int) (v_var rfl) (o_modN hm)))))))
    · show some (D.bl (decide ((0 : Int) < (l' : Nat)))) = _
      rw [decide_eq_false (by omega)]
    · have : (48271 : Nat).log2 ≤ 100 := by decide +kernel
      omega
    · have : (69621 : Nat).log2 ≤ 100 := by decide +kernel
      omega
    · show x1.log2 + x1.log2 < 1000000
      omega
    · have : (40692 : Nat).log2 ≤ 100 := by decide +kernel
      omega
def absD : D → D
  | .int a => .int (a.natAbs : Nat)
  | d => d
theorem tape_ev (ns : List Int) (h : ns.length ≤ 63) : ∃ S, F__law_tape [.scr ns] [] = some (.ptr 0, S) ∧ Tp 0 S := by
  have ec : (ns.map D.int).map absD = (ns.map Int.natAbs).map fun c => D.int (c : Nat) := by
    rw [List.map_map, List.map_map]; rfl
  have H := v_forI (t := tNm 3) (u := sSet 2 (eBin dMod (eCl dInt (eCons (eBin dAdd (eBin dMul (eVar 2) (ret (.int 31))) (eVar 3)) eNil)) (ret (.int 2147483647))))
    (fun _ s => ∃ (se : Nat) (l : Sl), s = ([.val (.scr ns), .val (.lst ((ns.map Int.natAbs).map fun c => D.int (c : Nat))), .val (.int se), l], []) ∧ se < 2147483647) ((ns.map Int.natAbs).map fun c => D.int (c : Nat)) [] ([.val (.scr ns), .val (.lst ((ns.map Int.natAbs).map fun c => D.int (c : Nat))), .val (.int (7 : Nat)), .un], []) ⟨7, .un, rfl, by decide⟩
  obtain ⟨s2, e2, se, l, rfl, hse⟩ := H (by
    rintro p x q s hx ⟨se, l, rfl, hse⟩
    have hm : x ∈ (ns.map Int.natAbs).map fun c => D.int (c : Nat) := by rw [List.nil_append] at hx; rw [hx]; simp
    obtain ⟨c, _, rfl⟩ := List.mem_map.mp hm
    refine ⟨_, _, rfl, v_set (v_bin (v_cl (v_cons (v_bin (v_bin (v_var rfl) v_ret (o_mulN (b := 31) ?_)) (v_var rfl) o_addN) v_nil) o_int) v_ret (o_modN (b := 2147483647) (by decide))), (se * 31 + c) % 2147483647, .val (.int c), rfl, Nat.mod_lt _ (by decide)⟩
    have := lg (x := se) (k := 31) (by omega)
    have : (31 : Nat).log2 ≤ 100 := by decide +kernel
    omega)
  refine ⟨[tp (ns.map Int.natAbs) 0 0 se 0], ?_, ns.map Int.natAbs, 0, 0, se, 0, rfl, hse, Nat.le_refl _, by rw [List.length_map]; omega⟩
  unfold F__law_tape
  apply v_run
  unfold B__law_tape
  refine v_seq (v_set (v_fz (v_map1 absD (v_items (v_var rfl) rfl) (by decide) rfl ?_ ?_))) ?_
  · rw [List.length_map]; show _ ≤ 16777216; omega
  · intro x hx
    obtain ⟨i, _, rfl⟩ := List.mem_map.mp hx
    refine v_cl (v_cons (v_cl (v_cons (v_var rfl) v_nil) o_int) v_nil) ?_
    show some (D.int (if i < 0 then -i else i)) = some (D.int (i.natAbs : Nat))
    congr 2
    split <;> omega
  · rw [ec]
    refine v_seq (v_set v_ret) (v_seq (v_for (v_items (v_var rfl) rfl) e2) ?_)
    apply v_rt
    apply Eq.trans
    · apply v_newO
      apply v_dp
      · (repeat' (first | (with_reducible exact v_ret) | (with_reducible exact v_nil) | (with_reducible apply v_var; exact rfl) | (with_reducible apply v_bin) | (with_reducible apply v_cons) | (with_reducible apply v_call) | (with_reducible apply v_tup) | (with_reducible apply v_lst) | (with_reducible apply v_fz) | (with_reducible apply v_un) | (with_reducible apply v_cl) | (with_reducible apply v_cl1) | (with_reducible apply v_B) | (with_reducible apply v_items) | (with_reducible apply v_range) | (with_reducible apply v_arg) | (with_reducible apply v_part) | (with_reducible apply v_sl) | (with_reducible apply v_rt) | (with_reducible apply v_set) | (with_reducible apply v_own) | (with_reducible apply v_ownK) | (with_reducible apply v_par) | (with_reducible apply v_expr) | (with_reducible apply v_notT) | (with_reducible apply v_not) | (with_reducible apply v_for) | (with_reducible apply v_asg2) | (with_reducible apply o_mul) | (with_reducible apply o_mod) | (with_reducible apply o_div) | (with_reducible apply o_shl) | (with_reducible apply v_binL) | (with_reducible apply v_dget) | (with_reducible apply v_dputO) | (with_reducible apply v_newO) | (with_reducible apply v_disp) | (with_reducible apply v_dp) | exact rfl))
      · show 5 ≤ 15; decide
    · exact rfl
end LW

set_option Elab.async false
set_option linter.all false
set_option maxRecDepth 100000
set_option exponentiation.threshold 100000
namespace LW
open PySem PySem.Spec PyProof.Rows L2 DL

/-! ### bits -/
def IsB (l : List Nat) : Prop := ∀ c ∈ l, c = 48 ∨ c = 49
theorem IsB.cons {c : Nat} {l : List Nat} (h : IsB (c :: l)) : (c = 48 ∨ c = 49) ∧ IsB l := ⟨h c (by simp), fun x hx => h x (by simp [hx])⟩
theorem IsB.app {l m : List Nat} (h : IsB l) (h2 : IsB m) : IsB (l ++ m) := fun c hc => (List.mem_append.mp hc).elim (h c) (h2 c)
def lim {n : Nat} (h : n ≤ 1000) : n ≤ LIM := Nat.le_trans h (by decide)
theorem asBs_map {α : Type} (p : α → Bool) : ∀ l : List α, asBs (l.map fun x => D.bl (p x)) = some (l.map p)
  | [] => rfl
  | x :: l => by
    show (asBs (l.map fun x => D.bl (p x))).map (p x :: ·) = _
    rw [asBs_map p l]; rfl
theorem all_bl {α : Type} (p : α → Bool) (l : List α) : dAll [.lst (l.map fun x => D.bl (p x))] = some (.bl (l.all p)) := by
  show (asBs _).map _ = _
  rw [asBs_map]
  show some (D.bl ((l.map p).all id)) = _
  rw [List.all_map]; rfl
theorem any_bl {α : Type} (p : α → Bool) (l : List α) : dAny [.lst (l.map fun x => D.bl (p x))] = some (.bl (l.any p)) := by
  show (asBs _).map _ = _
  rw [asBs_map]
  show some (D.bl ((l.map p).any id)) = _
  rw [List.any_map]; rfl
/-- signs of a text, one by one -/
def sg (l : List Nat) : List D := l.map fun c => .str [c]
theorem is_bits_ev {l : List Nat} (h : IsB l) (hl : l.length ≤ 1000) (S : List O) : F_is_bits [.str l] S = some (.bl true, S) := by
  unfold F_is_bits
  apply v_run
  unfold B_is_bits
  refine v_rt (v_cl (v_cons (v_fz (v_map1 (fun _ => .bl true) (v_items (v_var rfl) rfl) (by decide) rfl (by rw [List.length_map]; exact lim hl) ?_)) v_nil) ?_)
  · intro x hx
    obtain ⟨c, hc, rfl⟩ := List.mem_map.mp hx
    refine v_bin (v_var rfl) v_ret ?_
    rcases h c hc with rfl | rfl <;> rfl
  · rw [List.map_map]
    have := all_bl (fun _ => true) l
    rw [show l.all (fun _ => true) = true by simp] at this
    exact this
theorem check_bits_ev {l : List Nat} (h : IsB l) (hl : l.length ≤ 1000) (S : List O) : F_check_bits [.str l] S = some (.non, S) := by
  unfold F_check_bits
  apply v_runN
  unfold B_check_bits
  exact v_sIfF (v_notT (v_B (v_call (v_cons (v_var rfl) v_nil) (is_bits_ev h hl S)))) rfl
def fb (c : Nat) : Nat := if c = 48 then 49 else 48
def flip (l : List Nat) : List Nat := l.map fb
theorem fb_ok (c : Nat) : fb c = 48 ∨ fb c = 49 := by unfold fb; split <;> simp
theorem flip_ok (l : List Nat) : IsB (flip l) := fun c hc => by
  obtain ⟨d, _, rfl⟩ := List.mem_map.mp hc
  exact fb_ok d
theorem asSs_sg : ∀ l : List Nat, asSs (l.map fun c => D.str [c]) = some (l.map fun c => [c])
  | [] => rfl
  | c :: l => by
    show (asSs (l.map fun c => D.str [c])).map ([c] :: ·) = _
    rw [asSs_sg l]; rfl
theorem joinL_sg : ∀ l : List Nat, TL.joinL [] (l.map fun c => [c]) = l
  | [] => rfl
  | [c] => rfl
  | c :: d :: l => by
    show [c] ++ ([] ++ TL.joinL [] ((d :: l).map fun c => [c])) = _
    rw [joinL_sg (d :: l)]; rfl
theorem join_sg {l : List Nat} (hl : l.length ≤ 1000) : dJoin (.str []) (.lst (l.map fun c => D.str [c])) = some (.str l) := by
  show (asSs _).bind _ = _
  rw [asSs_sg]
  show (if _ then some (D.str (TL.joinL [] (l.map fun c => [c]))) else none) = _
  rw [joinL_sg, if_pos]
  rw [List.map_map, List.length_map]
  have : ∀ m : List Nat, (m.map (List.length ∘ fun c => [c])).sum = m.length := fun m => by
    induction m with
    | nil => rfl
    | cons a t ih => rw [List.map_cons, List.sum_cons, ih, List.length_cons]; show 1 + _ = _; omega
  rw [this]
  show l.length + l.length * 0 ≤ LIM
  have : 1000 ≤ LIM := by decide
  omega
theorem other_ev {l : List Nat} (h : IsB l) (hl : l.length ≤ 1000) (S : List O) : F__law_other [.str l] S = some (.str (flip l), S) := by
  unfold F__law_other
  apply v_run
  unfold B__law_other
  refine v_rt (v_bin v_ret (v_fz (v_map1 (fun d => match d with | .str [c] => .str [fb c] | d => d) (v_items (v_var rfl) rfl) (by decide) rfl (by rw [List.length_map]; exact lim hl) ?_)) ?_)
  · intro x hx
    obtain ⟨c, hc, rfl⟩ := List.mem_map.mp hx
    rcases h c hc with rfl | rfl
    · exact v_bin v_ret (v_cl (v_cons (v_var rfl) v_nil) (z := .int 0) rfl) rfl
    · exact v_bin v_ret (v_cl (v_cons (v_var rfl) v_nil) (z := .int 1) rfl) rfl
  · rw [List.map_map]
    have := join_sg (l := flip l) (by unfold flip; rw [List.length_map]; exact hl)
    unfold flip at this
    rw [List.map_map] at this
    exact this
theorem Tp.mono {n m : Nat} {S : List O} (h : Tp n S) (hm : n ≤ m) : Tp m S := by
  obtain ⟨a, b, c, d, e, h1, h2, h3, h4⟩ := h
  exact ⟨a, b, c, d, e, h1, h2, by omega, h4⟩
theorem rangeL0 (n : Nat) : (rangeL 0 1 n).length = n := by unfold rangeL; simp
theorem bits_ev {a b n : Nat} {S : List O} (hab : a ≤ b) (hb : b ≤ 900) (h : Tp n S) (hn : n < 2 ^ 90) : ∃ l S', F__law_bits [.ptr 0, .int (a : Nat), .int (b : Nat)] S = some (.str l, S') ∧ IsB l ∧ a ≤ l.length ∧ l.length ≤ b ∧ Tp (n + 1 + b) S' := by
  obtain ⟨r, S1, e1, hr, h1⟩ := take_ev (m := b - a + 1) (by omega) (Nat.lt_of_le_of_lt (show b - a + 1 ≤ 901 by omega) (by decide)) h (by omega)
  have H := v_draw1 (ρ := [.val (.ptr 0), .val (.int (a : Nat)), .val (.int (b : Nat)), .un]) (S := S1) (s := ([.val (.ptr 0), .val (.int (a : Nat)), .val (.int (b : Nat)), .un], S)) (i := 3) (vs := [3])
    (f := eRange dRange1 (eCons (eBin dAdd (eVar 1) (eCall F__law_take (eCons (eVar 0) (eCons (eBin dAdd (eBin dSub (eVar 2) (eVar 1)) (ret (.int 1))) eNil)))) eNil))
    (g := eBin dIx (ret (.str [48, 49])) (eCall F__law_take (eCons (eVar 0) (eCons (ret (.int 2)) eNil))))
    (xs := rangeL 0 1 (a + r)) Tp (fun d => d = .str [48] ∨ d = .str [49]) (n := n + 1)
    (v_range (v_cons (v_bin (v_var rfl) (v_call (v_cons (v_var rfl) (v_cons (v_bin (v_bin (v_var rfl) (v_var rfl) (z := .int ((b - a : Nat) : Int)) (by show some (D.int _) = _; congr 2; omega)) v_ret (o_addN (b := 1))) v_nil)) e1) o_addN) v_nil) (by
      show guard' (inB62 _) (rangeL 0 1 _) = _
      unfold guard' inB62
      rw [if_pos (by simp only [Bool.and_eq_true, decide_eq_true_eq]; omega)]
      rw [show (((a + r : Nat) : Int)).toNat = a + r by omega])) (by decide) rfl (by rw [rangeL0]; exact lim (by omega)) h1 (fun x hx m S hm hT => by
        rw [rangeL0] at hm
        obtain ⟨q, S2, e2, hq, h2⟩ := take_ev (m := 2) (by decide) (by decide) hT (by omega)
        have hq' : q = 0 ∨ q = 1 := by omega
        rcases hq' with rfl | rfl
        · exact ⟨.str [48], S2, v_bin v_ret (v_call (v_cons (v_var rfl) (v_cons v_ret v_nil)) e2) rfl, .inl rfl, h2⟩
        · exact ⟨.str [49], S2, v_bin v_ret (v_call (v_cons (v_var rfl) (v_cons v_ret v_nil)) e2) rfl, .inr rfl, h2⟩)
  obtain ⟨ys, S', e2, hl, hy, hT⟩ := H
  rw [rangeL0] at hl hT
  have hs : ∀ ys : List D, (∀ y ∈ ys, y = D.str [48] ∨ y = D.str [49]) → ∃ l : List Nat, ys = l.map (fun c => D.str [c]) ∧ IsB l := fun ys => by
    induction ys with
    | nil => exact fun _ => ⟨[], rfl, fun c hc => by simp at hc⟩
    | cons y ys ih =>
      intro h
      obtain ⟨l, e, hl⟩ := ih fun z hz => h z (by simp [hz])
      rcases h y (by simp) with rfl | rfl
      · exact ⟨48 :: l, by rw [e]; rfl, fun c hc => (List.mem_cons.mp hc).elim (fun e => .inl e) (hl c)⟩
      · exact ⟨49 :: l, by rw [e]; rfl, fun c hc => (List.mem_cons.mp hc).elim (fun e => .inr e) (hl c)⟩
  obtain ⟨l, rfl, hB⟩ := hs ys hy
  rw [List.length_map] at hl
  refine ⟨l, S', ?_, hB, by omega, by omega, hT.mono (by omega)⟩
  unfold F__law_bits
  apply v_run
  unfold B__law_bits
  exact v_rt (v_bin v_ret (v_fz e2) (join_sg (by omega)))
end LW

set_option Elab.async false
set_option linter.all false
set_option maxRecDepth 100000
set_option exponentiation.threshold 100000
namespace LW
open PySem PySem.Spec PyProof.Rows L2 DL

/-! ### voices -/
theorem parts_of {n : Int} {d : Nat} (hd : d ≠ 0) (hg : Nat.gcd n.natAbs d = 1) : ((n : Rat) / ((d : Int) : Rat)).num = n ∧ ((n : Rat) / ((d : Int) : Rat)).den = d := by
  obtain ⟨e1, e2⟩ := rat_parts (n := n) hd
  rw [hg] at e1 e2
  constructor
  · rw [e1]; simp
  · have : (((n : Rat) / ((d : Int) : Rat)).den : Int) = (d : Int) := by rw [e2]; simp
    omega
theorem one_sub (a : Rat) : (1 - a).num = (a.den : Int) - a.num ∧ (1 - a).den = a.den := by
  have e : 1 - a = (((a.den : Int) - a.num : Int) : Rat) / ((a.den : Int) : Rat) := by
    have h := den_ne a
    have e1 := val_eq a
    rw [Rat.intCast_sub]
    generalize ((a.num : Int) : Rat) = an at *
    generalize (((a.den : Int)) : Rat) = ad at *
    grind
  rw [e]
  apply parts_of a.den_nz
  have h1 : Nat.gcd a.num.natAbs a.den = 1 := a.reduced
  have : Int.gcd ((a.den : Int) - a.num) (a.den : Int) = 1 := by
    have h2 : Int.gcd (a.num) (a.den : Int) = 1 := h1
    rw [show (a.den : Int) - a.num = -(a.num - (a.den : Int)) by omega, Int.neg_gcd]
    have h3 := Int.gcd_sub_self_right a.num (a.den : Int)
    simpa using h2
  exact this
def tb (c : Nat) (a : Rat) : Rat := if c = 49 then a else 1 - a
def vsh : List Rat → List Nat → Rat
  | a :: as, c :: cs => tb c a * vsh as cs
  | _, _ => 1
def rowD (as : List Rat) : D := .tup (as.map pr)
def vcD (vs : List (List Rat)) : D := .tup (vs.map rowD)
/-- a share between 0 and 1 -/
def Un (k : Nat) (a : Rat) : Prop := Sz k a ∧ 0 < a ∧ a < 1
theorem Un.sub {k : Nat} {a : Rat} (h : Un k a) : Un k (1 - a) := by
  obtain ⟨h1, h2, h3⟩ := h
  refine ⟨?_, by grind, by grind⟩
  obtain ⟨e1, e2⟩ := one_sub a
  have p := num_pos h2
  have q := (Rat.lt_iff a 1).mp h3
  have q' : a.num < (a.den : Int) := by simpa using q
  unfold Sz
  rw [e1, e2]
  exact ⟨by have := h1.2; omega, h1.2⟩
theorem Un.tb {k c : Nat} {a : Rat} (h : Un k a) : Un k (tb c a) := by
  unfold LW.tb
  split
  · exact h
  · exact h.sub
theorem sub_ev (a : Rat) : pr (1 - a) = .tup [.int ((a.den : Int) - a.num), .int (a.den : Nat)] := by
  obtain ⟨e1, e2⟩ := one_sub a
  unfold pr
  rw [e1, e2]
/-- a if bit == '1' else (a[1] - a[0], a[1]) -/
theorem tb_ev {c : Nat} {a : Rat} {f g : Ev D} {s : Sto} (hc : c = 48 ∨ c = 49) (hf : f s = some (.str [c], s)) (hg : g s = some (pr a, s)) :
    eIf (eB (eBin dEq f (ret (.str [49])))) g (eTup (eCons (eBin dSub (eBin dIx g (ret (.int 1))) (eBin dIx g (ret (.int 0)))) (eCons (eBin dIx g (ret (.int 1))) eNil))) s = some (pr (tb c a), s) := by
  rcases hc with rfl | rfl
  · refine (v_ifF (v_B (v_bin hf v_ret rfl)) (v_tup (v_cons (v_bin (v_bin hg v_ret rfl) (v_bin hg v_ret rfl) rfl) (v_cons (v_bin hg v_ret rfl) v_nil)) (by show 2 ≤ LIM; decide))).trans ?_
    show some (D.tup [.int ((a.den : Int) - a.num), .int (a.den : Nat)], s) = _
    rw [show tb 48 a = 1 - a from rfl, sub_ev]
  · exact v_ifT (v_B (v_bin hf v_ret rfl)) hg
theorem vs_loop (X Y : Sl) (S : List O) (k : Nat) : ∀ (as : List Rat) (cs : List Nat) (q : Rat) (l l2 : Sl) (m : Nat), Sz m q → (∀ x ∈ as, Un k x) → IsB cs → m + as.length * k + k ≤ 8900 →
    ∃ l' l2', forL (tTp (tCs (tNm 3) (tCs (tNm 4) tNl))) (sSet 2 (eCall F_times (eCons (eVar 2) (eCons (eIf (eB (eBin dEq (eVar 4) (ret (.str [49])))) (eVar 3) (eTup (eCons (eBin dSub (eBin dIx (eVar 3) (ret (.int 1))) (eBin dIx (eVar 3) (ret (.int 0)))) (eCons (eBin dIx (eVar 3) (ret (.int 1))) eNil)))) eNil)))) (pairL (as.map pr) (cs.map fun c => .str [c])) ([X, Y, .val (pr q), l, l2], S)
      = some (.nx ([X, Y, .val (pr (q * vsh as cs)), l', l2'], S))
  | [], cs, q, l, l2, m, _, _, _, _ => ⟨l, l2, by
      have : vsh [] cs = 1 := by cases cs <;> rfl
      rw [this, Rat.mul_one]
      cases cs <;> rfl⟩
  | a :: as, [], q, l, l2, m, _, _, _, _ => ⟨l, l2, by rw [show vsh (a :: as) [] = 1 from rfl, Rat.mul_one]; rfl⟩
  | a :: as, c :: cs, q, l, l2, m, hq, hx, hB, hm => by
    have hx0 := hx a (by simp)
    rw [List.length_cons, Nat.succ_mul] at hm
    obtain ⟨l', l2', e⟩ := vs_loop X Y S k as cs (q * tb c a) (.val (pr a)) (.val (.str [c])) (m + k) (hq.mul hx0.tb.1) (fun y hy => hx y (by simp [hy])) hB.cons.2 (by omega)
    refine ⟨l', l2', ?_⟩
    rw [show q * vsh (a :: as) (c :: cs) = q * tb c a * vsh as cs from (Rat.mul_assoc q _ _).symm]
    refine v_for_cons rfl ?_ e
    refine Eq.trans (v_set (v_call (v_cons (v_var rfl) (v_cons (tb_ev hB.cons.1 (v_var rfl) (v_var rfl)) v_nil)) (times_ev hq hx0.tb.1 (by omega) S))) rfl
theorem voice_ev {k : Nat} {as : List Rat} {cs : List Nat} (hx : ∀ x ∈ as, Un k x) (hB : IsB cs) (hm : as.length * k + k ≤ 8800) (S : List O) : F_voice_share [rowD as, .str cs] S = some (pr (vsh as cs), S) := by
  obtain ⟨l, l2, e⟩ := vs_loop (.val (rowD as)) (.val (.str cs)) S k as cs 1 .un .un 1 sz1 hx hB (by omega)
  rw [Rat.one_mul] at e
  unfold F_voice_share
  apply v_run
  unfold B_voice_share
  exact v_seq (v_set v_ret) (v_seq (v_for (v_arg (v_cons (v_var rfl) (v_cons (v_var rfl) v_nil)) rfl) e) (v_rt (v_var rfl)))
theorem vsh_sz {k : Nat} : ∀ (as : List Rat) (cs : List Nat), (∀ x ∈ as, Un k x) → Sz (as.length * k + 1) (vsh as cs)
  | [], cs, _ => by rw [show vsh [] cs = 1 by cases cs <;> rfl]; exact sz1.mono (by simp)
  | a :: as, [], _ => sz1.mono (by omega)
  | a :: as, c :: cs, h => by
    have := (h a (by simp)).tb.1.mul (vsh_sz as cs fun y hy => h y (by simp [hy])) (a := tb c a)
    refine this.mono ?_
    rw [List.length_cons, Nat.succ_mul]; omega
theorem vsh_pos {k : Nat} : ∀ (as : List Rat) (cs : List Nat), (∀ x ∈ as, Un k x) → 0 < vsh as cs ∧ vsh as cs ≤ 1
  | [], cs, _ => by rw [show vsh [] cs = 1 by cases cs <;> rfl]; grind
  | a :: as, [], _ => by rw [show vsh (a :: as) [] = 1 from rfl]; grind
  | a :: as, c :: cs, h => by
    have h1 := (h a (by simp)).tb (c := c)
    obtain ⟨h2, h3⟩ := vsh_pos as cs fun y hy => h y (by simp [hy])
    show 0 < tb c a * vsh as cs ∧ tb c a * vsh as cs ≤ 1
    refine ⟨Rat.mul_pos h1.2.1 h2, ?_⟩
    have h4 : tb c a * vsh as cs ≤ tb c a * 1 := Rat.mul_le_mul_of_nonneg_left h3 (Rat.le_of_lt h1.2.1)
    have := h1.2.2
    grind
/-- what is asked of voices -/
structure Vo (k n : Nat) (vs : List (List Rat)) : Prop where
  ne : vs ≠ []
  len : ∀ r ∈ vs, r.length = n
  un : ∀ r ∈ vs, ∀ a ∈ r, Un k a
  few : vs.length ≤ 8
  sm : n ≤ 6
theorem check_voices_ev {k n : Nat} {vs : List (List Rat)} (V : Vo k n vs) (hk : k ≤ 8000) (S : List O) : F_check_voices [vcD vs, .int (n : Nat)] S = some (.non, S) := by
  unfold F_check_voices
  apply v_runN
  unfold B_check_voices
  have hf := V.few
  have hl : (vs.map rowD).length ≤ LIM := by rw [List.length_map]; exact lim (by omega)
  have hl : vs.length ≤ LIM := lim (by omega)
  have ha := all_bl (fun _ => true) vs
  rw [show vs.all (fun _ => true) = true by simp] at ha
  refine v_seq (v_sIfF (v_orT (v_nF (v_Tr (v_var rfl) ?_)) (v_nF (v_B (v_cl (v_cons (v_fz (v_mapT vs rowD (fun _ => .bl true) (v_items (v_var rfl) rfl) hl ?_)) v_nil) ha)))) v_sNil) (v_sIfF (v_nF (v_B (v_cl (v_cons (v_fz (v_mapT vs rowD (fun _ => .bl true) (v_items (v_var rfl) rfl) hl ?_)) v_nil) ha))) v_sNil)
  · have := V.ne
    cases vs with
    | nil => exact (this rfl).elim
    | cons a t => rfl
  · intro r hr
    refine v_bin (v_cl (v_cons (v_var rfl) v_nil) (z := .int ((r.map pr).length : Nat)) rfl) (v_var rfl) ?_
    rw [o_eqI, List.length_map, V.len r hr]; simp
  · intro r hr
    have ha := all_bl (fun _ => true) r
    rw [show r.all (fun _ => true) = true by simp] at ha
    refine v_cl (v_cons (v_fz (v_mapT r pr (fun _ => .bl true) (v_items (v_var rfl) rfl) (by rw [V.len r hr]; exact lim (by have := V.sm; omega)) ?_)) v_nil) ha
    intro a ha
    have u := V.un r hr a ha
    have l1 : F_less [.tup [.int 0, .int 1], pr a] S = some (.bl true, S) := by
      have := less_ev sz0 u.1 (by omega) S
      rw [decide_eq_true u.2.1] at this
      exact this
    have l2 : F_less [pr a, .tup [.int 1, .int 1]] S = some (.bl true, S) := by
      have := less_ev u.1 sz1 (by omega) S
      rw [decide_eq_true u.2.2] at this
      exact this
    exact v_and (v_call (v_cons v_ret (v_cons (v_var rfl) v_nil)) l1) (v_call (v_cons (v_var rfl) (v_cons v_ret v_nil)) l2)
def iv (n : Nat) : Rat := ((1 : Int) : Rat) / (((n : Nat) : Int) : Rat)
theorem iv_ev {n : Nat} (hn : n ≠ 0) (h : n < 2 ^ 8990) (S : List O) : F_share [.int 1, .int (n : Nat)] S = some (pr (iv n), S) := share_pos hn (by decide +kernel) h S
theorem iv_sz {n k : Nat} (hn : n ≠ 0) (hk : 1 ≤ k) (h : n < 2 ^ k) : Sz k (iv n) := sz_parts hn (Nat.lt_of_lt_of_le (show 1 < 2 ^ 1 by decide) (Nat.pow_le_pow_right (by decide) hk)) h
theorem len_str {l : List Nat} (h : l.length ≤ 1000) : dLen [.str l] = some (.int (l.length : Nat)) := by
  show guard' _ _ = _
  unfold guard'
  rw [if_pos (by exact decide_eq_true (lim h))]
def mx (vs : List (List Rat)) (cs : List Nat) : Rat := iv vs.length * rsum (vs.map fun r => vsh r cs)
theorem items_tup {xs : List D} : items (.tup xs) = some xs := rfl
theorem items_lst {xs : List D} : items (.lst xs) = some xs := rfl
theorem vc_sum_sz {k n : Nat} {vs : List (List Rat)} (V : Vo k n vs) (cs : List Nat) : ∀ x ∈ vs.map (fun r => vsh r cs), Sz (6 * k + 1) x := by
  intro x hx
  obtain ⟨r, hr, rfl⟩ := List.mem_map.mp hx
  refine (vsh_sz r cs (V.un r hr)).mono ?_
  rw [V.len r hr]
  have := V.sm
  have := Nat.mul_le_mul_right k this
  omega
theorem mixed_ev {k : Nat} {vs : List (List Rat)} {cs : List Nat} (V : Vo k cs.length vs) (hB : IsB cs) (hk : k ≤ 100) (S : List O) : F_mixed_share [vcD vs, .str cs] S = some (pr (mx vs cs), S) := by
  have hf := V.few
  have hs := V.sm
  have h0 : vs.length ≠ 0 := fun h => V.ne (List.length_eq_zero_iff.mp h)
  have hz := vc_sum_sz V cs
  have hb : (vs.map fun r => vsh r cs).length * (6 * k + 1 + 1) + (6 * k + 1) ≤ 8000 := by
    rw [List.length_map]
    have := Nat.mul_le_mul hf (show 6 * k + 1 + 1 ≤ 602 by omega)
    omega
  unfold F_mixed_share
  apply v_run
  unfold B_mixed_share
  refine v_seq (v_expr (v_call (v_cons (v_var rfl) v_nil) (check_bits_ev hB (by omega) S))) (v_seq (v_expr (v_call (v_cons (v_var rfl) (v_cons (v_cl (v_cons (v_var rfl) v_nil) (z := .int (cs.length : Nat)) ?_) v_nil)) (check_voices_ev V (by omega) S))) (v_rt (v_call (v_cons (v_call (v_cons v_ret (v_cons (v_cl (v_cons (v_var rfl) v_nil) (z := .int (vs.length : Nat)) ?_) v_nil)) (iv_ev h0 (Nat.lt_of_le_of_lt hf (by decide +kernel)) S)) (v_cons (v_call (v_cons (v_fz (v_mapT vs rowD (fun r => pr (vsh r cs)) (v_items (v_var rfl) rfl) (lim (by omega)) ?_)) v_nil) (sum_ev (vs.map fun r => vsh r cs) ?_ hz (by omega) S)) v_nil)) (times_ev (iv_sz h0 (k := 4) (by decide) (by omega)) (rsum_sz (k := 6 * k + 1) (by omega) _ hz) (by omega) S))))
  · exact len_str (by omega)
  · rw [← List.length_map (f := rowD)]; rfl
  · intro r hr
    exact v_call (v_cons (v_var rfl) (v_cons (v_var rfl) v_nil)) (voice_ev (V.un r hr) hB (by rw [V.len r hr]; have := Nat.mul_le_mul hs hk; omega) S)
  · rw [List.map_map]; rfl
end LW

set_option Elab.async false
set_option linter.all false
set_option maxRecDepth 100000
set_option exponentiation.threshold 100000
namespace LW
open PySem PySem.Spec PyProof.Rows L2 DL

/-! ### what is heard, said -/
def at' (r : List Rat) (k : Nat) : Rat := (r[k]?).getD 0
theorem at_ev {r : List Rat} {k : Nat} (h : k < r.length) : dIx (rowD r) (.int (k : Nat)) = some (pr (at' r k)) := by
  show atI (r.map pr) (k : Int) = _
  unfold atI ixN at'
  simp [h]
theorem at_mem {r : List Rat} {k : Nat} (h : k < r.length) : at' r k ∈ r := by
  unfold at'
  rw [List.getElem?_eq_getElem h]
  exact List.getElem_mem h
theorem pairL_zip {α β : Type} (e : α → D) (e2 : β → D) : ∀ (xs : List α) (ys : List β), pairL (xs.map e) (ys.map e2) = (xs.zip ys).map fun p => .tup [e p.1, e2 p.2]
  | [], _ => by simp [pairL]
  | x :: xs, [] => by simp [pairL]
  | x :: xs, y :: ys => by
    show D.tup [e x, e2 y] :: pairL (xs.map e) (ys.map e2) = _
    rw [pairL_zip e e2 xs ys]; rfl
def hrd (ws : List Rat) (vs : List (List Rat)) (k c : Nat) : List Rat := (ws.zip (vs.map fun r => tb c (at' r k))).map fun p => p.1 * p.2
theorem len_tup {xs : List D} : dLen [.tup xs] = some (.int (xs.length : Nat)) := rfl
theorem len_lst {xs : List D} : dLen [.lst xs] = some (.int (xs.length : Nat)) := rfl
theorem heard_ev {b j n k c : Nat} {vs : List (List Rat)} {ws : List Rat} (V : Vo b n vs) (hk : k < n) (hc : c = 48 ∨ c = 49) (hw : ∀ w ∈ ws, Sz j w) (hl : ws.length ≤ 8) (h : j + b ≤ 8800) (S : List O) :
    F_heard [.lst (ws.map pr), vcD vs, .int (k : Nat), .str [c]] S = some (.lst ((hrd ws vs k c).map pr), S) := by
  have hf := V.few
  unfold F_heard
  apply v_run
  unfold B_heard
  refine v_seq (v_set (v_fz (v_mapT vs rowD (fun r => pr (tb c (at' r k))) (v_items (v_var rfl) rfl) (lim (by omega)) ?_))) (v_rt (v_fz ?_))
  · intro r hr
    have hi := at_ev (r := r) (k := k) (by rw [V.len r hr]; exact hk)
    exact tb_ev hc (v_var rfl) (v_bin (v_var rfl) (v_var rfl) hi)
  · refine Eq.trans (v_mapT2 (ws.zip (vs.map fun r => tb c (at' r k))) (fun p => pr p.1) (fun p => pr p.2) (fun p => pr (p.1 * p.2)) (v_arg (v_cons (v_var rfl) (v_cons (v_var rfl) v_nil)) ?_) (lim (by rw [List.length_zip]; omega)) ?_) ?_
    · show some (pairL _ _) = _
      rw [← pairL_zip, List.map_map]; rfl
    · intro p hp
      have h1 := (List.of_mem_zip (show (p.1, p.2) ∈ _ from hp)).1
      have h2 := (List.of_mem_zip (show (p.1, p.2) ∈ _ from hp)).2
      obtain ⟨r, hr, e⟩ := List.mem_map.mp h2
      have u : Sz b p.2 := by
        rw [← e]
        exact (V.un r hr _ (at_mem (by rw [V.len r hr]; exact hk))).tb.1
      exact v_call (v_cons (v_var rfl) (v_cons (v_var rfl) v_nil)) (times_ev (hw _ h1) u (by omega) S)
    · unfold hrd
      rw [List.map_map]; rfl
/-- what the voices tell of a 1 at place k -/
def tl1 (ws : List Rat) (vs : List (List Rat)) (k : Nat) : List Rat := (ws.zip vs).map fun p => p.1 * at' p.2 k
def sayL (vs : List (List Rat)) : Nat → List Rat → List Nat → List Rat
  | _, _, [] => []
  | k, ws, c :: cs => rsum (tl1 ws vs k) / rsum ws :: sayL vs (k + 1) (hrd ws vs k c) cs
/-- weights: places k of bits of b signs told -/
structure Wt (b j : Nat) (vs : List (List Rat)) (ws : List Rat) : Prop where
  len : ws.length = vs.length
  sz : ∀ w ∈ ws, Sz j w
  pos : ∀ w ∈ ws, 0 < w
theorem rsum_pos : ∀ (ws : List Rat), ws ≠ [] → (∀ w ∈ ws, 0 < w) → 0 < rsum ws
  | [], h, _ => (h rfl).elim
  | [w], _, h => by show 0 < w + 0; rw [Rat.add_zero]; exact h w (by simp)
  | w :: x :: ws, _, h => by
    have h1 := h w (by simp)
    have h2 := rsum_pos (x :: ws) (by simp) fun y hy => h y (by simp [List.mem_cons.mp hy])
    show 0 < w + rsum (x :: ws)
    grind
theorem Wt.heard {b j n k c : Nat} {vs : List (List Rat)} {ws : List Rat} (W : Wt b j vs ws) (V : Vo b n vs) (hk : k < n) : Wt b (j + b) vs (hrd ws vs k c) := by
  have key : ∀ w ∈ hrd ws vs k c, ∃ x ∈ ws, ∃ r ∈ vs, w = x * tb c (at' r k) := by
    intro w hw
    obtain ⟨p, hp, rfl⟩ := List.mem_map.mp hw
    have h1 := (List.of_mem_zip (show (p.1, p.2) ∈ _ from hp)).1
    have h2 := (List.of_mem_zip (show (p.1, p.2) ∈ _ from hp)).2
    obtain ⟨r, hr, e⟩ := List.mem_map.mp h2
    exact ⟨p.1, h1, r, hr, by rw [e]⟩
  refine ⟨?_, fun w hw => ?_, fun w hw => ?_⟩
  · unfold hrd; rw [List.length_map, List.length_zip, List.length_map, W.len]; omega
  · obtain ⟨x, hx, r, hr, rfl⟩ := key w hw
    exact (W.sz x hx).mul (V.un r hr _ (at_mem (by rw [V.len r hr]; exact hk))).tb.1
  · obtain ⟨x, hx, r, hr, rfl⟩ := key w hw
    exact Rat.mul_pos (W.pos x hx) (V.un r hr _ (at_mem (by rw [V.len r hr]; exact hk))).tb.2.1
/-- the numbers from k on -/
def cntF (k n : Nat) : List D := (List.range' k n).map fun i => .int (i : Nat)
theorem countL_eq (n : Nat) : countL n = cntF 0 n := by unfold countL cntF; rw [List.range_eq_range']
theorem enum_ev {l : List Nat} : dEnum [.str l] = some (pairL (cntF 0 l.length) (l.map fun c => .str [c])) := by
  show (items (.str l)).map _ = _
  show some (pairL (countL (l.map fun c => D.str [c]).length) _) = _
  rw [List.length_map, countL_eq]
theorem said_loop {b n : Nat} {vs : List (List Rat)} (V : Vo b n vs) (hb : b ≤ 20) (X : Sl) (S : List O) : ∀ (cs : List Nat) (k j : Nat) (ws fd : List Rat) (l4 l5 l6 : Sl), IsB cs → k + cs.length = n → Wt b j vs ws → j + cs.length * b ≤ 200 → fd.length + cs.length ≤ 100 →
    ∃ (l4' l5' l6' : Sl) (ws' : List Rat), forL (tTp (tCs (tNm 4) (tCs (tNm 5) tNl))) (sSeq (sSet 6 (eCall F_sum_of (eCons (eFz (eLc [7, 8] (eArg dZip (eCons (eVar 2) (eCons (eVar 0) eNil))) (tTp (tCs (tNm 7) (tCs (tNm 8) tNl))) pYes (eCall F_times (eCons (eVar 7) (eCons (eBin dIx (eVar 8) (eVar 4)) eNil))))) eNil))) (sSeq (sExpr (eMtL 3 mAppend (eCall F_over (eCons (eVar 6) (eCons (eCall F_sum_of (eCons (eVar 2) eNil)) eNil))))) (sSet 2 (eCall F_heard (eCons (eVar 2) (eCons (eVar 0) (eCons (eVar 4) (eCons (eVar 5) eNil))))))))
      (pairL (cntF k cs.length) (cs.map fun c => .str [c])) ([.val (vcD vs), X, .val (.lst (ws.map pr)), .own (fd.map pr), l4, l5, l6, .un, .un], S)
      = some (.nx ([.val (vcD vs), X, .val (.lst (ws'.map pr)), .own ((fd ++ sayL vs k ws cs).map pr), l4', l5', l6', .un, .un], S))
  | [], k, j, ws, fd, l4, l5, l6, _, _, _, _, _ => ⟨l4, l5, l6, ws, by rw [show sayL vs k ws [] = [] from rfl, List.append_nil]; rfl⟩
  | c :: cs, k, j, ws, fd, l4, l5, l6, hB, hk, W, hj, hd => by
    have hf := V.few
    rw [List.length_cons, Nat.succ_mul] at hj
    rw [List.length_cons] at hk hd
    have W' := W.heard (c := c) V (show k < n by omega)
    have hne : ws ≠ [] := fun h => V.ne (List.length_eq_zero_iff.mp (by rw [← W.len, h]; rfl))
    have hpos := rsum_pos ws hne W.pos
    have htl : ∀ x ∈ tl1 ws vs k, Sz (j + b) x := by
      intro x hx
      obtain ⟨p, hp, rfl⟩ := List.mem_map.mp hx
      have h1 := (List.of_mem_zip (show (p.1, p.2) ∈ _ from hp)).1
      have h2 := (List.of_mem_zip (show (p.1, p.2) ∈ _ from hp)).2
      exact (W.sz _ h1).mul (V.un _ h2 _ (at_mem (by rw [V.len _ h2]; omega))).1
    have htn : (tl1 ws vs k).length ≤ 8 := by unfold tl1; rw [List.length_map, List.length_zip]; omega
    have hwn : ws.length ≤ 8 := by rw [W.len]; exact hf
    have b1 := Nat.mul_le_mul htn (show j + b + 1 ≤ 221 by omega)
    have b2 := Nat.mul_le_mul hwn (show j + 1 ≤ 201 by omega)
    have e1 := sum_ev (X := .lst ((tl1 ws vs k).map pr)) (tl1 ws vs k) rfl htl (by omega) S
    have e2 := sum_ev (X := .lst (ws.map pr)) ws rfl W.sz (by omega) S
    have s1 := (rsum_sz (k := j + b + 1) (by omega) (tl1 ws vs k) fun x hx => (htl x hx).mono (by omega)).mono (show _ ≤ 2000 by
      have := Nat.mul_le_mul htn (show j + b + 1 + 1 ≤ 222 by omega)
      omega)
    have s2 := (rsum_sz (k := j + 1) (by omega) ws fun x hx => (W.sz x hx).mono (by omega)).mono (show _ ≤ 2000 by
      have := Nat.mul_le_mul hwn (show j + 1 + 1 ≤ 202 by omega)
      omega)
    have e3 := over_ev s1 s2 hpos (by omega) S
    have e4 := heard_ev (k := k) (c := c) V (by omega) hB.cons.1 W.sz hwn (by omega) S
    obtain ⟨l4', l5', l6', ws', ih⟩ := said_loop V hb X S cs (k + 1) (j + b) (hrd ws vs k c) (fd ++ [rsum (tl1 ws vs k) / rsum ws]) (.val (.int (k : Nat))) (.val (.str [c])) (.val (pr (rsum (tl1 ws vs k)))) hB.cons.2 (by omega) W' (by omega) (by rw [List.length_append]; show fd.length + 1 + _ ≤ _; omega)
    refine ⟨l4', l5', l6', ws', ?_⟩
    rw [show fd ++ sayL vs k ws (c :: cs) = fd ++ [rsum (tl1 ws vs k) / rsum ws] ++ sayL vs (k + 1) (hrd ws vs k c) cs by rw [List.append_assoc]; rfl]
    refine v_for_cons rfl ?_ ih
    have em : eLc [7, 8] (eArg dZip (eCons (eVar 2) (eCons (eVar 0) eNil))) (tTp (tCs (tNm 7) (tCs (tNm 8) tNl))) pYes (eCall F_times (eCons (eVar 7) (eCons (eBin dIx (eVar 8) (eVar 4)) eNil))) ([.val (vcD vs), X, .val (.lst (ws.map pr)), .own (fd.map pr), .val (.int (k : Nat)), .val (.str [c]), l6, .un, .un], S)
        = some ((tl1 ws vs k).map pr, ([.val (vcD vs), X, .val (.lst (ws.map pr)), .own (fd.map pr), .val (.int (k : Nat)), .val (.str [c]), l6, .un, .un], S)) := by
      refine Eq.trans (v_mapT2 (ws.zip vs) (fun p => pr p.1) (fun p => rowD p.2) (fun p => pr (p.1 * at' p.2 k)) (v_arg (v_cons (v_var rfl) (v_cons (v_var rfl) v_nil)) ?_) (lim (by rw [List.length_zip]; omega)) ?_) ?_
      · show some (pairL _ _) = _
        rw [← pairL_zip]
      · intro p hp
        have h1 := (List.of_mem_zip (show (p.1, p.2) ∈ _ from hp)).1
        have h2 := (List.of_mem_zip (show (p.1, p.2) ∈ _ from hp)).2
        have hi := at_ev (r := p.2) (k := k) (by rw [V.len _ h2]; omega)
        exact v_call (v_cons (v_var rfl) (v_cons (v_bin (v_var rfl) (v_var rfl) hi) v_nil)) (times_ev (W.sz _ h1) (V.un _ h2 _ (at_mem (by rw [V.len _ h2]; omega))).1 (by omega) S)
      · unfold tl1
        rw [List.map_map]; rfl
    refine v_seq (v_set (v_call (v_cons (v_fz em) v_nil) e1)) (v_seq (v_expr (v_mtL (ds0 := fd.map pr) (ds := fd.map pr) (ds' := (fd ++ [rsum (tl1 ws vs k) / rsum ws]).map pr) (z := .non) rfl (v_call (v_cons (v_var rfl) (v_cons (v_call (v_cons (v_var rfl) v_nil) e2) v_nil)) e3) rfl ?_)) ?_)
    · show (if (fd.map pr).length < LIM then some (D.non, fd.map pr ++ [_]) else none) = _
      rw [if_pos (by rw [List.length_map]; have : 1000 ≤ LIM := by decide
                     omega), List.map_append]; rfl
    · refine Eq.trans (v_set (v_call (v_cons (v_var rfl) (v_cons (v_var rfl) (v_cons (v_var rfl) (v_cons (v_var rfl) v_nil)))) e4)) rfl
end LW

set_option Elab.async false
set_option linter.all false
set_option maxRecDepth 100000
set_option exponentiation.threshold 100000
namespace LW
open PySem PySem.Spec PyProof.Rows L2 DL

theorem rep_flat {α : Type} (x : α) : ∀ n : Nat, (List.replicate n [x]).flatten = List.replicate n x
  | 0 => rfl
  | n + 1 => by rw [List.replicate_succ, List.flatten_cons, rep_flat x n]; rfl
def w0 (n : Nat) : List Rat := List.replicate n (iv n)
theorem iv_pos {n : Nat} (hn : n ≠ 0) : 0 < iv n := by
  have h : 0 < (iv n).num := by
    unfold iv
    obtain ⟨e1, _⟩ := parts_of (n := 1) (d := n) hn (by simp)
    rw [e1]; decide
  exact (Rat.lt_iff 0 _).mpr (by simpa using h)
/-- [share(1, n)] * n -/
theorem w0_ev {n : Nat} {f g : Ev D} {s : Sto} (hn : n ≤ 8) (hf : f s = some (pr (iv n), s)) (hg : g s = some (.int (n : Nat), s)) : eBin dMul (eFz (eLst (eCons f eNil))) g s = some (.lst ((w0 n).map pr), s) := by
  refine v_bin (v_fz (v_lst (v_cons hf v_nil) (by show 1 ≤ LIM; decide))) hg ?_
  show guard' _ _ = _
  unfold guard'
  rw [if_pos (by
    simp only [Bool.and_eq_true, decide_eq_true_eq, List.length_singleton]
    refine ⟨⟨by omega, by omega⟩, ?_⟩
    have : 1000 ≤ LIM := by decide
    omega)]
  rw [rep_flat]
  unfold w0
  rw [List.map_replicate]; rfl
theorem w0_wt {b n : Nat} {vs : List (List Rat)} (hv : vs.length = n) (hn : n ≠ 0) (h8 : n ≤ 8) : Wt b 4 vs (w0 n) :=
  ⟨by unfold w0; rw [List.length_replicate, hv], fun w hw => by rw [List.eq_of_mem_replicate hw]; exact iv_sz hn (by decide) (by omega), fun w hw => by rw [List.eq_of_mem_replicate hw]; exact iv_pos hn⟩
theorem said_ev {b : Nat} {vs : List (List Rat)} {cs : List Nat} (V : Vo b cs.length vs) (hB : IsB cs) (hb : b ≤ 20) (S : List O) : F_said_next [vcD vs, .str cs] S = some (rowD (sayL vs 0 (w0 vs.length) cs), S) := by
  have hf := V.few
  have hs := V.sm
  have h0 : vs.length ≠ 0 := fun h => V.ne (List.length_eq_zero_iff.mp h)
  have hm := Nat.mul_le_mul hs hb
  obtain ⟨l4, l5, l6, ws, e⟩ := said_loop V hb (.val (.str cs)) S cs 0 4 (w0 vs.length) [] .un .un .un hB (by omega) (w0_wt rfl h0 hf) (by omega) (by show 0 + _ ≤ _; omega)
  have el : dLen [vcD vs] = some (.int (vs.length : Nat)) := by show some (D.int ((vs.map rowD).length : Nat)) = _; rw [List.length_map]
  unfold F_said_next
  apply v_run
  unfold B_said_next
  refine v_seq (v_expr (v_call (v_cons (v_var rfl) v_nil) (check_bits_ev hB (by omega) S))) (v_seq (v_expr (v_call (v_cons (v_var rfl) (v_cons (v_cl (v_cons (v_var rfl) v_nil) (len_str (by omega))) v_nil)) (check_voices_ev V (by omega) S)))
    (v_seq (v_set (w0_ev hf (v_call (v_cons v_ret (v_cons (v_cl (v_cons (v_var rfl) v_nil) el) v_nil)) (iv_ev h0 (Nat.lt_of_le_of_lt hf (by decide +kernel)) S)) (v_cl (v_cons (v_var rfl) v_nil) el))) (v_seq (v_own (v_lst v_nil (by show 0 ≤ LIM; decide))) (v_seq (v_for (v_arg (v_cons (v_var rfl) v_nil) enum_ev) e) (v_rt (v_cl1 (v_rdO rfl) rfl))))))

/-! ### bits_for -/
structure Bf (a : Rat) (m : Nat) : Prop where
  ev : ∀ S, F_bits_for [pr a] S = some (.int (m : Nat), S)
  le : (a.den : Int) ≤ a.num * 2 ^ m
  lt : ∀ j < m, a.num * 2 ^ j < (a.den : Int)
theorem bf_ex {k : Nat} {a : Rat} (hk : k ≤ 1000) (hs : Sz k a) (h0 : 0 < a) (h1 : a ≤ 1) : ∃ m, Bf a m := by
  have hp := num_pos h0
  have key : ∀ S : List O, ∃ m : Nat, F_bits_for [pr a] S = some (.int (m : Nat), S) ∧ (a.den : Int) ≤ a.num * 2 ^ m ∧ ∀ j < m, a.num * 2 ^ j < (a.den : Int) := by
    intro S
    have hpc : ∀ m : Nat, m ≤ 1001 → eB (eBin dLt (eBin dShl (eBin dIx (eVar 0) (ret (.int 0))) (eVar 1)) (eBin dIx (eVar 0) (ret (.int 1)))) ([.val (pr a), .val (.int (m : Nat))], S) = some (decide (a.num * 2 ^ m < (a.den : Int)), ([.val (pr a), .val (.int (m : Nat))], S)) := by
      intro m hm
      have hl := lg hs.1
      have := v_bin (f := eBin dIx (eVar 0) (ret (.int 0))) (g := eVar 1) (s := ([.val (pr a), .val (.int (m : Nat))], S)) (v_bin (v_var rfl) v_ret rfl) (v_var rfl) (o_shl (a := a.num) (b := (m : Nat)) (by omega) (by omega) (by omega))
      refine v_B (v_bin this (v_bin (v_var rfl) v_ret rfl) ?_)
      rw [show ((m : Nat) : Int).toNat = m by omega]; rfl
    have small : ∀ m : Nat, (∀ j < m, a.num * 2 ^ j < (a.den : Int)) → m ≤ k := by
      intro m h
      refine Nat.le_of_not_lt fun hc => ?_
      have h2 := h k hc
      have h3 : (2 : Int) ^ k ≤ a.num * 2 ^ k := by
        have : (1 : Int) * 2 ^ k ≤ a.num * 2 ^ k := Int.mul_le_mul_of_nonneg_right (by omega) (Int.pow_nonneg (by decide))
        omega
      have h4 := hs.2
      have h5 : ((a.den : Nat) : Int) < 2 ^ k := by exact_mod_cast h4
      omega
    have H := v_while (p := eB (eBin dLt (eBin dShl (eBin dIx (eVar 0) (ret (.int 0))) (eVar 1)) (eBin dIx (eVar 0) (ret (.int 1))))) (u := sAug 1 dAddI (ret (.int 1))) (fun m : Nat => (([.val (pr a), .val (.int (m : Nat))], S) : Sto))
      (I := fun m => ∀ j < m, a.num * 2 ^ j < (a.den : Int)) (m := fun m => k + 1 - m) (R := fun _ _ => True) (fun _ => trivial) (fun _ _ _ _ _ => trivial) (by
        intro m hI
        have hm := small m hI
        by_cases hc : a.num * 2 ^ m < (a.den : Int)
        · refine .inr ⟨m + 1, ?_, ?_, ?_, by omega, trivial⟩
          · rw [hpc m (by omega), decide_eq_true hc]
          · exact v_aug rfl v_ret rfl
          · intro j hj
            by_cases e : j = m
            · rw [e]; exact hc
            · exact hI j (by omega)
        · exact .inl (by rw [hpc m (by omega), decide_eq_false hc])) FUEL 0 (fun j hj => absurd hj (Nat.not_lt_zero _)) (by show k + 1 - 0 < 1000000; omega)
    obtain ⟨m, e1, hI, e2, _⟩ := H
    have hm := small m hI
    rw [hpc m (by omega)] at e2
    have hd : ¬ a.num * 2 ^ m < (a.den : Int) := by
      intro h
      rw [decide_eq_true h] at e2
      simp at e2
    refine ⟨m, ?_, by omega, hI⟩
    have hl : F_less [.tup [.int 1, .int 1], pr a] S = some (.bl false, S) := by
      have := less_ev sz1 hs (by omega) S
      rw [decide_eq_false (by grind)] at this
      exact this
    unfold F_bits_for
    apply v_run
    unfold B_bits_for
    refine v_seq (v_sIfF (v_orT (v_B (v_bin (v_bin (v_var rfl) v_ret rfl) v_ret ?_)) (v_B (v_call (v_cons v_ret (v_cons (v_var rfl) v_nil)) hl))) v_sNil) (v_seq (v_set v_ret) (v_seq e1 (v_rt (v_var rfl))))
    show some (D.bl (decide (a.num ≤ 0))) = _
    rw [decide_eq_false (by omega)]
  obtain ⟨m, e, h2, h3⟩ := key []
  refine ⟨m, fun S => ?_, h2, h3⟩
  obtain ⟨m', e', h2', h3'⟩ := key S
  have : m' = m := by
    rcases Nat.lt_trichotomy m' m with h | h | h
    · have := h3 m' h; omega
    · exact h
    · have := h3' m h; omega
  rw [e', this]
/-! ### most_lost -/
theorem best_loop {b n : Nat} (X Y : D) (cs : List Nat) (hY : Y = .str cs) (hB : IsB cs) (hb : b ≤ 100) (hn : n ≤ 6) (S : List O) : ∀ (vs : List (List Rat)) (q : Rat) (l3 l4 : Sl), (∀ r ∈ vs, r.length = n) → (∀ r ∈ vs, ∀ a ∈ r, Un b a) → Sz (6 * b + 1) q →
    ∃ (q' : Rat) (l3' l4' : Sl), forL (tNm 3) (sSeq (sSet 4 (eCall F_voice_share (eCons (eVar 3) (eCons (eVar 1) eNil)))) (sSet 2 (eIf (eB (eCall F_less (eCons (eVar 2) (eCons (eVar 4) eNil)))) (eVar 4) (eVar 2)))) (vs.map rowD) ([.val X, .val Y, .val (pr q), l3, l4], S)
      = some (.nx ([.val X, .val Y, .val (pr q'), l3', l4'], S)) ∧ (q' = q ∨ ∃ r ∈ vs, q' = vsh r cs) ∧ q ≤ q' ∧ (∀ r ∈ vs, vsh r cs ≤ q')
  | [], q, l3, l4, _, _, _ => ⟨q, l3, l4, rfl, .inl rfl, by grind, fun r hr => by simp at hr⟩
  | r :: vs, q, l3, l4, hl, hu, hq => by
    subst hY
    have hr := hl r (by simp)
    have hu0 := hu r (by simp)
    have hm := Nat.mul_le_mul hn hb
    have hz : Sz (6 * b + 1) (vsh r cs) := (vsh_sz r cs hu0).mono (by rw [hr]; have := Nat.mul_le_mul_right b hn; omega)
    have e1 := voice_ev hu0 hB (by rw [hr]; have := Nat.mul_le_mul hn hb; omega) S
    have e2 := less_ev hq hz (by omega) S
    by_cases hc : q < vsh r cs
    · obtain ⟨q', l3', l4', ih, h1, h2, h3⟩ := best_loop X (.str cs) cs rfl hB hb hn S vs (vsh r cs) (.val (rowD r)) (.val (pr (vsh r cs))) (fun x hx => hl x (by simp [hx])) (fun x hx => hu x (by simp [hx])) hz
      rw [decide_eq_true hc] at e2
      refine ⟨q', l3', l4', v_for_cons rfl (v_seq (v_set (v_call (v_cons (v_var rfl) (v_cons (v_var rfl) v_nil)) e1)) (Eq.trans (v_set (v_ifT (v_B (v_call (v_cons (v_var rfl) (v_cons (v_var rfl) v_nil)) e2)) (v_var rfl))) rfl)) ih, ?_, by grind, ?_⟩
      · rcases h1 with h1 | ⟨x, hx, h1⟩
        · exact .inr ⟨r, by simp, h1⟩
        · exact .inr ⟨x, by simp [hx], h1⟩
      · intro x hx
        rcases List.mem_cons.mp hx with rfl | hx
        · exact h2
        · exact h3 x hx
    · obtain ⟨q', l3', l4', ih, h1, h2, h3⟩ := best_loop X (.str cs) cs rfl hB hb hn S vs q (.val (rowD r)) (.val (pr (vsh r cs))) (fun x hx => hl x (by simp [hx])) (fun x hx => hu x (by simp [hx])) hq
      rw [decide_eq_false hc] at e2
      refine ⟨q', l3', l4', v_for_cons rfl (v_seq (v_set (v_call (v_cons (v_var rfl) (v_cons (v_var rfl) v_nil)) e1)) (Eq.trans (v_set (v_ifF (v_B (v_call (v_cons (v_var rfl) (v_cons (v_var rfl) v_nil)) e2)) (v_var rfl))) rfl)) ih, ?_, h2, ?_⟩
      · rcases h1 with h1 | ⟨x, hx, h1⟩
        · exact .inl h1
        · exact .inr ⟨x, by simp [hx], h1⟩
      · intro x hx
        rcases List.mem_cons.mp hx with rfl | hx
        · grind
        · exact h3 x hx
theorem most_ev {b w m nm : Nat} {vs : List (List Rat)} {cs : List Nat} {q : Rat} (V : Vo b cs.length vs) (hB : IsB cs) (hb : b ≤ 100) (hq : ∃ r ∈ vs, q = vsh r cs) (hmax : ∀ r ∈ vs, vsh r cs ≤ q) (h1 : Bf (mx vs cs) w) (h2 : Bf q m) (h3 : Bf (iv vs.length) nm) (S : List O) :
    F_most_lost [vcD vs, .str cs] S = some (.tup [.int (w : Nat), .int (m : Nat), .int (nm : Nat)], S) := by
  have hf := V.few
  have hs := V.sm
  have h0 : vs.length ≠ 0 := fun h => V.ne (List.length_eq_zero_iff.mp h)
  have el : dLen [vcD vs] = some (.int (vs.length : Nat)) := by show some (D.int ((vs.map rowD).length : Nat)) = _; rw [List.length_map]
  obtain ⟨r0, vs', rfl⟩ : ∃ r0 vs', vs = r0 :: vs' := by
    cases vs with
    | nil => exact (V.ne rfl).elim
    | cons a t => exact ⟨a, t, rfl⟩
  have hr0 := V.len r0 (by simp)
  have hm := Nat.mul_le_mul hs hb
  have hz : Sz (6 * b + 1) (vsh r0 cs) := (vsh_sz r0 cs (V.un r0 (by simp))).mono (by rw [hr0]; have := Nat.mul_le_mul_right b hs; omega)
  obtain ⟨q', l3, l4, e, g1, g2, g3⟩ := best_loop (vcD (r0 :: vs')) (.str cs) cs rfl hB hb hs S (r0 :: vs') (vsh r0 cs) .un .un V.len V.un hz
  have hqq : q' = q := by
    obtain ⟨r, hr, rfl⟩ := hq
    have a1 := g3 r hr
    have a2 : q' ≤ vsh r cs := by
      rcases g1 with rfl | ⟨x, hx, rfl⟩
      · exact hmax r0 (by simp)
      · exact hmax x hx
    grind
  subst hqq
  have e0 : dIx (vcD (r0 :: vs')) (.int 0) = some (rowD r0) := by
    show atI ((r0 :: vs').map rowD) 0 = _
    unfold atI ixN
    simp
  unfold F_most_lost
  apply v_run
  unfold B_most_lost
  refine v_seq (v_expr (v_call (v_cons (v_var rfl) (v_cons (v_cl (v_cons (v_var rfl) v_nil) (len_str (by omega))) v_nil)) (check_voices_ev V (by omega) S))) (v_seq (v_set (v_call (v_cons (v_bin (v_var rfl) v_ret e0) (v_cons (v_var rfl) v_nil)) (voice_ev (V.un r0 (by simp)) hB (by rw [hr0]; omega) S))) (v_seq (v_for (v_items (v_var rfl) rfl) e)
    (v_rt (v_tup (v_cons (v_call (v_cons (v_call (v_cons (v_var rfl) (v_cons (v_var rfl) v_nil)) (mixed_ev V hB hb S)) v_nil) (h1.ev S)) (v_cons (v_call (v_cons (v_var rfl) v_nil) (h2.ev S)) (v_cons (v_call (v_cons (v_call (v_cons v_ret (v_cons (v_cl (v_cons (v_var rfl) v_nil) el) v_nil)) (iv_ev h0 (Nat.lt_of_le_of_lt hf (by decide +kernel)) S)) v_nil) (h3.ev S)) v_nil))) (by show 3 ≤ LIM; decide)))))
end LW

set_option Elab.async false
set_option linter.all false
set_option maxRecDepth 100000
set_option exponentiation.threshold 100000
namespace LW
open PySem PySem.Spec PyProof.Rows L2 DL

/-! ### switching -/
/-- a is a whole number of parts of Q -/
def Prt (Q : Nat) (a : Rat) : Prop := ∃ z : Int, a * (((Q : Nat) : Int) : Rat) = (z : Rat)
theorem Prt.mul {Q R : Nat} {a b : Rat} (h : Prt Q a) (h2 : Prt R b) : Prt (Q * R) (a * b) := by
  obtain ⟨x, hx⟩ := h
  obtain ⟨y, hy⟩ := h2
  refine ⟨x * y, ?_⟩
  rw [Rat.intCast_mul, ← hx, ← hy, show (((Q * R : Nat)) : Int) = (Q : Int) * (R : Int) by push_cast; rfl, Rat.intCast_mul]
  grind
theorem Prt.add {Q : Nat} {a b : Rat} (h : Prt Q a) (h2 : Prt Q b) : Prt Q (a + b) := by
  obtain ⟨x, hx⟩ := h
  obtain ⟨y, hy⟩ := h2
  refine ⟨x + y, ?_⟩
  rw [Rat.intCast_add, ← hx, ← hy]
  grind
theorem Prt.sub {Q : Nat} {a b : Rat} (h : Prt Q a) (h2 : Prt Q b) : Prt Q (a - b) := by
  obtain ⟨x, hx⟩ := h
  obtain ⟨y, hy⟩ := h2
  refine ⟨x - y, ?_⟩
  rw [Rat.intCast_sub, ← hx, ← hy]
  grind
theorem Prt.one {Q : Nat} : Prt Q 1 := ⟨Q, by grind⟩
theorem Prt.zero {Q : Nat} : Prt Q 0 := ⟨0, by rw [show ((0 : Int) : Rat) = 0 from rfl]; grind⟩
theorem Prt.up {Q : Nat} {a : Rat} (h : Prt Q a) (R : Nat) : Prt (Q * R) a := by
  have := h.mul (Prt.one (Q := R))
  rwa [Rat.mul_one] at this
theorem cast_nat_eq (n : Nat) : ((n : Int) : Rat) = (n : Rat) := rfl
theorem Prt.sz {Q k : Nat} {a : Rat} (h : Prt Q a) (h0 : 0 ≤ a) (h1 : a ≤ 1) (hq : 0 < Q) (hQ : Q < 2 ^ k) : Sz k a := by
  obtain ⟨z, hz⟩ := h
  have hq' : (((Q : Nat) : Int) : Rat) ≠ 0 := by
    intro h
    have : (((Q : Nat) : Int) : Rat) = ((0 : Int) : Rat) := by rw [h]; rfl
    have := Rat.intCast_inj.mp this
    omega
  have hqp : (0 : Rat) ≤ (((Q : Nat) : Int) : Rat) := by
    have : ((0 : Int) : Rat) ≤ (((Q : Nat) : Int) : Rat) := Rat.intCast_le_intCast.mpr (by omega)
    exact this
  have e : a = (z : Rat) / (((Q : Nat) : Int) : Rat) := by rw [← hz]; grind
  have hz0 : 0 ≤ z := by
    have : ((0 : Int) : Rat) ≤ (z : Rat) := by rw [← hz]; exact Rat.mul_nonneg h0 hqp
    exact Rat.intCast_le_intCast.mp this
  have hz1 : z ≤ (Q : Int) := by
    have : (z : Rat) ≤ (((Q : Nat) : Int) : Rat) := by
      rw [← hz]
      have := Rat.mul_le_mul_of_nonneg_right h1 hqp
      rwa [Rat.one_mul] at this
    exact Rat.intCast_le_intCast.mp this
  rw [e]
  exact sz_parts (by omega) (by omega) hQ
def mixS (ws : List Rat) (st ot : Rat) : List Rat := ws.map fun w => st * w + ot * (rsum ws - w)
def swL (vs : List (List Rat)) (st ot : Rat) : Nat → List Rat → List Nat → List Rat
  | _, ws, [] => ws
  | k, ws, c :: cs => swL vs st ot (k + 1) (hrd (if 0 < k then mixS ws st ot else ws) vs k c) cs
/-- weights of a switching mixture -/
structure Ws (Q : Nat) (vs : List (List Rat)) (ws : List Rat) : Prop where
  len : ws.length = vs.length
  pos : ∀ w ∈ ws, 0 < w
  prt : ∀ w ∈ ws, Prt Q w
  sum : rsum ws ≤ 1
theorem rsum_prt {Q : Nat} : ∀ {ws : List Rat}, (∀ w ∈ ws, Prt Q w) → Prt Q (rsum ws)
  | [], _ => Prt.zero
  | w :: ws, h => (h w (by simp)).add (rsum_prt fun x hx => h x (by simp [hx]))
theorem rsum_nn : ∀ {ws : List Rat}, (∀ w ∈ ws, 0 ≤ w) → 0 ≤ rsum ws
  | [], _ => by show (0 : Rat) ≤ 0; grind
  | w :: ws, h => by
    have h1 := h w (by simp)
    have h2 := rsum_nn (ws := ws) fun x hx => h x (by simp [hx])
    show 0 ≤ w + rsum ws
    grind
theorem mem_le_rsum : ∀ {ws : List Rat}, (∀ w ∈ ws, 0 ≤ w) → ∀ w ∈ ws, w ≤ rsum ws
  | [], _, w, hw => by simp at hw
  | x :: ws, h, w, hw => by
    have h1 := h x (by simp)
    have h2 := rsum_nn (ws := ws) fun y hy => h y (by simp [hy])
    show w ≤ x + rsum ws
    rcases List.mem_cons.mp hw with rfl | hw
    · grind
    · have := mem_le_rsum (fun y hy => h y (by simp [hy])) w hw
      grind
theorem rsum_map_le {α : Type} (f g : α → Rat) : ∀ (xs : List α), (∀ x ∈ xs, f x ≤ g x) → rsum (xs.map f) ≤ rsum (xs.map g)
  | [], _ => by show (0 : Rat) ≤ 0; grind
  | x :: xs, h => by
    have h1 := h x (by simp)
    have h2 := rsum_map_le f g xs fun y hy => h y (by simp [hy])
    show f x + rsum (xs.map f) ≤ g x + rsum (xs.map g)
    grind
theorem rsum_map_add {α : Type} (f g : α → Rat) : ∀ (xs : List α), rsum (xs.map fun x => f x + g x) = rsum (xs.map f) + rsum (xs.map g)
  | [] => by show (0 : Rat) = 0 + 0; grind
  | x :: xs => by
    show f x + g x + rsum (xs.map fun x => f x + g x) = f x + rsum (xs.map f) + (g x + rsum (xs.map g))
    rw [rsum_map_add f g xs]; grind
theorem rsum_map_mul {α : Type} (q : Rat) (f : α → Rat) : ∀ (xs : List α), rsum (xs.map fun x => q * f x) = q * rsum (xs.map f)
  | [] => by show (0 : Rat) = q * 0; grind
  | x :: xs => by
    show q * f x + rsum (xs.map fun x => q * f x) = q * (f x + rsum (xs.map f))
    rw [rsum_map_mul q f xs]; grind
theorem rsum_const (q : Rat) : ∀ (ws : List Rat), rsum (ws.map fun _ => q) = (((ws.length : Nat) : Int) : Rat) * q
  | [] => by show (0 : Rat) = ((0 : Int) : Rat) * q; rw [show ((0 : Int) : Rat) = 0 from rfl]; grind
  | x :: ws => by
    show q + rsum (ws.map fun _ => q) = _
    rw [rsum_const q ws, List.length_cons, show (((ws.length + 1 : Nat)) : Int) = (ws.length : Int) + 1 by push_cast; rfl, Rat.intCast_add, show ((1 : Int) : Rat) = 1 from rfl]
    grind
/-- mixing keeps the sum -/
theorem mix_sum (ws : List Rat) (st ot : Rat) (h : st + ot * ((((ws.length : Nat) : Int) : Rat) - 1) = 1) : rsum (mixS ws st ot) = rsum ws := by
  unfold mixS
  have e : (fun w => st * w + ot * (rsum ws - w)) = (fun w => ot * rsum ws + (st - ot) * w) := by funext w; grind
  rw [e, rsum_map_add, rsum_map_mul (st - ot) (fun w => w), rsum_const (ot * rsum ws)]
  rw [show ws.map (fun w => w) = ws by simp]
  generalize ((((ws.length : Nat) : Int)) : Rat) = n at *
  grind
theorem Ws.mix {Q : Nat} {vs : List (List Rat)} {ws : List Rat} {st ot : Rat} (W : Ws Q vs ws) (R : Nat) (hs : 0 < st) (ho : 0 ≤ ot) (ps : Prt R st) (po : Prt R ot) (h : st + ot * ((((vs.length : Nat) : Int) : Rat) - 1) = 1) : Ws (R * Q) vs (mixS ws st ot) := by
  have hnn : ∀ w ∈ ws, (0 : Rat) ≤ w := fun w hw => Rat.le_of_lt (W.pos w hw)
  refine ⟨by unfold mixS; rw [List.length_map, W.len], fun x hx => ?_, fun x hx => ?_, by rw [mix_sum ws st ot (by rw [W.len]; exact h)]; exact W.sum⟩
  · obtain ⟨w, hw, rfl⟩ := List.mem_map.mp hx
    have h1 := Rat.mul_pos hs (W.pos w hw)
    have h2 := Rat.mul_nonneg ho (show 0 ≤ rsum ws - w by have := mem_le_rsum hnn w hw; grind)
    grind
  · obtain ⟨w, hw, rfl⟩ := List.mem_map.mp hx
    exact (ps.mul (W.prt w hw)).add (po.mul ((rsum_prt W.prt).sub (W.prt w hw)))
/-- rows of shares whose denominators part R -/
def Pv (R : Nat) (vs : List (List Rat)) : Prop := ∀ r ∈ vs, ∀ a ∈ r, Prt R a
theorem Prt.tb {R c : Nat} {a : Rat} (h : Prt R a) : Prt R (tb c a) := by
  unfold LW.tb
  split
  · exact h
  · exact Prt.one.sub h
theorem hrd_mem {ws : List Rat} {vs : List (List Rat)} {k c : Nat} {w : Rat} (hw : w ∈ hrd ws vs k c) : ∃ x ∈ ws, ∃ r ∈ vs, w = x * tb c (at' r k) := by
  obtain ⟨p, hp, rfl⟩ := List.mem_map.mp hw
  have h1 := (List.of_mem_zip (show (p.1, p.2) ∈ _ from hp)).1
  have h2 := (List.of_mem_zip (show (p.1, p.2) ∈ _ from hp)).2
  obtain ⟨r, hr, e⟩ := List.mem_map.mp h2
  exact ⟨p.1, h1, r, hr, by rw [e]⟩
theorem hrd_sum_le {b k c n : Nat} : ∀ {ws : List Rat} {vs : List (List Rat)}, (∀ w ∈ ws, 0 < w) → (∀ r ∈ vs, r.length = n) → (∀ r ∈ vs, ∀ a ∈ r, Un b a) → k < n → rsum (hrd ws vs k c) ≤ rsum ws
  | [], vs, _, _, _, _ => by show rsum (List.map _ (List.zip [] _)) ≤ 0; simp [rsum]
  | w :: ws, [], h, _, _, _ => by
    show rsum (List.map _ (List.zip (w :: ws) [])) ≤ _
    rw [List.zip_nil_right]
    exact rsum_nn fun x hx => Rat.le_of_lt (h x hx)
  | w :: ws, r :: vs, h, hl, hu, hk => by
    have ih := hrd_sum_le (c := c) (ws := ws) (vs := vs) (fun x hx => h x (by simp [hx])) (fun x hx => hl x (by simp [hx])) (fun x hx => hu x (by simp [hx])) hk
    show w * tb c (at' r k) + rsum (hrd ws vs k c) ≤ w + rsum ws
    have u := (hu r (by simp) _ (at_mem (r := r) (k := k) (by rw [hl r (by simp)]; exact hk))).tb (c := c)
    have hw := h w (by simp)
    have h2 : w * tb c (at' r k) ≤ w * 1 := Rat.mul_le_mul_of_nonneg_left (Rat.le_of_lt u.2.2) (Rat.le_of_lt hw)
    grind
theorem Ws.heard {b n Q R k c : Nat} {vs : List (List Rat)} {ws : List Rat} (W : Ws Q vs ws) (V : Vo b n vs) (hv : Pv R vs) (hk : k < n) : Ws (Q * R) vs (hrd ws vs k c) := by
  refine ⟨?_, fun w hw => ?_, fun w hw => ?_, ?_⟩
  · unfold hrd; rw [List.length_map, List.length_zip, List.length_map, W.len]; omega
  · obtain ⟨x, hx, r, hr, rfl⟩ := hrd_mem hw
    exact Rat.mul_pos (W.pos x hx) (V.un r hr _ (at_mem (by rw [V.len r hr]; exact hk))).tb.2.1
  · obtain ⟨x, hx, r, hr, rfl⟩ := hrd_mem hw
    exact (W.prt x hx).mul (hv r hr _ (at_mem (by rw [V.len r hr]; exact hk))).tb
  · have := hrd_sum_le (c := c) W.pos V.len V.un hk
    have := W.sum
    grind
theorem sub_parts (a b : Rat) : ((a.num * b.den - b.num * a.den : Int) : Rat) / (((a.den * b.den : Nat) : Int) : Rat) = a - b := by
  have h1 := den_ne a
  have h2 := den_ne b
  have e1 := val_eq a
  have e2 := val_eq b
  rw [show ((a.den * b.den : Nat) : Int) = (a.den : Int) * (b.den : Int) by push_cast; rfl]
  rw [Rat.intCast_sub, Rat.intCast_mul, Rat.intCast_mul, Rat.intCast_mul]
  generalize ((a.num : Int) : Rat) = an at *
  generalize ((b.num : Int) : Rat) = bn at *
  generalize (((a.den : Int)) : Rat) = ad at *
  generalize (((b.den : Int)) : Rat) = bd at *
  grind
/-- share(total[0] * one[1] - one[0] * total[1], total[1] * one[1]) -/
theorem minus_ev {a b : Rat} {i j : Nat} {f g : Ev D} {s : List Sl} {S : List O} (ha : Sz i a) (hb : Sz j b) (h : i + j ≤ 8900) (hf : f (s, S) = some (pr a, (s, S))) (hg : g (s, S) = some (pr b, (s, S))) :
    eCall F_share (eCons (eBin dSub (eBin dMul (eBin dIx f (ret (.int 0))) (eBin dIx g (ret (.int 1)))) (eBin dMul (eBin dIx g (ret (.int 0))) (eBin dIx f (ret (.int 1))))) (eCons (eBin dMul (eBin dIx f (ret (.int 1))) (eBin dIx g (ret (.int 1)))) eNil)) (s, S) = some (pr (a - b), (s, S)) := by
  have hn : (a.num * b.den - b.num * a.den).natAbs < 2 ^ (i + j + 1) := by
    have h1 : (a.num * b.den).natAbs < 2 ^ (i + j) := by rw [Int.natAbs_mul]; exact pow_mul_lt ha.1 hb.2
    have h2 : (b.num * a.den).natAbs < 2 ^ (i + j) := by rw [Int.natAbs_mul, Nat.mul_comm]; exact pow_mul_lt ha.2 hb.1
    rw [Nat.pow_succ]
    omega
  have e := share_pos (n := a.num * b.den - b.num * a.den) (d := a.den * b.den) (Nat.mul_ne_zero a.den_nz b.den_nz)
    (Nat.lt_of_lt_of_le hn (Nat.pow_le_pow_right (by decide) (by omega))) (Nat.lt_of_lt_of_le (pow_mul_lt ha.2 hb.2) (Nat.pow_le_pow_right (by decide) (by omega))) S
  rw [sub_parts] at e
  have h1 := lg ha.1
  have h2 := lg ha.2
  have h3 := lg hb.1
  have h4 := lg hb.2
  refine v_call (v_cons (v_bin (v_bin (v_bin hf v_ret rfl) (v_bin hg v_ret rfl) (o_mul ?_)) (v_bin (v_bin hg v_ret rfl) (v_bin hf v_ret rfl) (o_mul ?_)) rfl) (v_cons (v_bin (v_bin hf v_ret rfl) (v_bin hg v_ret rfl) (o_mulN ?_)) v_nil)) e
  all_goals
    try simp only [Int.natAbs_natCast]
    omega
end LW

set_option Elab.async false
set_option linter.all false
set_option maxRecDepth 100000
set_option exponentiation.threshold 100000
namespace LW
open PySem PySem.Spec PyProof.Rows L2 DL

theorem Ws.szs {Q m : Nat} {vs : List (List Rat)} {ws : List Rat} (W : Ws Q vs ws) (hq : 0 < Q) (hm : Q < 2 ^ m) : (∀ w ∈ ws, Sz m w) ∧ Sz m (rsum ws) ∧ ∀ w ∈ ws, Sz m (rsum ws - w) := by
  have hnn : ∀ w ∈ ws, (0 : Rat) ≤ w := fun w hw => Rat.le_of_lt (W.pos w hw)
  have hs := W.sum
  refine ⟨fun w hw => ?_, (rsum_prt W.prt).sz (rsum_nn hnn) hs hq hm, fun w hw => ?_⟩
  · have := mem_le_rsum hnn w hw
    exact (W.prt w hw).sz (hnn w hw) (by grind) hq hm
  · have h1 := mem_le_rsum hnn w hw
    have h2 := hnn w hw
    exact ((rsum_prt W.prt).sub (W.prt w hw)).sz (by grind) (by grind) hq hm
theorem zip_map_self {α β : Type} (f : α → β) : ∀ xs : List α, xs.zip (xs.map f) = xs.map fun x => (x, f x)
  | [] => rfl
  | x :: xs => by rw [List.map_cons, List.zip_cons_cons, zip_map_self f xs]; rfl
abbrev swBody : Es := (sSeq (sIf (eB (eBin dGt (eVar 6) (ret (.int 0)))) (sSeq (sSet 8 (eCall F_sum_of (eCons (eVar 3) eNil))) (sSeq (sSet 9 (eFz (eLc [10] (eItems (eVar 3)) (tNm 10) pYes (eCall F_share (eCons (eBin dSub (eBin dMul (eBin dIx (eVar 8) (ret (.int 0))) (eBin dIx (eVar 10) (ret (.int 1)))) (eBin dMul (eBin dIx (eVar 10) (ret (.int 0))) (eBin dIx (eVar 8) (ret (.int 1))))) (eCons (eBin dMul (eBin dIx (eVar 8) (ret (.int 1))) (eBin dIx (eVar 10) (ret (.int 1)))) eNil)))))) (sSet 3 (eFz (eLc [10, 11] (eArg dZip (eCons (eVar 3) (eCons (eVar 9) eNil))) (tTp (tCs (tNm 10) (tCs (tNm 11) tNl))) pYes (eCall F_plus (eCons (eCall F_times (eCons (eVar 5) (eCons (eVar 10) eNil))) (eCons (eCall F_times (eCons (eVar 4) (eCons (eVar 11) eNil))) eNil)))))))) sNil) (sSet 3 (eCall F_heard (eCons (eVar 3) (eCons (eVar 0) (eCons (eVar 6) (eCons (eVar 7) eNil)))))))
/-- what is asked of a rate -/
structure Rt (n : Nat) (rate st ot : Rat) : Prop where
  pos : 0 < rate
  lt : rate < 1
  est : st = 1 - rate
  eot : ot * ((((n : Nat) : Int) : Rat) - 1) = rate
  op : 0 < ot
  p1 : Prt 5040 st
  p2 : Prt 5040 ot
  s1 : Sz 20 st
  s2 : Sz 20 ot
theorem Rt.one {n : Nat} {rate st ot : Rat} (R : Rt n rate st ot) : st + ot * ((((n : Nat) : Int) : Rat) - 1) = 1 := by
  rw [R.eot, R.est]; grind
theorem sw_loop {b n : Nat} {vs : List (List Rat)} {rate st ot : Rat} (V : Vo b n vs) (hb : b ≤ 20) (hv : Pv 840 vs) (R : Rt vs.length rate st ot) (X Y : Sl) (S : List O) : ∀ (cs : List Nat) (k m Q : Nat) (ws : List Rat) (l6 l7 l8 l9 : Sl), IsB cs → k + cs.length = n → Ws Q vs ws → 0 < Q → Q < 2 ^ m → m + cs.length * 23 ≤ 200 →
    ∃ (l6' l7' l8' l9' : Sl), forL (tTp (tCs (tNm 6) (tCs (tNm 7) tNl))) swBody (pairL (cntF k cs.length) (cs.map fun c => .str [c])) ([.val (vcD vs), X, Y, .val (.lst (ws.map pr)), .val (pr ot), .val (pr st), l6, l7, l8, l9, .un, .un], S)
      = some (.nx ([.val (vcD vs), X, Y, .val (.lst ((swL vs st ot k ws cs).map pr)), .val (pr ot), .val (pr st), l6', l7', l8', l9', .un, .un], S)) ∧ ∃ Q', Ws Q' vs (swL vs st ot k ws cs) ∧ 0 < Q' ∧ Q' < 2 ^ (m + cs.length * 23)
  | [], k, m, Q, ws, l6, l7, l8, l9, _, _, W, hq, hm, _ => ⟨l6, l7, l8, l9, rfl, Q, W, hq, by simpa using hm⟩
  | c :: cs, k, m, Q, ws, l6, l7, l8, l9, hB, hk, W, hq, hm, hl => by
    have hf := V.few
    rw [List.length_cons, Nat.succ_mul] at hl
    rw [List.length_cons] at hk
    have hwn : ws.length ≤ 8 := by rw [W.len]; exact hf
    -- the mixing, where there is one
    have mid : ∃ (l8' l9' : Sl) (Q1 m1 : Nat), Ws Q1 vs (if 0 < k then mixS ws st ot else ws) ∧ 0 < Q1 ∧ Q1 < 2 ^ m1 ∧ m1 ≤ m + 13 ∧
        sIf (eB (eBin dGt (eVar 6) (ret (.int 0)))) (sSeq (sSet 8 (eCall F_sum_of (eCons (eVar 3) eNil))) (sSeq (sSet 9 (eFz (eLc [10] (eItems (eVar 3)) (tNm 10) pYes (eCall F_share (eCons (eBin dSub (eBin dMul (eBin dIx (eVar 8) (ret (.int 0))) (eBin dIx (eVar 10) (ret (.int 1)))) (eBin dMul (eBin dIx (eVar 10) (ret (.int 0))) (eBin dIx (eVar 8) (ret (.int 1))))) (eCons (eBin dMul (eBin dIx (eVar 8) (ret (.int 1))) (eBin dIx (eVar 10) (ret (.int 1)))) eNil)))))) (sSet 3 (eFz (eLc [10, 11] (eArg dZip (eCons (eVar 3) (eCons (eVar 9) eNil))) (tTp (tCs (tNm 10) (tCs (tNm 11) tNl))) pYes (eCall F_plus (eCons (eCall F_times (eCons (eVar 5) (eCons (eVar 10) eNil))) (eCons (eCall F_times (eCons (eVar 4) (eCons (eVar 11) eNil))) eNil)))))))) sNil
          ([.val (vcD vs), X, Y, .val (.lst (ws.map pr)), .val (pr ot), .val (pr st), .val (.int (k : Nat)), .val (.str [c]), l8, l9, .un, .un], S)
        = some (.nx ([.val (vcD vs), X, Y, .val (.lst ((if 0 < k then mixS ws st ot else ws).map pr)), .val (pr ot), .val (pr st), .val (.int (k : Nat)), .val (.str [c]), l8', l9', .un, .un], S)) := by
      by_cases h0 : 0 < k
      · obtain ⟨z1, z2, z3⟩ := W.szs hq hm
        have e1 := sum_ev (X := .lst (ws.map pr)) ws rfl z1 (by have := Nat.mul_le_mul hwn (show m + 1 ≤ 201 by omega); omega) S
        refine ⟨.val (pr (rsum ws)), .val (.lst ((ws.map fun w => rsum ws - w).map pr)), 5040 * Q, m + 13, ?_, Nat.mul_pos (by decide) hq, ?_, Nat.le_refl _, ?_⟩
        · rw [if_pos h0]
          exact W.mix 5040 (by have := R.est; have := R.lt; grind) (Rat.le_of_lt R.op) R.p1 R.p2 R.one
        · rw [Nat.add_comm m 13, Nat.pow_add]
          exact Nat.mul_lt_mul_of_lt_of_lt (show 5040 < 2 ^ 13 by decide) hm
        · rw [if_pos h0]
          refine v_sIfT (v_B (v_bin (v_var rfl) v_ret ?_)) (v_seq (v_set (v_call (v_cons (v_var rfl) v_nil) e1)) (v_seq (v_set (v_fz (v_mapT ws pr (fun w => pr (rsum ws - w)) (v_items (v_var rfl) rfl) (lim (by omega)) ?_))) ?_))
          · show some (D.bl (decide ((0 : Int) < (k : Nat)))) = _
            rw [decide_eq_true (by omega)]
          · intro w hw
            exact minus_ev z2 (z1 w hw) (by omega) (v_var rfl) (v_var rfl)
          · refine Eq.trans (v_set (v_fz (v_mapT2 ws (fun w => pr w) (fun w => pr (rsum ws - w)) (fun w => pr (st * w + ot * (rsum ws - w))) (v_arg (v_cons (v_var rfl) (v_cons (v_var rfl) v_nil)) ?_) (lim (by omega)) ?_))) ?_
            · show some (pairL (ws.map pr) (ws.map fun w => pr (rsum ws - w))) = _
              rw [show (fun w => pr (rsum ws - w)) = fun w => pr ((fun w => rsum ws - w) w) from rfl, pairL_zip pr (fun w => pr (rsum ws - w)) ws ws]
              congr 1
              have : ws.zip ws = ws.map fun x => (x, x) := by simpa using zip_map_self (fun x => x) ws
              rw [this, List.map_map]; rfl
            · intro w hw
              exact v_call (v_cons (v_call (v_cons (v_var rfl) (v_cons (v_var rfl) v_nil)) (times_ev R.s1 (z1 w hw) (by omega) S)) (v_cons (v_call (v_cons (v_var rfl) (v_cons (v_var rfl) v_nil)) (times_ev R.s2 (z3 w hw) (by omega) S)) v_nil)) (plus_ev (R.s1.mul (z1 w hw)) (R.s2.mul (z3 w hw)) (by omega) S)
            · unfold mixS
              rw [List.map_map, List.map_map]; rfl
      · refine ⟨l8, l9, Q, m, by rw [if_neg h0]; exact W, hq, hm, by omega, ?_⟩
        rw [if_neg h0]
        refine v_sIfF (v_B (v_bin (v_var rfl) v_ret ?_)) v_sNil
        show some (D.bl (decide ((0 : Int) < (k : Nat)))) = _
        rw [decide_eq_false (by omega)]
    obtain ⟨l8', l9', Q1, m1, W1, hq1, hm1, hmm, e1⟩ := mid
    have hq2 : Q1 * 840 < 2 ^ (m + 23) := by
      have : Q1 * 840 < 2 ^ (m1 + 10) := by
        rw [Nat.pow_add]
        exact Nat.mul_lt_mul_of_lt_of_lt hm1 (by decide)
      exact Nat.lt_of_lt_of_le this (Nat.pow_le_pow_right (by decide) (by omega))
    obtain ⟨z1, _, _⟩ := W1.szs hq1 hm1
    have e2 := heard_ev (k := k) (c := c) V (by omega) hB.cons.1 z1 (by rw [W1.len]; exact hf) (by omega) S
    obtain ⟨l6', l7', l8'', l9'', ih, Q', W', q1, q2⟩ := sw_loop V hb hv R X Y S cs (k + 1) (m + 23) (Q1 * 840) (hrd (if 0 < k then mixS ws st ot else ws) vs k c) (.val (.int (k : Nat))) (.val (.str [c])) l8' l9' hB.cons.2 (by omega) (W1.heard V hv (by omega)) (Nat.mul_pos hq1 (by decide)) hq2 (by omega)
    refine ⟨l6', l7', l8'', l9'', ?_, Q', W', q1, by rw [List.length_cons, Nat.succ_mul]; rw [show m + (cs.length * 23 + 23) = m + 23 + cs.length * 23 by omega]; exact q2⟩
    refine v_for_cons rfl (v_seq e1 ?_) ih
    exact Eq.trans (v_set (v_call (v_cons (v_var rfl) (v_cons (v_var rfl) (v_cons (v_var rfl) (v_cons (v_var rfl) v_nil)))) e2)) rfl
theorem iv_mul {n : Nat} (hn : n ≠ 0) : iv n * (((n : Nat) : Int) : Rat) = 1 := by
  unfold iv
  have : (((n : Nat) : Int) : Rat) ≠ 0 := by
    intro h
    have : (((n : Nat) : Int) : Rat) = ((0 : Int) : Rat) := by rw [h]; rfl
    have := Rat.intCast_inj.mp this
    omega
  rw [show ((1 : Int) : Rat) = 1 from rfl]
  grind
theorem w0_sum {n : Nat} (hn : n ≠ 0) : rsum (w0 n) = 1 := by
  have h : w0 n = (List.replicate n (0 : Rat)).map fun _ => iv n := by unfold w0; rw [List.map_replicate]
  rw [h, rsum_const, List.length_replicate, Rat.mul_comm]
  exact iv_mul hn
theorem w0_ws {n : Nat} {vs : List (List Rat)} (hv : vs.length = n) (hn : n ≠ 0) : Ws n vs (w0 n) :=
  ⟨by unfold w0; rw [List.length_replicate, hv], fun w hw => by rw [List.eq_of_mem_replicate hw]; exact iv_pos hn, fun w hw => by rw [List.eq_of_mem_replicate hw]; exact ⟨1, by rw [iv_mul hn]; rfl⟩, by rw [w0_sum hn]; grind⟩
def sw (vs : List (List Rat)) (st ot : Rat) (cs : List Nat) : Rat := rsum (swL vs st ot 0 (w0 vs.length) cs)
theorem switching_ev {b : Nat} {vs : List (List Rat)} {rate st ot : Rat} {cs : List Nat} (V : Vo b cs.length vs) (hB : IsB cs) (hb : b ≤ 20) (hv : Pv 840 vs) (R : Rt vs.length rate st ot) (hr : Sz 20 rate) (h2 : 2 ≤ vs.length) (S : List O) :
    F_switching [vcD vs, .str cs, pr rate] S = some (pr (sw vs st ot cs), S) := by
  have hf := V.few
  have hs := V.sm
  have h0 : vs.length ≠ 0 := by omega
  have el : dLen [vcD vs] = some (.int (vs.length : Nat)) := by show some (D.int ((vs.map rowD).length : Nat)) = _; rw [List.length_map]
  have W0 := w0_ws (vs := vs) rfl h0
  obtain ⟨l6, l7, l8, l9, e, Q', W', q1, q2⟩ := sw_loop V hb hv R (.val (.str cs)) (.val (pr rate)) S cs 0 4 vs.length (w0 vs.length) .un .un .un .un hB (by omega) W0 (by omega) (by omega) (by omega)
  have z := (W'.szs q1 (Nat.lt_of_lt_of_le q2 (Nat.pow_le_pow_right (by decide) (show 4 + cs.length * 23 ≤ 200 by omega)))).1
  have es := sum_ev (X := .lst ((swL vs st ot 0 (w0 vs.length) cs).map pr)) _ rfl z (by rw [W'.len]; have := Nat.mul_le_mul hf (show 200 + 1 ≤ 201 by omega); omega) S
  have l1 : F_less [.tup [.int 0, .int 1], pr rate] S = some (.bl true, S) := by
    have := less_ev sz0 hr (by omega) S
    rw [decide_eq_true R.pos] at this
    exact this
  have l2 : F_less [pr rate, .tup [.int 1, .int 1]] S = some (.bl true, S) := by
    have := less_ev hr sz1 (by omega) S
    rw [decide_eq_true R.lt] at this
    exact this
  -- the other's part: rate over (n - 1, 1)
  have eo : F_over [pr rate, .tup [.int ((vs.length : Nat) - 1 : Int), .int 1]] S = some (pr ot, S) := by
    have hn1 : ((vs.length - 1 : Nat) : Int) = (vs.length : Int) - 1 := by omega
    have hp := parts_of (n := ((vs.length - 1 : Nat) : Int)) (d := 1) (by decide) (by simp)
    have hq : pr ((((vs.length - 1 : Nat) : Int) : Rat) / (((1 : Nat) : Int) : Rat)) = .tup [.int ((vs.length : Nat) - 1 : Int), .int 1] := by
      unfold pr
      rw [hp.1, hp.2, hn1]; rfl
    have hv1 : ((((vs.length - 1 : Nat) : Int) : Rat) / (((1 : Nat) : Int) : Rat)) = (((vs.length : Nat) : Int) : Rat) - 1 := by
      rw [hn1, Rat.intCast_sub, show (((1 : Nat) : Int) : Rat) = 1 from rfl, show ((1 : Int) : Rat) = 1 from rfl]
      grind
    have hpos : 0 < ((((vs.length - 1 : Nat) : Int) : Rat) / (((1 : Nat) : Int) : Rat)) := (Rat.lt_iff 0 _).mpr (by rw [hp.1]; simp; omega)
    have := over_ev (b := ((((vs.length - 1 : Nat) : Int) : Rat) / (((1 : Nat) : Int) : Rat))) hr (j := 4) ⟨by rw [hp.1]; omega, by rw [hp.2]; decide⟩ hpos (by omega) S
    rw [hq] at this
    rw [this]
    congr 3
    rw [hv1] at hpos ⊢
    rw [← R.eot]
    generalize ((((vs.length : Nat) : Int) : Rat) - 1) = y at *
    grind
  have est : pr st = .tup [.int ((rate.den : Int) - rate.num), .int (rate.den : Nat)] := by rw [R.est]; exact sub_ev rate
  unfold F_switching
  apply v_run
  unfold B_switching
  refine v_seq (v_expr (v_call (v_cons (v_var rfl) v_nil) (check_bits_ev hB (by omega) S))) (v_seq (v_expr (v_call (v_cons (v_var rfl) (v_cons (v_cl (v_cons (v_var rfl) v_nil) (len_str (by omega))) v_nil)) (check_voices_ev V (by omega) S)))
    (v_seq (v_sIfF (v_orT (v_nF (v_B (v_call (v_cons v_ret (v_cons (v_var rfl) v_nil)) l1))) (v_orT (v_nF (v_B (v_call (v_cons (v_var rfl) (v_cons v_ret v_nil)) l2))) (v_B (v_bin (v_cl (v_cons (v_var rfl) v_nil) el) v_ret ?_)))) v_sNil)
    (v_seq (v_set (w0_ev hf (v_call (v_cons v_ret (v_cons (v_cl (v_cons (v_var rfl) v_nil) el) v_nil)) (iv_ev h0 (Nat.lt_of_le_of_lt hf (by decide +kernel)) S)) (v_cl (v_cons (v_var rfl) v_nil) el)))
    (v_seq (v_set (v_call (v_cons (v_var rfl) (v_cons (v_tup (v_cons (v_bin (v_cl (v_cons (v_var rfl) v_nil) el) v_ret rfl) (v_cons v_ret v_nil)) (by show 2 ≤ LIM; decide)) v_nil)) eo))
    (v_seq (v_set (v_tup (v_cons (v_bin (v_bin (v_var rfl) v_ret rfl) (v_bin (v_var rfl) v_ret rfl) rfl) (v_cons (v_bin (v_var rfl) v_ret rfl) v_nil)) (by show 2 ≤ LIM; decide)))
    (v_seq (v_for (v_arg (v_cons (v_var rfl) v_nil) enum_ev) (by rw [est] at e; exact e)) (v_rt (v_call (v_cons (v_var rfl) v_nil) es))))))))
  show some (D.bl (decide (((vs.length : Nat) : Int) < 2))) = _
  rw [decide_eq_false (by omega)]
end LW

set_option Elab.async false
set_option linter.all false
set_option maxRecDepth 100000
set_option exponentiation.threshold 100000
namespace LW
open PySem PySem.Spec PyProof.Rows L2 DL

/-! ### sums of rows turned, doubled -/
theorem rsum_app : ∀ xs ys : List Rat, rsum (xs ++ ys) = rsum xs + rsum ys
  | [], ys => by show rsum ys = 0 + rsum ys; grind
  | x :: xs, ys => by
    show x + rsum (xs ++ ys) = x + rsum xs + rsum ys
    rw [rsum_app xs ys]; grind
theorem rsum_rev : ∀ xs : List Rat, rsum xs.reverse = rsum xs
  | [] => rfl
  | x :: xs => by
    rw [List.reverse_cons, rsum_app, rsum_rev xs]
    show rsum xs + (x + 0) = x + rsum xs
    grind
theorem zip_rev {α β : Type} : ∀ (xs : List α) (ys : List β), xs.length = ys.length → xs.reverse.zip ys.reverse = (xs.zip ys).reverse
  | [], [], _ => rfl
  | x :: xs, y :: ys, h => by
    have h' : xs.length = ys.length := by simpa using h
    rw [List.reverse_cons, List.reverse_cons, List.zip_cons_cons, List.reverse_cons, List.zip_append (by simpa using h'), zip_rev xs ys h']
    rfl
theorem hrd_rev {ws : List Rat} {vs : List (List Rat)} (h : ws.length = vs.length) (k c : Nat) : hrd ws.reverse vs.reverse k c = (hrd ws vs k c).reverse := by
  unfold hrd
  rw [List.map_reverse, zip_rev _ _ (by rw [List.length_map]; exact h), List.map_reverse]
theorem tl1_rev {ws : List Rat} {vs : List (List Rat)} (h : ws.length = vs.length) (k : Nat) : tl1 ws.reverse vs.reverse k = (tl1 ws vs k).reverse := by
  unfold tl1
  rw [zip_rev _ _ h, List.map_reverse]
theorem hrd_len {ws : List Rat} {vs : List (List Rat)} (h : ws.length = vs.length) (k c : Nat) : (hrd ws vs k c).length = vs.length := by
  unfold hrd; rw [List.length_map, List.length_zip, List.length_map]; omega
theorem sayL_rev (vs : List (List Rat)) : ∀ (cs : List Nat) (k : Nat) (ws : List Rat), ws.length = vs.length → sayL vs.reverse k ws.reverse cs = sayL vs k ws cs
  | [], _, _, _ => rfl
  | c :: cs, k, ws, h => by
    show rsum (tl1 ws.reverse vs.reverse k) / rsum ws.reverse :: sayL vs.reverse (k + 1) (hrd ws.reverse vs.reverse k c) cs = _
    rw [tl1_rev h, rsum_rev, rsum_rev, hrd_rev h, sayL_rev vs cs (k + 1) _ (hrd_len h k c)]
    rfl
theorem w0_rev (n : Nat) : (w0 n).reverse = w0 n := by unfold w0; exact List.reverse_replicate
theorem w0_len (n : Nat) : (w0 n).length = n := by unfold w0; exact List.length_replicate
theorem say_rev (vs : List (List Rat)) (cs : List Nat) : sayL vs.reverse 0 (w0 vs.reverse.length) cs = sayL vs 0 (w0 vs.length) cs := by
  have := sayL_rev vs cs 0 (w0 vs.length) (w0_len _)
  rw [w0_rev] at this
  rw [List.length_reverse]; exact this
theorem mx_rev (vs : List (List Rat)) (cs : List Nat) : mx vs.reverse cs = mx vs cs := by
  unfold mx
  rw [List.length_reverse, List.map_reverse, rsum_rev]
theorem hrd_app {ws xs : List Rat} {vs us : List (List Rat)} (h : ws.length = vs.length) (k c : Nat) : hrd (ws ++ xs) (vs ++ us) k c = hrd ws vs k c ++ hrd xs us k c := by
  unfold hrd
  rw [List.map_append, List.zip_append (by rw [List.length_map]; exact h), List.map_append]
theorem tl1_app {ws xs : List Rat} {vs us : List (List Rat)} (h : ws.length = vs.length) (k : Nat) : tl1 (ws ++ xs) (vs ++ us) k = tl1 ws vs k ++ tl1 xs us k := by
  unfold tl1
  rw [List.zip_append h, List.map_append]
/-- weights multiplied, voices told twice -/
theorem sayL_two (vs : List (List Rat)) : ∀ (cs : List Nat) (k : Nat) (ws : List Rat), ws.length = vs.length → sayL (vs ++ vs) k (ws ++ ws) cs = sayL vs k ws cs
  | [], _, _, _ => rfl
  | c :: cs, k, ws, h => by
    show rsum (tl1 (ws ++ ws) (vs ++ vs) k) / rsum (ws ++ ws) :: sayL (vs ++ vs) (k + 1) (hrd (ws ++ ws) (vs ++ vs) k c) cs = rsum (tl1 ws vs k) / rsum ws :: sayL vs (k + 1) (hrd ws vs k c) cs
    rw [tl1_app h, rsum_app, rsum_app, hrd_app h, sayL_two vs cs (k + 1) _ (hrd_len h k c)]
    congr 1
    have : ∀ a b : Rat, (a + a) / (b + b) = a / b := fun a b => by
      by_cases hb : b = 0
      · subst hb; rw [show (0 : Rat) + 0 = 0 by grind]; simp [Rat.div_def]
      · grind
    exact this _ _
theorem hrd_mul (q : Rat) (ws : List Rat) (vs : List (List Rat)) (k c : Nat) : hrd (ws.map (q * ·)) vs k c = (hrd ws vs k c).map (q * ·) := by
  unfold hrd
  induction ws generalizing vs with
  | nil => rfl
  | cons w ws ih =>
    cases vs with
    | nil => rfl
    | cons r vs =>
      simp only [List.map_cons, List.zip_cons_cons]
      rw [ih vs]
      congr 1
      grind
theorem tl1_mul (q : Rat) (ws : List Rat) (vs : List (List Rat)) (k : Nat) : tl1 (ws.map (q * ·)) vs k = (tl1 ws vs k).map (q * ·) := by
  unfold tl1
  induction ws generalizing vs with
  | nil => rfl
  | cons w ws ih =>
    cases vs with
    | nil => rfl
    | cons r vs =>
      simp only [List.map_cons, List.zip_cons_cons]
      rw [ih vs]
      congr 1
      grind
theorem rsum_mulL (q : Rat) (ws : List Rat) : rsum (ws.map (q * ·)) = q * rsum ws := by
  have := rsum_map_mul q (fun w => w) ws
  rw [show ws.map (fun w => w) = ws by simp] at this
  exact this
theorem sayL_mul {q : Rat} (hq : q ≠ 0) (vs : List (List Rat)) : ∀ (cs : List Nat) (k : Nat) (ws : List Rat), sayL vs k (ws.map (q * ·)) cs = sayL vs k ws cs
  | [], _, _ => rfl
  | c :: cs, k, ws => by
    show rsum (tl1 (ws.map (q * ·)) vs k) / rsum (ws.map (q * ·)) :: sayL vs (k + 1) (hrd (ws.map (q * ·)) vs k c) cs = rsum (tl1 ws vs k) / rsum ws :: sayL vs (k + 1) (hrd ws vs k c) cs
    rw [tl1_mul, rsum_mulL, rsum_mulL, hrd_mul, sayL_mul hq vs cs (k + 1) _]
    congr 1
    have : ∀ a b : Rat, (q * a) / (q * b) = a / b := fun a b => by
      by_cases hb : b = 0
      · subst hb; simp [Rat.div_def]
      · grind
    exact this _ _
theorem iv_two {n : Nat} (hn : n ≠ 0) : iv (n + n) = 1 / 2 * iv n := by
  have h1 := iv_mul hn
  have h2 := iv_mul (n := n + n) (by omega)
  rw [show (((n + n : Nat)) : Int) = (n : Int) + (n : Int) by push_cast; rfl, Rat.intCast_add] at h2
  generalize (((n : Nat) : Int) : Rat) = x at *
  grind
theorem say_two {vs : List (List Rat)} (cs : List Nat) (h : vs.length ≠ 0) : sayL (vs ++ vs) 0 (w0 (vs ++ vs).length) cs = sayL vs 0 (w0 vs.length) cs := by
  have e : w0 (vs ++ vs).length = (w0 vs.length ++ w0 vs.length).map (1 / 2 * ·) := by
    unfold w0
    rw [List.length_append, List.replicate_append_replicate, List.map_replicate, iv_two h]
  rw [e, sayL_mul (by decide +kernel), sayL_two vs cs 0 _ (w0_len _)]
theorem mx_two {vs : List (List Rat)} (cs : List Nat) (h : vs.length ≠ 0) : mx (vs ++ vs) cs = mx vs cs := by
  unfold mx
  rw [List.length_append, iv_two h, List.map_append, rsum_app]
  grind
/-! ### bits exchanged -/
def turn (r : List Rat) : List Rat := r.map fun a => 1 - a
theorem tb_fb {c : Nat} {a : Rat} (hc : c = 48 ∨ c = 49) : tb (fb c) (1 - a) = tb c a := by
  rcases hc with rfl | rfl
  · show 1 - a = 1 - a; rfl
  · show 1 - (1 - a) = a; grind
theorem tb_fb2 {c : Nat} {a : Rat} (hc : c = 48 ∨ c = 49) : tb (fb c) a = 1 - tb c a := by
  rcases hc with rfl | rfl
  · show a = 1 - (1 - a); grind
  · show 1 - a = 1 - a; rfl
theorem at_turn {r : List Rat} {k : Nat} (h : k < r.length) : at' (turn r) k = 1 - at' r k := by
  unfold at' turn
  rw [List.getElem?_map, List.getElem?_eq_getElem h]; rfl
theorem vsh_turn : ∀ (r : List Rat) (cs : List Nat), IsB cs → vsh (turn r) (flip cs) = vsh r cs
  | [], cs, _ => by cases cs <;> rfl
  | a :: r, [], _ => rfl
  | a :: r, c :: cs, h => by
    show tb (fb c) (1 - a) * vsh (turn r) (flip cs) = tb c a * vsh r cs
    rw [tb_fb h.cons.1, vsh_turn r cs h.cons.2]
theorem mx_turn (vs : List (List Rat)) {cs : List Nat} (h : IsB cs) : mx (vs.map turn) (flip cs) = mx vs cs := by
  unfold mx
  rw [List.length_map, List.map_map]
  congr 2
  apply List.map_congr_left
  intro r _
  exact vsh_turn r cs h
theorem hrd_turn {n k c : Nat} (ws : List Rat) {vs : List (List Rat)} (hl : ∀ r ∈ vs, r.length = n) (hk : k < n) (hc : c = 48 ∨ c = 49) : hrd ws (vs.map turn) k (fb c) = hrd ws vs k c := by
  unfold hrd
  rw [List.map_map]
  congr 2
  apply List.map_congr_left
  intro r hr
  show tb (fb c) (at' (turn r) k) = _
  rw [at_turn (by rw [hl r hr]; exact hk), tb_fb hc]
theorem tl1_turn {n k : Nat} : ∀ {ws : List Rat} {vs : List (List Rat)}, ws.length = vs.length → (∀ r ∈ vs, r.length = n) → k < n → rsum (tl1 ws (vs.map turn) k) = rsum ws - rsum (tl1 ws vs k)
  | [], [], _, _, _ => by show (0 : Rat) = 0 - 0; grind
  | w :: ws, r :: vs, h, hl, hk => by
    have ih := tl1_turn (ws := ws) (vs := vs) (by simpa using h) (fun x hx => hl x (by simp [hx])) hk
    show w * at' (turn r) k + rsum (tl1 ws (vs.map turn) k) = w + rsum ws - (w * at' r k + rsum (tl1 ws vs k))
    rw [ih, at_turn (by rw [hl r (by simp)]; exact hk)]
    grind
theorem sayL_turn {n : Nat} {vs : List (List Rat)} (hl : ∀ r ∈ vs, r.length = n) : ∀ (cs : List Nat) (k : Nat) (ws : List Rat), ws.length = vs.length → IsB cs → k + cs.length = n → (∀ w ∈ ws, 0 < w) → (∀ (k c : Nat) (ws : List Rat), k < n → (∀ w ∈ ws, 0 < w) → ∀ w ∈ hrd ws vs k c, 0 < w) → vs ≠ [] →
    sayL (vs.map turn) k ws (flip cs) = turn (sayL vs k ws cs)
  | [], _, _, _, _, _, _, _, _ => rfl
  | c :: cs, k, ws, h, hB, hk, hp, hh, hne => by
    rw [List.length_cons] at hk
    have hpos : 0 < rsum ws := rsum_pos ws (fun e => hne (List.length_eq_zero_iff.mp (by rw [← h, e]; rfl))) hp
    show rsum (tl1 ws (vs.map turn) k) / rsum ws :: sayL (vs.map turn) (k + 1) (hrd ws (vs.map turn) k (fb c)) (flip cs) = (1 - rsum (tl1 ws vs k) / rsum ws) :: turn (sayL vs (k + 1) (hrd ws vs k c) cs)
    rw [tl1_turn h hl (by omega), hrd_turn ws hl (by omega) hB.cons.1, sayL_turn hl cs (k + 1) _ (hrd_len h k c) hB.cons.2 (by omega) (hh k c ws (by omega) hp) hh hne]
    congr 1
    generalize rsum ws = x at *
    grind
/-! ### what is said and the whole -/
def fin (ws : List Rat) (vs : List (List Rat)) (k : Nat) (cs : List Nat) : List Rat := (ws.zip vs).map fun p => p.1 * vsh (p.2.drop k) cs
theorem fin_nil {vs : List (List Rat)} (k : Nat) : ∀ {ws : List Rat}, ws.length = vs.length → fin ws vs k [] = ws := by
  induction vs with
  | nil => intro ws h; have := List.length_eq_zero_iff.mp h; subst this; rfl
  | cons r vs ih =>
    intro ws h
    cases ws with
    | nil => simp at h
    | cons w ws =>
      show w * vsh (r.drop k) [] :: fin ws vs k [] = _
      rw [ih (by simpa using h), show vsh (r.drop k) [] = 1 by cases r.drop k <;> rfl, Rat.mul_one]
theorem vsh_drop {r : List Rat} {k c : Nat} {cs : List Nat} (h : k < r.length) : vsh (r.drop k) (c :: cs) = tb c (at' r k) * vsh (r.drop (k + 1)) cs := by
  rw [List.drop_eq_getElem_cons h]
  unfold at'
  rw [List.getElem?_eq_getElem h]; rfl
theorem fin_step {n k c : Nat} {cs : List Nat} (hk : k < n) : ∀ {ws : List Rat} {vs : List (List Rat)}, (∀ r ∈ vs, r.length = n) → fin (hrd ws vs k c) vs (k + 1) cs = fin ws vs k (c :: cs)
  | [], vs, _ => by cases vs <;> rfl
  | w :: ws, [], _ => rfl
  | w :: ws, r :: vs, hl => by
    have ih := fin_step (c := c) (cs := cs) hk (ws := ws) (vs := vs) fun x hx => hl x (by simp [hx])
    show w * tb c (at' r k) * vsh (r.drop (k + 1)) cs :: fin (hrd ws vs k c) vs (k + 1) cs = w * vsh (r.drop k) (c :: cs) :: fin ws vs k (c :: cs)
    rw [ih, vsh_drop (by rw [hl r (by simp)]; exact hk), Rat.mul_assoc]
theorem tl1_hrd {k : Nat} : ∀ {ws : List Rat} {vs : List (List Rat)}, ws.length = vs.length → rsum (hrd ws vs k 49) = rsum (tl1 ws vs k) ∧ rsum (hrd ws vs k 48) = rsum ws - rsum (tl1 ws vs k)
  | [], [], _ => ⟨rfl, by show (0 : Rat) = 0 - 0; grind⟩
  | w :: ws, r :: vs, h => by
    obtain ⟨h1, h2⟩ := tl1_hrd (k := k) (ws := ws) (vs := vs) (by simpa using h)
    constructor
    · show w * at' r k + rsum (hrd ws vs k 49) = w * at' r k + rsum (tl1 ws vs k)
      rw [h1]
    · show w * (1 - at' r k) + rsum (hrd ws vs k 48) = w + rsum ws - (w * at' r k + rsum (tl1 ws vs k))
      rw [h2]; grind
theorem tele {b n : Nat} {vs : List (List Rat)} (V : Vo b n vs) : ∀ (cs : List Nat) (k j : Nat) (ws : List Rat), IsB cs → k + cs.length ≤ n → Wt b j vs ws → vsh (sayL vs k ws cs) cs * rsum ws = rsum (fin ws vs k cs)
  | [], k, j, ws, _, _, W => by
    rw [fin_nil k W.len]
    show 1 * rsum ws = _
    rw [Rat.one_mul]
  | c :: cs, k, j, ws, hB, hk, W => by
    rw [List.length_cons] at hk
    have hpos : 0 < rsum ws := rsum_pos ws (fun e => V.ne (List.length_eq_zero_iff.mp (by rw [← W.len, e]; rfl))) W.pos
    have ih := tele V cs (k + 1) (j + b) (hrd ws vs k c) hB.cons.2 (by omega) (W.heard V (by omega))
    rw [fin_step (by omega) V.len] at ih
    rw [← ih]
    show tb c (rsum (tl1 ws vs k) / rsum ws) * vsh (sayL vs (k + 1) (hrd ws vs k c) cs) cs * rsum ws = _
    have e : tb c (rsum (tl1 ws vs k) / rsum ws) * rsum ws = rsum (hrd ws vs k c) := by
      obtain ⟨h1, h2⟩ := tl1_hrd (k := k) W.len
      rcases hB.cons.1 with rfl | rfl
      · rw [h2]
        show (1 - rsum (tl1 ws vs k) / rsum ws) * rsum ws = _
        generalize rsum ws = x at *
        grind
      · rw [h1]
        show rsum (tl1 ws vs k) / rsum ws * rsum ws = _
        generalize rsum ws = x at *
        grind
    rw [← e]; grind
theorem fin_w0 (vs : List (List Rat)) (cs : List Nat) : rsum (fin (w0 vs.length) vs 0 cs) = mx vs cs := by
  unfold mx
  rw [← rsum_map_mul]
  congr 1
  have : ∀ (q : Rat) (vs : List (List Rat)), fin (List.replicate vs.length q) vs 0 cs = vs.map fun r => q * vsh r cs := by
    intro q vs
    induction vs with
    | nil => rfl
    | cons r vs ih =>
      show q * vsh (r.drop 0) cs :: fin (List.replicate vs.length q) vs 0 cs = _
      rw [ih]; rfl
  exact this _ _
theorem tele0 {b : Nat} {vs : List (List Rat)} {cs : List Nat} (V : Vo b cs.length vs) (hB : IsB cs) : vsh (sayL vs 0 (w0 vs.length) cs) cs = mx vs cs := by
  have h0 : vs.length ≠ 0 := fun h => V.ne (List.length_eq_zero_iff.mp h)
  have := tele V cs 0 4 (w0 vs.length) hB (by omega) (w0_wt rfl h0 V.few)
  rw [w0_sum h0, Rat.mul_one, fin_w0] at this
  exact this
theorem sayL_app {n : Nat} {vs : List (List Rat)} (hl : ∀ r ∈ vs, r.length = n) (c2 : List Nat) : ∀ (c1 : List Nat) (k : Nat) (ws : List Rat), ws.length = vs.length → k + c1.length ≤ n → sayL vs k ws (c1 ++ c2) = sayL vs k ws c1 ++ sayL vs (k + c1.length) (fin ws vs k c1) c2
  | [], k, ws, h, _ => by rw [fin_nil k h]; rfl
  | c :: c1, k, ws, h, hk => by
    rw [List.length_cons] at hk
    have ih := sayL_app hl c2 c1 (k + 1) (hrd ws vs k c) (hrd_len h k c) (by omega)
    show _ :: sayL vs (k + 1) (hrd ws vs k c) (c1 ++ c2) = _
    rw [ih, fin_step (by omega) hl, List.length_cons, show k + 1 + c1.length = k + (c1.length + 1) by omega]
    rfl
theorem sayL_len : ∀ (cs : List Nat) (vs : List (List Rat)) (k : Nat) (ws : List Rat), (sayL vs k ws cs).length = cs.length
  | [], _, _, _ => rfl
  | c :: cs, vs, k, ws => by show (sayL vs (k + 1) _ cs).length + 1 = _; rw [sayL_len cs]; rfl
theorem at_take {r : List Rat} {k f : Nat} (h : k < f) : at' (r.take f) k = at' r k := by
  unfold at'
  rw [List.getElem?_take_of_lt h]
theorem sayL_take (f : Nat) (vs : List (List Rat)) : ∀ (cs : List Nat) (k : Nat) (ws : List Rat), k + cs.length ≤ f → sayL (vs.map fun r => r.take f) k ws cs = sayL vs k ws cs
  | [], _, _, _ => rfl
  | c :: cs, k, ws, h => by
    rw [List.length_cons] at h
    have e1 : tl1 ws (vs.map fun r => r.take f) k = tl1 ws vs k := by
      unfold tl1
      induction ws generalizing vs with
      | nil => rfl
      | cons w ws ih =>
        cases vs with
        | nil => rfl
        | cons r vs =>
          simp only [List.map_cons, List.zip_cons_cons]
          rw [ih vs, at_take (by omega)]
    have e2 : hrd ws (vs.map fun r => r.take f) k c = hrd ws vs k c := by
      unfold hrd
      rw [List.map_map]
      congr 2
      apply List.map_congr_left
      intro r _
      show tb c (at' (r.take f) k) = _
      rw [at_take (by omega)]
    show rsum (tl1 ws (vs.map fun r => r.take f) k) / rsum ws :: sayL (vs.map fun r => r.take f) (k + 1) (hrd ws (vs.map fun r => r.take f) k c) cs = _
    rw [e1, e2, sayL_take f vs cs (k + 1) _ (by omega)]
    rfl
theorem vsh_take : ∀ (f : Nat) (r : List Rat) (cs : List Nat), cs.length ≤ f → vsh (r.take f) cs = vsh r cs
  | 0, r, [], _ => by rw [List.take_zero]; cases r <;> rfl
  | f + 1, [], cs, _ => rfl
  | f + 1, a :: r, [], _ => rfl
  | f + 1, a :: r, c :: cs, h => by
    show tb c a * vsh (r.take f) cs = tb c a * vsh r cs
    rw [vsh_take f r cs (by simpa using h)]
theorem mx_take (f : Nat) (vs : List (List Rat)) (cs : List Nat) (h : cs.length ≤ f) : mx (vs.map fun r => r.take f) cs = mx vs cs := by
  unfold mx
  rw [List.length_map, List.map_map]
  congr 2
  apply List.map_congr_left
  intro r _
  exact vsh_take f r cs h
theorem say_short {b : Nat} {vs : List (List Rat)} {cs : List Nat} (V : Vo b cs.length vs) (f : Nat) (hf : f ≤ cs.length) : sayL (vs.map fun r => r.take f) 0 (w0 (vs.map fun r => r.take f).length) (cs.take f) = (sayL vs 0 (w0 vs.length) cs).take f := by
  have hl : (cs.take f).length = f := by rw [List.length_take]; omega
  rw [List.length_map, sayL_take f vs _ 0 _ (by omega)]
  have := sayL_app V.len (cs.drop f) (cs.take f) 0 (w0 vs.length) (w0_len _) (by omega)
  rw [List.take_append_drop] at this
  rw [this, List.take_append_of_le_length (by rw [sayL_len]; omega), List.take_of_length_le (i := f) (l := sayL vs 0 (w0 vs.length) (cs.take f)) (by rw [sayL_len]; omega)]
theorem mx_short {b : Nat} {vs : List (List Rat)} {cs : List Nat} (V : Vo b cs.length vs) (hB : IsB cs) (f : Nat) (hf : f ≤ cs.length) :
    mx (vs.map fun r => r.take f) (cs.take f) * vsh ((sayL vs 0 (w0 vs.length) cs).drop f) (cs.drop f) = mx vs cs := by
  have hl : (cs.take f).length = f := by rw [List.length_take]; omega
  have h0 : vs.length ≠ 0 := fun h => V.ne (List.length_eq_zero_iff.mp h)
  have e1 := sayL_app V.len (cs.drop f) (cs.take f) 0 (w0 vs.length) (w0_len _) (by omega)
  rw [List.take_append_drop] at e1
  rw [e1, List.drop_append_of_le_length (by rw [sayL_len]; omega), List.drop_of_length_le (by rw [sayL_len]; omega), List.nil_append, hl, Nat.zero_add, mx_take f vs _ (by omega)]
  -- the weights behind the first f
  have key : ∀ (c1 : List Nat) (k j : Nat) (ws : List Rat), IsB c1 → k + c1.length ≤ cs.length → Wt b j vs ws → ∃ j', Wt b j' vs (fin ws vs k c1) := by
    intro c1
    induction c1 with
    | nil => intro k j ws _ _ W; exact ⟨j, by rw [fin_nil k W.len]; exact W⟩
    | cons c c1 ih =>
      intro k j ws hB hk W
      rw [List.length_cons] at hk
      obtain ⟨j', W'⟩ := ih (k + 1) (j + b) (hrd ws vs k c) hB.cons.2 (by omega) (W.heard V (by omega))
      rw [fin_step (by omega) V.len] at W'
      exact ⟨j', W'⟩
  have hB1 : IsB (cs.take f) := fun c hc => hB c (List.mem_of_mem_take hc)
  have hB2 : IsB (cs.drop f) := fun c hc => hB c (List.mem_of_mem_drop hc)
  obtain ⟨j', W'⟩ := key (cs.take f) 0 4 (w0 vs.length) hB1 (by omega) (w0_wt rfl h0 V.few)
  have t2 := tele V (cs.drop f) f j' (fin (w0 vs.length) vs 0 (cs.take f)) hB2 (by rw [List.length_drop]; omega) W'
  rw [fin_w0] at t2
  rw [Rat.mul_comm, t2, ← fin_w0 vs cs]
  congr 1
  have fa : ∀ (c1 c2 : List Nat) (k : Nat) (ws : List Rat), ws.length = vs.length → k + c1.length ≤ cs.length → fin (fin ws vs k c1) vs (k + c1.length) c2 = fin ws vs k (c1 ++ c2) := by
    intro c1
    induction c1 with
    | nil => intro c2 k ws h _; rw [fin_nil k h]; rfl
    | cons c c1 ih =>
      intro c2 k ws h hk
      rw [List.length_cons] at hk
      have := ih c2 (k + 1) (hrd ws vs k c) (hrd_len h k c) (by omega)
      rw [fin_step (by omega) V.len, fin_step (by omega) V.len] at this
      rw [List.length_cons, show k + (c1.length + 1) = k + 1 + c1.length by omega]
      exact this
  have := fa (cs.take f) (cs.drop f) 0 (w0 vs.length) (w0_len _) (by omega)
  rw [List.take_append_drop, hl, Nat.zero_add] at this
  exact this
end LW

set_option Elab.async false
set_option linter.all false
set_option maxRecDepth 100000
set_option exponentiation.threshold 100000
namespace LW
open PySem PySem.Spec PyProof.Rows L2 DL

/-! ### switching: its laws -/
theorem mixS_rev (ws : List Rat) (st ot : Rat) : mixS ws.reverse st ot = (mixS ws st ot).reverse := by
  unfold mixS
  rw [rsum_rev, List.map_reverse]
theorem mixS_len (ws : List Rat) (st ot : Rat) : (mixS ws st ot).length = ws.length := by unfold mixS; rw [List.length_map]
def mx0 (k : Nat) (ws : List Rat) (st ot : Rat) : List Rat := if 0 < k then mixS ws st ot else ws
theorem mx0_len (k : Nat) (ws : List Rat) (st ot : Rat) : (mx0 k ws st ot).length = ws.length := by unfold mx0; split; exact mixS_len _ _ _; rfl
theorem mx0_rev (k : Nat) (ws : List Rat) (st ot : Rat) : mx0 k ws.reverse st ot = (mx0 k ws st ot).reverse := by unfold mx0; split; exact mixS_rev _ _ _; rfl
theorem swL_rev (vs : List (List Rat)) (st ot : Rat) : ∀ (cs : List Nat) (k : Nat) (ws : List Rat), ws.length = vs.length → swL vs.reverse st ot k ws.reverse cs = (swL vs st ot k ws cs).reverse
  | [], _, _, _ => rfl
  | c :: cs, k, ws, h => by
    show swL vs.reverse st ot (k + 1) (hrd (mx0 k ws.reverse st ot) vs.reverse k c) cs = (swL vs st ot (k + 1) (hrd (mx0 k ws st ot) vs k c) cs).reverse
    rw [mx0_rev, hrd_rev (by rw [mx0_len]; exact h), swL_rev vs st ot cs (k + 1) _ (hrd_len (by rw [mx0_len]; exact h) k c)]
theorem sw_rev (vs : List (List Rat)) (st ot : Rat) (cs : List Nat) : sw vs.reverse st ot cs = sw vs st ot cs := by
  unfold sw
  have := swL_rev vs st ot cs 0 (w0 vs.length) (w0_len _)
  rw [w0_rev] at this
  rw [List.length_reverse, this, rsum_rev]
theorem swL_turn {n : Nat} {vs : List (List Rat)} (hl : ∀ r ∈ vs, r.length = n) (st ot : Rat) : ∀ (cs : List Nat) (k : Nat) (ws : List Rat), IsB cs → k + cs.length = n → swL (vs.map turn) st ot k ws (flip cs) = swL vs st ot k ws cs
  | [], _, _, _, _ => rfl
  | c :: cs, k, ws, hB, hk => by
    rw [List.length_cons] at hk
    show swL (vs.map turn) st ot (k + 1) (hrd (mx0 k ws st ot) (vs.map turn) k (fb c)) (flip cs) = swL vs st ot (k + 1) (hrd (mx0 k ws st ot) vs k c) cs
    rw [hrd_turn _ hl (by omega) hB.cons.1, swL_turn hl st ot cs (k + 1) _ hB.cons.2 (by omega)]
theorem sw_turn {vs : List (List Rat)} {cs : List Nat} (hl : ∀ r ∈ vs, r.length = cs.length) (st ot : Rat) (hB : IsB cs) : sw (vs.map turn) st ot (flip cs) = sw vs st ot cs := by
  unfold sw
  rw [List.length_map, swL_turn hl st ot cs 0 _ hB (by omega)]
theorem swL_app (vs : List (List Rat)) (st ot : Rat) (c2 : List Nat) : ∀ (c1 : List Nat) (k : Nat) (ws : List Rat), swL vs st ot k ws (c1 ++ c2) = swL vs st ot (k + c1.length) (swL vs st ot k ws c1) c2
  | [], _, _ => rfl
  | c :: c1, k, ws => by
    show swL vs st ot (k + 1) (hrd (mx0 k ws st ot) vs k c) (c1 ++ c2) = _
    rw [swL_app vs st ot c2 c1 (k + 1) _, List.length_cons, show k + 1 + c1.length = k + (c1.length + 1) by omega]
    rfl
theorem swL_len (vs : List (List Rat)) (st ot : Rat) : ∀ (cs : List Nat) (k : Nat) (ws : List Rat), ws.length = vs.length → (swL vs st ot k ws cs).length = vs.length
  | [], _, _, h => h
  | c :: cs, k, ws, h => swL_len vs st ot cs (k + 1) _ (hrd_len (by show (mx0 k ws st ot).length = _; rw [mx0_len]; exact h) k c)
theorem hrd_take (f : Nat) (ws : List Rat) (vs : List (List Rat)) (k c : Nat) (h : k < f) : hrd ws (vs.map fun r => r.take f) k c = hrd ws vs k c := by
  unfold hrd
  rw [List.map_map]
  congr 2
  apply List.map_congr_left
  intro r _
  show tb c (at' (r.take f) k) = _
  rw [at_take h]
theorem swL_take (f : Nat) (vs : List (List Rat)) (st ot : Rat) : ∀ (cs : List Nat) (k : Nat) (ws : List Rat), k + cs.length ≤ f → swL (vs.map fun r => r.take f) st ot k ws cs = swL vs st ot k ws cs
  | [], _, _, _ => rfl
  | c :: cs, k, ws, h => by
    rw [List.length_cons] at h
    show swL (vs.map fun r => r.take f) st ot (k + 1) (hrd (mx0 k ws st ot) (vs.map fun r => r.take f) k c) cs = swL vs st ot (k + 1) (hrd (mx0 k ws st ot) vs k c) cs
    rw [hrd_take f _ _ _ _ (by omega), swL_take f vs st ot cs (k + 1) _ (by omega)]
theorem both_sum {ws : List Rat} {vs : List (List Rat)} (h : ws.length = vs.length) (k : Nat) : rsum (hrd ws vs k 48) + rsum (hrd ws vs k 49) = rsum ws := by
  obtain ⟨h1, h2⟩ := tl1_hrd (k := k) h
  rw [h1, h2]; grind
theorem sw_both {vs : List (List Rat)} {st ot : Rat} (f : Nat) {cs : List Nat} (hc : cs.length = f) (h : st + ot * ((((vs.length : Nat) : Int) : Rat) - 1) = 1) :
    sw vs st ot (cs ++ [48]) + sw vs st ot (cs ++ [49]) = sw (vs.map fun r => r.take f) st ot cs := by
  unfold sw
  rw [List.length_map, swL_take f vs st ot cs 0 _ (by omega), swL_app, swL_app]
  have hl := swL_len vs st ot cs 0 (w0 vs.length) (w0_len _)
  generalize swL vs st ot 0 (w0 vs.length) cs = ws at *
  show rsum (hrd (mx0 (0 + cs.length) ws st ot) vs (0 + cs.length) 48) + rsum (hrd (mx0 (0 + cs.length) ws st ot) vs (0 + cs.length) 49) = _
  rw [both_sum (by rw [mx0_len]; exact hl)]
  unfold mx0
  split
  · exact mix_sum ws st ot (by rw [hl]; exact h)
  · rfl
theorem sw_nil {vs : List (List Rat)} (st ot : Rat) (h : vs.length ≠ 0) : sw vs st ot [] = 1 := by
  show rsum (w0 vs.length) = 1
  exact w0_sum h
theorem sw_same {r : List Rat} {st ot : Rat} (h : st + ot = 1) : ∀ (cs : List Nat) (k : Nat) (w : Rat), k + cs.length ≤ r.length → swL [r, r] st ot k [w, w] cs = [w * vsh (r.drop k) cs, w * vsh (r.drop k) cs]
  | [], k, w, _ => by
    rw [show vsh (r.drop k) [] = 1 by cases r.drop k <;> rfl, Rat.mul_one]; rfl
  | c :: cs, k, w, hk => by
    rw [List.length_cons] at hk
    have e : mx0 k [w, w] st ot = [w, w] := by
      unfold mx0
      split
      · show [st * w + ot * (w + (w + 0) - w), st * w + ot * (w + (w + 0) - w)] = [w, w]
        have : st * w + ot * (w + (w + 0) - w) = w := by
          have h2 : st = 1 - ot := by grind
          subst h2; grind
        rw [this]
      · rfl
    show swL [r, r] st ot (k + 1) (hrd (mx0 k [w, w] st ot) [r, r] k c) cs = _
    rw [e]
    show swL [r, r] st ot (k + 1) [w * tb c (at' r k), w * tb c (at' r k)] cs = _
    rw [sw_same h cs (k + 1) _ (by omega), vsh_drop (by omega), Rat.mul_assoc]
theorem sw_pair {r : List Rat} {st ot : Rat} (h : st + ot = 1) (cs : List Nat) (hr : cs.length ≤ r.length) : sw [r, r] st ot cs = vsh r cs := by
  show rsum (swL [r, r] st ot 0 [iv 2, iv 2] cs) = _
  rw [sw_same h cs 0 (iv 2) (by omega)]
  show iv 2 * vsh r cs + (iv 2 * vsh r cs + 0) = vsh r cs
  have : iv 2 = 1 / 2 := by decide +kernel
  rw [this]; grind
theorem sw_one {n : Nat} {vs : List (List Rat)} (hl : ∀ r ∈ vs, r.length = n) (st ot : Rat) (hn : 0 < n) (c : Nat) : sw vs st ot [c] = mx vs [c] := by
  show rsum (hrd (w0 vs.length) vs 0 c) = _
  rw [← fin_w0, ← fin_step (k := 0) (c := c) (cs := []) hn hl, fin_nil 1 (hrd_len (w0_len _) 0 c)]
/-! ### both last bits of a mixture -/
theorem vsh_last : ∀ (r : List Rat) (cs : List Nat), r.length = cs.length + 1 → vsh r (cs ++ [48]) + vsh r (cs ++ [49]) = vsh r cs
  | [], cs, h => by simp at h
  | a :: r, [], h => by
    have : r = [] := List.length_eq_zero_iff.mp (by simpa using h)
    subst this
    show (1 - a) * 1 + a * 1 = 1
    grind
  | a :: r, c :: cs, h => by
    have ih := vsh_last r cs (by simpa using h)
    show tb c a * vsh r (cs ++ [48]) + tb c a * vsh r (cs ++ [49]) = tb c a * vsh r cs
    rw [← ih]; grind
theorem mx_both {vs : List (List Rat)} (f : Nat) {cs : List Nat} (hc : cs.length = f) (hl : ∀ r ∈ vs, r.length = f + 1) : mx vs (cs ++ [48]) + mx vs (cs ++ [49]) = mx (vs.map fun r => r.take f) cs := by
  rw [mx_take f vs cs (by omega)]
  unfold mx
  have : rsum (vs.map fun r => vsh r cs) = rsum (vs.map fun r => vsh r (cs ++ [48])) + rsum (vs.map fun r => vsh r (cs ++ [49])) := by
    rw [← rsum_map_add]
    congr 1
    apply List.map_congr_left
    intro r hr
    exact (vsh_last r cs (by rw [hl r hr, hc])).symm
  rw [this]; grind
/-! ### bits_for -/
theorem pw_cast (m : Nat) : ((2 ^ m : Int) : Rat) = (2 : Rat) ^ m := by
  induction m with
  | zero => rfl
  | succ m ih => rw [Int.pow_succ, Rat.intCast_mul, ih, Rat.pow_succ]; rfl
theorem den_pos (a : Rat) : (0 : Rat) < ((a.den : Int) : Rat) := by
  have : ((0 : Int) : Rat) < ((a.den : Int) : Rat) := Rat.intCast_lt_intCast.mpr (by have := a.den_nz; omega)
  exact this
theorem bf_ge {a : Rat} {m : Nat} (h : (a.den : Int) ≤ a.num * 2 ^ m) : 1 ≤ a * ((2 ^ m : Int) : Rat) := by
  have h1 : ((a.den : Int) : Rat) ≤ ((a.num * 2 ^ m : Int) : Rat) := Rat.intCast_le_intCast.mpr h
  rw [Rat.intCast_mul] at h1
  have e := val_eq a
  have hp := den_pos a
  generalize ((2 ^ m : Int) : Rat) = P at *
  generalize ((a.num : Int) : Rat) = x at *
  generalize ((a.den : Int) : Rat) = y at *
  have e2 : x = a * y := by rw [← e]; grind
  rw [e2] at h1
  refine Rat.not_lt.mp fun hc => ?_
  have : a * P * y < 1 * y := Rat.mul_lt_mul_of_pos_right hc hp
  grind
theorem bf_lt {a : Rat} {m : Nat} (h : a.num * 2 ^ m < (a.den : Int)) : a * ((2 ^ m : Int) : Rat) < 1 := by
  have h1 : ((a.num * 2 ^ m : Int) : Rat) < ((a.den : Int) : Rat) := Rat.intCast_lt_intCast.mpr h
  rw [Rat.intCast_mul] at h1
  have e := val_eq a
  have hp := den_pos a
  generalize ((2 ^ m : Int) : Rat) = P at *
  generalize ((a.num : Int) : Rat) = x at *
  generalize ((a.den : Int) : Rat) = y at *
  have e2 : x = a * y := by rw [← e]; grind
  rw [e2] at h1
  refine Rat.not_le.mp fun hc => ?_
  have : 1 * y ≤ a * P * y := Rat.mul_le_mul_of_nonneg_right hc (Rat.le_of_lt hp)
  grind
theorem pw_pos (m : Nat) : (0 : Rat) < ((2 ^ m : Int) : Rat) := by
  have : ((0 : Int) : Rat) < ((2 ^ m : Int) : Rat) := Rat.intCast_lt_intCast.mpr (Int.pow_pos (by decide))
  exact this
theorem bf_sum {t q i : Rat} {w m n : Nat} (h1 : Bf t w) (h2 : Bf q m) (h3 : Bf i n) (hi : 0 < i) (hq : 0 < q) (h : i * q ≤ t) : w ≤ m + n := by
  refine Nat.le_of_not_lt fun hc => ?_
  have a1 := bf_lt (h1.lt (m + n) hc)
  have a2 := bf_ge h2.le
  have a3 := bf_ge h3.le
  rw [Int.pow_add, Rat.intCast_mul] at a1
  have p1 := pw_pos m
  have p2 := pw_pos n
  generalize ((2 ^ m : Int) : Rat) = M at *
  generalize ((2 ^ n : Int) : Rat) = N at *
  have b1 : i * q * (M * N) ≤ t * (M * N) := Rat.mul_le_mul_of_nonneg_right h (Rat.le_of_lt (Rat.mul_pos p1 p2))
  have b2 : 1 * 1 ≤ (q * M) * (i * N) := by
    have c1 : 1 * 1 ≤ (q * M) * 1 := Rat.mul_le_mul_of_nonneg_right a2 (by grind)
    have c2 : (q * M) * 1 ≤ (q * M) * (i * N) := Rat.mul_le_mul_of_nonneg_left a3 (Rat.le_of_lt (Rat.mul_pos hq p1))
    grind
  grind
/-! ### drawn shares -/
theorem drawn : ∀ d : Fin 9, ∀ x : Fin 9, 0 < x.val → x.val < d.val → Sz 4 (((x.val : Int) : Rat) / ((d.val : Int) : Rat)) ∧ 0 < (((x.val : Int) : Rat) / ((d.val : Int) : Rat)) ∧ (((x.val : Int) : Rat) / ((d.val : Int) : Rat)) < 1 ∧
    (((x.val : Int) : Rat) / ((d.val : Int) : Rat)) * ((840 : Int) : Rat) = (((((x.val : Int) : Rat) / ((d.val : Int) : Rat)) * ((840 : Int) : Rat)).num : Rat) := by
  unfold Sz
  decide +kernel
theorem drawn_un {x d : Nat} (h0 : 0 < x) (h1 : x < d) (h2 : d < 9) : Un 4 (((x : Int) : Rat) / ((d : Int) : Rat)) ∧ Prt 840 (((x : Int) : Rat) / ((d : Int) : Rat)) := by
  obtain ⟨a1, a2, a3, a4⟩ := drawn ⟨d, h2⟩ ⟨x, by omega⟩ h0 h1
  exact ⟨⟨a1, a2, a3⟩, _, a4⟩
end LW

set_option Elab.async false
set_option linter.all false
set_option maxRecDepth 100000
set_option exponentiation.threshold 100000
namespace LW
open PySem PySem.Spec PyProof.Rows L2 DL

/-! ### small things of the laws -/
theorem flats_pr : ∀ as : List Rat, flats 8 (as.map pr) = true
  | [] => rfl
  | a :: as => by
    show (flat 7 (pr a) && flats 8 (as.map pr)) = true
    rw [flats_pr as]; rfl
theorem eqvs_pr : ∀ as : List Rat, eqvs (as.map pr) (as.map pr) = true
  | [] => rfl
  | a :: as => by
    show (eqv (pr a) (pr a) && eqvs (as.map pr) (as.map pr)) = true
    rw [eqvs_pr as, eqv_pr]; simp
theorem ne_row (as : List Rat) : dNe (rowD as) (rowD as) = some (.bl false) := by
  rw [o_ne (x := rowD as) (y := rowD as) (flats_pr as) (flats_pr as)]
  show some (D.bl (!eqvs (as.map pr) (as.map pr))) = _
  rw [eqvs_pr]; rfl
theorem ne_self (a : Rat) : dNe (pr a) (pr a) = some (.bl false) := by rw [ne_pr]; simp
theorem eq_self (a : Rat) : dEq (pr a) (pr a) = some (.bl true) := by rw [eq_pr]; simp
theorem rev_vc (vs : List (List Rat)) : dRev (vcD vs) = some (vcD vs.reverse) := by
  show some (D.tup (vs.map rowD).reverse) = some (D.tup (vs.reverse.map rowD))
  rw [List.map_reverse]
theorem add_vc {vs us : List (List Rat)} (h : vs.length + us.length ≤ 1000) : dAdd (vcD vs) (vcD us) = some (vcD (vs ++ us)) := by
  show guard' _ (D.tup (vs.map rowD ++ us.map rowD)) = _
  unfold guard'
  rw [if_pos (by rw [List.length_map, List.length_map]; exact decide_eq_true (lim h)), ← List.map_append]; rfl
theorem cut_take {α : Type} {xs : List α} {f : Nat} (h : f ≤ xs.length) : cutG xs none (some (f : Nat)) = xs.take f := by
  unfold cutG
  rw [HT.sIx_none, HT.sIx_nat, Nat.min_eq_left h, List.drop_zero, Nat.sub_zero]
theorem cut_drop {α : Type} {xs : List α} {f : Nat} (h : f ≤ xs.length) : cutG xs (some (f : Nat)) none = xs.drop f := by
  unfold cutG
  rw [HT.sIx_none, HT.sIx_nat, Nat.min_eq_left h]
  exact List.take_of_length_le (by rw [List.length_drop]; omega)
theorem sl_row {r : List Rat} {f : Nat} (h : f ≤ r.length) : dSl (rowD r) none (some (f : Nat)) = some (rowD (r.take f)) := by
  show some (D.tup (cutG (r.map pr) none (some (f : Nat)))) = _
  rw [cut_take (by rw [List.length_map]; exact h), ← List.map_take]; rfl
theorem sl_row2 {r : List Rat} {f : Nat} (h : f ≤ r.length) : dSl (rowD r) (some (f : Nat)) none = some (rowD (r.drop f)) := by
  show some (D.tup (cutG (r.map pr) (some (f : Nat)) none)) = _
  rw [cut_drop (by rw [List.length_map]; exact h), ← List.map_drop]; rfl
theorem sl_str {l : List Nat} {f : Nat} (h : f ≤ l.length) (hl : l.length ≤ 1000) : dSl (.str l) none (some (f : Nat)) = some (.str (l.take f)) := by
  show (if l.length ≤ LIM then some (D.str (cutG l none (some (f : Nat)))) else none) = _
  rw [if_pos (lim hl), cut_take h]
theorem sl_str2 {l : List Nat} {f : Nat} (h : f ≤ l.length) (hl : l.length ≤ 1000) : dSl (.str l) (some (f : Nat)) none = some (.str (l.drop f)) := by
  show (if l.length ≤ LIM then some (D.str (cutG l (some (f : Nat)) none)) else none) = _
  rw [if_pos (lim hl), cut_drop h]
theorem len_vc (vs : List (List Rat)) : dLen [vcD vs] = some (.int (vs.length : Nat)) := by show some (D.int ((vs.map rowD).length : Nat)) = _; rw [List.length_map]
theorem range_eq (n : Nat) : rangeL 0 1 n = (List.range n).map fun i => D.int (i : Nat) := by
  unfold rangeL
  apply List.map_congr_left
  intro i _
  congr 1
  omega
theorem range1 {n : Nat} (h : n ≤ 1000) : dRange1 [.int (n : Nat)] = some ((List.range n).map fun i => D.int (i : Nat)) := by
  show guard' (inB62 _) (rangeL 0 1 _) = _
  unfold guard' inB62
  rw [if_pos (by simp only [Bool.and_eq_true, decide_eq_true_eq]; omega), show ((n : Nat) : Int).toNat = n by omega, range_eq]
theorem no_any {α : Type} (l : List α) : dAny [.lst (l.map fun _ => D.bl false)] = some (.bl false) := by
  have := any_bl (fun _ : α => false) l
  rw [show l.any (fun _ => false) = false by simp] at this
  exact this
/-- tuple([(d - n, d) for n, d in row]) -/
theorem turn_ev {i j : Nat} {vs : List Nat} {ρ : List Sl} {S : List O} {f : Ev D} {r : List Rat} (hr : r.length ≤ 1000) (hf : f (ρ, S) = some (rowD r, (ρ, S))) (hi : i ∈ vs) (hj : j ∈ vs) (hij : i ≠ j) (h1 : i < ρ.length) (h2 : j < ρ.length) (ho : (vs.all fun v => !(ρ[v]?.getD .un).isOwn) = true) :
    eCl dTuple (eCons (eFz (eLc vs (eItems f) (tTp (tCs (tNm i) (tCs (tNm j) tNl))) pYes (eTup (eCons (eBin dSub (eVar j) (eVar i)) (eCons (eVar j) eNil))))) eNil) (ρ, S) = some (rowD (turn r), (ρ, S)) := by
  refine v_cl (v_cons (v_fz (v_mapT2 r (fun a => .int a.num) (fun a => .int (a.den : Nat)) (fun a => pr (1 - a)) (v_items hf rfl) (lim hr) ?_ hi hj ho)) v_nil) ?_
  · intro a _
    have e2 : (((wipeS ρ vs).set i (.val (.int a.num))).set j (.val (.int (a.den : Nat))))[j]? = some (.val (.int (a.den : Nat))) := by
      rw [List.getElem?_set_self (by rw [List.length_set, wipe_len]; exact h2)]
    have e1 : (((wipeS ρ vs).set i (.val (.int a.num))).set j (.val (.int (a.den : Nat))))[i]? = some (.val (.int a.num)) := by
      rw [List.getElem?_set_ne (Ne.symm hij), List.getElem?_set_self (by rw [wipe_len]; exact h1)]
    rw [sub_ev]
    exact v_tup (v_cons (v_bin (v_var e2) (v_var e1) rfl) (v_cons (v_var e2) v_nil)) (by show 2 ≤ LIM; decide)
  · show some (D.tup (r.map fun a => pr (1 - a))) = _
    unfold rowD turn
    rw [List.map_map]; rfl
theorem row_ev {m n : Nat} {S : List O} (h : Tp n S) (hn : n < 2 ^ 90) (hm : m ≤ 900) : ∃ (as : List Rat) (S' : List O), F__law_row [.ptr 0, .int (m : Nat)] S = some (rowD as, S') ∧ as.length = m ∧ (∀ a ∈ as, Un 4 a ∧ Prt 840 a) ∧ Tp (n + 2 * m) S' := by
  have H := v_forI (t := tNm 3) (u := sSeq (sSet 4 (eBin dAdd (ret (.int 2)) (eCall F__law_take (eCons (eVar 0) (eCons (ret (.int 7)) eNil))))) (sExpr (eMtL 2 mAppend (eCall F_share (eCons (eBin dAdd (ret (.int 1)) (eCall F__law_take (eCons (eVar 0) (eCons (eBin dSub (eVar 4) (ret (.int 1))) eNil)))) (eCons (eVar 4) eNil))))))
    (fun p s => ∃ (as : List Rat) (l3 l4 : Sl) (S' : List O), s = ([.val (.ptr 0), .val (.int (m : Nat)), .own (as.map pr), l3, l4], S') ∧ as.length = p.length ∧ (∀ a ∈ as, Un 4 a ∧ Prt 840 a) ∧ Tp (n + 2 * p.length) S') ((List.range m).map fun i => D.int (i : Nat)) [] ([.val (.ptr 0), .val (.int (m : Nat)), .own [], .un, .un], S) ⟨[], .un, .un, S, rfl, rfl, by simp, h⟩
  obtain ⟨s2, e2, as, l3, l4, S', rfl, hl, ha, hT⟩ := H (by
    rintro p x q s hx ⟨as, l3, l4, S', rfl, hl, ha, hT⟩
    have hpm : p.length < m := by
      have := congrArg List.length hx
      rw [List.nil_append, List.length_map, List.length_range, List.length_append, List.length_cons] at this
      omega
    obtain ⟨r1, S1, e1, h1, T1⟩ := take_ev (m := 7) (by decide) (by decide) hT (by omega)
    obtain ⟨r2, S2, e2, h2, T2⟩ := take_ev (m := r1 + 1) (by omega) (Nat.lt_of_le_of_lt (show r1 + 1 ≤ 8 by omega) (by decide)) T1 (by omega)
    have es := share_pos (n := ((1 + r2 : Nat) : Int)) (d := 2 + r1) (by omega) (Nat.lt_of_le_of_lt (show _ ≤ 100 by omega) (by decide +kernel)) (Nat.lt_of_le_of_lt (show _ ≤ 100 by omega) (by decide +kernel)) S2
    obtain ⟨u1, u2⟩ := drawn_un (x := 1 + r2) (d := 2 + r1) (by omega) (by omega) (by omega)
    generalize hq : ((((1 + r2 : Nat) : Int) : Rat) / (((2 + r1 : Nat) : Int) : Rat)) = q at es u1 u2
    refine ⟨_, _, rfl, v_seq (v_set (v_bin v_ret (v_call (v_cons (v_var rfl) (v_cons v_ret v_nil)) e1) (o_addN (a := 2)))) (v_expr (v_mtL (ds0 := as.map pr) (ds := as.map pr) (ds' := (as ++ [q]).map pr) (z := .non) rfl (v_call (v_cons (v_bin v_ret (v_call (v_cons (v_var rfl) (v_cons (v_bin (v_var rfl) v_ret (z := .int ((r1 + 1 : Nat) : Int)) (by show some (D.int _) = _; congr 2; omega)) v_nil)) e2) (o_addN (a := 1))) (v_cons (v_var rfl) v_nil)) es) rfl ?_)), as ++ [q], .val x, .val (.int ((2 + r1 : Nat) : Int)), S2, rfl, ?_, ?_, ?_⟩
    · show (if (as.map pr).length < LIM then some (D.non, as.map pr ++ [_]) else none) = _
      have h9 : 1000 ≤ LIM := by decide
      rw [if_pos (by rw [List.length_map]; omega), List.map_append]; rfl
    · rw [List.length_append, List.length_append, hl]; rfl
    · intro a ha'
      rcases List.mem_append.mp ha' with h | h
      · exact ha a h
      · have : a = q := by simpa using h
        subst this
        exact ⟨u1, u2⟩
    · rw [List.length_append, List.length_singleton]
      exact T2.mono (by omega))
  rw [List.nil_append, List.length_map, List.length_range] at hl hT
  refine ⟨as, S', ?_, hl, ha, hT⟩
  unfold F__law_row
  apply v_run
  unfold B__law_row
  exact v_seq (v_own (v_lst v_nil (by show 0 ≤ LIM; decide))) (v_seq (v_for (v_range (v_cons (v_var rfl) v_nil) (range1 (by omega))) e2) (v_rt (v_cl1 (v_rdO rfl) rfl)))
/-- drawn voices -/
structure Dr (n : Nat) (vs : List (List Rat)) : Prop where
  ne : vs ≠ []
  len : ∀ r ∈ vs, r.length = n
  un : ∀ r ∈ vs, ∀ a ∈ r, Un 4 a ∧ Prt 840 a
  few : vs.length ≤ 4
  lo : 1 ≤ n
  hi : n ≤ 6
theorem Dr.vo {n : Nat} {vs : List (List Rat)} (D : Dr n vs) : Vo 4 n vs := ⟨D.ne, D.len, fun r hr a ha => (D.un r hr a ha).1, by have := D.few; omega, D.hi⟩
theorem Dr.pv {n : Nat} {vs : List (List Rat)} (D : Dr n vs) : Pv 840 vs := fun r hr a ha => (D.un r hr a ha).2
theorem voices_ev {m : Nat} {S : List O} {ρ : List Sl} (cs : List Nat) (h : Tp m S) (hm : m < 2 ^ 80) (hc : 1 ≤ cs.length) (hc6 : cs.length ≤ 6) (h0 : ρ[0]? = some (.val (.ptr 0))) (h1 : ρ[1]? = some (.val (.str cs))) (hl : 18 < ρ.length) (ho : ([18].all fun v => !(ρ[v]?.getD .un).isOwn) = true) :
    ∃ (vs : List (List Rat)) (S' : List O), eCl dTuple (eCons (eFz (eLc [18] (eRange dRange1 (eCons (eBin dAdd (ret (.int 1)) (eCall F__law_take (eCons (eVar 0) (eCons (ret (.int 4)) eNil)))) eNil)) (tNm 18) pYes (eCall F__law_row (eCons (eVar 0) (eCons (eCl dLen (eCons (eVar 1) eNil)) eNil))))) eNil) (ρ, S) = some (vcD vs, (ρ, S')) ∧ Dr cs.length vs ∧ Tp ((m + 10) * 20) S' := by
  obtain ⟨r1, S1, e1, hr, T1⟩ := take_ev (m := 4) (by decide) (by decide) h (by omega)
  have H := v_draw1 (ρ := ρ) (S := S1) (s := (ρ, S)) (i := 18) (vs := [18]) (f := eRange dRange1 (eCons (eBin dAdd (ret (.int 1)) (eCall F__law_take (eCons (eVar 0) (eCons (ret (.int 4)) eNil)))) eNil)) (g := eCall F__law_row (eCons (eVar 0) (eCons (eCl dLen (eCons (eVar 1) eNil)) eNil)))
    (xs := (List.range (1 + r1)).map fun i => D.int (i : Nat)) (fun k S => Tp (k * 20) S) (fun d => ∃ as : List Rat, d = rowD as ∧ as.length = cs.length ∧ ∀ a ∈ as, Un 4 a ∧ Prt 840 a) (n := m + 1)
    (v_range (v_cons (v_bin v_ret (v_call (v_cons (v_var h0) (v_cons v_ret v_nil)) e1) (o_addN (a := 1))) v_nil) (range1 (by omega))) (by decide) ho (by rw [List.length_map, List.length_range]; exact lim (by omega)) (T1.mono (by omega)) (fun x hx k S hk hT => by
      rw [List.length_map, List.length_range] at hk
      obtain ⟨as, S', e, g1, g2, g3⟩ := row_ev (m := cs.length) hT (by omega) (by omega)
      have q0 : ((wipeS ρ [18]).set 18 (.val x))[0]? = some (.val (.ptr 0)) := by
        rw [List.getElem?_set_ne (by decide)]; show (ρ.set 18 .un)[0]? = _; rw [List.getElem?_set_ne (by decide)]; exact h0
      have q1 : ((wipeS ρ [18]).set 18 (.val x))[1]? = some (.val (.str cs)) := by
        rw [List.getElem?_set_ne (by decide)]; show (ρ.set 18 .un)[1]? = _; rw [List.getElem?_set_ne (by decide)]; exact h1
      exact ⟨rowD as, S', v_call (v_cons (v_var q0) (v_cons (v_cl (v_cons (v_var q1) v_nil) (len_str (by omega))) v_nil)) e, ⟨as, rfl, g1, g2⟩, g3.mono (by omega)⟩)
  obtain ⟨ys, S', e, g1, g2, g3⟩ := H
  rw [List.length_map, List.length_range] at g1 g3
  have key : ∀ ys : List D, (∀ y ∈ ys, ∃ as : List Rat, y = rowD as ∧ as.length = cs.length ∧ ∀ a ∈ as, Un 4 a ∧ Prt 840 a) → ∃ vs : List (List Rat), ys = vs.map rowD ∧ (∀ r ∈ vs, r.length = cs.length) ∧ ∀ r ∈ vs, ∀ a ∈ r, Un 4 a ∧ Prt 840 a := by
    intro ys
    induction ys with
    | nil => exact fun _ => ⟨[], rfl, by simp, by simp⟩
    | cons y ys ih =>
      intro h
      obtain ⟨as, rfl, k1, k2⟩ := h y (by simp)
      obtain ⟨vs, rfl, k3, k4⟩ := ih fun z hz => h z (by simp [hz])
      refine ⟨as :: vs, rfl, fun r hr => ?_, fun r hr => ?_⟩
      · rcases List.mem_cons.mp hr with rfl | hr
        · exact k1
        · exact k3 r hr
      · rcases List.mem_cons.mp hr with rfl | hr
        · exact k2
        · exact k4 r hr
  obtain ⟨vs, rfl, k1, k2⟩ := key ys g2
  rw [List.length_map] at g1
  refine ⟨vs, S', v_cl (v_cons (v_fz e) v_nil) rfl, ⟨fun h => ?_, k1, k2, by omega, hc, hc6⟩, g3.mono ?_⟩
  · rw [h] at g1; simp at g1; omega
  · exact Nat.mul_le_mul_right 20 (by omega)
end LW

set_option Elab.async false
set_option linter.all false
set_option maxRecDepth 100000
set_option exponentiation.threshold 100000
namespace LW
open PySem PySem.Spec PyProof.Rows L2 DL

theorem Vo.rev {b n : Nat} {vs : List (List Rat)} (V : Vo b n vs) : Vo b n vs.reverse := ⟨by simpa using V.ne, fun r hr => V.len r (by simpa using hr), fun r hr => V.un r (by simpa using hr), by rw [List.length_reverse]; exact V.few, V.sm⟩
theorem Vo.two {b n : Nat} {vs : List (List Rat)} (V : Vo b n vs) (h : vs.length ≤ 4) : Vo b n (vs ++ vs) :=
  ⟨by simpa using V.ne, fun r hr => V.len r (by simpa using hr), fun r hr => V.un r (by simpa using hr), by rw [List.length_append]; omega, V.sm⟩
theorem Vo.turn {b n : Nat} {vs : List (List Rat)} (V : Vo b n vs) : Vo b n (vs.map turn) := by
  refine ⟨by simpa using V.ne, fun r hr => ?_, fun r hr a ha => ?_, by rw [List.length_map]; exact V.few, V.sm⟩
  · obtain ⟨x, hx, rfl⟩ := List.mem_map.mp hr
    unfold LW.turn; rw [List.length_map]; exact V.len x hx
  · obtain ⟨x, hx, rfl⟩ := List.mem_map.mp hr
    obtain ⟨y, hy, rfl⟩ := List.mem_map.mp ha
    exact (V.un x hx y hy).sub
theorem Pv.turn {R : Nat} {vs : List (List Rat)} (h : Pv R vs) : Pv R (vs.map turn) := by
  intro r hr a ha
  obtain ⟨x, hx, rfl⟩ := List.mem_map.mp hr
  obtain ⟨y, hy, rfl⟩ := List.mem_map.mp ha
  exact Prt.one.sub (h x hx y hy)
theorem Vo.take {b n f : Nat} {vs : List (List Rat)} (V : Vo b n vs) (h : f ≤ n) : Vo b f (vs.map fun r => r.take f) := by
  refine ⟨by simpa using V.ne, fun r hr => ?_, fun r hr a ha => ?_, by rw [List.length_map]; exact V.few, by have := V.sm; omega⟩
  · obtain ⟨x, hx, rfl⟩ := List.mem_map.mp hr
    rw [List.length_take, V.len x hx]; omega
  · obtain ⟨x, hx, rfl⟩ := List.mem_map.mp hr
    exact V.un x hx a (List.mem_of_mem_take ha)
theorem Pv.take {R f : Nat} {vs : List (List Rat)} (h : Pv R vs) : Pv R (vs.map fun r => r.take f) := by
  intro r hr a ha
  obtain ⟨x, hx, rfl⟩ := List.mem_map.mp hr
  exact h x hx a (List.mem_of_mem_take ha)
theorem sayL_un {n : Nat} {vs : List (List Rat)} (V : Vo 4 n vs) : ∀ (cs : List Nat) (k j : Nat) (ws : List Rat), k + cs.length ≤ n → Wt 4 j vs ws → j + cs.length * 4 ≤ 28 → ∀ q ∈ sayL vs k ws cs, Un 530 q
  | [], _, _, _, _, _, _, q, hq => by simp [sayL] at hq
  | c :: cs, k, j, ws, hk, W, hj, q, hq => by
    have hf := V.few
    rw [List.length_cons] at hk hj
    rcases List.mem_cons.mp hq with rfl | hq
    · have hne : ws ≠ [] := fun h => V.ne (List.length_eq_zero_iff.mp (by rw [← W.len, h]; rfl))
      have hpos := rsum_pos ws hne W.pos
      have htl : ∀ x ∈ tl1 ws vs k, Sz (j + 4) x ∧ 0 < x := by
        intro x hx
        obtain ⟨p, hp, rfl⟩ := List.mem_map.mp hx
        have h1 := (List.of_mem_zip (show (p.1, p.2) ∈ _ from hp)).1
        have h2 := (List.of_mem_zip (show (p.1, p.2) ∈ _ from hp)).2
        have u := V.un _ h2 _ (at_mem (r := p.2) (k := k) (by rw [V.len _ h2]; omega))
        exact ⟨(W.sz _ h1).mul u.1, Rat.mul_pos (W.pos _ h1) u.2.1⟩
      have htn : (tl1 ws vs k).length = ws.length := by unfold tl1; rw [List.length_map, List.length_zip, W.len]; omega
      have hwn : ws.length ≤ 8 := by rw [W.len]; exact hf
      have s1 := (rsum_sz (k := j + 4 + 1) (by omega) (tl1 ws vs k) fun x hx => (htl x hx).1.mono (by omega)).mono (show _ ≤ 280 by
        rw [htn]
        have := Nat.mul_le_mul hwn (show j + 4 + 1 + 1 ≤ 34 by omega)
        omega)
      have s2 := (rsum_sz (k := j + 1) (by omega) ws fun x hx => (W.sz x hx).mono (by omega)).mono (show _ ≤ 241 by
        have := Nat.mul_le_mul hwn (show j + 1 + 1 ≤ 30 by omega)
        omega)
      have t1 : 0 < rsum (tl1 ws vs k) := rsum_pos _ (fun h => hne (List.length_eq_zero_iff.mp (by rw [← htn, h]; rfl))) fun x hx => (htl x hx).2
      have W' := W.heard (c := 48) V (show k < n by omega)
      have t2 : 0 < rsum (hrd ws vs k 48) := rsum_pos _ (fun h => V.ne (List.length_eq_zero_iff.mp (by rw [← W'.len, h]; rfl))) W'.pos
      rw [(tl1_hrd (k := k) W.len).2] at t2
      have hlt : rsum (tl1 ws vs k) < rsum ws := by grind
      refine ⟨(s1.div s2 hpos).mono (by omega), by rw [Rat.lt_div_iff hpos, Rat.zero_mul]; exact t1, ?_⟩
      rw [Rat.div_lt_iff hpos, Rat.one_mul]
      exact hlt
    · exact sayL_un V cs (k + 1) (j + 4) (hrd ws vs k c) (by omega) (W.heard V (by omega)) (by omega) q hq
theorem rows_un {vs : List (List Rat)} {cs : List Nat} (V : Vo 4 cs.length vs) : ∀ q ∈ sayL vs 0 (w0 vs.length) cs, Un 530 q := by
  have h0 : vs.length ≠ 0 := fun h => V.ne (List.length_eq_zero_iff.mp h)
  have := V.sm
  exact sayL_un V cs 0 4 _ (by omega) (w0_wt rfl h0 V.few) (by omega)
theorem iv_sz4 {n : Nat} (hn : n ≠ 0) (h : n ≤ 8) : Sz 4 (iv n) := iv_sz hn (by decide) (by omega)
theorem told_sz {n : Nat} {vs : List (List Rat)} (V : Vo 4 n vs) (cs : List Nat) : Sz 300 (mx vs cs) := by
  have h0 : vs.length ≠ 0 := fun h => V.ne (List.length_eq_zero_iff.mp h)
  have hf := V.few
  have hz := vc_sum_sz V cs
  have := (iv_sz4 h0 hf).mul (rsum_sz (k := 25) (by decide) (vs.map fun r => vsh r cs) hz)
  refine this.mono ?_
  rw [List.length_map]
  have := Nat.mul_le_mul_right (25 + 1) hf
  omega
theorem told_pos {b n : Nat} {vs : List (List Rat)} (V : Vo b n vs) (cs : List Nat) : 0 < mx vs cs ∧ mx vs cs ≤ 1 := by
  have h0 : vs.length ≠ 0 := fun h => V.ne (List.length_eq_zero_iff.mp h)
  have hp := iv_pos h0
  constructor
  · refine Rat.mul_pos hp (rsum_pos _ (by simpa using V.ne) fun x hx => ?_)
    obtain ⟨r, hr, rfl⟩ := List.mem_map.mp hx
    exact (vsh_pos r cs (V.un r hr)).1
  · have h1 : rsum (vs.map fun r => vsh r cs) ≤ rsum (vs.map fun _ => (1 : Rat)) := rsum_map_le _ _ vs fun r hr => (vsh_pos r cs (V.un r hr)).2
    have h2 : rsum (vs.map fun _ => (1 : Rat)) = (((vs.length : Nat) : Int) : Rat) := by
      have := rsum_const 1 (vs.map fun _ => (0 : Rat))
      rw [List.map_map, List.length_map, Rat.mul_one] at this
      exact this
    rw [h2] at h1
    have h3 := Rat.mul_le_mul_of_nonneg_left h1 (Rat.le_of_lt hp)
    rw [iv_mul h0] at h3
    exact h3
theorem told_ge {b n : Nat} {vs : List (List Rat)} (V : Vo b n vs) (cs : List Nat) {r : List Rat} (hr : r ∈ vs) : iv vs.length * vsh r cs ≤ mx vs cs := by
  have h0 : vs.length ≠ 0 := fun h => V.ne (List.length_eq_zero_iff.mp h)
  refine Rat.mul_le_mul_of_nonneg_left ?_ (Rat.le_of_lt (iv_pos h0))
  refine mem_le_rsum (fun x hx => ?_) _ (List.mem_map.mpr ⟨r, hr, rfl⟩)
  obtain ⟨y, hy, rfl⟩ := List.mem_map.mp hx
  exact Rat.le_of_lt (vsh_pos y cs (V.un y hy)).1
theorem max_ex (cs : List Nat) : ∀ (vs : List (List Rat)), vs ≠ [] → ∃ r ∈ vs, ∀ x ∈ vs, vsh x cs ≤ vsh r cs
  | [], h => (h rfl).elim
  | [r], _ => ⟨r, by simp, fun x hx => by have : x = r := by simpa using hx
                                          subst this; grind⟩
  | r :: s :: vs, _ => by
    obtain ⟨q, hq, h⟩ := max_ex cs (s :: vs) (by simp)
    by_cases hc : vsh r cs ≤ vsh q cs
    · exact ⟨q, List.mem_cons_of_mem _ hq, fun x hx => by
        rcases List.mem_cons.mp hx with rfl | hx
        · exact hc
        · exact h x hx⟩
    · exact ⟨r, by simp, fun x hx => by
        rcases List.mem_cons.mp hx with rfl | hx
        · grind
        · have := h x hx; grind⟩
theorem sw_sz {n : Nat} {vs : List (List Rat)} {rate st ot : Rat} {cs : List Nat} (V : Vo 4 n vs) (hn : cs.length = n) (hB : IsB cs) (hv : Pv 840 vs) (R : Rt vs.length rate st ot) : Sz 200 (sw vs st ot cs) := by
  have h0 : vs.length ≠ 0 := fun h => V.ne (List.length_eq_zero_iff.mp h)
  have hf := V.few
  have hs := V.sm
  obtain ⟨l6, l7, l8, l9, e, Q', W', q1, q2⟩ := sw_loop V (by decide) hv R .un .un [] cs 0 4 vs.length (w0 vs.length) .un .un .un .un hB (by omega) (w0_ws rfl h0) (by omega) (by omega) (by omega)
  exact (W'.szs q1 q2).2.1.mono (by omega)
theorem rt_ex {x d n : Nat} (h0 : 0 < x) (h1 : x < d) (h2 : d < 9) (hn : 2 ≤ n) (hn4 : n ≤ 4) : ∃ ot, Rt n (((x : Int) : Rat) / ((d : Int) : Rat)) (1 - ((x : Int) : Rat) / ((d : Int) : Rat)) ot ∧ (n = 2 → (1 - ((x : Int) : Rat) / ((d : Int) : Rat)) + ot = 1) := by
  obtain ⟨u, p⟩ := drawn_un h0 h1 h2
  generalize ((x : Int) : Rat) / ((d : Int) : Rat) = rate at *
  obtain ⟨z, hz⟩ := p
  have c3 : n = 2 ∨ n = 3 ∨ n = 4 := by omega
  have hst : Prt 5040 (1 - rate) := by
    have : Prt (840 * 6) (1 - rate) := (Prt.one.sub ⟨z, hz⟩).up 6
    exact this
  have hss : Sz 20 (1 - rate) := u.sub.1.mono (by decide)
  have e5 : (((5040 : Nat) : Int) : Rat) = 6 * (((840 : Nat) : Int) : Rat) := by decide +kernel
  rcases c3 with rfl | rfl | rfl
  · refine ⟨rate, ⟨u.2.1, u.2.2, rfl, ?_, u.2.1, hst, ⟨6 * z, ?_⟩, hss, u.1.mono (by decide)⟩, fun _ => by grind⟩
    · rw [show (((2 : Nat) : Int) : Rat) - 1 = 1 by decide +kernel, Rat.mul_one]
    · rw [e5, Rat.intCast_mul, ← hz, show ((6 : Int) : Rat) = 6 from rfl]; grind
  · refine ⟨rate * (1 / 2), ⟨u.2.1, u.2.2, rfl, ?_, Rat.mul_pos u.2.1 (by decide +kernel), hst, ⟨3 * z, ?_⟩, hss, (u.1.mul szh).mono (by decide)⟩, fun h => by omega⟩
    · rw [show (((3 : Nat) : Int) : Rat) - 1 = 2 by decide +kernel]; grind
    · rw [e5, Rat.intCast_mul, ← hz, show ((3 : Int) : Rat) = 3 from rfl]; grind
  · refine ⟨rate * (1 / 3), ⟨u.2.1, u.2.2, rfl, ?_, Rat.mul_pos u.2.1 (by decide +kernel), hst, ⟨2 * z, ?_⟩, hss, (u.1.mul (show Sz 2 (1 / 3) by unfold Sz; decide +kernel)).mono (by decide)⟩, fun h => by omega⟩
    · rw [show (((4 : Nat) : Int) : Rat) - 1 = 3 by decide +kernel]; grind
    · rw [e5, Rat.intCast_mul, ← hz, show ((2 : Int) : Rat) = 2 from rfl]; grind
theorem share_half (S : List O) : F_share [.int 2, .int 4] S = some (.tup [.int 1, .int 2], S) := by
  have := share_pos (n := 2) (d := 4) (by decide) (by decide +kernel) (by decide +kernel) S
  rw [show (((2 : Int) : Rat) / (((4 : Nat) : Int) : Rat)) = 1 / 2 by decide +kernel, prh] at this
  exact this
theorem text_half (S : List O) : F_share_text [.tup [.int 1, .int 2]] S = some (.str [49, 47, 50], S) := by
  have c1 : intCodes 1 = [49] := by decide +kernel
  have c2 : intCodes 2 = [50] := by decide +kernel
  have s1 : dStr [.int 1] = some (.str [49]) := by rw [← c1]; rfl
  have s2 : dStr [.int 2] = some (.str [50]) := by rw [← c2]; rfl
  unfold F_share_text
  apply v_run
  unfold B_share_text
  exact v_rt (v_ifF (v_B (v_bin (v_bin (v_var rfl) v_ret rfl) v_ret rfl)) (v_bin (v_bin (v_cl (v_cons (v_bin (v_var rfl) v_ret rfl) v_nil) s1) v_ret rfl) (v_cl (v_cons (v_bin (v_var rfl) v_ret rfl) v_nil) s2) rfl))
end LW

set_option Elab.async false
set_option linter.all false
set_option maxRecDepth 100000
set_option exponentiation.threshold 100000
set_option maxHeartbeats 4000000
namespace LW
open PySem PySem.Spec PyProof.Rows L2 DL

theorem ix_vc {vs : List (List Rat)} {i : Nat} (h : i < vs.length) : dIx (vcD vs) (.int (i : Nat)) = some (rowD vs[i]) := by
  show atI (vs.map rowD) (i : Int) = _
  unfold atI ixN
  simp [h]
theorem ne_nat (a : Nat) : dNe (.int (a : Nat)) (.int (a : Nat)) = some (.bl false) := by rw [o_neI]; simp
theorem add_str {a b : List Nat} (h : a.length + b.length ≤ 1000) : dAdd (.str a) (.str b) = some (.str (a ++ b)) := by
  show guard' _ _ = _
  unfold guard'
  rw [if_pos (by exact decide_eq_true (lim h))]
theorem l2 : 2 ≤ LIM := by decide
theorem l3 : 3 ≤ LIM := by decide
theorem Vo.pair {b n : Nat} {vs : List (List Rat)} {r : List Rat} (V : Vo b n vs) (hr : r ∈ vs) : Vo b n [r, r] := by
  have e : ∀ x ∈ [r, r], x = r := by simp
  refine ⟨by simp, fun x hx => ?_, fun x hx => ?_, by show 2 ≤ 8; decide, V.sm⟩
  · rw [e x hx]; exact V.len r hr
  · rw [e x hx]; exact V.un r hr
theorem Pv.pair {R : Nat} {vs : List (List Rat)} {r : List Rat} (h : Pv R vs) (hr : r ∈ vs) : Pv R [r, r] := by
  have e : ∀ x ∈ [r, r], x = r := by simp
  intro x hx
  rw [e x hx]; exact h r hr
theorem voices_right {m : Nat} {S : List O} (h : Tp m S) (hm : m < 2 ^ 40) : ∃ S', F__law_voices_right [.ptr 0] S = some (.bl true, S') := by
  obtain ⟨cs, S1, e1, hB, hc1, hc6, T1⟩ := bits_ev (a := 1) (b := 6) (by decide) (by decide) h (by omega)
  obtain ⟨vs, S2, e2, Dv, T2⟩ := voices_ev (ρ := [.val (.ptr 0), .val (.str cs), .un, .un, .un, .un, .un, .un, .un, .un, .un, .un, .un, .un, .un, .un, .un, .un, .un, .un, .un]) cs T1 (by omega) hc1 hc6 rfl rfl (by show 18 < 21; decide) rfl
  obtain ⟨f, S3, e3, hf, T3⟩ := take_ev (m := cs.length + 1) (by omega) (Nat.lt_of_le_of_lt (show _ ≤ 7 by omega) (by decide)) T2 (by omega)
  have V := Dv.vo
  have h4 := Dv.few
  have h0 : vs.length ≠ 0 := fun h => V.ne (List.length_eq_zero_iff.mp h)
  have hfl := flip_ok cs
  have hfn : (flip cs).length = cs.length := by unfold flip; rw [List.length_map]
  let told := mx vs cs
  let rows := sayL vs 0 (w0 vs.length) cs
  have hrl : rows.length = cs.length := sayL_len cs vs 0 _
  have ru : ∀ q ∈ rows, Un 530 q := rows_un V
  -- what is told
  have q1 := fun S => mixed_ev V hB (by decide) S
  have q2 := fun S => said_ev V hB (by decide) S
  have q3 := fun S => mixed_ev V.rev hB (by decide) S
  have q4 := fun S => said_ev V.rev hB (by decide) S
  have q5 := fun S => mixed_ev (V.two h4) hB (by decide) S
  have q6 := fun S => said_ev (V.two h4) hB (by decide) S
  simp only [mx_rev, say_rev, mx_two cs h0, say_two cs h0] at q3 q4 q5 q6
  have Vt : Vo 4 (flip cs).length (vs.map turn) := by rw [hfn]; exact V.turn
  have q7 := fun S => mixed_ev Vt hfl (by decide) S
  have q8 := fun S => said_ev Vt hfl (by decide) S
  have hst : sayL (vs.map turn) 0 (w0 (vs.map turn).length) (flip cs) = turn rows := by
    rw [List.length_map]
    exact sayL_turn V.len cs 0 _ (w0_len _) hB (by omega) (fun w hw => by rw [List.eq_of_mem_replicate hw]; exact iv_pos h0) (fun k c ws hk hw w hw' => by
      obtain ⟨x, hx, r, hr, rfl⟩ := hrd_mem hw'
      exact Rat.mul_pos (hw x hx) (V.un r hr _ (at_mem (by rw [V.len r hr]; exact hk))).tb.2.1) V.ne
  simp only [mx_turn vs hB, hst] at q7 q8
  have q9 := fun S => other_ev hB (by omega) S
  have q10 := fun S => voice_ev ru hB (by rw [hrl]; omega) S
  rw [show vsh rows cs = told from tele0 V hB] at q10
  -- the first few
  have Vs : Vo 4 (cs.take f).length (vs.map fun r => r.take f) := by
    rw [show (cs.take f).length = f by rw [List.length_take]; omega]
    exact V.take (by omega)
  have hB1 : IsB (cs.take f) := fun c hc => hB c (List.mem_of_mem_take hc)
  have hB2 : IsB (cs.drop f) := fun c hc => hB c (List.mem_of_mem_drop hc)
  have q11 := fun S => said_ev Vs hB1 (by decide) S
  rw [say_short V f (by omega)] at q11
  have q12 := fun S => mixed_ev Vs hB1 (by decide) S
  have q13 := fun S => voice_ev (as := rows.drop f) (cs := cs.drop f) (fun q hq => ru q (List.mem_of_mem_drop hq)) hB2 (by rw [List.length_drop, hrl]; omega) S
  have z13 : Sz 3200 (vsh (rows.drop f) (cs.drop f)) := (vsh_sz (rows.drop f) (cs.drop f) fun q hq => ru q (List.mem_of_mem_drop hq)).mono (by rw [List.length_drop, hrl]; omega)
  have q14 := fun S => times_ev (told_sz Vs (cs.take f)) z13 (by decide) S
  rw [mx_short V hB f (by omega)] at q14
  -- the lost bits
  obtain ⟨best, hbm, hbx⟩ := max_ex cs vs V.ne
  have bp := vsh_pos best cs (V.un best hbm)
  obtain ⟨bw, hbw⟩ := bf_ex (k := 300) (by decide) (told_sz V cs) (told_pos V cs).1 (told_pos V cs).2
  obtain ⟨bm, hbq⟩ := bf_ex (k := 25) (by decide) ((vsh_sz best cs (V.un best hbm)).mono (by rw [V.len best hbm]; omega)) bp.1 bp.2
  have hiv1 : iv vs.length ≤ 1 := by
    have h1 := iv_mul h0
    have h2 := iv_pos h0
    have h3 : ((1 : Int) : Rat) ≤ (((vs.length : Nat) : Int) : Rat) := Rat.intCast_le_intCast.mpr (by omega)
    rw [show ((1 : Int) : Rat) = 1 from rfl] at h3
    have h4 := Rat.mul_le_mul_of_nonneg_left h3 (Rat.le_of_lt h2)
    rw [h1, Rat.mul_one] at h4
    exact h4
  obtain ⟨bn, hbn⟩ := bf_ex (k := 4) (by decide) (iv_sz4 h0 (by omega)) (iv_pos h0) hiv1
  have hsum : bw ≤ bm + bn := bf_sum hbw hbq hbn (iv_pos h0) bp.1 (told_ge V cs hbm)
  have q15 := fun S => most_ev V hB (by decide) ⟨best, hbm, rfl⟩ hbx hbw hbq hbn S
  have q16 := fun S => most_ev V.rev hB (by decide) ⟨best, by simpa using hbm, rfl⟩ (fun r hr => hbx r (by simpa using hr)) (by rw [mx_rev]; exact hbw) hbq (by rw [List.length_reverse]; exact hbn) S
  have z1 := vc_sum_sz V cs
  have q17 := fun S => sum_ev (X := .lst ((vs.map fun r => vsh r cs).map pr)) (vs.map fun r => vsh r cs) rfl z1 (by rw [List.length_map]; omega) S
  have z2 : Sz 200 (rsum (vs.map fun r => vsh r cs)) := (rsum_sz (k := 25) (by decide) _ z1).mono (by rw [List.length_map]; omega)
  have q18 := fun S => times_ev (iv_sz4 h0 (by omega)) z2 (by decide) S
  have q19 := fun S => iv_ev h0 (Nat.lt_of_le_of_lt h4 (by decide +kernel)) S
  have el := len_vc vs
  -- both ends
  have hit : (cs.take (cs.length - 1)).length = cs.length - 1 := by rw [List.length_take]; omega
  have hBi : IsB (cs.take (cs.length - 1)) := fun c hc => hB c (List.mem_of_mem_take hc)
  have hBe : ∀ c, c = 48 ∨ c = 49 → IsB (cs.take (cs.length - 1) ++ [c]) := fun c hc => hBi.app fun d hd => by
    have : d = c := by simpa using hd
    rw [this]; exact hc
  have hel : ∀ c : Nat, (cs.take (cs.length - 1) ++ [c]).length = cs.length := fun c => by rw [List.length_append, hit, List.length_singleton]; omega
  have Ve : ∀ c : Nat, Vo 4 (cs.take (cs.length - 1) ++ [c]).length vs := fun c => by rw [hel]; exact V
  have q20 := fun c hc S => mixed_ev (Ve c) (hBe c hc) (by decide) S
  have Vi : Vo 4 (cs.take (cs.length - 1)).length (vs.map fun r => r.take (cs.length - 1)) := by rw [hit]; exact V.take (by omega)
  have q21 := fun S => mixed_ev Vi hBi (by decide) S
  have hboth : mx vs (cs.take (cs.length - 1) ++ [48]) + (mx vs (cs.take (cs.length - 1) ++ [49]) + 0) = mx (vs.map fun r => r.take (cs.length - 1)) (cs.take (cs.length - 1)) := by
    rw [Rat.add_zero]
    exact mx_both (cs.length - 1) hit fun r hr => by rw [V.len r hr]; omega
  have q22 := fun S => sum_ev (X := .lst (([48, 49].map fun c => mx vs (cs.take (cs.length - 1) ++ [c])).map pr)) ([48, 49].map fun c => mx vs (cs.take (cs.length - 1) ++ [c])) (k := 300) rfl (fun x hx => by
    obtain ⟨c, _, rfl⟩ := List.mem_map.mp hx
    exact told_sz V _) (by rw [List.length_map]; decide) S
  rw [show rsum ([48, 49].map fun c => mx vs (cs.take (cs.length - 1) ++ [c])) = mx (vs.map fun r => r.take (cs.length - 1)) (cs.take (cs.length - 1)) from hboth] at q22
  have em1 : ((cs.length - 1 : Nat) : Int) = (cs.length : Int) - 1 := by omega
  have q23 : dSub (.int (cs.length : Nat)) (.int 1) = some (.int ((cs.length - 1 : Nat) : Int)) := by rw [em1]; rfl
  have q24 := fun S => over_ev (told_sz V cs) (told_sz V cs) (told_pos V cs).1 (by decide) S
  rw [show mx vs cs / mx vs cs = 1 by have := (told_pos V cs).1; grind] at q24
  have lls := len_str (l := cs) (by omega)
  -- the part about switching, and what remains
  have tail : ∀ (ρ : List Sl) (S3 : List O), ρ.length = 21 → ρ[3]? = some (.val (pr (mx vs cs))) → sRet (eAnd (eBin dEq (eCall F_over (eCons (eVar 3) (eCons (eVar 3) eNil))) (eTup (eCons (ret (.int 1)) (eCons (ret (.int 1)) eNil)))) (eBin dEq (eCall F_share_text (eCons (eCall F_share (eCons (ret (.int 2)) (eCons (ret (.int 4)) eNil))) eNil)) (ret (.str [49, 47, 50])))) (ρ, S3) = some (.rt (.bl true) (ρ, S3)) := by
    intro ρ S3 _ h3
    exact v_rt (v_and (v_bin (v_call (v_cons (v_var h3) (v_cons (v_var h3) v_nil)) (q24 _)) (v_tup (v_cons v_ret (v_cons v_ret v_nil)) l2) (eq_self 1)) (v_bin (v_call (v_cons (v_call (v_cons v_ret (v_cons v_ret v_nil)) (share_half _)) v_nil) (text_half _)) v_ret rfl))
  have fin : ∃ Sf, (vs.length = 1 ∧ Sf = S3) ∨ (1 < vs.length ∧ ∃ (r1 r2 : Nat) (S4 : List O), F__law_take [.ptr 0, .int (7 : Nat)] S3 = some (.int (r1 : Nat), S4) ∧ F__law_take [.ptr 0, .int ((r1 + 1 : Nat) : Int)] S4 = some (.int (r2 : Nat), Sf) ∧ r1 < 7 ∧ r2 < r1 + 1) := by
    by_cases h1 : 1 < vs.length
    · obtain ⟨r1, S4, e4, g1, T4⟩ := take_ev (m := 7) (by decide) (by decide) T3 (by omega)
      obtain ⟨r2, S5, e5, g2, T5⟩ := take_ev (m := r1 + 1) (by omega) (Nat.lt_of_le_of_lt (show r1 + 1 ≤ 8 by omega) (by decide)) T4 (by omega)
      exact ⟨S5, .inr ⟨h1, r1, r2, S4, e4, e5, g1, g2⟩⟩
    · exact ⟨S3, .inl ⟨by omega, rfl⟩⟩
  obtain ⟨Sf, fin⟩ := fin
  refine ⟨Sf, ?_⟩
  unfold F__law_voices_right
  apply v_runE
  unfold B__law_voices_right
  refine v_seqE (v_set (v_call (v_cons (v_var rfl) (v_cons v_ret (v_cons v_ret v_nil))) e1)) ?_
  refine v_seqE (v_set e2) ?_
  refine v_seqE (v_asg2 (v_tup (v_cons (v_call (v_cons (v_var rfl) (v_cons (v_var rfl) v_nil)) (q1 _)) (v_cons (v_call (v_cons (v_var rfl) (v_cons (v_var rfl) v_nil)) (q2 _)) v_nil)) l2)) ?_
  refine v_seqE (v_sIfF (v_orT (v_B (v_bin (v_call (v_cons (v_un (v_var rfl) (rev_vc vs)) (v_cons (v_var rfl) v_nil)) (q3 _)) (v_var rfl) (ne_self told))) (v_orT (v_B (v_bin (v_call (v_cons (v_un (v_var rfl) (rev_vc vs)) (v_cons (v_var rfl) v_nil)) (q4 _)) (v_var rfl) (ne_row rows)))
    (v_orT (v_B (v_bin (v_call (v_cons (v_bin (v_var rfl) (v_var rfl) (add_vc (vs := vs) (us := vs) (by omega))) (v_cons (v_var rfl) v_nil)) (q5 _)) (v_var rfl) (ne_self told))) (v_B (v_bin (v_call (v_cons (v_bin (v_var rfl) (v_var rfl) (add_vc (vs := vs) (us := vs) (by omega))) (v_cons (v_var rfl) v_nil)) (q6 _)) (v_var rfl) (ne_row rows)))))) v_sNil) ?_
  have ht1 : ∀ {ρ : List Sl} {S : List O}, ρ[2]? = some (.val (vcD vs)) → ρ.length = 21 → ρ[16]? = some .un → ρ[20]? = some .un → ρ[13]? = some .un → eCl dTuple (eCons (eFz (eLc [16] (eItems (eVar 2)) (tNm 16) pYes (eCl dTuple (eCons (eFz (eLc [20, 13] (eItems (eVar 16)) (tTp (tCs (tNm 20) (tCs (tNm 13) tNl))) pYes (eTup (eCons (eBin dSub (eVar 13) (eVar 20)) (eCons (eVar 13) eNil))))) eNil)))) eNil) (ρ, S) = some (vcD (vs.map turn), (ρ, S)) := by
    intro ρ S k1 k2 k3 k4 k5
    refine v_cl (v_cons (v_fz (v_mapT vs rowD (fun r => rowD (turn r)) (v_items (v_var k1) rfl) (lim (by omega)) (fun r hr => ?_) (by decide) ?_)) v_nil) ?_
    · have w16 : ((wipeS ρ [16]).set 16 (.val (rowD r)))[16]? = some (.val (rowD r)) := List.getElem?_set_self (by rw [wipe_len]; omega)
      refine turn_ev (by rw [V.len r hr]; omega) (v_var w16) (by decide) (by decide) (by decide) (by rw [List.length_set, wipe_len]; omega) (by rw [List.length_set, wipe_len]; omega) ?_
      have a20 : ((wipeS ρ [16]).set 16 (.val (rowD r)))[20]? = some .un := by rw [List.getElem?_set_ne (by decide), wipeS_gt, if_neg (by simp)]; exact k4
      have a13 : ((wipeS ρ [16]).set 16 (.val (rowD r)))[13]? = some .un := by rw [List.getElem?_set_ne (by decide), wipeS_gt, if_neg (by simp)]; exact k5
      show (!(((wipeS ρ [16]).set 16 (.val (rowD r)))[20]?.getD Sl.un).isOwn && (!(((wipeS ρ [16]).set 16 (.val (rowD r)))[13]?.getD Sl.un).isOwn && true)) = true
      rw [a20, a13]; rfl
    · show (!(ρ[16]?.getD Sl.un).isOwn && true) = true
      rw [k3]; rfl
    · show some (D.tup (vs.map fun r => rowD (turn r))) = _
      unfold vcD
      rw [List.map_map]; rfl
  refine v_seqE (v_set (ht1 rfl rfl rfl rfl rfl)) ?_
  refine v_seqE (v_sIfF (v_orT (v_B (v_bin (v_call (v_cons (v_var rfl) (v_cons (v_call (v_cons (v_var rfl) v_nil) (q9 _)) v_nil)) (q7 _)) (v_var rfl) (ne_self told))) (v_B (v_bin (v_call (v_cons (v_var rfl) (v_cons (v_call (v_cons (v_var rfl) v_nil) (q9 _)) v_nil)) (q8 _)) (turn_ev (r := rows) (by rw [hrl]; omega) (v_var rfl) (by decide) (by decide) (by decide) (by show 20 < 21; decide) (by show 13 < 21; decide) rfl) (ne_row (turn rows))))) v_sNil) ?_
  refine v_seqE (v_sIfF (v_orT (v_B (v_bin (v_call (v_cons (v_var rfl) (v_cons (v_var rfl) v_nil)) (q10 _)) (v_var rfl) (ne_self told))) (v_B (v_cl (v_cons (v_fz (v_mapT (List.range vs.length) (fun i => .int (i : Nat)) (fun _ => .bl false) (v_range (v_cons (v_cl (v_cons (v_var rfl) v_nil) el) v_nil) (range1 (by omega))) (lim (by rw [List.length_range]; omega)) (fun i hi => by
    have hi' := List.mem_range.mp hi
    have hm := List.getElem_mem hi'
    have k1 := voice_ev (V.un _ hm) hB (by rw [V.len _ hm]; omega) S2
    have k2 := voice_ev (as := (vs.map turn)[i]'(by rw [List.length_map]; exact hi')) (Vt.un _ (List.getElem_mem _)) hfl (by rw [Vt.len _ (List.getElem_mem _), hfn]; omega) S2
    have k3 : vsh ((vs.map turn)[i]'(by rw [List.length_map]; exact hi')) (flip cs) = vsh vs[i] cs := by rw [List.getElem_map, vsh_turn _ _ hB]
    rw [k3] at k2
    exact v_bin (v_call (v_cons (v_bin (v_var rfl) (v_var rfl) (ix_vc (by rw [List.length_map]; exact hi'))) (v_cons (v_call (v_cons (v_var rfl) v_nil) (q9 _)) v_nil)) k2) (v_call (v_cons (v_bin (v_var rfl) (v_var rfl) (ix_vc hi')) (v_cons (v_var rfl) v_nil)) k1) (ne_self _)))) v_nil) (no_any _)))) v_sNil) ?_
  refine v_seqE (v_set (v_call (v_cons (v_var rfl) (v_cons (v_bin (v_cl (v_cons (v_var rfl) v_nil) lls) v_ret (o_addN (b := 1))) v_nil)) e3)) ?_
  have hsh' : ∀ (S3 : List O) (g : Nat) (X : Ev D) {ρ : List Sl}, g ≤ cs.length → ρ[2]? = some (.val (vcD vs)) → ρ.length = 21 → ρ[16]? = some .un → (∀ r, X ((wipeS ρ [16]).set 16 (.val (rowD r)), S3) = some (.int (g : Nat), ((wipeS ρ [16]).set 16 (.val (rowD r)), S3))) → eCl dTuple (eCons (eFz (eLc [16] (eItems (eVar 2)) (tNm 16) pYes (eSl (eVar 16) (ret none) (ePart X)))) eNil) (ρ, S3) = some (vcD (vs.map fun r => r.take g), (ρ, S3)) := by
    intro S3 g X ρ hg k1 k2 k3 hX
    refine v_cl (v_cons (v_fz (v_mapT vs rowD (fun r => rowD (r.take g)) (v_items (v_var k1) rfl) (lim (by omega)) (fun r hr => ?_) (by decide) ?_)) v_nil) ?_
    · have w16 : ((wipeS ρ [16]).set 16 (.val (rowD r)))[16]? = some (.val (rowD r)) := List.getElem?_set_self (by rw [wipe_len]; omega)
      exact v_sl (v_var w16) v_ret (v_part (hX r)) (sl_row (by rw [V.len r hr]; exact hg))
    · show (!(ρ[16]?.getD Sl.un).isOwn && true) = true
      rw [k3]; rfl
    · show some (D.tup (vs.map fun r => rowD (r.take g))) = _
      unfold vcD
      rw [List.map_map]; rfl
  have hsh := @hsh' S3
  refine v_seqE (v_set (hsh f (eVar 6) (by omega) rfl rfl rfl fun r => v_var rfl)) ?_
  refine v_seqE (v_sIfF (v_orT (v_B (v_bin (v_call (v_cons (v_var rfl) (v_cons (v_sl (v_var rfl) v_ret (v_part (v_var rfl)) (sl_str (f := f) (by omega) (by omega))) v_nil)) (q11 _)) (v_sl (v_var rfl) v_ret (v_part (v_var rfl)) (sl_row (r := rows) (f := f) (by omega))) (ne_row _)))
    (v_B (v_bin (v_call (v_cons (v_call (v_cons (v_var rfl) (v_cons (v_sl (v_var rfl) v_ret (v_part (v_var rfl)) (sl_str (f := f) (by omega) (by omega))) v_nil)) (q12 _)) (v_cons (v_call (v_cons (v_sl (v_var rfl) (v_part (v_var rfl)) v_ret (sl_row2 (r := rows) (f := f) (by omega))) (v_cons (v_sl (v_var rfl) (v_part (v_var rfl)) v_ret (sl_str2 (f := f) (by omega) (by omega))) v_nil)) (q13 _)) v_nil)) (q14 _)) (v_var rfl) (ne_self told)))) v_sNil) ?_
  refine v_seqE (v_set (v_fz ((v_mapT vs rowD (fun r => pr (vsh r cs)) (v_items (v_var rfl) rfl) (lim (by omega)) (fun r hr => v_call (v_cons (v_var rfl) (v_cons (v_var rfl) v_nil)) (voice_ev (V.un r hr) hB (by rw [V.len r hr]; omega) _))).trans (by rw [show (vs.map fun r => pr (vsh r cs)) = (vs.map fun r => vsh r cs).map pr by rw [List.map_map]; rfl])))) ?_
  refine v_seqE (v_sIfF (v_orT (v_B (v_bin (v_var rfl) (v_call (v_cons (v_call (v_cons v_ret (v_cons (v_cl (v_cons (v_var rfl) v_nil) el) v_nil)) (q19 _)) (v_cons (v_call (v_cons (v_var rfl) v_nil) (q17 _)) v_nil)) (q18 _)) (ne_self told))) (v_B (v_cl (v_cons (v_fz (v_mapT (vs.map fun r => vsh r cs) pr (fun _ => .bl false) (v_items (v_var rfl) rfl) (lim (by rw [List.length_map]; omega)) (fun a ha => by
    obtain ⟨r, hr, rfl⟩ := List.mem_map.mp ha
    have k1 := times_ev (iv_sz4 h0 (by omega)) (z1 _ ha) (by decide) S3
    have k2 := less_ev (told_sz V cs) ((iv_sz4 h0 (by omega)).mul (z1 _ ha)) (by decide) S3
    rw [decide_eq_false (by have := told_ge V cs hr; grind)] at k2
    exact v_call (v_cons (v_var rfl) (v_cons (v_call (v_cons (v_call (v_cons v_ret (v_cons (v_cl (v_cons (v_var rfl) v_nil) el) v_nil)) (q19 _)) (v_cons (v_var rfl) v_nil)) k1) v_nil)) k2))) v_nil) (no_any _)))) v_sNil) ?_
  refine v_seqE (v_asg3 (v_call (v_cons (v_var rfl) (v_cons (v_var rfl) v_nil)) (q15 _))) ?_
  refine v_seqE (v_sIfF (v_orT (v_B (v_bin (v_var rfl) (v_call (v_cons (v_var rfl) v_nil) (hbw.ev _)) (ne_nat bw))) (v_orT (v_B (v_bin (v_var rfl) (v_bin (v_var rfl) (v_var rfl) o_addN) (z := .bl false) (by
    show some (D.bl (decide (((bm + bn : Nat) : Int) < (bw : Nat)))) = _
    rw [decide_eq_false (by omega)]))) (v_B (v_bin (v_call (v_cons (v_un (v_var rfl) (rev_vc vs)) (v_cons (v_var rfl) v_nil)) (q16 _)) (v_tup (v_cons (v_var rfl) (v_cons (v_var rfl) (v_cons (v_var rfl) v_nil))) l3) (z := .bl false) (by
    rw [o_ne rfl rfl]
    show some (D.bl (!(((bw : Nat) : Int) == bw && (((bm : Nat) : Int) == bm && (((bn : Nat) : Int) == bn && true))))) = _
    simp))))) v_sNil) ?_
  show ∃ ρ, sSeq _ _ (([.val (.ptr 0), .val (.str cs), .val (vcD vs), .val (pr told), .val (rowD rows), .val (vcD (vs.map turn)), .val (.int (f : Nat)), .val (vcD (vs.map fun r => r.take f)), .val (.lst ((vs.map fun r => vsh r cs).map pr)), .val (.int (bw : Nat)), .val (.int (bm : Nat)), .val (.int (bn : Nat)), .un, .un, .un, .un, .un, .un, .un, .un, .un] : List Sl), S3) = some (.rt (.bl true) (ρ, Sf))
  have hend : ∀ {ρ : List Sl} {S : List O}, ρ[1]? = some (.val (.str cs)) → ρ.length = 21 → ρ[17]? = some .un → eFz (eLc [17] (eItems (ret (.str [48, 49]))) (tNm 17) pYes (eBin dAdd (eSl (eVar 1) (ret none) (ePart (eBin dSub (eCl dLen (eCons (eVar 1) eNil)) (ret (.int 1))))) (eVar 17))) (ρ, S) = some (.lst ([48, 49].map fun c => D.str (cs.take (cs.length - 1) ++ [c])), (ρ, S)) := by
    intro ρ S k1 k2 k3
    refine v_fz (v_mapT [48, 49] (fun c => D.str [c]) (fun c => D.str (cs.take (cs.length - 1) ++ [c])) (v_items v_ret rfl) (lim (by decide)) (fun c hc => ?_) (by decide) ?_)
    · have w1 : ((wipeS ρ [17]).set 17 (.val (D.str [c])))[1]? = some (.val (.str cs)) := by rw [List.getElem?_set_ne (by decide), wipeS_gt, if_neg (by simp)]; exact k1
      have w17 : ((wipeS ρ [17]).set 17 (.val (D.str [c])))[17]? = some (.val (D.str [c])) := List.getElem?_set_self (by rw [wipe_len]; omega)
      exact v_bin (v_sl (v_var w1) v_ret (v_part (v_bin (v_cl (v_cons (v_var w1) v_nil) lls) v_ret q23)) (sl_str (by omega) (by omega))) (v_var w17) (add_str (by rw [hit]; show _ + 1 ≤ _; omega))
    · show (!(ρ[17]?.getD Sl.un).isOwn && true) = true
      rw [k3]; rfl
  refine v_seqE (v_set (hend rfl rfl rfl)) ?_
  have hsi' : ∀ (S3 : List O) {ρ : List Sl} {r : List Rat}, ρ[1]? = some (.val (.str cs)) → eBin dSub (eCl dLen (eCons (eVar 1) eNil)) (ret (.int 1)) ((wipeS ρ [16]).set 16 (.val (rowD r)), S3) = some (.int ((cs.length - 1 : Nat) : Int), ((wipeS ρ [16]).set 16 (.val (rowD r)), S3)) := by
    intro S3 ρ r k1
    have w1 : ((wipeS ρ [16]).set 16 (.val (rowD r)))[1]? = some (.val (.str cs)) := by rw [List.getElem?_set_ne (by decide), wipeS_gt, if_neg (by simp)]; exact k1
    exact v_bin (v_cl (v_cons (v_var w1) v_nil) lls) v_ret q23
  have hsi := @hsi' S3
  refine v_seqE (v_sIfF (v_B (v_bin (v_call (v_cons (v_fz (v_mapT [48, 49] (fun c => D.str (cs.take (cs.length - 1) ++ [c])) (fun c => pr (mx vs (cs.take (cs.length - 1) ++ [c]))) (v_items (v_var rfl) rfl) (lim (by decide)) (fun c hc => v_call (v_cons (v_var rfl) (v_cons (v_var rfl) v_nil)) (q20 c (by simpa using hc) _)))) v_nil) (q22 _)) (v_call (v_cons (hsh (cs.length - 1) _ (by omega) rfl rfl rfl fun r => hsi rfl) (v_cons (v_sl (v_var rfl) v_ret (v_part (v_bin (v_cl (v_cons (v_var rfl) v_nil) lls) v_ret q23)) (sl_str (by omega) (by omega))) v_nil)) (q21 _)) (ne_self _))) v_sNil) ?_
  rcases fin with ⟨h1, rfl⟩ | ⟨h1, r1, r2, S4, e4, e5, g1, g2⟩
  · refine v_seqE (v_sIfF (v_B (v_bin (v_cl (v_cons (v_var rfl) v_nil) el) v_ret (z := .bl false) ?_)) v_sNil) ⟨_, tail _ _ rfl rfl⟩
    show some (D.bl (decide ((1 : Int) < (vs.length : Nat)))) = _
    rw [decide_eq_false (by omega)]
  · have es := share_pos (n := ((1 + r2 : Nat) : Int)) (d := 2 + r1) (by omega) (Nat.lt_of_le_of_lt (show _ ≤ 100 by omega) (by decide +kernel)) (Nat.lt_of_le_of_lt (show _ ≤ 100 by omega) (by decide +kernel)) Sf
    obtain ⟨ot, R, _⟩ := rt_ex (x := 1 + r2) (d := 2 + r1) (n := vs.length) (by omega) (by omega) (by omega) (by omega) h4
    obtain ⟨ot2, R2, hR2⟩ := rt_ex (x := 1 + r2) (d := 2 + r1) (n := 2) (by omega) (by omega) (by omega) (by omega) (by omega)
    obtain ⟨ru1, _⟩ := drawn_un (x := 1 + r2) (d := 2 + r1) (by omega) (by omega) (by omega)
    generalize hq : ((((1 + r2 : Nat) : Int) : Rat) / (((2 + r1 : Nat) : Int) : Rat)) = rate at es R R2 hR2 ru1
    have hR2' := hR2 rfl
    have hrz : Sz 20 rate := ru1.1.mono (by decide)
    have hv := Dv.pv
    have s1 := fun S => switching_ev V hB (by decide) hv R hrz (by omega) S
    have s2 := fun S => switching_ev V.rev hB (by decide) (fun r hr => hv r (by simpa using hr)) (by rw [List.length_reverse]; exact R) hrz (by rw [List.length_reverse]; omega) S
    have s3 := fun S => switching_ev Vt hfl (by decide) hv.turn (by rw [List.length_map]; exact R) hrz (by rw [List.length_map]; omega) S
    simp only [sw_rev] at s2
    simp only [sw_turn V.len _ _ hB] at s3
    have s4 := fun c hc S => switching_ev (Ve c) (hBe c hc) (by decide) hv R hrz (by omega) S
    have s5 := fun S => switching_ev Vi hBi (by decide) hv.take (by rw [List.length_map]; exact R) hrz (by rw [List.length_map]; omega) S
    have hsb : sw vs (1 - rate) ot (cs.take (cs.length - 1) ++ [48]) + (sw vs (1 - rate) ot (cs.take (cs.length - 1) ++ [49]) + 0) = sw (vs.map fun r => r.take (cs.length - 1)) (1 - rate) ot (cs.take (cs.length - 1)) := by
      rw [Rat.add_zero]
      exact sw_both (cs.length - 1) hit R.one
    have s6 := fun S => sum_ev (X := .lst (([48, 49].map fun c => sw vs (1 - rate) ot (cs.take (cs.length - 1) ++ [c])).map pr)) ([48, 49].map fun c => sw vs (1 - rate) ot (cs.take (cs.length - 1) ++ [c])) (k := 200) rfl (fun x hx => by
      obtain ⟨c, hc, rfl⟩ := List.mem_map.mp hx
      exact sw_sz V (hel c) (hBe c (by simpa using hc)) hv R) (by rw [List.length_map]; decide) S
    rw [show rsum ([48, 49].map fun c => sw vs (1 - rate) ot (cs.take (cs.length - 1) ++ [c])) = sw (vs.map fun r => r.take (cs.length - 1)) (1 - rate) ot (cs.take (cs.length - 1)) from hsb] at s6
    have hp0 : 0 < vs.length := by omega
    have hm0 := List.getElem_mem hp0
    have V2 : Vo 4 cs.length [vs[0], vs[0]] := V.pair hm0
    have s7 := fun S => switching_ev V2 hB (by decide) (hv.pair hm0) R2 hrz (by show 2 ≤ 2; decide) S
    simp only [sw_pair hR2' cs (show cs.length ≤ vs[0].length by rw [V.len _ hm0]; exact Nat.le_refl _)] at s7
    have i8 : dIx (.lst ((vs.map fun r => vsh r cs).map pr)) (.int 0) = some (pr (vsh vs[0] cs)) := by
      show atI ((vs.map fun r => vsh r cs).map pr) 0 = _
      unfold atI ixN
      simp [hp0]
    have i2 : dIx (vcD vs) (.int 0) = some (rowD vs[0]) := ix_vc hp0
    refine v_seqE (v_sIfT (v_B (v_bin (v_cl (v_cons (v_var rfl) v_nil) el) v_ret (z := .bl true) ?_)) (v_seq (v_set (v_bin v_ret (v_call (v_cons (v_var rfl) (v_cons v_ret v_nil)) e4) (o_addN (a := 2))))
      (v_seq (v_set (v_call (v_cons (v_bin v_ret (v_call (v_cons (v_var rfl) (v_cons (v_bin (v_var rfl) v_ret (z := .int ((r1 + 1 : Nat) : Int)) ?_) v_nil)) e5) (o_addN (a := 1))) (v_cons (v_var rfl) v_nil)) es))
      (v_seq (v_set (v_call (v_cons (v_var rfl) (v_cons (v_var rfl) (v_cons (v_var rfl) v_nil))) (s1 _)))
      (v_seq (v_sIfF (v_orT (v_B (v_bin (v_call (v_cons (v_un (v_var rfl) (rev_vc vs)) (v_cons (v_var rfl) (v_cons (v_var rfl) v_nil))) (s2 _)) (v_var rfl) (ne_self _))) (v_B (v_bin (v_call (v_cons (v_var rfl) (v_cons (v_call (v_cons (v_var rfl) v_nil) (q9 _)) (v_cons (v_var rfl) v_nil))) (s3 _)) (v_var rfl) (ne_self _)))) v_sNil)
      (v_seq (v_sIfF (v_B (v_binS (v_call (v_cons (v_fz (v_mapT [48, 49] (fun c => D.str (cs.take (cs.length - 1) ++ [c])) (fun c => pr (sw vs (1 - rate) ot (cs.take (cs.length - 1) ++ [c]))) (v_items (v_var rfl) rfl) (lim (by decide)) (fun c hc => v_call (v_cons (v_var rfl) (v_cons (v_var rfl) (v_cons (v_var rfl) v_nil))) (s4 c (by simpa using hc) _)))) v_nil) (s6 _)) (y := pr (sw (vs.map fun r => r.take (cs.length - 1)) (1 - rate) ot (cs.take (cs.length - 1)))) ?_ (ne_self _))) v_sNil)
      (v_sIfF (v_orS ?_ ?_) v_sNil))))))) ⟨_, tail _ _ rfl rfl⟩
    · show some (D.bl (decide ((1 : Int) < (vs.length : Nat)))) = _
      rw [decide_eq_true (by omega)]
    · show some (D.int _) = _
      congr 2
      omega
    · by_cases hc : 1 < cs.length
      · refine v_ifT (v_B (v_bin (v_cl (v_cons (v_var rfl) v_nil) lls) v_ret (z := .bl true) ?_)) (v_call (v_cons (hsh' _ (cs.length - 1) _ (by omega) rfl rfl rfl fun r => hsi' _ rfl) (v_cons (v_sl (v_var rfl) v_ret (v_part (v_bin (v_cl (v_cons (v_var rfl) v_nil) lls) v_ret q23)) (sl_str (by omega) (by omega))) (v_cons (v_var rfl) v_nil))) (s5 _))
        show some (D.bl (decide ((1 : Int) < (cs.length : Nat)))) = _
        rw [decide_eq_true (by omega)]
      · have hc' : cs.length = 1 := by omega
        have e0 : cs.take (cs.length - 1) = [] := by rw [hc']; rfl
        rw [e0, sw_nil _ _ (by rw [List.length_map]; exact h0)]
        refine v_ifF (v_B (v_bin (v_cl (v_cons (v_var rfl) v_nil) lls) v_ret (z := .bl false) ?_)) (v_tup (v_cons v_ret (v_cons v_ret v_nil)) l2)
        show some (D.bl (decide ((1 : Int) < (cs.length : Nat)))) = _
        rw [decide_eq_false (by omega)]
    · refine v_B (v_bin (y := pr (vsh vs[0] cs)) (v_call (v_cons (x := vcD [vs[0], vs[0]]) (v_tup (v_cons (v_bin (v_var rfl) v_ret i2) (v_cons (v_bin (v_var rfl) v_ret i2) v_nil)) l2) (v_cons (v_var rfl) (v_cons (v_var rfl) v_nil))) (s7 _)) (v_bin (v_var rfl) v_ret i8) (ne_self _))
    · by_cases hc : cs.length = 1
      · obtain ⟨c, rfl⟩ := List.length_eq_one_iff.mp hc
        refine v_andT (v_B (v_bin (v_cl (v_cons (v_var rfl) v_nil) lls) v_ret (z := .bl true) rfl)) (v_B (v_bin (v_var rfl) (v_var rfl) ?_))
        rw [sw_one V.len _ _ (by show 0 < 1; decide)]
        exact ne_self _
      · refine v_andTF (v_B (v_bin (v_cl (v_cons (v_var rfl) v_nil) lls) v_ret (z := .bl false) ?_))
        rw [o_eqI]
        congr 2
        simp; omega
end LW

set_option Elab.async false
set_option linter.all false
set_option maxRecDepth 100000
set_option exponentiation.threshold 100000
namespace LW
open PySem PySem.Spec PyProof.Rows L2 DL

/-! ### half_share -/
def fc (a d : Nat) : Rat := ((a : Int) : Rat) / ((d : Int) : Rat)
def hs0 : Nat → Rat
  | 0 => 1
  | n + 1 => hs0 n * fc (2 * n + 1) (2 * (n + 1))
def hs (n : Nat) : Nat → Rat
  | 0 => hs0 n
  | m + 1 => hs n m * fc (2 * m + 1) (2 * (n + m + 1))
theorem fc_sz {a d k : Nat} (hd : d ≠ 0) (h1 : a < 2 ^ k) (h2 : d < 2 ^ k) : Sz k (fc a d) := sz_parts hd (by simpa using h1) h2
theorem hs0_sz : ∀ n : Nat, n ≤ 100 → Sz (8 * n + 1) (hs0 n)
  | 0, _ => sz1
  | n + 1, h => by
    have := (hs0_sz n (by omega)).mul (fc_sz (a := 2 * n + 1) (d := 2 * (n + 1)) (k := 8) (by omega) (by omega) (by omega))
    exact this.mono (by omega)
theorem hs_sz (n : Nat) : ∀ m : Nat, n + m ≤ 100 → Sz (8 * (n + m) + 1) (hs n m)
  | 0, h => (hs0_sz n (by omega)).mono (by omega)
  | m + 1, h => by
    have := (hs_sz n m (by omega)).mul (fc_sz (a := 2 * m + 1) (d := 2 * (n + m + 1)) (k := 8) (by omega) (by omega) (by omega))
    exact this.mono (by omega)
theorem range_at {e : Nat → D} {n : Nat} {p q : List D} {x : D} (h : (List.range n).map e = p ++ x :: q) : x = e p.length ∧ p.length < n := by
  have hl := congrArg List.length h
  rw [List.length_map, List.length_range, List.length_append, List.length_cons] at hl
  have hp : p.length < n := by omega
  have h2 := congrArg (fun l => l[p.length]?) h
  simp only [List.getElem?_map, List.getElem?_range hp, Option.map_some] at h2
  rw [List.getElem?_append_right (Nat.le_refl _), Nat.sub_self, List.getElem?_cons_zero] at h2
  exact ⟨(Option.some.inj h2).symm, hp⟩
theorem half_ev {n m : Nat} (h : n + m ≤ 100) (S : List O) : F_half_share [.int (n : Nat), .int (m : Nat)] S = some (pr (hs n m), S) := by
  have two : ((2 : Nat) : Int) = 2 := rfl
  have H1 := v_forI (t := tNm 3) (u := sSet 2 (eCall F_times (eCons (eVar 2) (eCons (eCall F_share (eCons (eBin dAdd (eBin dMul (ret (.int 2)) (eVar 3)) (ret (.int 1))) (eCons (eBin dMul (ret (.int 2)) (eBin dAdd (eVar 3) (ret (.int 1)))) eNil))) eNil))))
    (fun p s => ∃ l : Sl, s = ([.val (.int (n : Nat)), .val (.int (m : Nat)), .val (pr (hs0 p.length)), l], S)) ((List.range n).map fun i => D.int (i : Nat)) [] ([.val (.int (n : Nat)), .val (.int (m : Nat)), .val (pr (hs0 0)), .un], S) ⟨.un, rfl⟩
  obtain ⟨s1, e1, l, rfl⟩ := H1 (by
    rintro p x q s hx ⟨l, rfl⟩
    obtain ⟨rfl, hp⟩ := range_at hx
    have es := share_pos (n := ((2 * p.length + 1 : Nat) : Int)) (d := 2 * (p.length + 1)) (by omega) (Nat.lt_of_le_of_lt (show _ ≤ 300 by omega) (by decide +kernel)) (Nat.lt_of_le_of_lt (show _ ≤ 300 by omega) (by decide +kernel)) S
    have et := times_ev (hs0_sz p.length (by omega)) (fc_sz (a := 2 * p.length + 1) (d := 2 * (p.length + 1)) (k := 8) (by omega) (by omega) (by omega)) (by omega) S
    have g2 : (2 : Nat).log2 ≤ 2 := by decide +kernel
    have g3 := lg (x := p.length) (k := 8) (by omega)
    have g4 := lg (x := p.length + 1) (k := 8) (by omega)
    refine ⟨_, _, rfl, v_set (v_call (v_cons (v_var rfl) (v_cons (v_call (v_cons (v_bin (v_bin v_ret (v_var rfl) (o_mulN (a := 2) ?_)) v_ret (o_addN (b := 1))) (v_cons (v_bin v_ret (v_bin (v_var rfl) v_ret (o_addN (b := 1))) (o_mulN (a := 2) ?_)) v_nil)) es) v_nil)) et), .val (.int (p.length : Nat)), ?_⟩
    · omega
    · omega
    · rw [List.length_append]; rfl)
  rw [List.nil_append, List.length_map, List.length_range] at e1
  have H2 := v_forI (t := tNm 3) (u := sSet 2 (eCall F_times (eCons (eVar 2) (eCons (eCall F_share (eCons (eBin dAdd (eBin dMul (ret (.int 2)) (eVar 3)) (ret (.int 1))) (eCons (eBin dMul (ret (.int 2)) (eBin dAdd (eBin dAdd (eVar 0) (eVar 3)) (ret (.int 1)))) eNil))) eNil))))
    (fun p s => ∃ l : Sl, s = ([.val (.int (n : Nat)), .val (.int (m : Nat)), .val (pr (hs n p.length)), l], S)) ((List.range m).map fun i => D.int (i : Nat)) [] ([.val (.int (n : Nat)), .val (.int (m : Nat)), .val (pr (hs0 n)), l], S) ⟨l, rfl⟩
  obtain ⟨s2, e2, l2, rfl⟩ := H2 (by
    rintro p x q s hx ⟨l, rfl⟩
    obtain ⟨rfl, hp⟩ := range_at hx
    have es := share_pos (n := ((2 * p.length + 1 : Nat) : Int)) (d := 2 * (n + p.length + 1)) (by omega) (Nat.lt_of_le_of_lt (show _ ≤ 300 by omega) (by decide +kernel)) (Nat.lt_of_le_of_lt (show _ ≤ 300 by omega) (by decide +kernel)) S
    have et := times_ev (hs_sz n p.length (by omega)) (fc_sz (a := 2 * p.length + 1) (d := 2 * (n + p.length + 1)) (k := 8) (by omega) (by omega) (by omega)) (by omega) S
    have g2 : (2 : Nat).log2 ≤ 2 := by decide +kernel
    have g3 := lg (x := p.length) (k := 8) (by omega)
    have g4 := lg (x := n + p.length + 1) (k := 8) (by omega)
    refine ⟨_, _, rfl, v_set (v_call (v_cons (v_var rfl) (v_cons (v_call (v_cons (v_bin (v_bin v_ret (v_var rfl) (o_mulN (a := 2) ?_)) v_ret (o_addN (b := 1))) (v_cons (v_bin v_ret (v_bin (v_bin (v_var rfl) (v_var rfl) o_addN) v_ret (o_addN (b := 1))) (o_mulN (a := 2) ?_)) v_nil)) es) v_nil)) et), .val (.int (p.length : Nat)), ?_⟩
    · omega
    · omega
    · rw [List.length_append]; rfl)
  rw [List.nil_append, List.length_map, List.length_range] at e2
  have r1 : ∀ n : Nat, n ≤ 1000 → dRange1 [.int (n : Nat)] = some ((List.range n).map fun i => D.int (i : Nat)) := by
    intro n h
    show guard' (inB62 _) (rangeL 0 1 _) = _
    unfold guard' inB62
    rw [if_pos (by simp only [Bool.and_eq_true, decide_eq_true_eq]; omega), show ((n : Nat) : Int).toNat = n by omega]
    unfold rangeL
    congr 1
    apply List.map_congr_left
    intro i _
    congr 1
    omega
  unfold F_half_share
  apply v_run
  unfold B_half_share
  refine v_seq (v_sIfF (v_orT (v_B (v_bin (v_var rfl) v_ret (z := .bl false) ?_)) (v_orT (v_B (v_bin (v_var rfl) v_ret (z := .bl false) ?_)) (v_B (v_bin (v_bin (v_var rfl) (v_var rfl) o_addN) v_ret (z := .bl false) ?_)))) v_sNil) (v_seq (v_set v_ret) (v_seq (v_for (v_range (v_cons (v_var rfl) v_nil) (r1 n (by omega))) e1) (v_seq (v_for (v_range (v_cons (v_var rfl) v_nil) (r1 m (by omega))) e2) (v_rt (v_var rfl)))))
  · show some (D.bl (decide (((n : Nat) : Int) < 0))) = _
    rw [decide_eq_false (by omega)]
  · show some (D.bl (decide (((m : Nat) : Int) < 0))) = _
    rw [decide_eq_false (by omega)]
  · show some (D.bl (decide ((400 : Int) < ((n + m : Nat) : Int)))) = _
    rw [decide_eq_false (by omega)]
/-! its laws -/
theorem fc_pos {a d : Nat} (ha : a ≠ 0) (hd : d ≠ 0) : 0 < fc a d := by
  have h1 : ((0 : Int) : Rat) < ((a : Int) : Rat) := Rat.intCast_lt_intCast.mpr (by omega)
  have h2 : ((0 : Int) : Rat) < ((d : Int) : Rat) := Rat.intCast_lt_intCast.mpr (by omega)
  rw [show ((0 : Int) : Rat) = 0 from rfl] at h1 h2
  unfold fc
  rw [Rat.lt_div_iff h2, Rat.zero_mul]; exact h1
theorem hs0_pos : ∀ n : Nat, 0 < hs0 n
  | 0 => by show (0 : Rat) < 1; decide
  | n + 1 => Rat.mul_pos (hs0_pos n) (fc_pos (by omega) (by omega))
theorem hs_pos (n : Nat) : ∀ m : Nat, 0 < hs n m
  | 0 => hs0_pos n
  | m + 1 => Rat.mul_pos (hs_pos n m) (fc_pos (by omega) (by omega))
theorem nz {d : Nat} (hd : d ≠ 0) : ((d : Int) : Rat) ≠ 0 := by
  intro h
  have : ((d : Int) : Rat) = ((0 : Int) : Rat) := by rw [h]; rfl
  have := Rat.intCast_inj.mp this
  omega
theorem hs_succ (n : Nat) : ∀ m : Nat, hs (n + 1) m = hs n m * fc (2 * n + 1) (2 * (n + m + 1))
  | 0 => rfl
  | m + 1 => by
    show hs (n + 1) m * fc (2 * m + 1) (2 * (n + 1 + m + 1)) = hs n m * fc (2 * m + 1) (2 * (n + m + 1)) * fc (2 * n + 1) (2 * (n + (m + 1) + 1))
    rw [hs_succ n m, show n + 1 + m + 1 = n + (m + 1) + 1 by omega]
    unfold fc
    have h1 := nz (d := 2 * (n + m + 1)) (by omega)
    have h2 := nz (d := 2 * (n + (m + 1) + 1)) (by omega)
    generalize ((((2 * (n + m + 1) : Nat)) : Int) : Rat) = a at *
    generalize ((((2 * (n + (m + 1) + 1) : Nat)) : Int) : Rat) = b at *
    grind
theorem hs_sum (n m : Nat) : hs (n + 1) m + hs n (m + 1) = hs n m := by
  rw [hs_succ]
  show hs n m * fc (2 * n + 1) (2 * (n + m + 1)) + hs n m * fc (2 * m + 1) (2 * (n + m + 1)) = hs n m
  have e : fc (2 * n + 1) (2 * (n + m + 1)) + fc (2 * m + 1) (2 * (n + m + 1)) = 1 := by
    unfold fc
    have h1 := nz (d := 2 * (n + m + 1)) (by omega)
    have h2 : ((((2 * n + 1 : Nat)) : Int) : Rat) + ((((2 * m + 1 : Nat)) : Int) : Rat) = ((((2 * (n + m + 1) : Nat)) : Int) : Rat) := by
      rw [← Rat.intCast_add]; congr 1; omega
    generalize ((((2 * (n + m + 1) : Nat)) : Int) : Rat) = a at *
    generalize ((((2 * n + 1 : Nat)) : Int) : Rat) = x at *
    generalize ((((2 * m + 1 : Nat)) : Int) : Rat) = y at *
    grind
  have : hs n m * fc (2 * n + 1) (2 * (n + m + 1)) + hs n m * fc (2 * m + 1) (2 * (n + m + 1)) = hs n m * (fc (2 * n + 1) (2 * (n + m + 1)) + fc (2 * m + 1) (2 * (n + m + 1))) := by grind
  rw [this, e, Rat.mul_one]
theorem hs_comm : ∀ n m : Nat, hs n m = hs m n
  | 0, 0 => rfl
  | 0, m + 1 => by
    rw [hs_succ, ← hs_comm 0 m]
    show hs 0 m * fc (2 * m + 1) (2 * (0 + m + 1)) = _
    rw [show 0 + m + 1 = m + 0 + 1 by omega]
  | n + 1, m => by
    rw [hs_succ, hs_comm n m]
    show _ = hs m n * fc (2 * n + 1) (2 * (m + n + 1))
    rw [show n + m + 1 = m + n + 1 by omega]
end LW

set_option Elab.async false
set_option linter.all false
set_option maxRecDepth 100000
set_option exponentiation.threshold 100000
set_option maxHeartbeats 1000000
namespace LW
open PySem PySem.Spec PyProof.Rows L2 DL

/-! ### contexts -/
theorem kGet_app (kvs : List (DK × D)) (k k' : DK) (v : D) : kGet (kvs ++ [(k, v)]) k' = (kGet kvs k').or (if k = k' then some v else none) := by
  unfold kGet
  rw [List.find?_append]
  cases h : kvs.find? fun kv => decide (kv.1 = k') with
  | some x => rfl
  | none =>
    by_cases e : k = k' <;> simp [e]
theorem kGet_put (kvs : List (DK × D)) (k k' : DK) (v : D) : kGet (kPut kvs k v) k' = if k = k' then some v else kGet kvs k' := by
  unfold kPut
  by_cases h : (kvs.any fun kv => decide (kv.1 = k)) = true
  · rw [if_pos h]
    unfold kGet
    induction kvs with
    | nil => simp at h
    | cons a t ih =>
      rw [List.map_cons, List.find?_cons, List.find?_cons]
      by_cases e1 : a.1 = k
      · by_cases e2 : k = k'
        · subst e2; simp [e1]
        · have e3 : ¬ a.1 = k' := fun h => e2 (e1 ▸ h)
          simp only [e1, if_true, e2, decide_false, if_false]
          by_cases h2 : (t.any fun kv => decide (kv.1 = k)) = true
          · have := ih h2
            rw [if_neg e2] at this
            exact this
          · congr 1
            have : (t.map fun kv => if kv.1 = k then (kv.1, v) else kv) = t := by
              conv => rhs; rw [← List.map_id t]
              apply List.map_congr_left
              intro x hx
              have hx' : ¬ x.1 = k := fun hxk => h2 (List.any_eq_true.mpr ⟨x, hx, by simp [hxk]⟩)
              rw [if_neg hx']; rfl
            rw [this]
      · have h2 : (t.any fun kv => decide (kv.1 = k)) = true := by
          rw [List.any_cons, decide_eq_false e1, Bool.false_or] at h; exact h
        rw [if_neg e1]
        by_cases e2 : a.1 = k'
        · have e3 : ¬ k = k' := fun h => e1 (e2.trans h.symm)
          simp [e2, e3]
        · simp only [e2, decide_false]
          exact ih h2
  · rw [if_neg h, kGet_app]
    by_cases e : k = k'
    · subst e
      have : kGet kvs k = none := by
        unfold kGet
        rw [Option.map_eq_none_iff, List.find?_eq_none]
        intro x hx hxk
        exact h (List.any_eq_true.mpr ⟨x, hx, hxk⟩)
      rw [this]; simp
    · simp [e]
theorem kPut_len (kvs : List (DK × D)) (k : DK) (v : D) : (kPut kvs k v).length ≤ kvs.length + 1 := by
  unfold kPut
  split
  · rw [List.length_map]; omega
  · rw [List.length_append]; exact Nat.le_refl _
abbrev Cn := List Nat → Nat × Nat
def inc (b : Nat) (p : Nat × Nat) : Nat × Nat := if b = 48 then (p.1 + 1, p.2) else (p.1, p.2 + 1)
def cadd (depth : Nat) (past : List Nat) (b : Nat) (c : Cn) : Cn := fun x => if x.length ≤ depth ∧ x <+: past then inc b (c x) else c x
def cfold (depth : Nat) : List Nat → List Nat → Cn → Cn
  | _, [], c => c
  | past, b :: bs, c => cfold depth (b :: past) bs (cadd depth past b c)
theorem cfold_snoc (depth : Nat) (b : Nat) : ∀ (bs past : List Nat) (c : Cn), cfold depth past (bs ++ [b]) c = cadd depth (bs.reverse ++ past) b (cfold depth past bs c)
  | [], past, c => rfl
  | d :: bs, past, c => by
    show cfold depth (d :: past) (bs ++ [b]) (cadd depth past d c) = cadd depth ((d :: bs).reverse ++ past) b (cfold depth (d :: past) bs (cadd depth past d c))
    rw [cfold_snoc depth b bs (d :: past), List.reverse_cons, List.append_assoc]; rfl
def pD (p : Nat × Nat) : D := .tup [.int (p.1 : Nat), .int (p.2 : Nat)]
/-- the dict tells the counts -/
def Tl (kvs : List (DK × D)) (c : Cn) : Prop := ∀ x : List Nat, (kGet kvs (.inr x)).getD (.tup [.int 0, .int 0]) = pD (c x)
theorem tl_put {kvs : List (DK × D)} {c : Cn} (h : Tl kvs c) (x : List Nat) (p : Nat × Nat) : Tl (kPut kvs (.inr x) (pD p)) (fun y => if x = y then p else c y) := by
  intro y
  rw [kGet_put]
  by_cases e : x = y
  · subst e; simp
  · have : ¬ (Sum.inr x : DK) = .inr y := fun h => e (Sum.inr.inj h)
    rw [if_neg this]
    show _ = pD (if x = y then p else c y)
    rw [if_neg e]; exact h y
theorem rev_cut {l : List Nat} {a s : Nat} (h : s ≤ a) (ha : a ≤ l.length) : ((l.drop (a - s)).take s).reverse = (l.take a).reverse.take s := by
  rw [List.take_reverse, List.length_take, Nat.min_eq_left ha, List.drop_take]
  congr 2
  omega
theorem pre_take {x past : List Nat} {j : Nat} (hj : j ≤ past.length) : (x.length < j + 1 ∧ x <+: past) ↔ ((x.length < j ∧ x <+: past) ∨ past.take j = x) := by
  constructor
  · rintro ⟨h1, h2⟩
    by_cases e : x.length = j
    · right
      rw [← e]; exact (List.prefix_iff_eq_take.mp h2).symm
    · exact .inl ⟨by omega, h2⟩
  · rintro (⟨h1, h2⟩ | h)
    · exact ⟨by omega, h2⟩
    · subst h
      exact ⟨by rw [List.length_take]; omega, List.take_prefix _ _⟩
theorem ctx_in {depth a n0 : Nat} {whole : List Nat} {b : Nat} (B X : D) (hb : whole[a]? = some b) (hd : depth ≤ a) (hw : whole.length ≤ 100) (hd4 : depth ≤ 4) (S : List O) (kvs : List (DK × D)) (c : Cn) (h : Tl kvs c) (hk : kvs.length ≤ n0) (hn : n0 ≤ 1000) (l6 l7 l8 l9 : Sl) :
    ∃ (kvs' : List (DK × D)) (l6' l7' l8' l9' : Sl), sFor (eRange dRange1 (eCons (eBin dAdd (eVar 1) (ret (.int 1))) eNil)) (tNm 6) (sSeq (sSet 7 (eUn dRev (eSl (eVar 4) (ePart (eBin dSub (eVar 5) (eVar 6))) (ePart (eVar 5))))) (sSeq (sAsg (tTp (tCs (tNm 8) (tCs (tNm 9) tNl))) (eDGet2L 3 (eVar 7) (eTup (eCons (ret (.int 0)) (eCons (ret (.int 0)) eNil))))) (sDPutL 3 (eVar 7) (eIf (eB (eBin dEq (eBin dIx (eVar 4) (eVar 5)) (ret (.str [48])))) (eTup (eCons (eBin dAdd (eVar 8) (ret (.int 1))) (eCons (eVar 9) eNil))) (eTup (eCons (eVar 8) (eCons (eBin dAdd (eVar 9) (ret (.int 1))) eNil)))))))
      ([.val B, .val (.int (depth : Nat)), .val X, .ownK kvs, .val (.str whole), .val (.int (a : Nat)), l6, l7, l8, l9], S) = some (.nx ([.val B, .val (.int (depth : Nat)), .val X, .ownK kvs', .val (.str whole), .val (.int (a : Nat)), l6', l7', l8', l9'], S))
      ∧ Tl kvs' (cadd depth (whole.take a).reverse b c) ∧ kvs'.length ≤ n0 + (depth + 1) := by
  have ha : a < whole.length := by
    rcases Nat.lt_or_ge a whole.length with h | h
    · exact h
    · rw [List.getElem?_eq_none h] at hb; cases hb
  have hpl : (whole.take a).reverse.length = a := by rw [List.length_reverse, List.length_take]; omega
  have H := v_forI (t := tNm 6) (u := sSeq (sSet 7 (eUn dRev (eSl (eVar 4) (ePart (eBin dSub (eVar 5) (eVar 6))) (ePart (eVar 5))))) (sSeq (sAsg (tTp (tCs (tNm 8) (tCs (tNm 9) tNl))) (eDGet2L 3 (eVar 7) (eTup (eCons (ret (.int 0)) (eCons (ret (.int 0)) eNil))))) (sDPutL 3 (eVar 7) (eIf (eB (eBin dEq (eBin dIx (eVar 4) (eVar 5)) (ret (.str [48])))) (eTup (eCons (eBin dAdd (eVar 8) (ret (.int 1))) (eCons (eVar 9) eNil))) (eTup (eCons (eVar 8) (eCons (eBin dAdd (eVar 9) (ret (.int 1))) eNil)))))))
    (fun p s => ∃ (kvs' : List (DK × D)) (l6' l7' l8' l9' : Sl), s = ([.val B, .val (.int (depth : Nat)), .val X, .ownK kvs', .val (.str whole), .val (.int (a : Nat)), l6', l7', l8', l9'], S) ∧ Tl kvs' (fun x => if x.length < p.length ∧ x <+: (whole.take a).reverse then inc b (c x) else c x) ∧ kvs'.length ≤ n0 + p.length)
    ((List.range (depth + 1)).map fun i => D.int (i : Nat)) [] ([.val B, .val (.int (depth : Nat)), .val X, .ownK kvs, .val (.str whole), .val (.int (a : Nat)), l6, l7, l8, l9], S) ⟨kvs, l6, l7, l8, l9, rfl, by
      have : (fun x : List Nat => if x.length < ([] : List D).length ∧ x <+: (whole.take a).reverse then inc b (c x) else c x) = c := by
        funext x
        rw [if_neg (by rintro ⟨h, _⟩; exact absurd h (Nat.not_lt_zero _))]
      rw [this]; exact h, hk⟩
  obtain ⟨s1, e1, kvs', l6', l7', l8', l9', rfl, h1, h2⟩ := H (by
    rintro p x q s hx ⟨kv, l6, l7, l8, l9, rfl, h1, h2⟩
    obtain ⟨rfl, hp⟩ := range_at hx
    have hj : p.length ≤ (whole.take a).reverse.length := by rw [hpl]; omega
    have hlen : ((whole.take a).reverse.take p.length).length = p.length := by rw [List.length_take]; omega
    have h2k : n0 + p.length < LIM := by
      have : 2000 ≤ LIM := by decide
      omega
    -- the context
    have hc : dSl (.str whole) (some (((a - p.length : Nat) : Nat) : Int)) (some ((a : Nat) : Int)) = some (.str ((whole.drop (a - p.length)).take p.length)) := by
      show (if whole.length ≤ LIM then some (D.str (cutG whole _ _)) else none) = _
      rw [if_pos (lim (by omega))]
      unfold cutG
      rw [HT.sIx_nat, HT.sIx_nat, Nat.min_eq_left (by omega), Nat.min_eq_left (by omega), show a - (a - p.length) = p.length by omega]
    have hr : dRev (.str ((whole.drop (a - p.length)).take p.length)) = some (.str ((whole.take a).reverse.take p.length)) := by
      rw [← rev_cut (by omega) (by omega)]
      show (if _ then some _ else none) = _
      rw [if_pos (lim (by rw [List.length_take]; omega))]
    have hg := h1 ((whole.take a).reverse.take p.length)
    dsimp only at hg
    rw [if_neg (by rw [hlen]; rintro ⟨h, _⟩; omega)] at hg
    have hix : dIx (.str whole) (.int (a : Nat)) = some (.str [b]) := by
      show (if whole.length ≤ LIM then ixStr whole (a : Nat) else none) = _
      rw [if_pos (lim (by omega))]
      unfold ixStr atI ixN
      simp [ha]
      rw [List.getElem?_eq_getElem ha] at hb
      exact Option.some.inj hb
    have hsub : dSub (.int (a : Nat)) (.int (p.length : Nat)) = some (.int ((a - p.length : Nat) : Int)) := by
      show some (D.int _) = _
      congr 2
      omega
    have hnew : ∀ (s : Sto), s.1[4]? = some (.val (.str whole)) → s.1[5]? = some (.val (.int (a : Nat))) → s.1[8]? = some (.val (.int ((c ((whole.take a).reverse.take p.length)).1 : Nat))) → s.1[9]? = some (.val (.int ((c ((whole.take a).reverse.take p.length)).2 : Nat))) →
        eIf (eB (eBin dEq (eBin dIx (eVar 4) (eVar 5)) (ret (.str [48])))) (eTup (eCons (eBin dAdd (eVar 8) (ret (.int 1))) (eCons (eVar 9) eNil))) (eTup (eCons (eVar 8) (eCons (eBin dAdd (eVar 9) (ret (.int 1))) eNil))) s = some (pD (inc b (c ((whole.take a).reverse.take p.length))), s) := by
      intro s k4 k5 k8 k9
      unfold inc
      by_cases hb48 : b = 48
      · rw [if_pos hb48]
        exact v_ifT (v_B (v_bin (v_bin (v_var k4) (v_var k5) hix) v_ret (by rw [hb48]; rfl))) (v_tup (v_cons (v_bin (v_var k8) v_ret (o_addN (b := 1))) (v_cons (v_var k9) v_nil)) (by show 2 ≤ LIM; decide))
      · rw [if_neg hb48]
        exact v_ifF (v_B (v_bin (v_bin (v_var k4) (v_var k5) hix) v_ret (z := .bl false) (by rw [o_eqS]; congr 2; simpa using hb48))) (v_tup (v_cons (v_var k8) (v_cons (v_bin (v_var k9) v_ret (o_addN (b := 1))) v_nil)) (by show 2 ≤ LIM; decide))
    refine ⟨_, _, rfl, v_seq (v_set (v_un (v_sl (v_var rfl) (v_part (v_bin (v_var rfl) (v_var rfl) hsub)) (v_part (v_var rfl)) hc) hr)) (v_seq (v_asg2 ((v_dget2L (kvs0 := kv) (kvs := kv) (kk := .inr ((whole.take a).reverse.take p.length)) rfl (v_var rfl) (v_tup (v_cons v_ret (v_cons v_ret v_nil)) (by show 2 ≤ LIM; decide)) rfl rfl).trans (by rw [hg]; rfl))) (v_dputL (kvs0 := kv) (kvs := kv) (kk := .inr ((whole.take a).reverse.take p.length)) (hnew _ rfl rfl rfl rfl) rfl (v_var rfl) rfl rfl (Nat.lt_of_le_of_lt h2 h2k))), _, _, _, _, _, rfl, ?_, ?_⟩
    · have ht := tl_put h1 ((whole.take a).reverse.take p.length) (inc b (c ((whole.take a).reverse.take p.length)))
      have : (fun y => if (whole.take a).reverse.take p.length = y then inc b (c ((whole.take a).reverse.take p.length)) else if y.length < p.length ∧ y <+: (whole.take a).reverse then inc b (c y) else c y) = (fun x => if x.length < (p ++ [D.int (p.length : Nat)]).length ∧ x <+: (whole.take a).reverse then inc b (c x) else c x) := by
        funext y
        rw [List.length_append, List.length_singleton]
        by_cases e : (whole.take a).reverse.take p.length = y
        · rw [if_pos e, if_pos ((pre_take hj).mpr (.inr e)), e]
        · rw [if_neg e]
          by_cases e2 : y.length < p.length ∧ y <+: (whole.take a).reverse
          · rw [if_pos e2, if_pos ((pre_take hj).mpr (.inl e2))]
          · rw [if_neg e2, if_neg fun h => ((pre_take hj).mp h).elim e2 e]
      rw [this] at ht
      exact ht
    · rw [List.length_append, List.length_singleton]
      have := kPut_len kv (.inr ((whole.take a).reverse.take p.length)) (pD (inc b (c ((whole.take a).reverse.take p.length))))
      omega)
  rw [List.nil_append, List.length_map, List.length_range] at h1 h2
  refine ⟨kvs', l6', l7', l8', l9', v_for (v_range (v_cons (v_bin (v_var rfl) v_ret (o_addN (b := 1))) v_nil) ?_) e1, ?_, h2⟩
  · show guard' (inB62 _) (rangeL 0 1 _) = _
    unfold guard' inB62
    rw [if_pos (by simp only [Bool.and_eq_true, decide_eq_true_eq]; omega), show ((depth + 1 : Nat) : Int).toNat = depth + 1 by omega]
    unfold rangeL
    congr 1
    apply List.map_congr_left
    intro i _
    congr 1
    omega
  · have : (fun x : List Nat => if x.length < depth + 1 ∧ x <+: (whole.take a).reverse then inc b (c x) else c x) = cadd depth (whole.take a).reverse b c := by
      funext x
      unfold cadd
      by_cases e : x.length ≤ depth ∧ x <+: (whole.take a).reverse
      · rw [if_pos e, if_pos ⟨by omega, e.2⟩]
      · rw [if_neg e, if_neg fun h => e ⟨by omega, h.2⟩]
    rw [this] at h1
    exact h1
theorem getE {l m : List Nat} {i : Nat} (h : i < m.length) : (l ++ m)[l.length + i]? = some m[i] := by
  rw [List.getElem?_append_right (by omega), show l.length + i - l.length = i by omega, List.getElem?_eq_getElem h]
/-- the counts of all contexts -/
def cof (depth : Nat) (before bits : List Nat) : Cn := cfold depth before.reverse bits fun _ => (0, 0)
theorem contexts_ev {bits before : List Nat} (hB : IsB bits) (hB2 : IsB before) (hl : bits.length ≤ 20) (hd : before.length ≤ 4) (S : List O) : ∃ kvs, F_contexts_of [.str bits, .int (before.length : Nat), .str before] S = some (.dct kvs, S) ∧ Tl kvs (cof before.length before bits) := by
  have H := v_forI (t := tNm 5) (u := sFor (eRange dRange1 (eCons (eBin dAdd (eVar 1) (ret (.int 1))) eNil)) (tNm 6) (sSeq (sSet 7 (eUn dRev (eSl (eVar 4) (ePart (eBin dSub (eVar 5) (eVar 6))) (ePart (eVar 5))))) (sSeq (sAsg (tTp (tCs (tNm 8) (tCs (tNm 9) tNl))) (eDGet2L 3 (eVar 7) (eTup (eCons (ret (.int 0)) (eCons (ret (.int 0)) eNil))))) (sDPutL 3 (eVar 7) (eIf (eB (eBin dEq (eBin dIx (eVar 4) (eVar 5)) (ret (.str [48])))) (eTup (eCons (eBin dAdd (eVar 8) (ret (.int 1))) (eCons (eVar 9) eNil))) (eTup (eCons (eVar 8) (eCons (eBin dAdd (eVar 9) (ret (.int 1))) eNil))))))))
    (fun p s => ∃ (kvs : List (DK × D)) (l5 l6 l7 l8 l9 : Sl), s = ([.val (.str bits), .val (.int (before.length : Nat)), .val (.str before), .ownK kvs, .val (.str (before ++ bits)), l5, l6, l7, l8, l9], S) ∧ Tl kvs (cfold before.length before.reverse (bits.take p.length) fun _ => (0, 0)) ∧ kvs.length ≤ p.length * 5)
    ((List.range bits.length).map fun i => D.int ((before.length + i : Nat) : Int)) [] ([.val (.str bits), .val (.int (before.length : Nat)), .val (.str before), .ownK [], .val (.str (before ++ bits)), .un, .un, .un, .un, .un], S) ⟨[], .un, .un, .un, .un, .un, rfl, fun x => rfl, Nat.zero_le _⟩
  obtain ⟨s1, e1, kvs, l5, l6, l7, l8, l9, rfl, h1, h2⟩ := H (by
    rintro p x q s hx ⟨kvs, l5, l6, l7, l8, l9, rfl, h1, h2⟩
    obtain ⟨rfl, hp⟩ := range_at (e := fun i => D.int ((before.length + i : Nat) : Int)) hx
    obtain ⟨kvs', l6', l7', l8', l9', e, g1, g2⟩ := ctx_in (depth := before.length) (a := before.length + p.length) (n0 := p.length * 5) (.str bits) (.str before) (getE hp) (by omega) (by rw [List.length_append]; omega) hd S kvs _ h1 h2 (by omega) l6 l7 l8 l9
    refine ⟨_, _, rfl, e, kvs', _, l6', l7', l8', l9', rfl, ?_, by rw [List.length_append, List.length_singleton]; omega⟩
    rw [List.length_append, List.length_singleton, List.take_succ, List.getElem?_eq_getElem hp]
    show Tl kvs' (cfold before.length before.reverse (bits.take p.length ++ [bits[p.length]]) _)
    rw [cfold_snoc]
    have : ((before ++ bits).take (before.length + p.length)).reverse = (bits.take p.length).reverse ++ before.reverse := by
      rw [List.take_append, List.take_of_length_le (by omega), show before.length + p.length - before.length = p.length by omega, List.reverse_append]
    rw [this] at g1
    exact g1)
  rw [List.nil_append, List.length_map, List.length_range, List.take_of_length_le (Nat.le_refl _)] at h1
  have lb : dLen [.str before] = some (.int (before.length : Nat)) := by
    show guard' _ _ = _
    unfold guard'
    rw [if_pos (by exact decide_eq_true (lim (by omega)))]
  have lw : dLen [.str (before ++ bits)] = some (.int ((before ++ bits).length : Nat)) := by
    show guard' _ _ = _
    unfold guard'
    rw [if_pos (by exact decide_eq_true (lim (by rw [List.length_append]; omega)))]
  have ad : dAdd (.str before) (.str bits) = some (.str (before ++ bits)) := by
    show guard' _ _ = _
    unfold guard'
    rw [if_pos (by exact decide_eq_true (lim (by omega)))]
  refine ⟨kvs, ?_, h1⟩
  unfold F_contexts_of
  apply v_run
  unfold B_contexts_of
  refine v_seq (v_expr (v_call (v_cons (v_var rfl) v_nil) (check_bits_ev hB (by omega) S))) (v_seq (v_expr (v_call (v_cons (v_var rfl) v_nil) (check_bits_ev hB2 (by omega) S)))
    (v_seq (v_sIfF (v_orT (v_nF (v_B (v_chain v_ret (v_var rfl) (by show some (D.bl (decide ((0 : Int) ≤ (before.length : Nat)))) = _; rw [decide_eq_true (by omega)]) v_ret (by show some (D.bl (decide (((before.length : Nat) : Int) ≤ 4))) = _; rw [decide_eq_true (by omega)])))) (v_B (v_bin (v_cl (v_cons (v_var rfl) v_nil) lb) (v_var rfl) (z := .bl false) (by rw [o_neI]; simp)))) v_sNil)
    (v_seq (v_ownK v_ret) (v_seq (v_set (v_bin (v_var rfl) (v_var rfl) ad)) (v_seq (v_for (v_range (v_cons (v_var rfl) (v_cons (v_cl (v_cons (v_var rfl) v_nil) lw) v_nil)) ?_) e1) (v_rt (v_outK rfl)))))))
  show guard' (inB62 _ && inB62 _) (rangeL _ 1 _) = _
  unfold guard' inB62
  rw [if_pos (by simp only [Bool.and_eq_true, decide_eq_true_eq, List.length_append]; omega)]
  rw [show (((before ++ bits).length : Nat) - (before.length : Nat) : Int).toNat = bits.length by rw [List.length_append]; omega]
  unfold rangeL
  congr 1
  apply List.map_congr_left
  intro i _
  congr 1
  omega
end LW

set_option Elab.async false
set_option linter.all false
set_option maxRecDepth 100000
set_option exponentiation.threshold 100000
set_option maxHeartbeats 1000000
namespace LW
open PySem PySem.Spec PyProof.Rows L2 DL

/-! ### the weighed tree -/
def hc (c : Cn) (x : List Nat) : Rat := hs (c x).1 (c x).2
def W (c : Cn) : Nat → List Nat → Rat
  | 0, x => hc c x
  | r + 1, x => 1 / 2 * (hc c x + W c r (x ++ [48]) * W c r (x ++ [49]))
def zW : Nat → Nat
  | 0 => 161
  | r + 1 => 2 * zW r + 164
/-- counts of at most 20 -/
def Few (c : Cn) : Prop := ∀ x, (c x).1 + (c x).2 ≤ 20
theorem hc_sz {c : Cn} (h : Few c) (x : List Nat) : Sz 161 (hc c x) := (hs_sz _ _ (by have := h x; omega)).mono (by have := h x; omega)
theorem hc_pos (c : Cn) (x : List Nat) : 0 < hc c x := hs_pos _ _
theorem W_sz {c : Cn} (h : Few c) : ∀ (r : Nat) (x : List Nat), Sz (zW r) (W c r x)
  | 0, x => hc_sz h x
  | r + 1, x => by
    have := szh.mul ((hc_sz h x).add ((W_sz h r (x ++ [48])).mul (W_sz h r (x ++ [49]))))
    exact this.mono (by show _ ≤ 2 * zW r + 164; omega)
theorem W_pos (c : Cn) : ∀ (r : Nat) (x : List Nat), 0 < W c r x
  | 0, x => hc_pos c x
  | r + 1, x => by
    refine Rat.mul_pos (by decide +kernel) ?_
    have h1 := hc_pos c x
    have h2 := Rat.mul_pos (W_pos c r (x ++ [48])) (W_pos c r (x ++ [49]))
    grind
theorem len_st {l : List Nat} (h : l.length ≤ 1000) : dLen [.str l] = some (.int (l.length : Nat)) := by
  show guard' _ _ = _
  unfold guard'
  rw [if_pos (by exact decide_eq_true (lim h))]
theorem add_st {a b : List Nat} (h : a.length + b.length ≤ 1000) : dAdd (.str a) (.str b) = some (.str (a ++ b)) := by
  show guard' _ _ = _
  unfold guard'
  rw [if_pos (by exact decide_eq_true (lim h))]
theorem zW_le {r : Nat} (h : r ≤ 2) : zW r ≤ 1136 := by
  have : r = 0 ∨ r = 1 ∨ r = 2 := by omega
  rcases this with rfl | rfl | rfl <;> decide
theorem weighed_ev {kvs : List (DK × D)} {c : Cn} (hT : Tl kvs c) (hF : Few c) : ∀ (d r : Nat) (x : List Nat) (S : List O), r < d → x.length + r ≤ 2 → F_weighed d [.dct kvs, .str x, .int ((x.length + r : Nat) : Int)] S = some (pr (W c r x), S)
  | 0, r, x, S, h, _ => by omega
  | d + 1, r, x, S, h, hx => by
    have hg := hT x
    have hh := half_ev (n := (c x).1) (m := (c x).2) (by have := hF x; omega) S
    have hd : eDGet2 (eVar 0) (eVar 1) (eTup (eCons (ret (.int 0)) (eCons (ret (.int 0)) eNil))) ([.val (.dct kvs), .val (.str x), .val (.int ((x.length + r : Nat) : Int)), .un, .un, .un, .un], S) = some (pD (c x), ([.val (.dct kvs), .val (.str x), .val (.int ((x.length + r : Nat) : Int)), .un, .un, .un, .un], S)) := by
      refine (v_dget2 (kvs0 := kvs) (kvs := kvs) (kk := .inr x) (v_var rfl) rfl (v_var rfl) (v_tup (v_cons v_ret (v_cons v_ret v_nil)) (by show 2 ≤ LIM; decide)) rfl rfl).trans ?_
      rw [hg]
    show runF 7 (B_weighed (F_weighed d)) _ S = _
    apply v_runE
    unfold B_weighed
    refine v_seqE (v_asg2 hd) (v_seqE (v_set (v_call (v_cons (v_var rfl) (v_cons (v_var rfl) v_nil)) hh)) ?_)
    cases r with
    | zero =>
      refine ⟨_, v_seqR (v_sIfT (v_B (v_bin (v_cl (v_cons (v_var rfl) v_nil) (len_st (by omega))) (v_var rfl) (z := .bl true) ?_)) (v_rt (v_var rfl)))⟩
      rw [o_eqI]; simp
    | succ r =>
      have i1 := weighed_ev hT hF d r (x ++ [48]) S (by omega) (by rw [List.length_append, List.length_singleton]; omega)
      have i2 := weighed_ev hT hF d r (x ++ [49]) S (by omega) (by rw [List.length_append, List.length_singleton]; omega)
      rw [List.length_append, List.length_singleton, show x.length + 1 + r = x.length + (r + 1) by omega] at i1 i2
      have z1 := W_sz hF r (x ++ [48])
      have z2 := W_sz hF r (x ++ [49])
      have hz := zW_le (r := r) (by omega)
      have t1 := times_ev z1 z2 (by omega) S
      have t2 := plus_ev (hc_sz hF x) (z1.mul z2) (by omega) S
      have t3 := times_ev szh ((hc_sz hF x).add (z1.mul z2)) (by omega) S
      rw [prh] at t3
      refine ⟨_, v_seq (v_sIfF (v_B (v_bin (v_cl (v_cons (v_var rfl) v_nil) (len_st (by omega))) (v_var rfl) (z := .bl false) ?_)) v_sNil) (v_seq (v_set (v_call (v_cons (v_call (v_cons (v_var rfl) (v_cons (v_bin (v_var rfl) v_ret (add_st (by simp; omega))) (v_cons (v_var rfl) v_nil))) i1) (v_cons (v_call (v_cons (v_var rfl) (v_cons (v_bin (v_var rfl) v_ret (add_st (by simp; omega))) (v_cons (v_var rfl) v_nil))) i2) v_nil)) t1))
        (v_rt (v_call (v_cons (v_tup (v_cons v_ret (v_cons v_ret v_nil)) (by show 2 ≤ LIM; decide)) (v_cons (v_call (v_cons (v_var rfl) (v_cons (v_var rfl) v_nil)) t2) v_nil)) t3)))⟩
      rw [o_eqI]
      congr 2
      simp
      omega
theorem cfold_few (depth : Nat) : ∀ (bs past : List Nat) (c : Cn) (n : Nat), (∀ x, (c x).1 + (c x).2 ≤ n) → ∀ x, (cfold depth past bs c x).1 + (cfold depth past bs c x).2 ≤ n + bs.length
  | [], past, c, n, h, x => h x
  | b :: bs, past, c, n, h, x => by
    have := cfold_few depth bs (b :: past) (cadd depth past b c) (n + 1) (fun y => by
      unfold cadd
      have hy := h y
      split
      · unfold inc
        split
        · show (c y).1 + 1 + (c y).2 ≤ _; omega
        · show (c y).1 + ((c y).2 + 1) ≤ _; omega
      · omega) x
    rw [List.length_cons]
    show (cfold depth (b :: past) bs (cadd depth past b c) x).1 + (cfold depth (b :: past) bs (cadd depth past b c) x).2 ≤ _
    omega
theorem cof_few {depth : Nat} {before bits : List Nat} (h : bits.length ≤ 20) : Few (cof depth before bits) := fun x => by
  have := cfold_few depth bits before.reverse (fun _ => (0, 0)) 0 (fun _ => Nat.le_refl _) x
  unfold cof
  omega
theorem tree_ev {bits before : List Nat} (hB : IsB bits) (hB2 : IsB before) (hl : bits.length ≤ 20) (hd : before.length ≤ 2) (S : List O) : F_tree_share [.str bits, .int (before.length : Nat), .str before] S = some (pr (W (cof before.length before bits) before.length []), S) := by
  obtain ⟨kvs, e, hT⟩ := contexts_ev hB hB2 hl (by omega) S
  have hw := weighed_ev hT (cof_few hl) 3 before.length [] S (by omega) (by simpa using hd)
  rw [show ([] : List Nat).length + before.length = before.length by simp] at hw
  unfold F_tree_share
  apply v_run
  unfold B_tree_share
  exact v_seq (v_set (v_call (v_cons (v_var rfl) (v_cons (v_var rfl) (v_cons (v_var rfl) v_nil))) e)) (v_rt (v_call (v_cons (v_var rfl) (v_cons v_ret (v_cons (v_var rfl) v_nil))) hw))

/-! ### its laws -/
theorem W_congr {c c' : Cn} : ∀ (r : Nat) (x : List Nat), (∀ y, x <+: y → c y = c' y) → W c r x = W c' r x
  | 0, x, h => by show hs (c x).1 (c x).2 = hs (c' x).1 (c' x).2; rw [h x (List.prefix_refl x)]
  | r + 1, x, h => by
    show 1 / 2 * (hs (c x).1 (c x).2 + W c r (x ++ [48]) * W c r (x ++ [49])) = 1 / 2 * (hs (c' x).1 (c' x).2 + W c' r (x ++ [48]) * W c' r (x ++ [49]))
    rw [h x (List.prefix_refl x), W_congr r (x ++ [48]) fun y hy => h y ((List.prefix_append x [48]).trans hy), W_congr r (x ++ [49]) fun y hy => h y ((List.prefix_append x [49]).trans hy)]
theorem hc_inc (p : Nat × Nat) : hs (inc 48 p).1 (inc 48 p).2 + hs (inc 49 p).1 (inc 49 p).2 = hs p.1 p.2 := hs_sum p.1 p.2
/-- one sign more, a nought or a one -/
theorem W_both {depth : Nat} {past : List Nat} (c : Cn) (hp : IsB past) (hd : depth ≤ past.length) : ∀ (r : Nat) (x : List Nat), x.length + r ≤ depth → x <+: past → W (cadd depth past 48 c) r x + W (cadd depth past 49 c) r x = W c r x
  | 0, x, h, hx => by
    show hs (cadd depth past 48 c x).1 (cadd depth past 48 c x).2 + hs (cadd depth past 49 c x).1 (cadd depth past 49 c x).2 = hs (c x).1 (c x).2
    unfold cadd
    rw [if_pos ⟨by omega, hx⟩, if_pos ⟨by omega, hx⟩]
    exact hc_inc (c x)
  | r + 1, x, h, hx => by
    have hl : x.length < past.length := by omega
    obtain ⟨t, rfl⟩ := hx
    cases t with
    | nil => rw [List.append_nil] at hl; omega
    | cons e t =>
      have he : e = 48 ∨ e = 49 := hp e (by simp)
      have hne : ∀ (f b : Nat), f ≠ e → W (cadd depth (x ++ e :: t) b c) r (x ++ [f]) = W c r (x ++ [f]) := by
        intro f b hf
        apply W_congr
        intro y hy
        unfold cadd
        rw [if_neg]
        rintro ⟨_, h2⟩
        have h3 : x ++ [f] <+: x ++ e :: t := hy.trans h2
        rw [List.prefix_append_right_inj] at h3
        obtain ⟨z, hz⟩ := h3
        injection hz with h4 _
        exact hf h4
      have hin : x ++ [e] <+: x ++ e :: t := by rw [List.prefix_append_right_inj]; exact ⟨t, rfl⟩
      have ih := W_both c hp hd r (x ++ [e]) (by rw [List.length_append, List.length_singleton]; omega) hin
      have h0 : hc (cadd depth (x ++ e :: t) 48 c) x + hc (cadd depth (x ++ e :: t) 49 c) x = hc c x := by
        unfold hc cadd
        rw [if_pos ⟨by omega, List.prefix_append _ _⟩, if_pos ⟨by omega, List.prefix_append _ _⟩]
        exact hc_inc (c x)
      show 1 / 2 * (hc (cadd depth (x ++ e :: t) 48 c) x + W (cadd depth (x ++ e :: t) 48 c) r (x ++ [48]) * W (cadd depth (x ++ e :: t) 48 c) r (x ++ [49])) + 1 / 2 * (hc (cadd depth (x ++ e :: t) 49 c) x + W (cadd depth (x ++ e :: t) 49 c) r (x ++ [48]) * W (cadd depth (x ++ e :: t) 49 c) r (x ++ [49])) = 1 / 2 * (hc c x + W c r (x ++ [48]) * W c r (x ++ [49]))
      rcases he with rfl | rfl
      · rw [hne 49 48 (by decide), hne 49 49 (by decide), ← h0, ← ih]; grind
      · rw [hne 48 48 (by decide), hne 48 49 (by decide), ← h0, ← ih]; grind
/-- exchanged bits -/
def swp (p : Nat × Nat) : Nat × Nat := (p.2, p.1)
theorem fb_inj {a b : Nat} (ha : a = 48 ∨ a = 49) (hb : b = 48 ∨ b = 49) (h : fb a = fb b) : a = b := by
  rcases ha with rfl | rfl <;> rcases hb with rfl | rfl <;> first | rfl | (exact absurd h (by decide))
theorem flip_pre : ∀ {x y : List Nat}, IsB x → IsB y → (flip x <+: flip y ↔ x <+: y)
  | [], y, _, _ => by simp [flip]
  | a :: x, [], _, _ => by simp [flip]
  | a :: x, b :: y, hx, hy => by
    have ih := flip_pre hx.cons.2 hy.cons.2
    show fb a :: flip x <+: fb b :: flip y ↔ _
    rw [List.cons_prefix_cons, List.cons_prefix_cons, ih]
    constructor
    · rintro ⟨h1, h2⟩; exact ⟨fb_inj hx.cons.1 hy.cons.1 h1, h2⟩
    · rintro ⟨rfl, h2⟩; exact ⟨rfl, h2⟩
theorem cfold_flip (depth : Nat) : ∀ (bs past : List Nat) (c c' : Cn), IsB bs → IsB past → (∀ x, IsB x → c' (flip x) = swp (c x)) → ∀ x, IsB x → cfold depth (flip past) (flip bs) c' (flip x) = swp (cfold depth past bs c x)
  | [], past, c, c', _, _, h, x, hx => h x hx
  | b :: bs, past, c, c', hB, hP, h, x, hx => by
    show cfold depth (fb b :: flip past) (flip bs) (cadd depth (flip past) (fb b) c') (flip x) = swp (cfold depth (b :: past) bs (cadd depth past b c) x)
    refine cfold_flip depth bs (b :: past) _ _ hB.cons.2 (fun y hy => (List.mem_cons.mp hy).elim (fun e => e ▸ hB.cons.1) (hP y)) (fun y hy => ?_) x hx
    unfold cadd
    have hl : (flip y).length = y.length := by unfold flip; rw [List.length_map]
    rw [hl]
    by_cases e : y.length ≤ depth ∧ y <+: past
    · rw [if_pos e, if_pos ⟨e.1, (flip_pre hy hP).mpr e.2⟩, h y hy]
      rcases hB.cons.1 with rfl | rfl <;> rfl
    · rw [if_neg e, if_neg fun h => e ⟨h.1, (flip_pre hy hP).mp h.2⟩, h y hy]
theorem flip_rev (l : List Nat) : flip l.reverse = (flip l).reverse := by unfold flip; rw [List.map_reverse]
theorem cof_flip (depth : Nat) {before bits x : List Nat} (hB : IsB bits) (hB2 : IsB before) (hx : IsB x) : cof depth (flip before) (flip bits) (flip x) = swp (cof depth before bits x) := by
  unfold cof
  rw [← flip_rev]
  exact cfold_flip depth bits before.reverse _ _ hB (fun c hc => hB2 c (by simpa using hc)) (fun _ _ => rfl) x hx
theorem W_flip {c c' : Cn} (h : ∀ x, IsB x → c' (flip x) = swp (c x)) : ∀ (r : Nat) (x : List Nat), IsB x → W c' r (flip x) = W c r x
  | 0, x, hx => by
    show hs (c' (flip x)).1 (c' (flip x)).2 = hs (c x).1 (c x).2
    rw [h x hx]; exact hs_comm _ _
  | r + 1, x, hx => by
    have e0 : IsB (x ++ [48]) := hx.app fun c hc => .inl (by simpa using hc)
    have e1 : IsB (x ++ [49]) := hx.app fun c hc => .inr (by simpa using hc)
    have i0 := W_flip h r (x ++ [48]) e0
    have i1 := W_flip h r (x ++ [49]) e1
    rw [show flip (x ++ [48]) = flip x ++ [49] by unfold flip; rw [List.map_append]; rfl] at i0
    rw [show flip (x ++ [49]) = flip x ++ [48] by unfold flip; rw [List.map_append]; rfl] at i1
    show 1 / 2 * (hs (c' (flip x)).1 (c' (flip x)).2 + W c' r (flip x ++ [48]) * W c' r (flip x ++ [49])) = 1 / 2 * (hs (c x).1 (c x).2 + W c r (x ++ [48]) * W c r (x ++ [49]))
    rw [i0, i1, h x hx, show hs (swp (c x)).1 (swp (c x)).2 = hs (c x).1 (c x).2 from hs_comm _ _, Rat.mul_comm (W c r (x ++ [49]))]
end LW

set_option Elab.async false
set_option linter.all false
set_option maxRecDepth 100000
set_option exponentiation.threshold 100000
set_option maxHeartbeats 1000000
namespace LW
open PySem PySem.Spec PyProof.Rows L2 DL

/-! ### the best tree -/
abbrev Tree := List (List Nat)
def tD (t : Tree) : D := .tup (t.map fun l => .str l)
def joinT (a b : Tree) : Tree := a.map (48 :: ·) ++ b.map (49 :: ·)
def G (c : Cn) : Nat → List Nat → Rat × Tree
  | 0, x => (hc c x, [[]])
  | r + 1, x => if 1 / 2 * hc c x < 1 / 2 * (G c r (x ++ [48])).1 * (G c r (x ++ [49])).1 then (1 / 2 * (G c r (x ++ [48])).1 * (G c r (x ++ [49])).1, joinT (G c r (x ++ [48])).2 (G c r (x ++ [49])).2) else (1 / 2 * hc c x, [[]])
theorem G_sz {c : Cn} (h : Few c) : ∀ (r : Nat) (x : List Nat), Sz (zW r) (G c r x).1
  | 0, x => hc_sz h x
  | r + 1, x => by
    unfold G
    split
    · exact ((szh.mul (G_sz h r (x ++ [48]))).mul (G_sz h r (x ++ [49]))).mono (by show _ ≤ 2 * zW r + 164; omega)
    · exact (szh.mul (hc_sz h x)).mono (by show _ ≤ 2 * zW r + 164; omega)
theorem G_pos (c : Cn) : ∀ (r : Nat) (x : List Nat), 0 < (G c r x).1
  | 0, x => hc_pos c x
  | r + 1, x => by
    unfold G
    split
    · exact Rat.mul_pos (Rat.mul_pos (by decide +kernel) (G_pos c r _)) (G_pos c r _)
    · exact Rat.mul_pos (by decide +kernel) (hc_pos c x)
/-- trees of few short leaves -/
structure Lf (r : Nat) (t : Tree) : Prop where
  n : t.length ≤ 2 ^ r
  l : ∀ x ∈ t, x.length ≤ r
  b : ∀ x ∈ t, IsB x
theorem Lf.one (r : Nat) : Lf r [[]] := by
  have e : ∀ x ∈ ([[]] : Tree), x = [] := by simp
  refine ⟨by show 1 ≤ 2 ^ r; exact Nat.one_le_two_pow, fun x hx => ?_, fun x hx => ?_⟩
  · rw [e x hx]; exact Nat.zero_le _
  · rw [e x hx]; exact fun c hc => by simp at hc
theorem Lf.join {r : Nat} {a b : Tree} (ha : Lf r a) (hb : Lf r b) : Lf (r + 1) (joinT a b) := by
  unfold joinT
  refine ⟨?_, fun x hx => ?_, fun x hx => ?_⟩
  · rw [List.length_append, List.length_map, List.length_map, Nat.pow_succ]
    have := ha.n
    have := hb.n
    omega
  · rcases List.mem_append.mp hx with h | h <;> obtain ⟨y, hy, rfl⟩ := List.mem_map.mp h
    · have := ha.l y hy; show y.length + 1 ≤ r + 1; omega
    · have := hb.l y hy; show y.length + 1 ≤ r + 1; omega
  · rcases List.mem_append.mp hx with h | h <;> obtain ⟨y, hy, rfl⟩ := List.mem_map.mp h
    · exact fun c hc => (List.mem_cons.mp hc).elim (fun e => .inl e) (ha.b y hy c)
    · exact fun c hc => (List.mem_cons.mp hc).elim (fun e => .inr e) (hb.b y hy c)
theorem G_lf (c : Cn) : ∀ (r : Nat) (x : List Nat), Lf r (G c r x).2
  | 0, x => Lf.one 0
  | r + 1, x => by
    unfold G
    split
    · exact (G_lf c r _).join (G_lf c r _)
    · exact Lf.one _
/-- tuple(['0' + leaf for leaf in one] + ['1' + leaf for leaf in other]) -/
theorem join_ev {i r : Nat} {ρ : List Sl} {S : List O} {f g : Ev D} {a b : Tree} (ha : Lf r a) (hb : Lf r b) (hr : r ≤ 2) (hf : f (ρ, S) = some (tD a, (ρ, S))) (hg : g (ρ, S) = some (tD b, (ρ, S))) (h1 : i < ρ.length) (ho : ([i].all fun v => !(ρ[v]?.getD Sl.un).isOwn) = true) :
    eCl dTuple (eCons (eBin dAdd (eFz (eLc [i] (eItems f) (tNm i) pYes (eBin dAdd (ret (.str [48])) (eVar i)))) (eFz (eLc [i] (eItems g) (tNm i) pYes (eBin dAdd (ret (.str [49])) (eVar i))))) eNil) (ρ, S) = some (tD (joinT a b), (ρ, S)) := by
  have h4 : 2 ^ r ≤ 4 := by
    have : r = 0 ∨ r = 1 ∨ r = 2 := by omega
    rcases this with rfl | rfl | rfl <;> decide
  have na := ha.n
  have nb := hb.n
  have one : ∀ (q : Nat) (t : Tree), Lf r t → ∀ x ∈ t, eBin dAdd (ret (.str [q])) (eVar i) ((wipeS ρ [i]).set i (.val (.str x)), S) = some (.str (q :: x), ((wipeS ρ [i]).set i (.val (.str x)), S)) := by
    intro q t ht x hx
    have wi : ((wipeS ρ [i]).set i (.val (D.str x)))[i]? = some (.val (D.str x)) := List.getElem?_set_self (by rw [wipe_len]; exact h1)
    exact v_bin v_ret (v_var wi) (add_st (a := [q]) (b := x) (by have := ht.l x hx; show 1 + _ ≤ _; omega))
  have e1 := v_mapT (vs := [i]) (i := i) (ρ := ρ) (S := S) (g := eBin dAdd (ret (.str [48])) (eVar i)) a (fun l => D.str l) (fun l => D.str (48 :: l)) (v_items hf rfl) (lim (by omega)) (one 48 a ha) (by simp) ho
  have e2 := v_mapT (vs := [i]) (i := i) (ρ := ρ) (S := S) (g := eBin dAdd (ret (.str [49])) (eVar i)) b (fun l => D.str l) (fun l => D.str (49 :: l)) (v_items hg rfl) (lim (by omega)) (one 49 b hb) (by simp) ho
  refine v_cl (v_cons (v_bin (v_fz e1) (v_fz e2) (z := .lst ((joinT a b).map fun l => D.str l)) ?_) v_nil) rfl
  show guard' _ (D.lst (a.map (fun l => D.str (48 :: l)) ++ b.map (fun l => D.str (49 :: l)))) = _
  unfold guard' joinT
  rw [if_pos (by rw [List.length_map, List.length_map]; exact decide_eq_true (lim (by omega))), List.map_append, List.map_map, List.map_map]
  rfl
theorem gr_ev {kvs : List (DK × D)} {c : Cn} (hT : Tl kvs c) (hF : Few c) : ∀ (d r : Nat) (x : List Nat) (S : List O), r < d → x.length + r ≤ 2 → F_greatest d [.dct kvs, .str x, .int ((x.length + r : Nat) : Int)] S = some (.tup [pr (G c r x).1, tD (G c r x).2], S)
  | 0, r, x, S, h, _ => by omega
  | d + 1, r, x, S, h, hx => by
    have hg := hT x
    have hh := half_ev (n := (c x).1) (m := (c x).2) (by have := hF x; omega) S
    have l2 : 2 ≤ LIM := by decide
    have l1 : 1 ≤ LIM := by decide
    have hd : eDGet2 (eVar 0) (eVar 1) (eTup (eCons (ret (.int 0)) (eCons (ret (.int 0)) eNil))) ([.val (.dct kvs), .val (.str x), .val (.int ((x.length + r : Nat) : Int)), .un, .un, .un, .un, .un, .un, .un, .un], S) = some (pD (c x), ([.val (.dct kvs), .val (.str x), .val (.int ((x.length + r : Nat) : Int)), .un, .un, .un, .un, .un, .un, .un, .un], S)) := by
      refine (v_dget2 (kvs0 := kvs) (kvs := kvs) (kk := .inr x) (v_var rfl) rfl (v_var rfl) (v_tup (v_cons v_ret (v_cons v_ret v_nil)) l2) rfl rfl).trans ?_
      rw [hg]
    show runF 11 (B_greatest (F_greatest d)) _ S = _
    apply v_runE
    unfold B_greatest
    refine v_seqE (v_asg2 hd) (v_seqE (v_set (v_call (v_cons (v_var rfl) (v_cons (v_var rfl) v_nil)) hh)) ?_)
    cases r with
    | zero =>
      refine ⟨_, v_seqR (v_sIfT (v_B (v_bin (v_cl (v_cons (v_var rfl) v_nil) (len_st (by omega))) (v_var rfl) (z := .bl true) ?_)) (v_rt (v_tup (v_cons (v_var rfl) (v_cons (v_tup (v_cons v_ret v_nil) l1) v_nil)) l2)))⟩
      rw [o_eqI]; simp
    | succ r =>
      have i1 := gr_ev hT hF d r (x ++ [48]) S (by omega) (by rw [List.length_append, List.length_singleton]; omega)
      have i2 := gr_ev hT hF d r (x ++ [49]) S (by omega) (by rw [List.length_append, List.length_singleton]; omega)
      rw [List.length_append, List.length_singleton, show x.length + 1 + r = x.length + (r + 1) by omega] at i1 i2
      have z1 := G_sz hF r (x ++ [48])
      have z2 := G_sz hF r (x ++ [49])
      have f1 := G_lf c r (x ++ [48])
      have f2 := G_lf c r (x ++ [49])
      have hz := zW_le (r := r) (by omega)
      generalize g1 : G c r (x ++ [48]) = A at *
      generalize g2 : G c r (x ++ [49]) = B at *
      have t1 := times_ev szh z1 (by omega) S
      have t2 := times_ev (szh.mul z1) z2 (by omega) S
      have t3 := times_ev szh (hc_sz hF x) (by omega) S
      rw [prh] at t1 t3
      have t4 := less_ev (szh.mul (hc_sz hF x)) ((szh.mul z1).mul z2) (by omega) S
      have hGu : G c (r + 1) x = if 1 / 2 * hc c x < 1 / 2 * A.1 * B.1 then (1 / 2 * A.1 * B.1, joinT A.2 B.2) else (1 / 2 * hc c x, [[]]) := by
        rw [← g1, ← g2]; rfl
      rw [hGu]
      refine v_seqE (v_sIfF (v_B (v_bin (v_cl (v_cons (v_var rfl) v_nil) (len_st (by omega))) (v_var rfl) (z := .bl false) ?_)) v_sNil) (v_seqE (v_par (v_cons (v_call (v_cons (v_var rfl) (v_cons (v_bin (v_var rfl) v_ret (add_st (by simp; omega))) (v_cons (v_var rfl) v_nil))) i1) (v_cons (v_call (v_cons (v_var rfl) (v_cons (v_bin (v_var rfl) v_ret (add_st (by simp; omega))) (v_cons (v_var rfl) v_nil))) i2) v_nil)))
        (v_seqE (v_set (v_call (v_cons (v_call (v_cons (v_tup (v_cons v_ret (v_cons v_ret v_nil)) l2) (v_cons (v_bin (v_var rfl) v_ret rfl) v_nil)) t1) (v_cons (v_bin (v_var rfl) v_ret rfl) v_nil)) t2)) (v_seqE (v_set (v_call (v_cons (v_tup (v_cons v_ret (v_cons v_ret v_nil)) l2) (v_cons (v_var rfl) v_nil)) t3)) ?_)))
      · rw [o_eqI]
        congr 2
        simp
        omega
      · by_cases hlt : 1 / 2 * hc c x < 1 / 2 * A.1 * B.1
        · rw [decide_eq_true hlt] at t4
          rw [if_pos hlt]
          exact ⟨_, v_seqR (v_sIfT (v_B (v_call (v_cons (v_var rfl) (v_cons (v_var rfl) v_nil)) t4)) (v_rt (v_tup (v_cons (v_var rfl) (v_cons (join_ev f1 f2 (by omega) (v_bin (v_var rfl) v_ret rfl) (v_bin (v_var rfl) v_ret rfl) (by show 10 < 11; decide) rfl) v_nil)) l2)))⟩
        · rw [decide_eq_false hlt] at t4
          rw [if_neg hlt]
          exact ⟨_, v_seq (v_sIfF (v_B (v_call (v_cons (v_var rfl) (v_cons (v_var rfl) v_nil)) t4)) v_sNil) (v_rt (v_tup (v_cons (v_var rfl) (v_cons (v_tup (v_cons v_ret v_nil) l1) v_nil)) l2))⟩
end LW

set_option Elab.async false
set_option linter.all false
set_option maxRecDepth 100000
set_option exponentiation.threshold 100000
set_option maxHeartbeats 1000000
namespace LW
open PySem PySem.Spec PyProof.Rows L2 DL

theorem best_tree_ev {bits before : List Nat} (hB : IsB bits) (hB2 : IsB before) (hl : bits.length ≤ 20) (hd : before.length ≤ 2) (S : List O) :
    F_best_tree [.str bits, .int (before.length : Nat), .str before] S = some (.tup [pr (G (cof before.length before bits) before.length []).1, tD (G (cof before.length before bits) before.length []).2], S) := by
  obtain ⟨kvs, e, hT⟩ := contexts_ev hB hB2 hl (by omega) S
  have hw := gr_ev hT (cof_few hl) 3 before.length [] S (by omega) (by simpa using hd)
  rw [show ([] : List Nat).length + before.length = before.length by simp] at hw
  unfold F_best_tree
  apply v_run
  unfold B_best_tree
  exact v_seq (v_set (v_call (v_cons (v_var rfl) (v_cons (v_var rfl) (v_cons (v_var rfl) v_nil))) e)) (v_rt (v_call (v_cons (v_var rfl) (v_cons v_ret (v_cons (v_var rfl) v_nil))) hw))
theorem next_ev {bits before : List Nat} (hB : IsB bits) (hB2 : IsB before) (hl : bits.length ≤ 19) (hd : before.length ≤ 2) (S : List O) :
    F_next_share [.str bits, .int (before.length : Nat), .str before] S = some (pr (W (cof before.length before (bits ++ [49])) before.length [] / W (cof before.length before bits) before.length []), S) := by
  have hB1 : IsB (bits ++ [49]) := hB.app fun c hc => .inr (by simpa using hc)
  have e1 := tree_ev hB1 hB2 (by rw [List.length_append, List.length_singleton]; omega) hd S
  have e2 := tree_ev hB hB2 (by omega) hd S
  have z1 := W_sz (cof_few (depth := before.length) (before := before) (bits := bits ++ [49]) (by rw [List.length_append, List.length_singleton]; omega)) before.length []
  have z2 := W_sz (cof_few (depth := before.length) (before := before) (bits := bits) (by omega)) before.length []
  have hz := zW_le (r := before.length) hd
  have e3 := over_ev z1 z2 (W_pos _ _ _) (by omega) S
  unfold F_next_share
  apply v_run
  unfold B_next_share
  exact v_rt (v_call (v_cons (v_call (v_cons (v_bin (v_var rfl) v_ret (add_st (a := bits) (b := [49]) (by simp; omega))) (v_cons (v_var rfl) (v_cons (v_var rfl) v_nil))) e1) (v_cons (v_call (v_cons (v_var rfl) (v_cons (v_var rfl) (v_cons (v_var rfl) v_nil))) e2) v_nil)) e3)
/-- what a tree gives: the product over its leaves -/
def pS (c : Cn) : Tree → Rat
  | [] => 1
  | x :: t => hc c x * pS c t
theorem by_loop {kvs : List (DK × D)} {c : Cn} (hT : Tl kvs c) (hF : Few c) (X Y Z U : D) (S : List O) : ∀ (t : Tree) (q : Rat) (k : Nat) (l6 l7 l8 : Sl), Sz k q → k + 161 * t.length ≤ 8700 →
    ∃ (l6' l7' l8' : Sl), forL (tNm 6) (sSeq (sAsg (tTp (tCs (tNm 7) (tCs (tNm 8) tNl))) (eDGet2 (eVar 4) (eVar 6) (eTup (eCons (ret (.int 0)) (eCons (ret (.int 0)) eNil))))) (sSet 5 (eCall F_times (eCons (eVar 5) (eCons (eCall F_half_share (eCons (eVar 7) (eCons (eVar 8) eNil))) eNil))))) (t.map fun l => .str l) ([.val X, .val Y, .val Z, .val U, .val (.dct kvs), .val (pr q), l6, l7, l8], S)
      = some (.nx ([.val X, .val Y, .val Z, .val U, .val (.dct kvs), .val (pr (q * pS c t)), l6', l7', l8'], S))
  | [], q, k, l6, l7, l8, _, _ => ⟨l6, l7, l8, by rw [show q * pS c [] = q from Rat.mul_one q]; rfl⟩
  | x :: t, q, k, l6, l7, l8, hq, hk => by
    rw [List.length_cons] at hk
    have hz := hc_sz hF x
    obtain ⟨l6', l7', l8', ih⟩ := by_loop hT hF X Y Z U S t (q * hc c x) (k + 161) (.val (.str x)) (.val (.int ((c x).1 : Nat))) (.val (.int ((c x).2 : Nat))) (hq.mul hz) (by omega)
    refine ⟨l6', l7', l8', ?_⟩
    rw [show q * pS c (x :: t) = q * hc c x * pS c t from (Rat.mul_assoc q _ _).symm]
    have hh := half_ev (n := (c x).1) (m := (c x).2) (by have := hF x; omega) S
    have hg := hT x
    have hd : eDGet2 (eVar 4) (eVar 6) (eTup (eCons (ret (.int 0)) (eCons (ret (.int 0)) eNil))) ([.val X, .val Y, .val Z, .val U, .val (.dct kvs), .val (pr q), .val (.str x), l7, l8], S) = some (pD (c x), ([.val X, .val Y, .val Z, .val U, .val (.dct kvs), .val (pr q), .val (.str x), l7, l8], S)) := by
      refine (v_dget2 (kvs0 := kvs) (kvs := kvs) (kk := .inr x) (v_var rfl) rfl (v_var rfl) (v_tup (v_cons v_ret (v_cons v_ret v_nil)) (by show 2 ≤ LIM; decide)) rfl rfl).trans ?_
      rw [hg]
    exact v_for_cons rfl (v_seq (v_asg2 hd) (Eq.trans (v_set (v_call (v_cons (v_var rfl) (v_cons (v_call (v_cons (v_var rfl) (v_cons (v_var rfl) v_nil)) hh) v_nil)) (times_ev hq hz (by omega) S))) rfl)) ih
theorem by_ev {bits before : List Nat} {t : Tree} (ht : t.length ≤ 8) (hB : IsB bits) (hB2 : IsB before) (hl : bits.length ≤ 20) (hd : before.length ≤ 2) (S : List O) :
    F_share_by [.str bits, tD t, .int (before.length : Nat), .str before] S = some (pr (pS (cof before.length before bits) t), S) := by
  obtain ⟨kvs, e, hT⟩ := contexts_ev hB hB2 hl (by omega) S
  obtain ⟨l6, l7, l8, el⟩ := by_loop hT (cof_few hl) (.str bits) (tD t) (.int (before.length : Nat)) (.str before) S t 1 1 .un .un .un sz1 (by omega)
  rw [Rat.one_mul] at el
  unfold F_share_by
  apply v_run
  unfold B_share_by
  exact v_seq (v_set (v_call (v_cons (v_var rfl) (v_cons (v_var rfl) (v_cons (v_var rfl) v_nil))) e)) (v_seq (v_set v_ret) (v_seq (v_for (v_items (v_var rfl) rfl) el) (v_rt (v_var rfl))))
end LW

set_option Elab.async false
set_option linter.all false
set_option maxRecDepth 100000
set_option exponentiation.threshold 100000
set_option maxHeartbeats 1000000
namespace LW
open PySem PySem.Spec PyProof.Rows L2 DL

/-- all trees of a depth -/
def Tr : Nat → List Tree
  | 0 => [[[]]]
  | r + 1 => [[]] :: (Tr r).flatMap fun a => (Tr r).map fun b => joinT a b
theorem trees0 (S : List O) : F_trees_of 3 [.int 0] S = some (.lst ((Tr 0).map tD), S) := by kernel_rfl
theorem trees1 (S : List O) : F_trees_of 3 [.int 1] S = some (.lst ((Tr 1).map tD), S) := by kernel_rfl
theorem trees2 (S : List O) : F_trees_of 3 [.int 2] S = some (.lst ((Tr 2).map tD), S) := by kernel_rfl
def nSh (depth : Nat) (t : Tree) : Nat := (t.filter fun l => decide (l.length < depth)).length
theorem weight_ev {r depth : Nat} {t : Tree} (ht : Lf r t) (hr : r ≤ 2) (h0 : t ≠ []) (hd : depth ≤ 2) (S : List O) : F_weight_of [tD t, .int (depth : Nat)] S = some (pr (fc 1 (2 ^ (t.length - 1 + nSh depth t))), S) := by
  have h4 : 2 ^ r ≤ 4 := by
    have : r = 0 ∨ r = 1 ∨ r = 2 := by omega
    rcases this with rfl | rfl | rfl <;> decide
  have hn := ht.n
  have hl : 1 ≤ t.length := by
    cases t with
    | nil => exact (h0 rfl).elim
    | cons a b => rw [List.length_cons]; omega
  have hs : nSh depth t ≤ t.length := List.length_filter_le _ _
  have hp : 2 ^ (t.length - 1 + nSh depth t) ≤ 2 ^ 8 := Nat.pow_le_pow_right (by decide) (by omega)
  have es := share_pos (n := 1) (d := 2 ^ (t.length - 1 + nSh depth t)) (by have := Nat.two_pow_pos (t.length - 1 + nSh depth t); omega) (by decide +kernel) (Nat.lt_of_le_of_lt hp (by decide +kernel)) S
  have el : dLen [tD t] = some (.int (t.length : Nat)) := by show some (D.int ((t.map fun l => D.str l).length : Nat)) = _; rw [List.length_map]
  have ef := v_filt1 (vs := [4]) (i := 4) (ρ := [.val (tD t), .val (.int (depth : Nat)), .val (.int ((t.length - 1 : Nat) : Int)), .un, .un]) (S := S) (s := ([.val (tD t), .val (.int (depth : Nat)), .val (.int ((t.length - 1 : Nat) : Int)), .un, .un], S)) (f := eItems (eVar 0)) (p := eB (eBin dLt (eCl dLen (eCons (eVar 4) eNil)) (eVar 1))) (g := eVar 4) (xs := t.map fun l => D.str l) (fun d => d) (fun d => match d with | .str l => decide (l.length < depth) | _ => false)
    (v_items (v_var rfl) rfl) (by decide) rfl (by rw [List.length_map]; exact lim (by omega)) (fun x hx => by
      obtain ⟨l, hl', rfl⟩ := List.mem_map.mp hx
      have := ht.l l hl'
      refine v_B (v_bin (v_cl (v_cons (v_var rfl) v_nil) (len_st (by omega))) (v_var rfl) ?_)
      show some (D.bl (decide (((l.length : Nat) : Int) < (depth : Nat)))) = some (D.bl (decide (l.length < depth)))
      congr 2
      exact decide_eq_decide.mpr (by omega)) (fun x hx _ => v_var rfl)
  have eln : ((((t.map fun l => D.str l).filter fun d => match d with | .str l => decide (l.length < depth) | _ => false).map fun d => d)).length = nSh depth t := by
    rw [List.length_map, List.filter_map, List.length_map]; rfl
  unfold F_weight_of
  apply v_run
  unfold B_weight_of
  refine v_seq (v_set (v_bin (v_cl (v_cons (v_var rfl) v_nil) el) v_ret (z := .int ((t.length - 1 : Nat) : Int)) (by show some (D.int _) = _; congr 2; omega))) (v_seq (v_set (v_cl (v_cons (v_fz ef) v_nil) (z := .int (nSh depth t : Nat)) (by rw [← eln]; rfl))) (v_rt (v_call (v_cons v_ret (v_cons (v_bin v_ret (v_bin (v_var rfl) (v_var rfl) o_addN) (z := .int ((2 ^ (t.length - 1 + nSh depth t) : Nat) : Int)) ?_) v_nil)) es)))
  rw [o_shl (by omega) (by omega) (by decide +kernel)]
  congr 2
  rw [Int.one_mul, show (((t.length - 1 + nSh depth t : Nat)) : Int).toNat = t.length - 1 + nSh depth t by omega]
  push_cast; rfl
end LW

set_option Elab.async false
set_option linter.all false
set_option maxRecDepth 100000
set_option exponentiation.threshold 100000
set_option maxHeartbeats 1000000
namespace LW
open PySem PySem.Spec PyProof.Rows L2 DL
theorem pw : ∀ (k : Nat) (S : List O), k < 33 → F_power [.int (k : Nat), .int (k : Nat)] S = some (.int ((k ^ k : Nat) : Int), S)
  | 0, S, _ => by kernel_rfl
  | 1, S, _ => by kernel_rfl
  | 2, S, _ => by kernel_rfl
  | 3, S, _ => by kernel_rfl
  | 4, S, _ => by kernel_rfl
  | 5, S, _ => by kernel_rfl
  | 6, S, _ => by kernel_rfl
  | 7, S, _ => by kernel_rfl
  | 8, S, _ => by kernel_rfl
  | 9, S, _ => by kernel_rfl
  | 10, S, _ => by kernel_rfl
  | 11, S, _ => by kernel_rfl
  | 12, S, _ => by kernel_rfl
  | 13, S, _ => by kernel_rfl
  | 14, S, _ => by kernel_rfl
  | 15, S, _ => by kernel_rfl
  | 16, S, _ => by kernel_rfl
  | 17, S, _ => by kernel_rfl
  | 18, S, _ => by kernel_rfl
  | 19, S, _ => by kernel_rfl
  | 20, S, _ => by kernel_rfl
  | 21, S, _ => by kernel_rfl
  | 22, S, _ => by kernel_rfl
  | 23, S, _ => by kernel_rfl
  | 24, S, _ => by kernel_rfl
  | 25, S, _ => by kernel_rfl
  | 26, S, _ => by kernel_rfl
  | 27, S, _ => by kernel_rfl
  | 28, S, _ => by kernel_rfl
  | 29, S, _ => by kernel_rfl
  | 30, S, _ => by kernel_rfl
  | 31, S, _ => by kernel_rfl
  | 32, S, _ => by kernel_rfl
  | k + 33, S, h => by omega
def bs (n m : Nat) : Rat := fc (n ^ n * m ^ m) ((n + m) ^ (n + m))
theorem draws : ∀ n : Fin 9, ∀ m : Fin 9, bs (2 * n.val) (2 * m.val) = bs n.val m.val * bs n.val m.val ∧ ¬ bs n.val m.val < hs n.val m.val ∧ ¬ (bs n.val m.val / hs n.val m.val) < 1 ∧
    (bs n.val m.val / hs n.val m.val).num * (bs n.val m.val / hs n.val m.val).num ≤ 4 * (max 1 (n.val + m.val) : Nat) * (bs n.val m.val / hs n.val m.val).den * (bs n.val m.val / hs n.val m.val).den := by
  decide +kernel
theorem self_pow {n : Nat} (h : n ≤ 32) : n ^ n < 2 ^ 200 := by
  have h1 : n ^ n ≤ 32 ^ n := Nat.pow_le_pow_left h n
  have h2 : 32 ^ n ≤ 32 ^ 32 := Nat.pow_le_pow_right (by decide) h
  exact Nat.lt_of_le_of_lt (Nat.le_trans h1 h2) (by decide +kernel)
theorem self_pos (n : Nat) : n ^ n ≠ 0 := by
  by_cases h : n = 0
  · subst h; decide
  · exact Nat.pos_iff_ne_zero.mp (Nat.pow_pos (by omega))
theorem bs_ev {n m : Nat} (h : n + m ≤ 32) (S : List O) : F_best_share [.int (n : Nat), .int (m : Nat)] S = some (pr (bs n m), S) := by
  have p1 := pw n S (by omega)
  have p2 := pw m S (by omega)
  have p3 := pw (n + m) S (by omega)
  have b1 := self_pow (n := n) (by omega)
  have b2 := self_pow (n := m) (by omega)
  have b3 := self_pow (n := n + m) h
  have hp : n ^ n * m ^ m < 2 ^ 400 := pow_mul_lt (i := 200) (j := 200) b1 b2
  have es := share_pos (n := ((n ^ n * m ^ m : Nat) : Int)) (d := (n + m) ^ (n + m)) (self_pos _) (by rw [Int.natAbs_natCast]; exact Nat.lt_trans hp (Nat.pow_lt_pow_right (by decide) (by decide))) (Nat.lt_trans b3 (Nat.pow_lt_pow_right (by decide) (by decide))) S
  have g1 := lg b1
  have g2 := lg b2
  unfold F_best_share
  apply v_run
  unfold B_best_share
  exact v_seq (v_set (v_bin (v_var rfl) (v_var rfl) o_addN)) (v_rt (v_call (v_cons (v_bin (v_call (v_cons (v_var rfl) (v_cons (v_var rfl) v_nil)) p1) (v_call (v_cons (v_var rfl) (v_cons (v_var rfl) v_nil)) p2) (o_mulN (by omega))) (v_cons (v_call (v_cons (v_var rfl) (v_cons (v_var rfl) v_nil)) p3) v_nil)) es))
end LW

set_option Elab.async false
set_option linter.all false
set_option maxRecDepth 100000
set_option exponentiation.threshold 100000
set_option maxHeartbeats 1000000
namespace LW
open PySem PySem.Spec PyProof.Rows L2 DL

/-! ### sums over all trees -/
def pX (c : Cn) (x : List Nat) : Tree → Rat
  | [] => 1
  | l :: t => hc c (x ++ l) * pX c x t
theorem pX_app (c : Cn) (x : List Nat) : ∀ a b : Tree, pX c x (a ++ b) = pX c x a * pX c x b
  | [], b => (Rat.one_mul _).symm
  | l :: a, b => by
    show hc c (x ++ l) * pX c x (a ++ b) = hc c (x ++ l) * pX c x a * pX c x b
    rw [pX_app c x a b, Rat.mul_assoc]
theorem pX_map (c : Cn) (x : List Nat) (q : Nat) : ∀ a : Tree, pX c x (a.map (q :: ·)) = pX c (x ++ [q]) a
  | [] => rfl
  | l :: a => by
    show hc c (x ++ q :: l) * pX c x (a.map (q :: ·)) = hc c (x ++ [q] ++ l) * pX c (x ++ [q]) a
    rw [pX_map c x q a, List.append_assoc]; rfl
theorem pX_join (c : Cn) (x : List Nat) (a b : Tree) : pX c x (joinT a b) = pX c (x ++ [48]) a * pX c (x ++ [49]) b := by
  unfold joinT
  rw [pX_app, pX_map, pX_map]
theorem pX_nil (c : Cn) : ∀ t : Tree, pX c [] t = pS c t
  | [] => rfl
  | l :: t => by
    show hc c ([] ++ l) * pX c [] t = hc c l * pS c t
    rw [pX_nil c t]; rfl
def wt (r : Nat) (t : Tree) : Rat := fc 1 (2 ^ (t.length - 1 + nSh r t))
theorem nSh_map (r q : Nat) : ∀ a : Tree, nSh (r + 1) (a.map (q :: ·)) = nSh r a
  | [] => rfl
  | l :: a => by
    have ih := nSh_map r q a
    unfold nSh at ih ⊢
    rw [List.map_cons, List.filter_cons, List.filter_cons]
    have e : decide ((q :: l).length < r + 1) = decide (l.length < r) := decide_eq_decide.mpr (by rw [List.length_cons]; omega)
    rw [e]
    split
    · rw [List.length_cons, List.length_cons, ih]
    · exact ih
theorem nSh_join (r : Nat) (a b : Tree) : nSh (r + 1) (joinT a b) = nSh r a + nSh r b := by
  unfold joinT
  have : ∀ x y : Tree, nSh (r + 1) (x ++ y) = nSh (r + 1) x + nSh (r + 1) y := fun x y => by unfold nSh; rw [List.filter_append, List.length_append]
  rw [this, nSh_map, nSh_map]
theorem fc_add (i j : Nat) : fc 1 (2 ^ (i + j)) = fc 1 (2 ^ i) * fc 1 (2 ^ j) := by
  unfold fc
  have h1 := nz (d := 2 ^ i) (by have := Nat.two_pow_pos i; omega)
  have h2 := nz (d := 2 ^ j) (by have := Nat.two_pow_pos j; omega)
  rw [Nat.pow_add, show (((2 ^ i * 2 ^ j : Nat)) : Int) = ((2 ^ i : Nat) : Int) * ((2 ^ j : Nat) : Int) by push_cast; rfl, Rat.intCast_mul]
  generalize ((((2 ^ i : Nat)) : Int) : Rat) = a at *
  generalize ((((2 ^ j : Nat)) : Int) : Rat) = b at *
  rw [show (((1 : Nat) : Int) : Rat) = 1 from rfl]
  grind
theorem wt_join {r : Nat} {a b : Tree} (ha : a ≠ []) (hb : b ≠ []) : wt (r + 1) (joinT a b) = 1 / 2 * wt r a * wt r b := by
  have l1 := List.length_pos_iff.mpr ha
  have l2 := List.length_pos_iff.mpr hb
  have hl : (joinT a b).length = a.length + b.length := by unfold joinT; rw [List.length_append, List.length_map, List.length_map]
  unfold wt
  rw [nSh_join, hl, show a.length + b.length - 1 + (nSh r a + nSh r b) = 1 + ((a.length - 1 + nSh r a) + (b.length - 1 + nSh r b)) by omega, fc_add, fc_add (a.length - 1 + nSh r a)]
  rw [show fc 1 (2 ^ 1) = 1 / 2 by decide +kernel, Rat.mul_assoc]
theorem join_ne {a b : Tree} (ha : a ≠ []) : joinT a b ≠ [] := by
  unfold joinT
  cases a with
  | nil => exact (ha rfl).elim
  | cons x y => simp
theorem Tr_ok : ∀ (r : Nat), ∀ t ∈ Tr r, t ≠ [] ∧ Lf r t
  | 0, t, h => by
    have : t = [[]] := by simpa [Tr] using h
    subst this
    exact ⟨by simp, Lf.one 0⟩
  | r + 1, t, h => by
    rcases List.mem_cons.mp h with rfl | h
    · exact ⟨by simp, Lf.one _⟩
    · obtain ⟨a, ha, h⟩ := List.mem_flatMap.mp h
      obtain ⟨b, hb, rfl⟩ := List.mem_map.mp h
      obtain ⟨a1, a2⟩ := Tr_ok r a ha
      obtain ⟨b1, b2⟩ := Tr_ok r b hb
      exact ⟨join_ne a1, a2.join b2⟩
theorem rs_flat {α β : Type} (f : α → β → Rat) : ∀ (xs : List α) (ys : List β), rsum (xs.flatMap fun a => ys.map fun b => f a b) = rsum (xs.map fun a => rsum (ys.map fun b => f a b))
  | [], ys => rfl
  | x :: xs, ys => by
    rw [List.flatMap_cons, List.map_cons]
    have : ∀ a b : List Rat, rsum (a ++ b) = rsum a + rsum b := fun a b => by
      induction a with
      | nil => show rsum b = 0 + rsum b; grind
      | cons q a ih => show q + rsum (a ++ b) = q + rsum a + rsum b; rw [ih]; grind
    rw [this, rs_flat f xs ys]; rfl
end LW

set_option Elab.async false
set_option linter.all false
set_option maxRecDepth 100000
set_option exponentiation.threshold 100000
set_option maxHeartbeats 1000000
namespace LW
open PySem PySem.Spec PyProof.Rows L2 DL

theorem rs_app : ∀ a b : List Rat, rsum (a ++ b) = rsum a + rsum b
  | [], b => by show rsum b = 0 + rsum b; grind
  | q :: a, b => by show q + rsum (a ++ b) = q + rsum a + rsum b; rw [rs_app a b]; grind
theorem rs_join1 (a : Tree) (F : Tree → Rat) (g : Tree → Rat) (u : Rat) : ∀ B : List Tree, (∀ b ∈ B, F (joinT a b) = u * g b) → rsum ((B.map fun b => joinT a b).map F) = u * rsum (B.map g)
  | [], _ => by show (0 : Rat) = u * 0; grind
  | b :: B, h => by
    show F (joinT a b) + rsum ((B.map fun b => joinT a b).map F) = u * (g b + rsum (B.map g))
    rw [rs_join1 a F g u B fun x hx => h x (by simp [hx]), h b (by simp)]; grind
theorem rs_join (F f g : Tree → Rat) (k : Rat) (B : List Tree) : ∀ A : List Tree, (∀ a ∈ A, ∀ b ∈ B, F (joinT a b) = k * (f a * g b)) → rsum ((A.flatMap fun a => B.map fun b => joinT a b).map F) = k * (rsum (A.map f) * rsum (B.map g))
  | [], _ => by show (0 : Rat) = k * (0 * _); grind
  | a :: A, h => by
    rw [List.flatMap_cons, List.map_append, rs_app, rs_join F f g k B A fun x hx => h x (by simp [hx]), rs_join1 a F g (k * f a) B fun b hb => by rw [h a (by simp) b hb]; grind]
    show k * f a * _ + k * (rsum (A.map f) * _) = k * ((f a + rsum (A.map f)) * _)
    grind
theorem wt0 : wt 0 [[]] = 1 := by decide +kernel
theorem wt1 (r : Nat) : wt (r + 1) [[]] = 1 / 2 := by
  have : nSh (r + 1) [[]] = 1 := by simp [nSh]
  unfold wt; rw [this]; decide +kernel
theorem pX_one (c : Cn) (x : List Nat) : pX c x [[]] = hc c x := by
  show hc c (x ++ []) * 1 = _
  rw [List.append_nil, Rat.mul_one]
theorem wt_sum (c : Cn) : ∀ (r : Nat) (x : List Nat), rsum ((Tr r).map fun t => wt r t * pX c x t) = W c r x
  | 0, x => by
    show wt 0 [[]] * pX c x [[]] + 0 = hc c x
    rw [wt0, pX_one]; grind
  | r + 1, x => by
    show wt (r + 1) [[]] * pX c x [[]] + rsum (((Tr r).flatMap fun a => (Tr r).map fun b => joinT a b).map fun t => wt (r + 1) t * pX c x t) = 1 / 2 * (hc c x + W c r (x ++ [48]) * W c r (x ++ [49]))
    rw [wt1, pX_one, rs_join (fun t => wt (r + 1) t * pX c x t) (fun t => wt r t * pX c (x ++ [48]) t) (fun t => wt r t * pX c (x ++ [49]) t) (1 / 2) (Tr r) (Tr r) fun a ha b hb => by
      show wt (r + 1) (joinT a b) * pX c x (joinT a b) = _
      rw [wt_join (Tr_ok r a ha).1 (Tr_ok r b hb).1, pX_join]; grind, wt_sum c r (x ++ [48]), wt_sum c r (x ++ [49])]
    grind
theorem wt_all : ∀ (r : Nat), rsum ((Tr r).map fun t => wt r t) = 1
  | 0 => by show wt 0 [[]] + 0 = 1; rw [wt0]; grind
  | r + 1 => by
    show wt (r + 1) [[]] + rsum (((Tr r).flatMap fun a => (Tr r).map fun b => joinT a b).map fun t => wt (r + 1) t) = 1
    rw [wt1, rs_join (fun t => wt (r + 1) t) (fun t => wt r t) (fun t => wt r t) (1 / 2) (Tr r) (Tr r) fun a ha b hb => by
      show wt (r + 1) (joinT a b) = _
      rw [wt_join (Tr_ok r a ha).1 (Tr_ok r b hb).1]; grind, wt_all r]
    grind
theorem wt_pos (r : Nat) (t : Tree) : 0 < wt r t := fc_pos (by decide) (by have := Nat.two_pow_pos (t.length - 1 + nSh r t); omega)
theorem pX_pos (c : Cn) (x : List Nat) : ∀ t : Tree, 0 < pX c x t
  | [] => by show (0 : Rat) < 1; decide
  | l :: t => Rat.mul_pos (hc_pos c _) (pX_pos c x t)
theorem G_mem (c : Cn) : ∀ (r : Nat) (x : List Nat), (G c r x).2 ∈ Tr r
  | 0, x => by show [[]] ∈ [[[]]]; simp
  | r + 1, x => by
    unfold G
    split
    · exact List.mem_cons_of_mem _ (List.mem_flatMap.mpr ⟨_, G_mem c r _, List.mem_map.mpr ⟨_, G_mem c r _, rfl⟩⟩)
    · exact List.mem_cons_self
theorem G_val (c : Cn) : ∀ (r : Nat) (x : List Nat), wt r (G c r x).2 * pX c x (G c r x).2 = (G c r x).1
  | 0, x => by
    show wt 0 [[]] * pX c x [[]] = hc c x
    rw [wt0, pX_one, Rat.one_mul]
  | r + 1, x => by
    have h0 := G_val c r (x ++ [48])
    have h1 := G_val c r (x ++ [49])
    have n0 := (Tr_ok r _ (G_mem c r (x ++ [48]))).1
    have n1 := (Tr_ok r _ (G_mem c r (x ++ [49]))).1
    unfold G
    split
    · show wt (r + 1) (joinT _ _) * pX c x (joinT _ _) = 1 / 2 * _ * _
      rw [wt_join n0 n1, pX_join, ← h0, ← h1]; grind
    · show wt (r + 1) [[]] * pX c x [[]] = _
      rw [wt1, pX_one]
theorem G_max (c : Cn) : ∀ (r : Nat) (x : List Nat), ∀ t ∈ Tr r, wt r t * pX c x t ≤ (G c r x).1
  | 0, x, t, h => by
    have : t = [[]] := by simpa [Tr] using h
    subst this
    show wt 0 [[]] * pX c x [[]] ≤ hc c x
    rw [wt0, pX_one, Rat.one_mul]; exact Rat.le_refl
  | r + 1, x, t, h => by
    have hG : G c (r + 1) x = if 1 / 2 * hc c x < 1 / 2 * (G c r (x ++ [48])).1 * (G c r (x ++ [49])).1 then (1 / 2 * (G c r (x ++ [48])).1 * (G c r (x ++ [49])).1, joinT (G c r (x ++ [48])).2 (G c r (x ++ [49])).2) else (1 / 2 * hc c x, [[]]) := rfl
    have g1 : 1 / 2 * hc c x ≤ (G c (r + 1) x).1 := by
      rw [hG]
      split
      · rename_i h; exact Rat.le_of_lt h
      · exact Rat.le_refl
    have g2 : 1 / 2 * (G c r (x ++ [48])).1 * (G c r (x ++ [49])).1 ≤ (G c (r + 1) x).1 := by
      rw [hG]
      split
      · exact Rat.le_refl
      · rename_i h; exact Rat.not_lt.mp h
    rcases List.mem_cons.mp h with rfl | h
    · rw [wt1, pX_one]; exact g1
    · obtain ⟨a, ha, h⟩ := List.mem_flatMap.mp h
      obtain ⟨b, hb, rfl⟩ := List.mem_map.mp h
      rw [wt_join (Tr_ok r a ha).1 (Tr_ok r b hb).1, pX_join]
      have i0 := G_max c r (x ++ [48]) a ha
      have i1 := G_max c r (x ++ [49]) b hb
      have p0 := G_pos c r (x ++ [48])
      have p1 := Rat.mul_pos (wt_pos r b) (pX_pos c (x ++ [49]) b)
      refine Rat.le_trans ?_ g2
      generalize (G c r (x ++ [48])).1 = A at *
      generalize (G c r (x ++ [49])).1 = B at *
      have e : 1 / 2 * wt r a * wt r b * (pX c (x ++ [48]) a * pX c (x ++ [49]) b) = 1 / 2 * ((wt r a * pX c (x ++ [48]) a) * (wt r b * pX c (x ++ [49]) b)) := by grind
      rw [e]
      generalize wt r a * pX c (x ++ [48]) a = P at *
      generalize wt r b * pX c (x ++ [49]) b = Q at *
      have m1 := Rat.mul_le_mul_of_nonneg_right i0 (Rat.le_of_lt p1)
      have m2 := Rat.mul_le_mul_of_nonneg_left i1 (Rat.le_of_lt p0)
      grind
theorem G_flip {c c' : Cn} (h : ∀ x, IsB x → c' (flip x) = swp (c x)) : ∀ (r : Nat) (x : List Nat), IsB x → (G c' r (flip x)).1 = (G c r x).1
  | 0, x, hx => by
    show hs (c' (flip x)).1 (c' (flip x)).2 = hs (c x).1 (c x).2
    rw [h x hx]; exact hs_comm _ _
  | r + 1, x, hx => by
    have e0 : IsB (x ++ [48]) := hx.app fun c hc => .inl (by simpa using hc)
    have e1 : IsB (x ++ [49]) := hx.app fun c hc => .inr (by simpa using hc)
    have i0 := G_flip h r (x ++ [48]) e0
    have i1 := G_flip h r (x ++ [49]) e1
    rw [show flip (x ++ [48]) = flip x ++ [49] by unfold flip; rw [List.map_append]; rfl] at i0
    rw [show flip (x ++ [49]) = flip x ++ [48] by unfold flip; rw [List.map_append]; rfl] at i1
    have ec : hc c' (flip x) = hc c x := by
      show hs (c' (flip x)).1 (c' (flip x)).2 = hs (c x).1 (c x).2
      rw [h x hx]; exact hs_comm _ _
    show (if 1 / 2 * hc c' (flip x) < 1 / 2 * (G c' r (flip x ++ [48])).1 * (G c' r (flip x ++ [49])).1 then (1 / 2 * (G c' r (flip x ++ [48])).1 * (G c' r (flip x ++ [49])).1, joinT (G c' r (flip x ++ [48])).2 (G c' r (flip x ++ [49])).2) else (1 / 2 * hc c' (flip x), [[]])).1 = (if 1 / 2 * hc c x < 1 / 2 * (G c r (x ++ [48])).1 * (G c r (x ++ [49])).1 then (1 / 2 * (G c r (x ++ [48])).1 * (G c r (x ++ [49])).1, joinT (G c r (x ++ [48])).2 (G c r (x ++ [49])).2) else (1 / 2 * hc c x, [[]])).1
    have ep : 1 / 2 * (G c' r (flip x ++ [48])).1 * (G c' r (flip x ++ [49])).1 = 1 / 2 * (G c r (x ++ [48])).1 * (G c r (x ++ [49])).1 := by rw [i0, i1]; grind
    rw [ec, ep]
    split <;> rfl
/-- counts of all bits -/
theorem cfold_nil (depth : Nat) : ∀ (bs past : List Nat) (c : Cn), IsB bs → cfold depth past bs c [] = ((c []).1 + (bs.filter (· == 48)).length, (c []).2 + (bs.filter (· == 49)).length)
  | [], past, c, _ => rfl
  | b :: bs, past, c, h => by
    show cfold depth (b :: past) bs (cadd depth past b c) [] = _
    rw [cfold_nil depth bs _ _ h.cons.2]
    have e : cadd depth past b c [] = inc b (c []) := if_pos ⟨Nat.zero_le _, List.nil_prefix⟩
    rw [e]
    rcases h.cons.1 with rfl | rfl
    · show ((c []).1 + 1 + _, (c []).2 + _) = ((c []).1 + (_ + 1), (c []).2 + _)
      rw [Nat.add_assoc, Nat.add_comm 1]; rfl
    · show ((c []).1 + _, (c []).2 + 1 + _) = ((c []).1 + _, (c []).2 + (_ + 1))
      rw [Nat.add_assoc (c []).2, Nat.add_comm 1]; rfl
theorem cof_nil (depth : Nat) (before : List Nat) {bits : List Nat} (h : IsB bits) : cof depth before bits [] = ((bits.filter (· == 48)).length, (bits.filter (· == 49)).length) := by
  unfold cof
  rw [cfold_nil depth bits _ _ h]
  simp
theorem more_than {c c' : Cn} (h : c [] = c' []) : ¬ W c 1 [] < 1 / 2 * W c' 0 [] := by
  rw [Rat.not_lt]
  show 1 / 2 * hs (c' []).1 (c' []).2 ≤ 1 / 2 * (hs (c []).1 (c []).2 + W c 0 ([] ++ [48]) * W c 0 ([] ++ [49]))
  rw [h]
  have := Rat.mul_pos (W_pos c 0 ([] ++ [48])) (W_pos c 0 ([] ++ [49]))
  grind
/-- best shares -/
theorem bs_szs : ∀ n : Fin 17, ∀ m : Fin 17, (bs n.val m.val).num.natAbs < 2 ^ 200 ∧ (bs n.val m.val).den < 2 ^ 200 := by decide +kernel
theorem bs_sz {n m : Nat} (hn : n ≤ 16) (hm : m ≤ 16) : Sz 200 (bs n m) := bs_szs ⟨n, by omega⟩ ⟨m, by omega⟩
theorem bs_comm (n m : Nat) : bs n m = bs m n := by unfold bs; rw [Nat.mul_comm, Nat.add_comm n m]
theorem lost_ev {n m : Nat} (hn : n ≤ 8) (hm : m ≤ 8) (S : List O) : F_half_lost [.int (n : Nat), .int (m : Nat)] S = some (pr (bs n m / hs n m), S) := by
  have e1 := bs_ev (n := n) (m := m) (by omega) S
  have e2 := half_ev (n := n) (m := m) (by omega) S
  have e3 := over_ev (bs_sz (n := n) (m := m) (by omega) (by omega)) (hs_sz n m (by omega)) (hs_pos n m) (by omega) S
  unfold F_half_lost
  apply v_run
  unfold B_half_lost
  exact v_rt (v_call (v_cons (v_call (v_cons (v_var rfl) (v_cons (v_var rfl) v_nil)) e1) (v_cons (v_call (v_cons (v_var rfl) (v_cons (v_var rfl) v_nil)) e2) v_nil)) e3)
end LW

set_option Elab.async false
set_option linter.all false
set_option maxRecDepth 100000
set_option exponentiation.threshold 100000
set_option maxHeartbeats 1000000
namespace LW
open PySem PySem.Spec PyProof.Rows L2 DL
theorem v_seqP {s s1 : Sto} {u v : Es} {d : D} {P : List O → Prop} (h1 : u s = some (.nx s1)) (h2 : ∃ ρ S', v s1 = some (.rt d (ρ, S')) ∧ P S') : ∃ ρ S', sSeq u v s = some (.rt d (ρ, S')) ∧ P S' := by
  obtain ⟨ρ, S', h, hp⟩ := h2
  exact ⟨ρ, S', v_seq h1 h, hp⟩
theorem v_runP {N : Nat} {u : Es} {d : D} {S : List O} {ds : List D} {P : List O → Prop} (h1 : ∃ ρ S', u (ds.map .val ++ List.replicate (N - ds.length) .un, S) = some (.rt d (ρ, S')) ∧ P S') : ∃ S', runF N u ds S = some (d, S') ∧ P S' := by
  obtain ⟨ρ, S', h, hp⟩ := h1
  exact ⟨S', v_run h, hp⟩
/-- the last part -/
def B_tend : Es :=
  (sSeq (sPar 11 12 (eCons (eCall F__law_take (eCons (eVar 0) (eCons (ret (.int 9)) eNil))) (eCons (eCall F__law_take (eCons (eVar 0) (eCons (ret (.int 9)) eNil))) eNil))) (sSeq (sIf (eOrT (eB (eBin dNe (eCall F_half_share (eCons (eVar 11) (eCons (eVar 12) eNil))) (eCall F_half_share (eCons (eVar 12) (eCons (eVar 11) eNil))))) (eB (eBin dNe (eCall F_best_share (eCons (eVar 11) (eCons (eVar 12) eNil))) (eCall F_best_share (eCons (eVar 12) (eCons (eVar 11) eNil)))))) (sRet (ret (.bl false))) sNil) (sSeq (sIf (eB (eBin dNe (eCall F_times (eCons (eCall F_half_share (eCons (eVar 11) (eCons (eVar 12) eNil))) (eCons (eCall F_share (eCons (eBin dAdd (eBin dMul (ret (.int 2)) (eVar 12)) (ret (.int 1))) (eCons (eBin dMul (ret (.int 2)) (eBin dAdd (eBin dAdd (eVar 11) (eVar 12)) (ret (.int 1)))) eNil))) eNil))) (eCall F_half_share (eCons (eVar 11) (eCons (eBin dAdd (eVar 12) (ret (.int 1))) eNil))))) (sRet (ret (.bl false))) sNil) (sSeq (sIf (eB (eBin dNe (eCall F_plus (eCons (eCall F_half_share (eCons (eBin dAdd (eVar 11) (ret (.int 1))) (eCons (eVar 12) eNil))) (eCons (eCall F_half_share (eCons (eVar 11) (eCons (eBin dAdd (eVar 12) (ret (.int 1))) eNil))) eNil))) (eCall F_half_share (eCons (eVar 11) (eCons (eVar 12) eNil))))) (sRet (ret (.bl false))) sNil) (sSeq (sIf (eOrT (eB (eBin dNe (eCall F_best_share (eCons (eBin dMul (ret (.int 2)) (eVar 11)) (eCons (eBin dMul (ret (.int 2)) (eVar 12)) eNil))) (eCall F_times (eCons (eCall F_best_share (eCons (eVar 11) (eCons (eVar 12) eNil))) (eCons (eCall F_best_share (eCons (eVar 11) (eCons (eVar 12) eNil))) eNil))))) (eB (eCall F_less (eCons (eCall F_best_share (eCons (eVar 11) (eCons (eVar 12) eNil))) (eCons (eCall F_half_share (eCons (eVar 11) (eCons (eVar 12) eNil))) eNil))))) (sRet (ret (.bl false))) sNil) (sSeq (sSet 13 (eCall F_half_lost (eCons (eVar 11) (eCons (eVar 12) eNil)))) (sRet (eAnd (eBin dEq (eVar 13) (eCall F_half_lost (eCons (eVar 12) (eCons (eVar 11) eNil)))) (eAnd (eNot (eCall F_less (eCons (eVar 13) (eCons (eTup (eCons (ret (.int 1)) (eCons (ret (.int 1)) eNil))) eNil)))) (eBin dLe (eBin dMul (eBin dIx (eVar 13) (ret (.int 0))) (eBin dIx (eVar 13) (ret (.int 0)))) (eBin dMul (eBin dMul (eBin dMul (ret (.int 4)) (eCl dMax2 (eCons (ret (.int 1)) (eCons (eBin dAdd (eVar 11) (eVar 12)) eNil)))) (eBin dIx (eVar 13) (ret (.int 1)))) (eBin dIx (eVar 13) (ret (.int 1))))))))))))))
theorem max1 {n : Nat} : dMax2 [.int 1, .int (n : Nat)] = some (.int ((max 1 n : Nat) : Int)) := by
  show some (D.int (if ((n : Nat) : Int) > 1 then ((n : Nat) : Int) else 1)) = _
  congr 2
  split <;> omega
theorem tend_ev {m : Nat} {S : List O} (h : Tp m S) (hm : m < 2 ^ 80) (x1 x2 x3 x4 x5 x6 x7 x8 x9 x10 x11 x12 x13 x14 x15 : Sl) :
    ∃ ρ S', B_tend ([.val (.ptr 0), x1, x2, x3, x4, x5, x6, x7, x8, x9, x10, x11, x12, x13, x14, x15], S) = some (.rt (.bl true) (ρ, S')) ∧ Tp (m + 2) S' := by
  obtain ⟨a, S1, e1, ha, T1⟩ := take_ev (m := 9) (by decide) (by decide) h (by omega)
  obtain ⟨b, S2, e2, hb, T2⟩ := take_ev (m := 9) (by decide) (by decide) T1 (by omega)
  have h1 := fun S => half_ev (n := a) (m := b) (by omega) S
  have h2 := fun S => half_ev (n := b) (m := a) (by omega) S
  rw [hs_comm b a] at h2
  have h3 := fun S => half_ev (n := a) (m := b + 1) (by omega) S
  have h4 := fun S => half_ev (n := a + 1) (m := b) (by omega) S
  have b1 := fun S => bs_ev (n := a) (m := b) (by omega) S
  have b2 := fun S => bs_ev (n := b) (m := a) (by omega) S
  rw [bs_comm b a] at b2
  have b3 := fun S => bs_ev (n := 2 * a) (m := 2 * b) (by omega) S
  obtain ⟨D1, D2, D3, D4⟩ := draws ⟨a, ha⟩ ⟨b, hb⟩
  change bs (2 * a) (2 * b) = bs a b * bs a b at D1
  change ¬ bs a b < hs a b at D2
  change ¬ bs a b / hs a b < 1 at D3
  change (bs a b / hs a b).num * (bs a b / hs a b).num ≤ 4 * (max 1 (a + b) : Nat) * (bs a b / hs a b).den * (bs a b / hs a b).den at D4
  have l1 := fun S => lost_ev (n := a) (m := b) (by omega) (by omega) S
  have l2 := fun S => lost_ev (n := b) (m := a) (by omega) (by omega) S
  rw [hs_comm b a, bs_comm b a] at l2
  have sh := fun S => share_pos (n := ((2 * b + 1 : Nat) : Int)) (d := 2 * (a + b + 1)) (by omega) (Nat.lt_of_le_of_lt (show _ ≤ 300 by omega) (by decide +kernel)) (Nat.lt_of_le_of_lt (show _ ≤ 300 by omega) (by decide +kernel)) S
  have zab : Sz 200 (hs a b) := (hs_sz a b (by omega)).mono (by omega)
  have zb := bs_sz (n := a) (m := b) (by omega) (by omega)
  have t1 := fun S => times_ev zab (fc_sz (a := 2 * b + 1) (d := 2 * (a + b + 1)) (k := 8) (by omega) (by omega) (by omega)) (by omega) S
  have t2 := fun S => times_ev zb zb (by omega) S
  have p1 := fun S => plus_ev ((hs_sz (a + 1) b (by omega)).mono (show _ ≤ 200 by omega)) ((hs_sz a (b + 1) (by omega)).mono (show _ ≤ 200 by omega)) (by omega) S
  rw [hs_sum] at p1
  rw [← D1] at t2
  have L1 := fun S => less_ev zb zab (by omega) S
  rw [decide_eq_false D2] at L1
  have zl : Sz 400 (bs a b / hs a b) := zb.div zab (hs_pos a b)
  have L2 := fun S => less_ev zl sz1 (by omega) S
  rw [decide_eq_false D3, pr1] at L2
  have g2 : (2 : Nat).log2 ≤ 2 := by decide +kernel
  have ga := lg (x := a) (k := 8) (by omega)
  have gb := lg (x := b) (k := 8) (by omega)
  have gc := lg (x := a + b + 1) (k := 8) (by omega)
  generalize hq : bs a b / hs a b = q at *
  have i0 : dIx (pr q) (.int 0) = some (.int q.num) := rfl
  have i1 : dIx (pr q) (.int 1) = some (.int (q.den : Nat)) := rfl
  have gn := lg zl.1
  have gd := lg zl.2
  unfold B_tend
  refine v_seqP (v_par (v_cons (v_call (v_cons (v_var rfl) (v_cons v_ret v_nil)) e1) (v_cons (v_call (v_cons (v_var rfl) (v_cons v_ret v_nil)) e2) v_nil))) ?_
  refine v_seqP (v_sIfF (v_orT (v_B (v_bin (v_call (v_cons (v_var rfl) (v_cons (v_var rfl) v_nil)) (h1 _)) (v_call (v_cons (v_var rfl) (v_cons (v_var rfl) v_nil)) (h2 _)) (ne_self _))) (v_B (v_bin (v_call (v_cons (v_var rfl) (v_cons (v_var rfl) v_nil)) (b1 _)) (v_call (v_cons (v_var rfl) (v_cons (v_var rfl) v_nil)) (b2 _)) (ne_self _)))) v_sNil) ?_
  refine v_seqP (v_sIfF (v_B (v_bin (v_call (v_cons (v_call (v_cons (v_var rfl) (v_cons (v_var rfl) v_nil)) (h1 _)) (v_cons (v_call (v_cons (v_bin (v_bin v_ret (v_var rfl) (o_mulN (a := 2) (by omega))) v_ret (o_addN (b := 1))) (v_cons (v_bin v_ret (v_bin (v_bin (v_var rfl) (v_var rfl) o_addN) v_ret (o_addN (b := 1))) (o_mulN (a := 2) (by omega))) v_nil)) (sh _)) v_nil)) (t1 _)) (v_call (v_cons (v_var rfl) (v_cons (v_bin (v_var rfl) v_ret (o_addN (b := 1))) v_nil)) (h3 _)) (ne_self _))) v_sNil) ?_
  refine v_seqP (v_sIfF (v_B (v_bin (v_call (v_cons (v_call (v_cons (v_bin (v_var rfl) v_ret (o_addN (b := 1))) (v_cons (v_var rfl) v_nil)) (h4 _)) (v_cons (v_call (v_cons (v_var rfl) (v_cons (v_bin (v_var rfl) v_ret (o_addN (b := 1))) v_nil)) (h3 _)) v_nil)) (p1 _)) (v_call (v_cons (v_var rfl) (v_cons (v_var rfl) v_nil)) (h1 _)) (ne_self _))) v_sNil) ?_
  refine v_seqP (v_sIfF (v_orT (v_B (v_bin (v_call (v_cons (v_bin v_ret (v_var rfl) (o_mulN (a := 2) (by omega))) (v_cons (v_bin v_ret (v_var rfl) (o_mulN (a := 2) (by omega))) v_nil)) (b3 _)) (v_call (v_cons (v_call (v_cons (v_var rfl) (v_cons (v_var rfl) v_nil)) (b1 _)) (v_cons (v_call (v_cons (v_var rfl) (v_cons (v_var rfl) v_nil)) (b1 _)) v_nil)) (t2 _)) (ne_self _))) (v_B (v_call (v_cons (v_call (v_cons (v_var rfl) (v_cons (v_var rfl) v_nil)) (b1 _)) (v_cons (v_call (v_cons (v_var rfl) (v_cons (v_var rfl) v_nil)) (h1 _)) v_nil)) (L1 _)))) v_sNil) ?_
  refine v_seqP (v_set (v_call (v_cons (v_var rfl) (v_cons (v_var rfl) v_nil)) (l1 _))) ?_
  refine ⟨_, _, v_rt (v_and (v_bin (v_var rfl) (v_call (v_cons (v_var rfl) (v_cons (v_var rfl) v_nil)) (l2 _)) (eq_self _)) (v_and (v_not (k := false) (v_call (v_cons (v_var rfl) (v_cons (v_tup (v_cons v_ret (v_cons v_ret v_nil)) (by show 2 ≤ LIM; decide)) v_nil)) (L2 _)))
    (v_bin (v_bin (v_bin (v_var rfl) v_ret i0) (v_bin (v_var rfl) v_ret i0) (o_mul ?_)) (v_bin (v_bin (v_bin v_ret (v_cl (v_cons v_ret (v_cons (v_bin (v_var rfl) (v_var rfl) o_addN) v_nil)) max1) (o_mul ?_)) (v_bin (v_var rfl) v_ret i1) (o_mul ?_)) (v_bin (v_var rfl) v_ret i1) (o_mul ?_)) (z := .bl true) ?_))), T2.mono (by omega)⟩
  · omega
  · have := lg (x := max 1 (a + b)) (k := 8) (by omega)
    have e : ((4 : Int)).natAbs.log2 ≤ 3 := by decide +kernel
    rw [Int.natAbs_natCast]; omega
  · have h5 : (4 * ((max 1 (a + b) : Nat) : Int)).natAbs < 2 ^ 8 := by omega
    have := lg h5
    rw [Int.natAbs_natCast]; omega
  · have h5 : (4 * ((max 1 (a + b) : Nat) : Int)).natAbs < 2 ^ 8 := by omega
    have h6 : (4 * ((max 1 (a + b) : Nat) : Int) * (q.den : Int)).natAbs < 2 ^ (8 + 400) := by
      rw [Int.natAbs_mul, Int.natAbs_natCast]
      exact pow_mul_lt h5 zl.2
    have := lg h6
    rw [Int.natAbs_natCast]; omega
  · show some (D.bl (decide (_ ≤ _))) = _
    rw [decide_eq_true D4]
end LW

set_option Elab.async false
set_option linter.all false
set_option maxRecDepth 100000
set_option exponentiation.threshold 100000
set_option maxHeartbeats 4000000
namespace LW
open PySem PySem.Spec PyProof.Rows L2 DL
theorem two_one (A B : Rat) (h : 0 < A + B) : B / (A + B) + A / (A + B) = 1 := by grind
theorem div_back (A B : Rat) (h : 0 < A) : B / A * A = B := by grind
theorem pS_sz {c : Cn} (h : Few c) : ∀ t : Tree, Sz (1 + 161 * t.length) (pS c t)
  | [] => sz1
  | x :: t => by
    have := (hc_sz h x).mul (pS_sz h t)
    exact this.mono (by rw [List.length_cons]; omega)
theorem four {r : Nat} (h : r ≤ 2) : 2 ^ r ≤ 4 := by
  have : r = 0 ∨ r = 1 ∨ r = 2 := by omega
  rcases this with rfl | rfl | rfl <;> decide
theorem wt_sz {r d : Nat} {t : Tree} (ht : Lf r t) (hr : r ≤ 2) : Sz 9 (wt d t) := by
  have h4 := four hr
  have hn := ht.n
  have hs : nSh d t ≤ t.length := List.length_filter_le _ _
  have hp : 2 ^ (t.length - 1 + nSh d t) ≤ 2 ^ 8 := Nat.pow_le_pow_right (by decide) (by omega)
  have hp0 := Nat.two_pow_pos (t.length - 1 + nSh d t)
  exact fc_sz (by omega) (by decide) (Nat.lt_of_le_of_lt hp (by decide))
theorem trees_ev {r : Nat} (h : r ≤ 2) (S : List O) : F_trees_of 3 [.int (r : Nat)] S = some (.lst ((Tr r).map tD), S) := by
  have : r = 0 ∨ r = 1 ∨ r = 2 := by omega
  rcases this with rfl | rfl | rfl
  · exact trees0 S
  · exact trees1 S
  · exact trees2 S
theorem Tr_few {r : Nat} (h : r ≤ 2) : (Tr r).length ≤ 5 := by
  have : r = 0 ∨ r = 1 ∨ r = 2 := by omega
  rcases this with rfl | rfl | rfl <;> decide
theorem any_pr (q : Rat) : ∀ qs : List Rat, q ∈ qs → ((qs.map pr).any fun y => eqv y (pr q)) = true
  | x :: qs, h => by
    rw [List.map_cons, List.any_cons, eqv_pr]
    rcases List.mem_cons.mp h with rfl | h
    · simp
    · rw [any_pr q qs h, Bool.or_true]
theorem isB1 {c : Nat} (h : c = 48 ∨ c = 49) : IsB [c] := fun d hd => by
  have : d = c := by simpa using hd
  rw [this]; exact h
theorem in_pr {q : Rat} {qs : List Rat} (h : q ∈ qs) : inD true (pr q) (.lst (qs.map pr)) = some (.bl false) := by
  show guard' ((uniA (pr q) && (qs.map pr).all uniA) || (flat 8 (pr q) && flat 8 (.lst (qs.map pr)))) (D.bl (true ^^ (qs.map pr).any fun y => eqv y (pr q))) = _
  rw [any_pr q qs h]
  have : flat 8 (.lst (qs.map pr)) = true := flats_pr qs
  rw [this, flat_pr, Bool.and_self, Bool.or_true]; rfl
theorem cof_snoc (depth : Nat) (before bits : List Nat) (b : Nat) : cof depth before (bits ++ [b]) = cadd depth (bits.reverse ++ before.reverse) b (cof depth before bits) := cfold_snoc depth b bits before.reverse _
/-- how many of a letter -/
theorem count_ev {c : Nat} {ρ : List Sl} {S : List O} {l : List Nat} (hl : l.length ≤ 1000) (h3 : ρ[3]? = some (.val (.str l))) (hn : ρ.length = 16) (h15 : ρ[15]? = some .un) :
    eCl dLen (eCons (eFz (eLc [15] (eItems (eVar 3)) (tNm 15) (eB (eBin dEq (eVar 15) (ret (.str [c])))) (eVar 15))) eNil) (ρ, S) = some (.int ((l.filter (· == c)).length : Nat), (ρ, S)) := by
  have ef := v_filt1 (vs := [15]) (i := 15) (ρ := ρ) (S := S) (s := (ρ, S)) (f := eItems (eVar 3)) (p := eB (eBin dEq (eVar 15) (ret (.str [c])))) (g := eVar 15) (xs := l.map fun c => D.str [c]) (fun d => d) (fun d => match d with | .str z => z == [c] | _ => false)
    (v_items (v_var h3) rfl) (by decide) (by show (!(ρ[15]?.getD Sl.un).isOwn && true) = true; rw [h15]; rfl) (by rw [List.length_map]; exact lim hl) (fun x hx => by
      obtain ⟨z, hz, rfl⟩ := List.mem_map.mp hx
      have w15 : ((wipeS ρ [15]).set 15 (.val (D.str [z])))[15]? = some (.val (D.str [z])) := List.getElem?_set_self (by rw [wipe_len]; omega)
      exact v_B (v_bin (v_var w15) v_ret o_eqS)) (fun x hx _ => by
      have w15 : ((wipeS ρ [15]).set 15 (.val x))[15]? = some (.val x) := List.getElem?_set_self (by rw [wipe_len]; omega)
      exact v_var w15)
  have eln : ((((l.map fun c => D.str [c]).filter fun d => match d with | .str z => z == [c] | _ => false).map fun d => d)).length = (l.filter (· == c)).length := by
    rw [List.length_map, List.filter_map, List.length_map]
    congr 2
    funext z
    show ([z] == [c]) = (z == c)
    simp
  refine v_cl (v_cons (v_fz ef) v_nil) ?_
  rw [← eln]; rfl
theorem trees_right {m : Nat} {S : List O} (h : Tp m S) (hm : m < 2 ^ 60) : ∃ S', F__law_trees_right [.ptr 0] S = some (.bl true, S') ∧ Tp (m + 20) S' := by
  obtain ⟨r, S1, e1, hr, T1⟩ := take_ev (m := 3) (by decide) (by decide) h (by omega)
  obtain ⟨before, S2, e2, hB2, hb1, hb2, T2⟩ := bits_ev (a := r) (b := r) (Nat.le_refl _) (by omega) T1 (by omega)
  obtain ⟨bits, S3, e3, hB, _, hl, T3⟩ := bits_ev (a := 0) (b := 7) (by decide) (by decide) T2 (by omega)
  obtain rfl : r = before.length := by omega
  have hd : before.length ≤ 2 := by omega
  have l2 : 2 ≤ LIM := by decide
  have hF := flip_ok bits
  have hF2 := flip_ok before
  have hfl : (flip bits).length = bits.length := by unfold flip; rw [List.length_map]
  have hfb : (flip before).length = before.length := by unfold flip; rw [List.length_map]
  have hB0 : IsB (bits ++ [48]) := hB.app fun c hc => .inl (by simpa using hc)
  have hB1 : IsB (bits ++ [49]) := hB.app fun c hc => .inr (by simpa using hc)
  have hl1 : ∀ c : Nat, (bits ++ [c]).length = bits.length + 1 := fun c => by rw [List.length_append, List.length_singleton]
  have hcf : ∀ x, IsB x → cof before.length (flip before) (flip bits) (flip x) = swp (cof before.length before bits x) := fun x hx => cof_flip before.length hB hB2 hx
  have hff : flip bits ++ [49] = flip (bits ++ [48]) := by unfold flip; rw [List.map_append]; rfl
  have hcf0 : ∀ x, IsB x → cof before.length (flip before) (flip (bits ++ [48])) (flip x) = swp (cof before.length before (bits ++ [48]) x) := fun x hx => cof_flip before.length hB0 hB2 hx
  have hboth : W (cof before.length before (bits ++ [48])) before.length [] + W (cof before.length before (bits ++ [49])) before.length [] = W (cof before.length before bits) before.length [] := by
    rw [cof_snoc, cof_snoc]
    refine W_both _ ?_ ?_ before.length [] (by simp) List.nil_prefix
    · exact IsB.app (fun c hc => hB c (by simpa using hc)) fun c hc => hB2 c (by simpa using hc)
    · rw [List.length_append, List.length_reverse, List.length_reverse]; omega
  have hw1 : W (cof before.length (flip before) (flip bits)) before.length [] = W (cof before.length before bits) before.length [] := W_flip hcf before.length [] (fun c hc => by simp at hc)
  have hw2 : W (cof before.length (flip before) (flip (bits ++ [48]))) before.length [] = W (cof before.length before (bits ++ [48])) before.length [] := W_flip hcf0 before.length [] (fun c hc => by simp at hc)
  have hg1 : (G (cof before.length (flip before) (flip bits)) before.length []).1 = (G (cof before.length before bits) before.length []).1 := G_flip hcf before.length [] (fun c hc => by simp at hc)
  have F0 : Few (cof before.length before bits) := cof_few (by omega)
  have F1 : ∀ c, Few (cof before.length before (bits ++ [c])) := fun c => cof_few (by rw [hl1]; omega)
  have hz := zW_le (r := before.length) hd
  have q1 := fun S => tree_ev hB hB2 (by omega) hd S
  have q2 := fun S => tree_ev hF hF2 (by omega) (by omega) S
  have q3 := fun S => tree_ev hB0 hB2 (by rw [hl1]; omega) hd S
  have q4 := fun S => tree_ev hB1 hB2 (by rw [hl1]; omega) hd S
  rw [hfb, hw1] at q2
  have zw := W_sz F0 before.length []
  have zw0 := W_sz (F1 48) before.length []
  have zw1 := W_sz (F1 49) before.length []
  have q5 := fun S => plus_ev zw0 zw1 (by omega) S
  rw [hboth] at q5
  have q6 := fun S => next_ev hB hB2 (by omega) hd S
  have q7 := fun S => next_ev hF hF2 (by omega) (by omega) S
  rw [hfb, hff, hw1, hw2] at q7
  have q8 := fun S => best_tree_ev hB hB2 (by omega) hd S
  have q9 := fun S => best_tree_ev hF hF2 (by omega) (by omega) S
  rw [hfb, hg1] at q9
  have pw0 := W_pos (cof before.length before bits) before.length []
  have zd0 := zw0.div zw pw0
  have zd1 := zw1.div zw pw0
  have q10 := fun S => plus_ev zd1 zd0 (by omega) S
  have q11 := fun S => times_ev zd1 zw (by omega) S
  have hone : W (cof before.length before (bits ++ [49])) before.length [] / W (cof before.length before bits) before.length [] + W (cof before.length before (bits ++ [48])) before.length [] / W (cof before.length before bits) before.length [] = 1 := by
    rw [← hboth] at pw0 ⊢
    exact two_one _ _ pw0
  have hback : W (cof before.length before (bits ++ [49])) before.length [] / W (cof before.length before bits) before.length [] * W (cof before.length before bits) before.length [] = W (cof before.length before (bits ++ [49])) before.length [] := div_back _ _ pw0
  rw [hone] at q10
  rw [hback] at q11
  -- all trees
  have hok : ∀ t ∈ Tr before.length, t ≠ [] ∧ Lf before.length t := Tr_ok before.length
  have h4 := four hd
  have hn4 : ∀ t ∈ Tr before.length, t.length ≤ 4 := fun t ht => Nat.le_trans (hok t ht).2.n h4
  have zp : ∀ t ∈ Tr before.length, Sz 645 (pS (cof before.length before bits) t) := fun t ht => (pS_sz F0 t).mono (by have := hn4 t ht; omega)
  have zt : ∀ t ∈ Tr before.length, Sz 9 (wt before.length t) := fun t ht => wt_sz (hok t ht).2 hd
  have k1 := fun t ht S => weight_ev (depth := before.length) (hok t ht).2 hd (hok t ht).1 hd S
  have k2 := fun t ht S => by_ev (t := t) (by have := hn4 t ht; omega) hB hB2 (by omega) hd S
  have k3 := fun t ht S => times_ev (zt t ht) (zp t ht) (by decide) S
  have hTr := fun S => trees_ev hd S
  have hfew := Tr_few hd
  let rows := (Tr before.length).map fun t => wt before.length t * pS (cof before.length before bits) t
  have zr : ∀ q ∈ rows, Sz 654 q := fun q hq => by
    obtain ⟨t, ht, rfl⟩ := List.mem_map.mp hq
    exact (zt t ht).mul (zp t ht)
  have hsum : rsum rows = W (cof before.length before bits) before.length [] := by
    rw [← wt_sum (cof before.length before bits) before.length []]
    show rsum ((Tr before.length).map _) = _
    congr 1
    apply List.map_congr_left
    intro t _
    rw [pX_nil]
  have q12 := fun S => sum_ev (X := .lst (rows.map pr)) rows (k := 654) rfl zr (by show ((Tr before.length).map _).length * _ + _ ≤ _; rw [List.length_map]; omega) S
  rw [hsum] at q12
  have q13 := fun S => sum_ev (X := .lst (((Tr before.length).map fun t => wt before.length t).map pr)) ((Tr before.length).map fun t => wt before.length t) (k := 9) rfl (fun q hq => by
    obtain ⟨t, ht, rfl⟩ := List.mem_map.mp hq
    exact zt t ht) (by rw [List.length_map]; omega) S
  rw [wt_all] at q13
  have hgm := G_mem (cof before.length before bits) before.length []
  have hgv := G_val (cof before.length before bits) before.length []
  have hgx := G_max (cof before.length before bits) before.length []
  have zg := G_sz F0 before.length []
  rw [pX_nil] at hgv
  have hin : (G (cof before.length before bits) before.length []).1 ∈ rows := List.mem_map.mpr ⟨_, hgm, hgv⟩
  have k4 := k3 _ hgm
  rw [hgv] at k4
  have hle : ∀ q ∈ rows, ∀ S, F_less [pr (G (cof before.length before bits) before.length []).1, pr q] S = some (.bl false, S) := fun q hq S => by
    have k5 := less_ev zg (zr q hq) (by omega) S
    obtain ⟨t, ht, rfl⟩ := List.mem_map.mp hq
    have := hgx t ht
    rw [pX_nil] at this
    rw [decide_eq_false (Rat.not_lt.mpr this)] at k5
    exact k5
  have ot := fun S => other_ev hB (by omega) S
  have ob := fun S => other_ev hB2 (by omega) S
  have gw1 := k1 _ hgm
  have gb1 := k2 _ hgm
  unfold F__law_trees_right
  apply v_runP
  unfold B__law_trees_right
  refine v_seqP (v_set (v_call (v_cons (v_var rfl) (v_cons v_ret v_nil)) e1)) ?_
  refine v_seqP (v_asg2 (v_tup (v_cons (v_call (v_cons (v_var rfl) (v_cons (v_var rfl) (v_cons (v_var rfl) v_nil))) e2) (v_cons (v_call (v_cons (v_var rfl) (v_cons v_ret (v_cons v_ret v_nil))) e3) v_nil)) l2)) ?_
  refine v_seqP (v_set (v_call (v_cons (v_var rfl) (v_cons (v_var rfl) (v_cons (v_var rfl) v_nil))) (q1 _))) ?_
  refine v_seqP (v_sIfF (v_orT (v_B (v_bin (v_call (v_cons (v_call (v_cons (v_var rfl) v_nil) (ot _)) (v_cons (v_var rfl) (v_cons (v_call (v_cons (v_var rfl) v_nil) (ob _)) v_nil))) (q2 _)) (v_var rfl) (ne_self _)))
    (v_B (v_bin (v_call (v_cons (v_call (v_cons (v_bin (v_var rfl) v_ret (add_st (a := bits) (b := [48]) (by show _ + 1 ≤ _; omega))) (v_cons (v_var rfl) (v_cons (v_var rfl) v_nil))) (q3 _)) (v_cons (v_call (v_cons (v_bin (v_var rfl) v_ret (add_st (a := bits) (b := [49]) (by show _ + 1 ≤ _; omega))) (v_cons (v_var rfl) (v_cons (v_var rfl) v_nil))) (q4 _)) v_nil)) (q5 _)) (v_var rfl) (ne_self _)))) v_sNil) ?_
  refine v_seqP (v_set (v_call (v_cons (v_var rfl) (v_cons (v_var rfl) (v_cons (v_var rfl) v_nil))) (q6 _))) ?_
  refine v_seqP (v_sIfF (v_orT (v_B (v_bin (v_call (v_cons (v_var rfl) (v_cons (v_call (v_cons (v_call (v_cons (v_var rfl) v_nil) (ot _)) (v_cons (v_var rfl) (v_cons (v_call (v_cons (v_var rfl) v_nil) (ob _)) v_nil))) (q7 _)) v_nil)) (q10 _)) (v_tup (v_cons v_ret (v_cons v_ret v_nil)) l2) (ne_self 1)))
    (v_B (v_bin (v_call (v_cons (v_var rfl) (v_cons (v_var rfl) v_nil)) (q11 _)) (v_call (v_cons (v_bin (v_var rfl) v_ret (add_st (a := bits) (b := [49]) (by show _ + 1 ≤ _; omega))) (v_cons (v_var rfl) (v_cons (v_var rfl) v_nil))) (q4 _)) (ne_self _)))) v_sNil) ?_
  refine v_seqP (v_asg2 (v_call (v_cons (v_var rfl) (v_cons (v_var rfl) (v_cons (v_var rfl) v_nil))) (q8 _))) ?_
  refine v_seqP (v_set (v_fz ((v_mapT (Tr before.length) tD (fun t => pr (wt before.length t * pS (cof before.length before bits) t)) (v_items (v_call (v_cons (v_var rfl) v_nil) (hTr _)) rfl) (lim (by omega)) (fun t ht => v_call (v_cons (v_call (v_cons (v_var rfl) (v_cons (v_var rfl) v_nil)) (k1 t ht _)) (v_cons (v_call (v_cons (v_var rfl) (v_cons (v_var rfl) (v_cons (v_var rfl) (v_cons (v_var rfl) v_nil)))) (k2 t ht _)) v_nil)) (k3 t ht _))).trans (by rw [show ((Tr before.length).map fun t => pr (wt before.length t * pS (cof before.length before bits) t)) = rows.map pr by show _ = ((Tr before.length).map _).map pr; rw [List.map_map]; rfl])))) ?_
  refine v_seqP (v_sIfF (v_orT (v_B (v_bin (v_call (v_cons (v_var rfl) v_nil) (q12 _)) (v_var rfl) (ne_self _))) (v_orT (v_B (v_bin (v_call (v_cons (v_fz ((v_mapT (Tr before.length) tD (fun t => pr (wt before.length t)) (v_items (v_call (v_cons (v_var rfl) v_nil) (hTr _)) rfl) (lim (by omega)) (fun t ht => v_call (v_cons (v_var rfl) (v_cons (v_var rfl) v_nil)) (k1 t ht _))).trans (by rw [show ((Tr before.length).map fun t => pr (wt before.length t)) = ((Tr before.length).map fun t => wt before.length t).map pr by rw [List.map_map]; rfl]))) v_nil) (q13 _)) (v_tup (v_cons v_ret (v_cons v_ret v_nil)) l2) (ne_self 1)))
    (v_orT (v_B (v_cl (v_cons (v_fz (v_mapT rows pr (fun _ => .bl false) (v_items (v_var rfl) rfl) (lim (by show ((Tr before.length).map _).length ≤ _; rw [List.length_map]; omega)) (fun q hq => v_call (v_cons (v_var rfl) (v_cons (v_var rfl) v_nil)) (hle q hq _)))) v_nil) (no_any _))) (v_B (v_bin (v_var rfl) (v_var rfl) (in_pr hin)))))) v_sNil) ?_
  refine v_seqP (v_sIfF (v_orT (v_B (v_bin (v_call (v_cons (v_call (v_cons (v_var rfl) (v_cons (v_var rfl) v_nil)) (gw1 _)) (v_cons (v_call (v_cons (v_var rfl) (v_cons (v_var rfl) (v_cons (v_var rfl) (v_cons (v_var rfl) v_nil)))) (gb1 _)) v_nil)) (k4 _)) (v_var rfl) (ne_self _)))
    (v_B (v_bin (v_bin (v_call (v_cons (v_call (v_cons (v_var rfl) v_nil) (ot _)) (v_cons (v_var rfl) (v_cons (v_call (v_cons (v_var rfl) v_nil) (ob _)) v_nil))) (q9 _)) v_ret rfl) (v_var rfl) (ne_self _)))) v_sNil) ?_
  by_cases h2 : before.length < 2
  · obtain ⟨b, S4, e4, hb, T4⟩ := take_ev (m := 2) (by decide) (by decide) T3 (by omega)
    obtain ⟨ch, hch, hix⟩ : ∃ ch : Nat, (ch = 48 ∨ ch = 49) ∧ dIx (.str [48, 49]) (.int (b : Nat)) = some (.str [ch]) := by
      have : b = 0 ∨ b = 1 := by omega
      rcases this with rfl | rfl
      · exact ⟨48, .inl rfl, rfl⟩
      · exact ⟨49, .inr rfl, rfl⟩
    have hBa : IsB ([ch] ++ before) := (isB1 hch).app hB2
    have q20 := fun S => tree_ev hB hBa (by omega) (by rw [List.length_append, List.length_singleton]; omega) S
    rw [show ([ch] ++ before).length = before.length + 1 by rw [List.length_append, List.length_singleton]; omega] at q20
    obtain ⟨ρ, S5, e5, T5⟩ := tend_ev T4 (by omega) (.val (.int (before.length : Nat))) (.val (.str before)) (.val (.str bits)) (.val (pr (W (cof before.length before bits) before.length []))) (.val (pr (W (cof before.length before (bits ++ [49])) before.length [] / W (cof before.length before bits) before.length []))) (.val (pr (G (cof before.length before bits) before.length []).1)) (.val (tD (G (cof before.length before bits) before.length []).2)) (.val (.lst (rows.map pr))) (.val (.str ([ch] ++ before))) (.val (pr (W (cof (before.length + 1) ([ch] ++ before) bits) (before.length + 1) []))) .un .un .un .un .un
    refine v_seqP (v_sIfT (v_B (v_bin (v_var rfl) v_ret (z := .bl true) ?_)) (v_seq (v_set (v_bin (v_bin v_ret (v_call (v_cons (v_var rfl) (v_cons v_ret v_nil)) e4) hix) (v_var rfl) (add_st (a := [ch]) (b := before) (by show 1 + _ ≤ _; omega)))) (v_seq (v_set (v_call (v_cons (v_var rfl) (v_cons (v_bin (v_var rfl) v_ret (o_addN (b := 1))) (v_cons (v_var rfl) v_nil))) (q20 _))) (v_sIfF ?_ v_sNil)))) ⟨ρ, S5, e5, T5.mono (by omega)⟩
    · show some (D.bl (decide (((before.length : Nat) : Int) < 2))) = _
      rw [decide_eq_true (by omega)]
    · by_cases h0 : before.length = 0
      · have cn := cof_nil before.length before hB
        have cn1 := cof_nil (before.length + 1) ([ch] ++ before) hB
        have zh := szh.mul zw
        have z20 := W_sz (c := cof (before.length + 1) ([ch] ++ before) bits) (cof_few (by omega)) (before.length + 1) []
        have hz2 := zW_le (r := before.length + 1) (by omega)
        have k6 := times_ev szh zw (by omega) S4
        have k7 := less_ev z20 zh (by omega) S4
        have k8 := half_ev (n := (bits.filter (· == 48)).length) (m := (bits.filter (· == 49)).length) (by
          have := List.length_filter_le (· == 48) bits
          have := List.length_filter_le (· == 49) bits
          omega) S4
        have hno : ¬ W (cof (before.length + 1) ([ch] ++ before) bits) (before.length + 1) [] < 1 / 2 * W (cof before.length before bits) before.length [] := by
          have e := cn1.trans cn.symm
          rw [h0] at e ⊢
          exact more_than e
        rw [decide_eq_false hno] at k7
        have k9 : W (cof before.length before bits) before.length [] = hs (bits.filter (· == 48)).length (bits.filter (· == 49)).length := by
          have e : W (cof before.length before bits) before.length [] = W (cof before.length before bits) 0 [] := by rw [h0]
          rw [e]
          show hs (cof before.length before bits []).1 (cof before.length before bits []).2 = _
          rw [cn]
        rw [← k9] at k8
        rw [prh] at k6
        refine v_andT (v_B (v_bin (v_var rfl) v_ret (z := .bl true) ?_)) (v_orT (v_B (v_call (v_cons (v_var rfl) (v_cons (v_call (v_cons (v_tup (v_cons v_ret (v_cons v_ret v_nil)) l2) (v_cons (v_var rfl) v_nil)) k6) v_nil)) k7))
          (v_B (v_bin (v_var rfl) (v_call (v_cons (count_ev (by omega) rfl rfl rfl) (v_cons (count_ev (by omega) rfl rfl rfl) v_nil)) k8) (ne_self _))))
        rw [o_eqI, h0]; rfl
      · refine v_andTF (v_B (v_bin (v_var rfl) v_ret (z := .bl false) ?_))
        rw [o_eqI, show (((before.length : Nat) : Int) == 0) = false from by rw [beq_eq_false_iff_ne]; omega]
  · obtain ⟨ρ, S5, e5, T5⟩ := tend_ev T3 (by omega) (.val (.int (before.length : Nat))) (.val (.str before)) (.val (.str bits)) (.val (pr (W (cof before.length before bits) before.length []))) (.val (pr (W (cof before.length before (bits ++ [49])) before.length [] / W (cof before.length before bits) before.length []))) (.val (pr (G (cof before.length before bits) before.length []).1)) (.val (tD (G (cof before.length before bits) before.length []).2)) (.val (.lst (rows.map pr))) .un .un .un .un .un .un .un
    refine v_seqP (v_sIfF (v_B (v_bin (v_var rfl) v_ret (z := .bl false) ?_)) v_sNil) ⟨ρ, S5, e5, T5.mono (by omega)⟩
    show some (D.bl (decide (((before.length : Nat) : Int) < 2))) = _
    rw [decide_eq_false (by omega)]
end LW

set_option Elab.async false
set_option linter.all false
set_option maxRecDepth 100000
set_option maxHeartbeats 1000000
namespace LW
open PySem PySem.Spec PyProof.Rows L2 DL
theorem law_true (ns : List Int) (h : ns.length ≤ 63) : ∃ S', F_law [.scr ns] [] = some (.bl true, S') := by
  obtain ⟨S1, e1, T1⟩ := tape_ev ns h
  obtain ⟨S2, e2, T2⟩ := trees_right T1 (by decide)
  obtain ⟨S3, e3⟩ := voices_right T2 (by decide)
  refine ⟨S3, ?_⟩
  unfold F_law
  apply v_run
  unfold B_law
  exact v_seq (v_set (v_call (v_cons (v_var rfl) v_nil) e1)) (v_rt (v_and (v_call (v_cons (v_var rfl) v_nil) e2) (v_call (v_cons (v_var rfl) v_nil) e3)))
end LW

set_option Elab.async false
set_option linter.all false
set_option maxRecDepth 100000
namespace LW
open PySem PySem.Spec PyProof.Rows L2 DL
def top (i : Nat) : Stmt := PySem.Challenge.pw_fewestbits_k58_whole_models_with_bits_ex.main.body.getD i (.Pass ⟨0, 0, 0, 0⟩)
abbrev s_is_bits : Stmt := top 5
abbrev s_check_bits : Stmt := top 6
abbrev s_power : Stmt := top 8
abbrev s_share : Stmt := top 12
abbrev s_plus : Stmt := top 13
abbrev s_times : Stmt := top 14
abbrev s_over : Stmt := top 15
abbrev s_less : Stmt := top 16
abbrev s_sum_of : Stmt := top 17
abbrev s_bits_for : Stmt := top 18
abbrev s_share_text : Stmt := top 19
abbrev s_half_share : Stmt := top 22
abbrev s_best_share : Stmt := top 23
abbrev s_contexts_of : Stmt := top 24
abbrev s_weighed : Stmt := top 26
abbrev s_tree_share : Stmt := top 25
abbrev s_trees_of : Stmt := top 27
abbrev s_share_by : Stmt := top 28
abbrev s_weight_of : Stmt := top 29
abbrev s_greatest : Stmt := top 31
abbrev s_best_tree : Stmt := top 30
abbrev s_next_share : Stmt := top 32
abbrev s_check_voices : Stmt := top 33
abbrev s_voice_share : Stmt := top 34
abbrev s_mixed_share : Stmt := top 35
abbrev s_heard : Stmt := top 36
abbrev s_said_next : Stmt := top 37
abbrev s_most_lost : Stmt := top 38
abbrev s_half_lost : Stmt := top 39
abbrev s_switching : Stmt := top 40
abbrev s__law_tape : Stmt := top 42
abbrev s__law_take : Stmt := top 43
abbrev s__law_other : Stmt := top 44
abbrev s__law_bits : Stmt := top 45
abbrev s__law_trees_right : Stmt := top 46
abbrev s__law_row : Stmt := top 47
abbrev s__law_voices_right : Stmt := top 48
abbrev s_law : Stmt := top 49
structure Txt (K : PySem.W.Frag) (mg : Str → Option Value) : Prop where
  a_is_bits : At K mg "is_bits" "is_bits" s_is_bits ["text"]
  a_check_bits : At K mg "check_bits" "check_bits" s_check_bits ["text"]
  a_power : At K mg "power" "power" s_power ["base", "times"]
  a_share : At K mg "share" "share" s_share ["n", "d"]
  a_plus : At K mg "plus" "plus" s_plus ["a", "b"]
  a_times : At K mg "times" "times" s_times ["a", "b"]
  a_over : At K mg "over" "over" s_over ["a", "b"]
  a_less : At K mg "less" "less" s_less ["a", "b"]
  a_sum_of : At K mg "sum_of" "sum_of" s_sum_of ["row"]
  a_bits_for : At K mg "bits_for" "bits_for" s_bits_for ["a"]
  a_share_text : At K mg "share_text" "share_text" s_share_text ["a"]
  a_half_share : At K mg "half_share" "half_share" s_half_share ["noughts", "ones"]
  a_best_share : At K mg "best_share" "best_share" s_best_share ["noughts", "ones"]
  a_contexts_of : At K mg "contexts_of" "contexts_of" s_contexts_of ["bits", "depth", "before"]
  a_weighed : At K mg "weighed" "weighed" s_weighed ["counts", "context", "depth"]
  a_tree_share : At K mg "tree_share" "tree_share" s_tree_share ["bits", "depth", "before"]
  a_trees_of : At K mg "trees_of" "trees_of" s_trees_of ["depth"]
  a_share_by : At K mg "share_by" "share_by" s_share_by ["bits", "tree", "depth", "before"]
  a_weight_of : At K mg "weight_of" "weight_of" s_weight_of ["tree", "depth"]
  a_greatest : At K mg "greatest" "greatest" s_greatest ["counts", "context", "depth"]
  a_best_tree : At K mg "best_tree" "best_tree" s_best_tree ["bits", "depth", "before"]
  a_next_share : At K mg "next_share" "next_share" s_next_share ["bits", "depth", "before"]
  a_check_voices : At K mg "check_voices" "check_voices" s_check_voices ["voices", "size"]
  a_voice_share : At K mg "voice_share" "voice_share" s_voice_share ["row", "bits"]
  a_mixed_share : At K mg "mixed_share" "mixed_share" s_mixed_share ["voices", "bits"]
  a_heard : At K mg "heard" "heard" s_heard ["weights", "voices", "k", "bit"]
  a_said_next : At K mg "said_next" "said_next" s_said_next ["voices", "bits"]
  a_most_lost : At K mg "most_lost" "most_lost" s_most_lost ["voices", "bits"]
  a_half_lost : At K mg "half_lost" "half_lost" s_half_lost ["noughts", "ones"]
  a_switching : At K mg "switching" "switching" s_switching ["voices", "bits", "rate"]
  a__law_tape : At K mg "_law_tape" "_law_tape" s__law_tape ["script"]
  a__law_take : At K mg "_law_take" "_law_take" s__law_take ["tape", "many"]
  a__law_other : At K mg "_law_other" "_law_other" s__law_other ["bits"]
  a__law_bits : At K mg "_law_bits" "_law_bits" s__law_bits ["tape", "least", "most"]
  a__law_trees_right : At K mg "_law_trees_right" "_law_trees_right" s__law_trees_right ["tape"]
  a__law_row : At K mg "_law_row" "_law_row" s__law_row ["tape", "many"]
  a__law_voices_right : At K mg "_law_voices_right" "_law_voices_right" s__law_voices_right ["tape"]
  a_law : At K mg "law" "law" s_law ["script"]
  b_abs : mg "abs" = none
  b_all : mg "all" = none
  b_any : mg "any" = none
  b_enumerate : mg "enumerate" = none
  b_int : mg "int" = none
  b_len : mg "len" = none
  b_max : mg "max" = none
  b_range : mg "range" = none
  b_str : mg "str" = none
  b_tuple : mg "tuple" = none
  b_zip : mg "zip" = none
  c_MOST_DEPTH : Con K mg "MOST_DEPTH" (.int 4)
  c_ONE : Con K mg "ONE" (.tup [(.int 1), (.int 1)])
  c_ZERO : Con K mg "ZERO" (.tup [(.int 0), (.int 1)])
section
variable {P : Program} {w : World} {K : PySem.W.Frag} {mg : Str → Option Value} {base : Heap}
theorem sc_is_bits : FnScope ["text", "sign"] ["text"] (defScope s_is_bits) := ⟨rfl, rfl, rfl, by decide +kernel, rfl, by decide +kernel, by decide +kernel⟩
theorem C_is_bits (T : Txt K mg) : Cal P w K mg base (fun _ => 0) 1 "is_bits" 1 F_is_bits := by
  have sc := sc_is_bits
  refine Cal.mk' (k := 0) 2 B_is_bits T.a_is_bits sc_is_bits rfl rfl rfl rfl fun fa cdv A outer s H E hr => ?_
  exact (ds_one (ds_ret (de_clB (ch_all rfl) (by rfl) T.b_all (by decide +kernel) (da_cons (de_fz (df_lc (own := [("sign", 1)]) rfl sc.nd (di_de (de_var 0)) (blkOk_by (by kernel_rfl)) (fun _ _ _ _ _ => (dg_name 1 sc.nd)) (fun _ _ _ _ _ => dts_nil) (fun _ _ _ _ _ => (de_cmp (oh_in (r65 hr)).d (de_var 1) (de_str [48, 49]) (by rfl))) (by decide))) da_nil))))
theorem sc_check_bits : FnScope ["text"] ["text"] (defScope s_check_bits) := ⟨rfl, rfl, rfl, by decide +kernel, rfl, by decide +kernel, by decide +kernel⟩
theorem C_check_bits (T : Txt K mg) : Cal P w K mg base (fun _ => 0) 2 "check_bits" 1 F_check_bits := by
  have C_is_bits : Cal P w K mg base (fun _ => 0) 1 "is_bits" 1 F_is_bits := C_is_bits T
  have sc := sc_check_bits
  refine Cal.mk' (k := 1) 1 B_check_bits T.a_check_bits sc_check_bits rfl rfl rfl rfl fun fa cdv A outer s H E hr => ?_
  exact (ds_one (ds_if (dt_not (dt_val (de_cal C_is_bits (hr.mono (by decide)) (da_cons (de_var 0) da_nil) (len_cons len_nil)))) dss_never ds_nil))
theorem sc_power : FnScope ["base", "times", "found"] ["base", "times"] (defScope s_power) := ⟨rfl, rfl, rfl, by decide +kernel, rfl, by decide +kernel, by decide +kernel⟩
theorem C_power (T : Txt K mg) : Cal P w K mg base (fun _ => 0) 1 "power" 2 F_power := by
  have sc := sc_power
  refine Cal.mk' (k := 0) 3 B_power T.a_power sc_power rfl rfl rfl rfl fun fa cdv A outer s H E hr => ?_
  exact (ds_cons (ds_set 2 sc.nd de_int)
  (ds_cons (ds_while PassesOwn.never (dt_cmp oh_gt.d (de_var 1) de_int (nomark _)) (ds_cons (ds_if (dt_cmp (oh_eq (r64 hr)).d (de_op oh_mod.d (de_var 1) de_int) de_int (nomark _)) (ds_one (ds_set 2 sc.nd (de_op oh_mul.d (de_var 2) (de_var 0)))) ds_nil)
  (ds_cons (ds_set 0 sc.nd (de_op oh_mul.d (de_var 0) (de_var 0)))
  (ds_one (ds_aug 1 sc.nd oi_div de_int)))))
  (ds_one (ds_ret (de_var 2)))))
theorem sc_share : FnScope ["n", "d", "a", "b"] ["n", "d"] (defScope s_share) := ⟨rfl, rfl, rfl, by decide +kernel, rfl, by decide +kernel, by decide +kernel⟩
theorem C_share (T : Txt K mg) : Cal P w K mg base (fun _ => 0) 1 "share" 2 F_share := by
  have sc := sc_share
  refine Cal.mk' (k := 0) 4 B_share T.a_share sc_share rfl rfl rfl rfl fun fa cdv A outer s H E hr => ?_
  exact (ds_cons (ds_if (dt_cmp (oh_eq (r64 hr)).d (de_var 1) de_int (nomark _)) dss_never ds_nil)
  (ds_cons (ds_if (dt_cmp oh_lt.d (de_var 1) de_int (nomark _)) (ds_one (ds_par 0 1 rfl sc.nd (da_cons (de_un uh_neg (de_var 0)) (da_cons (de_un uh_neg (de_var 1)) da_nil)))) ds_nil)
  (ds_cons (ds_par 2 3 rfl sc.nd (da_cons (de_clB ch_abs (by rfl) T.b_abs (by decide +kernel) (da_cons (de_var 0) da_nil)) (da_cons (de_var 1) da_nil)))
  (ds_cons (ds_while PassesOwn.never (dt_cmp oh_gt.d (de_var 3) de_int (nomark _)) (ds_one (ds_par 2 3 rfl sc.nd (da_cons (de_var 3) (da_cons (de_op oh_mod.d (de_var 2) (de_var 3)) da_nil)))))
  (ds_one (ds_ret (de_tup (da_cons (de_op oh_div.d (de_var 0) (de_var 2)) (da_cons (de_op oh_div.d (de_var 1) (de_var 2)) da_nil)))))))))
theorem sc_plus : FnScope ["a", "b"] ["a", "b"] (defScope s_plus) := ⟨rfl, rfl, rfl, by decide +kernel, rfl, by decide +kernel, by decide +kernel⟩
theorem C_plus (T : Txt K mg) : Cal P w K mg base (fun _ => 0) 2 "plus" 2 F_plus := by
  have C_share : Cal P w K mg base (fun _ => 0) 1 "share" 2 F_share := C_share T
  have sc := sc_plus
  refine Cal.mk' (k := 1) 2 B_plus T.a_plus sc_plus rfl rfl rfl rfl fun fa cdv A outer s H E hr => ?_
  exact (ds_one (ds_ret (de_cal C_share (hr.mono (by decide)) (da_cons (de_op oh_add.d (de_op oh_mul.d (de_ix' (de_var 0) de_int) (de_ix' (de_var 1) de_int)) (de_op oh_mul.d (de_ix' (de_var 1) de_int) (de_ix' (de_var 0) de_int))) (da_cons (de_op oh_mul.d (de_ix' (de_var 0) de_int) (de_ix' (de_var 1) de_int)) da_nil)) (len_cons (len_cons len_nil)))))
theorem sc_times : FnScope ["a", "b"] ["a", "b"] (defScope s_times) := ⟨rfl, rfl, rfl, by decide +kernel, rfl, by decide +kernel, by decide +kernel⟩
theorem C_times (T : Txt K mg) : Cal P w K mg base (fun _ => 0) 2 "times" 2 F_times := by
  have C_share : Cal P w K mg base (fun _ => 0) 1 "share" 2 F_share := C_share T
  have sc := sc_times
  refine Cal.mk' (k := 1) 2 B_times T.a_times sc_times rfl rfl rfl rfl fun fa cdv A outer s H E hr => ?_
  exact (ds_one (ds_ret (de_cal C_share (hr.mono (by decide)) (da_cons (de_op oh_mul.d (de_ix' (de_var 0) de_int) (de_ix' (de_var 1) de_int)) (da_cons (de_op oh_mul.d (de_ix' (de_var 0) de_int) (de_ix' (de_var 1) de_int)) da_nil)) (len_cons (len_cons len_nil)))))
theorem sc_over : FnScope ["a", "b"] ["a", "b"] (defScope s_over) := ⟨rfl, rfl, rfl, by decide +kernel, rfl, by decide +kernel, by decide +kernel⟩
theorem C_over (T : Txt K mg) : Cal P w K mg base (fun _ => 0) 2 "over" 2 F_over := by
  have C_share : Cal P w K mg base (fun _ => 0) 1 "share" 2 F_share := C_share T
  have sc := sc_over
  refine Cal.mk' (k := 1) 2 B_over T.a_over sc_over rfl rfl rfl rfl fun fa cdv A outer s H E hr => ?_
  exact (ds_one (ds_ret (de_cal C_share (hr.mono (by decide)) (da_cons (de_op oh_mul.d (de_ix' (de_var 0) de_int) (de_ix' (de_var 1) de_int)) (da_cons (de_op oh_mul.d (de_ix' (de_var 0) de_int) (de_ix' (de_var 1) de_int)) da_nil)) (len_cons (len_cons len_nil)))))
theorem sc_less : FnScope ["a", "b"] ["a", "b"] (defScope s_less) := ⟨rfl, rfl, rfl, by decide +kernel, rfl, by decide +kernel, by decide +kernel⟩
theorem C_less (T : Txt K mg) : Cal P w K mg base (fun _ => 0) 1 "less" 2 F_less := by
  have sc := sc_less
  refine Cal.mk' (k := 0) 2 B_less T.a_less sc_less rfl rfl rfl rfl fun fa cdv A outer s H E hr => ?_
  exact (ds_one (ds_ret (de_cmp oh_lt.d (de_op oh_mul.d (de_ix' (de_var 0) de_int) (de_ix' (de_var 1) de_int)) (de_op oh_mul.d (de_ix' (de_var 1) de_int) (de_ix' (de_var 0) de_int)) (nomark _))))
theorem sc_sum_of : FnScope ["row", "total", "a"] ["row"] (defScope s_sum_of) := ⟨rfl, rfl, rfl, by decide +kernel, rfl, by decide +kernel, by decide +kernel⟩
theorem C_sum_of (T : Txt K mg) : Cal P w K mg base (fun _ => 0) 3 "sum_of" 1 F_sum_of := by
  have C_plus : Cal P w K mg base (fun _ => 0) 2 "plus" 2 F_plus := C_plus T
  have sc := sc_sum_of
  refine Cal.mk' (k := 2) 3 B_sum_of T.a_sum_of sc_sum_of rfl rfl rfl rfl fun fa cdv A outer s H E hr => ?_
  exact (ds_cons (ds_set 1 sc.nd (de_con T.c_ZERO))
  (ds_cons (ds_for PassesOwn.never rfl (di_de (de_var 0)) (dg_name 2 sc.nd) (ds_one (ds_set 1 sc.nd (de_cal C_plus (hr.mono (by decide)) (da_cons (de_var 1) (da_cons (de_var 2) da_nil)) (len_cons (len_cons len_nil))))))
  (ds_one (ds_ret (de_var 1)))))
theorem sc_bits_for : FnScope ["a", "many"] ["a"] (defScope s_bits_for) := ⟨rfl, rfl, rfl, by decide +kernel, rfl, by decide +kernel, by decide +kernel⟩
theorem C_bits_for (T : Txt K mg) : Cal P w K mg base (fun _ => 0) 2 "bits_for" 1 F_bits_for := by
  have C_less : Cal P w K mg base (fun _ => 0) 1 "less" 2 F_less := C_less T
  have sc := sc_bits_for
  refine Cal.mk' (k := 1) 2 B_bits_for T.a_bits_for sc_bits_for rfl rfl rfl rfl fun fa cdv A outer s H E hr => ?_
  exact (ds_cons (ds_if (dt_w (dw_or (dt_cmp oh_le.d (de_ix' (de_var 0) de_int) de_int (nomark _)) (dw_or1 (dt_val (de_cal C_less (hr.mono (by decide)) (da_cons (de_con T.c_ONE) (da_cons (de_var 0) da_nil)) (len_cons (len_cons len_nil))))))) dss_never ds_nil)
  (ds_cons (ds_set 1 sc.nd de_int)
  (ds_cons (ds_while PassesOwn.never (dt_cmp oh_lt.d (de_op oh_shl.d (de_ix' (de_var 0) de_int) (de_var 1)) (de_ix' (de_var 0) de_int) (nomark _)) (ds_one (ds_aug 1 sc.nd oi_add de_int)))
  (ds_one (ds_ret (de_var 1))))))
theorem sc_share_text : FnScope ["a"] ["a"] (defScope s_share_text) := ⟨rfl, rfl, rfl, by decide +kernel, rfl, by decide +kernel, by decide +kernel⟩
theorem C_share_text (T : Txt K mg) : Cal P w K mg base (fun _ => 0) 1 "share_text" 1 F_share_text := by
  have sc := sc_share_text
  refine Cal.mk' (k := 0) 1 B_share_text T.a_share_text sc_share_text rfl rfl rfl rfl fun fa cdv A outer s H E hr => ?_
  exact (ds_one (ds_ret (de_if (dt_cmp (oh_eq (r64 hr)).d (de_ix' (de_var 0) de_int) de_int (nomark _)) (de_clT ch_str (by rfl) T.b_str boot_str (da_cons (de_ix' (de_var 0) de_int) da_nil)) (de_op oh_add.d (de_op oh_add.d (de_clT ch_str (by rfl) T.b_str boot_str (da_cons (de_ix' (de_var 0) de_int) da_nil)) (de_str [47])) (de_clT ch_str (by rfl) T.b_str boot_str (da_cons (de_ix' (de_var 0) de_int) da_nil))))))
theorem sc_half_share : FnScope ["noughts", "ones", "found", "k"] ["noughts", "ones"] (defScope s_half_share) := ⟨rfl, rfl, rfl, by decide +kernel, rfl, by decide +kernel, by decide +kernel⟩
theorem C_half_share (T : Txt K mg) : Cal P w K mg base (fun _ => 0) 3 "half_share" 2 F_half_share := by
  have C_share : Cal P w K mg base (fun _ => 0) 1 "share" 2 F_share := C_share T
  have C_times : Cal P w K mg base (fun _ => 0) 2 "times" 2 F_times := C_times T
  have sc := sc_half_share
  refine Cal.mk' (k := 2) 4 B_half_share T.a_half_share sc_half_share rfl rfl rfl rfl fun fa cdv A outer s H E hr => ?_
  exact (ds_cons (ds_if (dt_w (dw_or (dt_cmp oh_lt.d (de_var 0) de_int (nomark _)) (dw_or (dt_cmp oh_lt.d (de_var 1) de_int (nomark _)) (dw_or1 (dt_cmp oh_gt.d (de_op oh_add.d (de_var 0) (de_var 1)) de_int (nomark _)))))) dss_never ds_nil)
  (ds_cons (ds_set 2 sc.nd (de_con T.c_ONE))
  (ds_cons (ds_for PassesOwn.never rfl (di_range1 (by rfl) T.b_range (da_cons (de_var 0) da_nil)) (dg_name 3 sc.nd) (ds_one (ds_set 2 sc.nd (de_cal C_times (hr.mono (by decide)) (da_cons (de_var 2) (da_cons (de_cal C_share (hr.mono (by decide)) (da_cons (de_op oh_add.d (de_op oh_mul.d de_int (de_var 3)) de_int) (da_cons (de_op oh_mul.d de_int (de_op oh_add.d (de_var 3) de_int)) da_nil)) (len_cons (len_cons len_nil))) da_nil)) (len_cons (len_cons len_nil))))))
  (ds_cons (ds_for PassesOwn.never rfl (di_range1 (by rfl) T.b_range (da_cons (de_var 1) da_nil)) (dg_name 3 sc.nd) (ds_one (ds_set 2 sc.nd (de_cal C_times (hr.mono (by decide)) (da_cons (de_var 2) (da_cons (de_cal C_share (hr.mono (by decide)) (da_cons (de_op oh_add.d (de_op oh_mul.d de_int (de_var 3)) de_int) (da_cons (de_op oh_mul.d de_int (de_op oh_add.d (de_op oh_add.d (de_var 0) (de_var 3)) de_int)) da_nil)) (len_cons (len_cons len_nil))) da_nil)) (len_cons (len_cons len_nil))))))
  (ds_one (ds_ret (de_var 2)))))))
theorem sc_best_share : FnScope ["noughts", "ones", "total"] ["noughts", "ones"] (defScope s_best_share) := ⟨rfl, rfl, rfl, by decide +kernel, rfl, by decide +kernel, by decide +kernel⟩
theorem C_best_share (T : Txt K mg) : Cal P w K mg base (fun _ => 0) 2 "best_share" 2 F_best_share := by
  have C_power : Cal P w K mg base (fun _ => 0) 1 "power" 2 F_power := C_power T
  have C_share : Cal P w K mg base (fun _ => 0) 1 "share" 2 F_share := C_share T
  have sc := sc_best_share
  refine Cal.mk' (k := 1) 3 B_best_share T.a_best_share sc_best_share rfl rfl rfl rfl fun fa cdv A outer s H E hr => ?_
  exact (ds_cons (ds_set 2 sc.nd (de_op oh_add.d (de_var 0) (de_var 1)))
  (ds_one (ds_ret (de_cal C_share (hr.mono (by decide)) (da_cons (de_op oh_mul.d (de_cal C_power (hr.mono (by decide)) (da_cons (de_var 0) (da_cons (de_var 0) da_nil)) (len_cons (len_cons len_nil))) (de_cal C_power (hr.mono (by decide)) (da_cons (de_var 1) (da_cons (de_var 1) da_nil)) (len_cons (len_cons len_nil)))) (da_cons (de_cal C_power (hr.mono (by decide)) (da_cons (de_var 2) (da_cons (de_var 2) da_nil)) (len_cons (len_cons len_nil))) da_nil)) (len_cons (len_cons len_nil))))))
theorem sc_contexts_of : FnScope ["bits", "depth", "before", "found", "whole", "at", "size", "context", "noughts", "ones"] ["bits", "depth", "before"] (defScope s_contexts_of) := ⟨rfl, rfl, rfl, by decide +kernel, rfl, by decide +kernel, by decide +kernel⟩
theorem C_contexts_of (T : Txt K mg) : Cal P w K mg base (fun _ => 0) 3 "contexts_of" 3 F_contexts_of := by
  have C_check_bits : Cal P w K mg base (fun _ => 0) 2 "check_bits" 1 F_check_bits := C_check_bits T
  have sc := sc_contexts_of
  refine Cal.mk' (k := 2) 10 B_contexts_of T.a_contexts_of sc_contexts_of rfl rfl rfl rfl fun fa cdv A outer s H E hr => ?_
  exact (ds_cons (ds_expr (de_cal C_check_bits (hr.mono (by decide)) (da_cons (de_var 0) da_nil) (len_cons len_nil)))
  (ds_cons (ds_expr (de_cal C_check_bits (hr.mono (by decide)) (da_cons (de_var 2) da_nil) (len_cons len_nil)))
  (ds_cons (ds_if (dt_w (dw_or (dt_not (dt_chain oh_le.d oh_le.d de_int (de_var 1) (de_con T.c_MOST_DEPTH))) (dw_or1 (dt_cmp (oh_ne (r64 hr)).d (de_clB ch_len (by rfl) T.b_len boot_len (da_cons (de_var 2) da_nil)) (de_var 1) (nomark _))))) dss_never ds_nil)
  (ds_cons (ds_ownK 3 sc.nd df_dnew)
  (ds_cons (ds_set 4 sc.nd (de_op oh_add.d (de_var 2) (de_var 0)))
  (ds_cons (ds_for PassesOwn.never rfl (di_range2 (by rfl) T.b_range (da_cons (de_var 1) (da_cons (de_clB ch_len (by rfl) T.b_len boot_len (da_cons (de_var 4) da_nil)) da_nil))) (dg_name 5 sc.nd) (ds_one (ds_for PassesOwn.never rfl (di_range1 (by rfl) T.b_range (da_cons (de_op oh_add.d (de_var 1) de_int) da_nil)) (dg_name 6 sc.nd) (ds_cons (ds_set 7 sc.nd (de_rev (de_slice (de_var 4) (do_some (de_op oh_sub.d (de_var 5) (de_var 6))) (do_some (de_var 5)))))
  (ds_cons (ds_asg (dg_tup rfl (dgs_cons (dg_name 8 sc.nd) (dgs_cons (dg_name 9 sc.nd) dgs_nil)) (hu := (len_cs (len_cs (fun _ _ _ => len_nl))))) (de_dget2L 3 (r1 hr) (pv 3) (de_var 7) (de_tup (da_cons de_int (da_cons de_int da_nil))) m2))
  (ds_one (ds_dputL 3 (r1 hr) (pv 3) (de_var 7) (de_if (dt_cmp (oh_eq (r64 hr)).d (de_ix' (de_var 4) (de_var 5)) (de_str [48]) (nomark _)) (de_tup (da_cons (de_op oh_add.d (de_var 8) de_int) (da_cons (de_var 9) da_nil))) (de_tup (da_cons (de_var 8) (da_cons (de_op oh_add.d (de_var 9) de_int) da_nil)))))))))))
  (ds_one (ds_ret (de_out 3)))))))))
theorem sc_weighed : FnScope ["counts", "context", "depth", "noughts", "ones", "own", "both"] ["counts", "context", "depth"] (defScope s_weighed) := ⟨rfl, rfl, rfl, by decide +kernel, rfl, by decide +kernel, by decide +kernel⟩
theorem C_weighed (T : Txt K mg) : ∀ d : Nat, Cal P w K mg base (fun _ => 0) (4 + d) "weighed" 3 (F_weighed d)
  | 0 => Cal.zero T.a_weighed rfl
  | d + 1 => by
    have C_half_share : Cal P w K mg base (fun _ => 0) 3 "half_share" 2 F_half_share := C_half_share T
    have C_plus : Cal P w K mg base (fun _ => 0) 2 "plus" 2 F_plus := C_plus T
    have C_times : Cal P w K mg base (fun _ => 0) 2 "times" 2 F_times := C_times T
    have CR : Cal P w K mg base (fun _ => 0) (4 + d) "weighed" 3 (F_weighed d) := C_weighed T d
    have sc := sc_weighed
    refine Cal.mk' (k := 4 + d) 7 (B_weighed (F_weighed d)) T.a_weighed sc_weighed rfl rfl rfl rfl fun fa cdv A outer s H E hr => ?_
    exact (ds_cons (ds_asg (dg_tup rfl (dgs_cons (dg_name 3 sc.nd) (dgs_cons (dg_name 4 sc.nd) dgs_nil)) (hu := (len_cs (len_cs (fun _ _ _ => len_nl))))) (de_dget2 (r1 hr) (de_var 0) (de_var 1) (de_tup (da_cons de_int (da_cons de_int da_nil))) m2))
  (ds_cons (ds_set 5 sc.nd (de_cal C_half_share (hr.mono (by omega)) (da_cons (de_var 3) (da_cons (de_var 4) da_nil)) (len_cons (len_cons len_nil))))
  (ds_cons (ds_if (dt_cmp (oh_eq (r64 hr)).d (de_clB ch_len (by rfl) T.b_len boot_len (da_cons (de_var 1) da_nil)) (de_var 2) (nomark _)) (ds_one (ds_ret (de_var 5))) ds_nil)
  (ds_cons (ds_set 6 sc.nd (de_cal C_times (hr.mono (by omega)) (da_cons (de_cal CR (hr.mono (by omega)) (da_cons (de_var 0) (da_cons (de_op oh_add.d (de_var 1) (de_str [48])) (da_cons (de_var 2) da_nil))) (len_cons (len_cons (len_cons len_nil)))) (da_cons (de_cal CR (hr.mono (by omega)) (da_cons (de_var 0) (da_cons (de_op oh_add.d (de_var 1) (de_str [49])) (da_cons (de_var 2) da_nil))) (len_cons (len_cons (len_cons len_nil)))) da_nil)) (len_cons (len_cons len_nil))))
  (ds_one (ds_ret (de_cal C_times (hr.mono (by omega)) (da_cons (de_tup (da_cons de_int (da_cons de_int da_nil))) (da_cons (de_cal C_plus (hr.mono (by omega)) (da_cons (de_var 5) (da_cons (de_var 6) da_nil)) (len_cons (len_cons len_nil))) da_nil)) (len_cons (len_cons len_nil)))))))))
theorem sc_tree_share : FnScope ["bits", "depth", "before", "counts"] ["bits", "depth", "before"] (defScope s_tree_share) := ⟨rfl, rfl, rfl, by decide +kernel, rfl, by decide +kernel, by decide +kernel⟩
theorem C_tree_share (T : Txt K mg) : Cal P w K mg base (fun _ => 0) 8 "tree_share" 3 F_tree_share := by
  have C_contexts_of : Cal P w K mg base (fun _ => 0) 3 "contexts_of" 3 F_contexts_of := C_contexts_of T
  have C_weighed : Cal P w K mg base (fun _ => 0) 7 "weighed" 3 (F_weighed 3) := C_weighed T 3
  have sc := sc_tree_share
  refine Cal.mk' (k := 7) 4 B_tree_share T.a_tree_share sc_tree_share rfl rfl rfl rfl fun fa cdv A outer s H E hr => ?_
  exact (ds_cons (ds_set 3 sc.nd (de_cal C_contexts_of (hr.mono (by decide)) (da_cons (de_var 0) (da_cons (de_var 1) (da_cons (de_var 2) da_nil))) (len_cons (len_cons (len_cons len_nil)))))
  (ds_one (ds_ret (de_cal C_weighed (hr.mono (by decide)) (da_cons (de_var 3) (da_cons (de_str []) (da_cons (de_var 1) da_nil))) (len_cons (len_cons (len_cons len_nil)))))))
theorem sc_trees_of : FnScope ["depth", "inner", "found", "one", "other", "leaf"] ["depth"] (defScope s_trees_of) := ⟨rfl, rfl, rfl, by decide +kernel, rfl, by decide +kernel, by decide +kernel⟩
theorem C_trees_of (T : Txt K mg) : ∀ d : Nat, Cal P w K mg base (fun _ => 0) (1 + d) "trees_of" 1 (F_trees_of d)
  | 0 => Cal.zero T.a_trees_of rfl
  | d + 1 => by
    have CR : Cal P w K mg base (fun _ => 0) (1 + d) "trees_of" 1 (F_trees_of d) := C_trees_of T d
    have sc := sc_trees_of
    refine Cal.mk' (k := 1 + d) 6 (B_trees_of (F_trees_of d)) T.a_trees_of sc_trees_of rfl rfl rfl rfl fun fa cdv A outer s H E hr => ?_
    exact (ds_cons (ds_if (dt_cmp (oh_eq (r64 hr)).d (de_var 0) de_int (nomark _)) (ds_one (ds_ret (de_fz (df_lst (da_cons (de_tup (da_cons (de_str []) da_nil)) da_nil))))) ds_nil)
  (ds_cons (ds_set 1 sc.nd (de_cal CR (hr.mono (by omega)) (da_cons (de_op oh_sub.d (de_var 0) de_int) da_nil) (len_cons len_nil)))
  (ds_cons (ds_own 2 sc.nd (df_lst (da_cons (de_tup (da_cons (de_str []) da_nil)) da_nil)))
  (ds_cons (ds_for PassesOwn.never rfl (di_de (de_var 1)) (dg_name 3 sc.nd) (ds_one (ds_for PassesOwn.never rfl (di_de (de_var 1)) (dg_name 4 sc.nd) (ds_one (ds_expr (de_mtL 2 mo_append PySem.F.slot_list_append PySem.F.type_list_append (pv 2) (de_clT ch_tuple (by rfl) T.b_tuple boot_tuple (da_cons (de_op oh_add.d (de_fz (df_lc (own := [("leaf", 5)]) rfl sc.nd (di_de (de_var 3)) (blkOk_by (by kernel_rfl)) (fun _ _ _ _ _ => (dg_name 5 sc.nd)) (fun _ _ _ _ _ => dts_nil) (fun _ _ _ _ _ => (de_op oh_add.d (de_str [48]) (de_var 5))) (by decide))) (de_fz (df_lc (own := [("leaf", 5)]) rfl sc.nd (di_de (de_var 4)) (blkOk_by (by kernel_rfl)) (fun _ _ _ _ _ => (dg_name 5 sc.nd)) (fun _ _ _ _ _ => dts_nil) (fun _ _ _ _ _ => (de_op oh_add.d (de_str [49]) (de_var 5))) (by decide)))) da_nil))))))))
  (ds_one (ds_ret (de_out 2)))))))
theorem sc_share_by : FnScope ["bits", "tree", "depth", "before", "counts", "found", "leaf", "noughts", "ones"] ["bits", "tree", "depth", "before"] (defScope s_share_by) := ⟨rfl, rfl, rfl, by decide +kernel, rfl, by decide +kernel, by decide +kernel⟩
theorem C_share_by (T : Txt K mg) : Cal P w K mg base (fun _ => 0) 4 "share_by" 4 F_share_by := by
  have C_contexts_of : Cal P w K mg base (fun _ => 0) 3 "contexts_of" 3 F_contexts_of := C_contexts_of T
  have C_half_share : Cal P w K mg base (fun _ => 0) 3 "half_share" 2 F_half_share := C_half_share T
  have C_times : Cal P w K mg base (fun _ => 0) 2 "times" 2 F_times := C_times T
  have sc := sc_share_by
  refine Cal.mk' (k := 3) 9 B_share_by T.a_share_by sc_share_by rfl rfl rfl rfl fun fa cdv A outer s H E hr => ?_
  exact (ds_cons (ds_set 4 sc.nd (de_cal C_contexts_of (hr.mono (by decide)) (da_cons (de_var 0) (da_cons (de_var 2) (da_cons (de_var 3) da_nil))) (len_cons (len_cons (len_cons len_nil)))))
  (ds_cons (ds_set 5 sc.nd (de_con T.c_ONE))
  (ds_cons (ds_for PassesOwn.never rfl (di_de (de_var 1)) (dg_name 6 sc.nd) (ds_cons (ds_asg (dg_tup rfl (dgs_cons (dg_name 7 sc.nd) (dgs_cons (dg_name 8 sc.nd) dgs_nil)) (hu := (len_cs (len_cs (fun _ _ _ => len_nl))))) (de_dget2 (r1 hr) (de_var 4) (de_var 6) (de_tup (da_cons de_int (da_cons de_int da_nil))) m2))
  (ds_one (ds_set 5 sc.nd (de_cal C_times (hr.mono (by decide)) (da_cons (de_var 5) (da_cons (de_cal C_half_share (hr.mono (by decide)) (da_cons (de_var 7) (da_cons (de_var 8) da_nil)) (len_cons (len_cons len_nil))) da_nil)) (len_cons (len_cons len_nil)))))))
  (ds_one (ds_ret (de_var 5))))))
theorem sc_weight_of : FnScope ["tree", "depth", "inner", "short", "leaf"] ["tree", "depth"] (defScope s_weight_of) := ⟨rfl, rfl, rfl, by decide +kernel, rfl, by decide +kernel, by decide +kernel⟩
theorem C_weight_of (T : Txt K mg) : Cal P w K mg base (fun _ => 0) 2 "weight_of" 2 F_weight_of := by
  have C_share : Cal P w K mg base (fun _ => 0) 1 "share" 2 F_share := C_share T
  have sc := sc_weight_of
  refine Cal.mk' (k := 1) 5 B_weight_of T.a_weight_of sc_weight_of rfl rfl rfl rfl fun fa cdv A outer s H E hr => ?_
  exact (ds_cons (ds_set 2 sc.nd (de_op oh_sub.d (de_clB ch_len (by rfl) T.b_len boot_len (da_cons (de_var 0) da_nil)) de_int))
  (ds_cons (ds_set 3 sc.nd (de_clB ch_len (by rfl) T.b_len boot_len (da_cons (de_fz (df_lc (own := [("leaf", 4)]) rfl sc.nd (di_de (de_var 0)) (blkOk_by (by kernel_rfl)) (fun _ _ _ _ _ => (dg_name 4 sc.nd)) (fun _ _ _ _ _ => (dts_one (dt_cmp oh_lt.d (de_clB ch_len (by rfl) T.b_len boot_len (da_cons (de_var 4) da_nil)) (de_var 1) (nomark _)))) (fun _ _ _ _ _ => (de_var 4)) (by decide))) da_nil)))
  (ds_one (ds_ret (de_cal C_share (hr.mono (by decide)) (da_cons de_int (da_cons (de_op oh_shl.d de_int (de_op oh_add.d (de_var 2) (de_var 3))) da_nil)) (len_cons (len_cons len_nil)))))))
theorem sc_greatest : FnScope ["counts", "context", "depth", "noughts", "ones", "own", "low", "high", "both", "alone", "leaf"] ["counts", "context", "depth"] (defScope s_greatest) := ⟨rfl, rfl, rfl, by decide +kernel, rfl, by decide +kernel, by decide +kernel⟩
theorem C_greatest (T : Txt K mg) : ∀ d : Nat, Cal P w K mg base (fun _ => 0) (4 + d) "greatest" 3 (F_greatest d)
  | 0 => Cal.zero T.a_greatest rfl
  | d + 1 => by
    have C_half_share : Cal P w K mg base (fun _ => 0) 3 "half_share" 2 F_half_share := C_half_share T
    have C_less : Cal P w K mg base (fun _ => 0) 1 "less" 2 F_less := C_less T
    have C_times : Cal P w K mg base (fun _ => 0) 2 "times" 2 F_times := C_times T
    have CR : Cal P w K mg base (fun _ => 0) (4 + d) "greatest" 3 (F_greatest d) := C_greatest T d
    have sc := sc_greatest
    refine Cal.mk' (k := 4 + d) 11 (B_greatest (F_greatest d)) T.a_greatest sc_greatest rfl rfl rfl rfl fun fa cdv A outer s H E hr => ?_
    exact (ds_cons (ds_asg (dg_tup rfl (dgs_cons (dg_name 3 sc.nd) (dgs_cons (dg_name 4 sc.nd) dgs_nil)) (hu := (len_cs (len_cs (fun _ _ _ => len_nl))))) (de_dget2 (r1 hr) (de_var 0) (de_var 1) (de_tup (da_cons de_int (da_cons de_int da_nil))) m2))
  (ds_cons (ds_set 5 sc.nd (de_cal C_half_share (hr.mono (by omega)) (da_cons (de_var 3) (da_cons (de_var 4) da_nil)) (len_cons (len_cons len_nil))))
  (ds_cons (ds_if (dt_cmp (oh_eq (r64 hr)).d (de_clB ch_len (by rfl) T.b_len boot_len (da_cons (de_var 1) da_nil)) (de_var 2) (nomark _)) (ds_one (ds_ret (de_tup (da_cons (de_var 5) (da_cons (de_tup (da_cons (de_str []) da_nil)) da_nil))))) ds_nil)
  (ds_cons (ds_par 6 7 rfl sc.nd (da_cons (de_cal CR (hr.mono (by omega)) (da_cons (de_var 0) (da_cons (de_op oh_add.d (de_var 1) (de_str [48])) (da_cons (de_var 2) da_nil))) (len_cons (len_cons (len_cons len_nil)))) (da_cons (de_cal CR (hr.mono (by omega)) (da_cons (de_var 0) (da_cons (de_op oh_add.d (de_var 1) (de_str [49])) (da_cons (de_var 2) da_nil))) (len_cons (len_cons (len_cons len_nil)))) da_nil)))
  (ds_cons (ds_set 8 sc.nd (de_cal C_times (hr.mono (by omega)) (da_cons (de_cal C_times (hr.mono (by omega)) (da_cons (de_tup (da_cons de_int (da_cons de_int da_nil))) (da_cons (de_ix' (de_var 6) de_int) da_nil)) (len_cons (len_cons len_nil))) (da_cons (de_ix' (de_var 7) de_int) da_nil)) (len_cons (len_cons len_nil))))
  (ds_cons (ds_set 9 sc.nd (de_cal C_times (hr.mono (by omega)) (da_cons (de_tup (da_cons de_int (da_cons de_int da_nil))) (da_cons (de_var 5) da_nil)) (len_cons (len_cons len_nil))))
  (ds_cons (ds_if (dt_val (de_cal C_less (hr.mono (by omega)) (da_cons (de_var 9) (da_cons (de_var 8) da_nil)) (len_cons (len_cons len_nil)))) (ds_one (ds_ret (de_tup (da_cons (de_var 8) (da_cons (de_clT ch_tuple (by rfl) T.b_tuple boot_tuple (da_cons (de_op oh_add.d (de_fz (df_lc (own := [("leaf", 10)]) rfl sc.nd (di_de (de_ix' (de_var 6) de_int)) (blkOk_by (by kernel_rfl)) (fun _ _ _ _ _ => (dg_name 10 sc.nd)) (fun _ _ _ _ _ => dts_nil) (fun _ _ _ _ _ => (de_op oh_add.d (de_str [48]) (de_var 10))) (by decide))) (de_fz (df_lc (own := [("leaf", 10)]) rfl sc.nd (di_de (de_ix' (de_var 7) de_int)) (blkOk_by (by kernel_rfl)) (fun _ _ _ _ _ => (dg_name 10 sc.nd)) (fun _ _ _ _ _ => dts_nil) (fun _ _ _ _ _ => (de_op oh_add.d (de_str [49]) (de_var 10))) (by decide)))) da_nil)) da_nil))))) ds_nil)
  (ds_one (ds_ret (de_tup (da_cons (de_var 9) (da_cons (de_tup (da_cons (de_str []) da_nil)) da_nil))))))))))))
theorem sc_best_tree : FnScope ["bits", "depth", "before", "counts"] ["bits", "depth", "before"] (defScope s_best_tree) := ⟨rfl, rfl, rfl, by decide +kernel, rfl, by decide +kernel, by decide +kernel⟩
theorem C_best_tree (T : Txt K mg) : Cal P w K mg base (fun _ => 0) 8 "best_tree" 3 F_best_tree := by
  have C_contexts_of : Cal P w K mg base (fun _ => 0) 3 "contexts_of" 3 F_contexts_of := C_contexts_of T
  have C_greatest : Cal P w K mg base (fun _ => 0) 7 "greatest" 3 (F_greatest 3) := C_greatest T 3
  have sc := sc_best_tree
  refine Cal.mk' (k := 7) 4 B_best_tree T.a_best_tree sc_best_tree rfl rfl rfl rfl fun fa cdv A outer s H E hr => ?_
  exact (ds_cons (ds_set 3 sc.nd (de_cal C_contexts_of (hr.mono (by decide)) (da_cons (de_var 0) (da_cons (de_var 1) (da_cons (de_var 2) da_nil))) (len_cons (len_cons (len_cons len_nil)))))
  (ds_one (ds_ret (de_cal C_greatest (hr.mono (by decide)) (da_cons (de_var 3) (da_cons (de_str []) (da_cons (de_var 1) da_nil))) (len_cons (len_cons (len_cons len_nil)))))))
theorem sc_next_share : FnScope ["bits", "depth", "before"] ["bits", "depth", "before"] (defScope s_next_share) := ⟨rfl, rfl, rfl, by decide +kernel, rfl, by decide +kernel, by decide +kernel⟩
theorem C_next_share (T : Txt K mg) : Cal P w K mg base (fun _ => 0) 9 "next_share" 3 F_next_share := by
  have C_over : Cal P w K mg base (fun _ => 0) 2 "over" 2 F_over := C_over T
  have C_tree_share : Cal P w K mg base (fun _ => 0) 8 "tree_share" 3 F_tree_share := C_tree_share T
  have sc := sc_next_share
  refine Cal.mk' (k := 8) 3 B_next_share T.a_next_share sc_next_share rfl rfl rfl rfl fun fa cdv A outer s H E hr => ?_
  exact (ds_one (ds_ret (de_cal C_over (hr.mono (by decide)) (da_cons (de_cal C_tree_share (hr.mono (by decide)) (da_cons (de_op oh_add.d (de_var 0) (de_str [49])) (da_cons (de_var 1) (da_cons (de_var 2) da_nil))) (len_cons (len_cons (len_cons len_nil)))) (da_cons (de_cal C_tree_share (hr.mono (by decide)) (da_cons (de_var 0) (da_cons (de_var 1) (da_cons (de_var 2) da_nil))) (len_cons (len_cons (len_cons len_nil)))) da_nil)) (len_cons (len_cons len_nil)))))
theorem sc_check_voices : FnScope ["voices", "size", "row", "a"] ["voices", "size"] (defScope s_check_voices) := ⟨rfl, rfl, rfl, by decide +kernel, rfl, by decide +kernel, by decide +kernel⟩
theorem C_check_voices (T : Txt K mg) : Cal P w K mg base (fun _ => 0) 2 "check_voices" 2 F_check_voices := by
  have C_less : Cal P w K mg base (fun _ => 0) 1 "less" 2 F_less := C_less T
  have sc := sc_check_voices
  refine Cal.mk' (k := 1) 4 B_check_voices T.a_check_voices sc_check_voices rfl rfl rfl rfl fun fa cdv A outer s H E hr => ?_
  exact (ds_cons (ds_if (dt_w (dw_or (dt_not (dt_truth (de_var 0))) (dw_or1 (dt_not (dt_val (de_clB (ch_all rfl) (by rfl) T.b_all (by decide +kernel) (da_cons (de_fz (df_lc (own := [("row", 2)]) rfl sc.nd (di_de (de_var 0)) (blkOk_by (by kernel_rfl)) (fun _ _ _ _ _ => (dg_name 2 sc.nd)) (fun _ _ _ _ _ => dts_nil) (fun _ _ _ _ _ => (de_cmp (oh_eq (r64 hr)).d (de_clB ch_len (by rfl) T.b_len boot_len (da_cons (de_var 2) da_nil)) (de_var 1) (nomark _))) (by decide))) da_nil))))))) dss_never ds_nil)
  (ds_one (ds_if (dt_not (dt_val (de_clB (ch_all rfl) (by rfl) T.b_all (by decide +kernel) (da_cons (de_fz (df_lc (own := [("row", 2)]) rfl sc.nd (di_de (de_var 0)) (blkOk_by (by kernel_rfl)) (fun _ _ _ _ _ => (dg_name 2 sc.nd)) (fun _ _ _ _ _ => dts_nil) (fun _ _ _ _ _ => (de_clB (ch_all rfl) (by rfl) T.b_all (by decide +kernel) (da_cons (de_fz (df_lc (own := [("a", 3)]) rfl sc.nd (di_de (de_var 2)) (blkOk_by (by kernel_rfl)) (fun _ _ _ _ _ => (dg_name 3 sc.nd)) (fun _ _ _ _ _ => dts_nil) (fun _ _ _ _ _ => (de_and (de_cal C_less (hr.mono (by decide)) (da_cons (de_con T.c_ZERO) (da_cons (de_var 3) da_nil)) (len_cons (len_cons len_nil))) (de_one (de_cal C_less (hr.mono (by decide)) (da_cons (de_var 3) (da_cons (de_con T.c_ONE) da_nil)) (len_cons (len_cons len_nil)))))) (by decide))) da_nil))) (by decide))) da_nil)))) dss_never ds_nil)))
theorem sc_voice_share : FnScope ["row", "bits", "found", "a", "bit"] ["row", "bits"] (defScope s_voice_share) := ⟨rfl, rfl, rfl, by decide +kernel, rfl, by decide +kernel, by decide +kernel⟩
theorem C_voice_share (T : Txt K mg) : Cal P w K mg base (fun _ => 0) 3 "voice_share" 2 F_voice_share := by
  have C_times : Cal P w K mg base (fun _ => 0) 2 "times" 2 F_times := C_times T
  have sc := sc_voice_share
  refine Cal.mk' (k := 2) 5 B_voice_share T.a_voice_share sc_voice_share rfl rfl rfl rfl fun fa cdv A outer s H E hr => ?_
  exact (ds_cons (ds_set 2 sc.nd (de_con T.c_ONE))
  (ds_cons (ds_for PassesOwn.never rfl (di_zip (by rfl) T.b_zip (da_cons (de_var 0) (da_cons (de_var 1) da_nil))) (dg_tup rfl (dgs_cons (dg_name 3 sc.nd) (dgs_cons (dg_name 4 sc.nd) dgs_nil)) (hu := (len_cs (len_cs (fun _ _ _ => len_nl))))) (ds_one (ds_set 2 sc.nd (de_cal C_times (hr.mono (by decide)) (da_cons (de_var 2) (da_cons (de_if (dt_cmp (oh_eq (r64 hr)).d (de_var 4) (de_str [49]) (nomark _)) (de_var 3) (de_tup (da_cons (de_op oh_sub.d (de_ix' (de_var 3) de_int) (de_ix' (de_var 3) de_int)) (da_cons (de_ix' (de_var 3) de_int) da_nil)))) da_nil)) (len_cons (len_cons len_nil))))))
  (ds_one (ds_ret (de_var 2)))))
theorem sc_mixed_share : FnScope ["voices", "bits", "row"] ["voices", "bits"] (defScope s_mixed_share) := ⟨rfl, rfl, rfl, by decide +kernel, rfl, by decide +kernel, by decide +kernel⟩
theorem C_mixed_share (T : Txt K mg) : Cal P w K mg base (fun _ => 0) 4 "mixed_share" 2 F_mixed_share := by
  have C_check_bits : Cal P w K mg base (fun _ => 0) 2 "check_bits" 1 F_check_bits := C_check_bits T
  have C_check_voices : Cal P w K mg base (fun _ => 0) 2 "check_voices" 2 F_check_voices := C_check_voices T
  have C_share : Cal P w K mg base (fun _ => 0) 1 "share" 2 F_share := C_share T
  have C_sum_of : Cal P w K mg base (fun _ => 0) 3 "sum_of" 1 F_sum_of := C_sum_of T
  have C_times : Cal P w K mg base (fun _ => 0) 2 "times" 2 F_times := C_times T
  have C_voice_share : Cal P w K mg base (fun _ => 0) 3 "voice_share" 2 F_voice_share := C_voice_share T
  have sc := sc_mixed_share
  refine Cal.mk' (k := 3) 3 B_mixed_share T.a_mixed_share sc_mixed_share rfl rfl rfl rfl fun fa cdv A outer s H E hr => ?_
  exact (ds_cons (ds_expr (de_cal C_check_bits (hr.mono (by decide)) (da_cons (de_var 1) da_nil) (len_cons len_nil)))
  (ds_cons (ds_expr (de_cal C_check_voices (hr.mono (by decide)) (da_cons (de_var 0) (da_cons (de_clB ch_len (by rfl) T.b_len boot_len (da_cons (de_var 1) da_nil)) da_nil)) (len_cons (len_cons len_nil))))
  (ds_one (ds_ret (de_cal C_times (hr.mono (by decide)) (da_cons (de_cal C_share (hr.mono (by decide)) (da_cons de_int (da_cons (de_clB ch_len (by rfl) T.b_len boot_len (da_cons (de_var 0) da_nil)) da_nil)) (len_cons (len_cons len_nil))) (da_cons (de_cal C_sum_of (hr.mono (by decide)) (da_cons (de_fz (df_lc (own := [("row", 2)]) rfl sc.nd (di_de (de_var 0)) (blkOk_by (by kernel_rfl)) (fun _ _ _ _ _ => (dg_name 2 sc.nd)) (fun _ _ _ _ _ => dts_nil) (fun _ _ _ _ _ => (de_cal C_voice_share (hr.mono (by decide)) (da_cons (de_var 2) (da_cons (de_var 1) da_nil)) (len_cons (len_cons len_nil)))) (by decide))) da_nil) (len_cons len_nil)) da_nil)) (len_cons (len_cons len_nil)))))))
theorem sc_heard : FnScope ["weights", "voices", "k", "bit", "said", "row", "weight", "a"] ["weights", "voices", "k", "bit"] (defScope s_heard) := ⟨rfl, rfl, rfl, by decide +kernel, rfl, by decide +kernel, by decide +kernel⟩
theorem C_heard (T : Txt K mg) : Cal P w K mg base (fun _ => 0) 3 "heard" 4 F_heard := by
  have C_times : Cal P w K mg base (fun _ => 0) 2 "times" 2 F_times := C_times T
  have sc := sc_heard
  refine Cal.mk' (k := 2) 8 B_heard T.a_heard sc_heard rfl rfl rfl rfl fun fa cdv A outer s H E hr => ?_
  exact (ds_cons (ds_setLc 4 (own := [("row", 5)]) rfl sc.nd rfl rfl (by rfl) (di_de (de_var 1)) (blkOk_by (by kernel_rfl)) (fun _ _ _ _ _ => (dg_name 5 sc.nd)) (fun _ _ _ _ _ => dts_nil) (fun _ _ _ _ _ => (de_if (dt_cmp (oh_eq (r64 hr)).d (de_var 3) (de_str [49]) (nomark _)) (de_ix' (de_var 5) (de_var 2)) (de_tup (da_cons (de_op oh_sub.d (de_ix' (de_ix' (de_var 5) (de_var 2)) de_int) (de_ix' (de_ix' (de_var 5) (de_var 2)) de_int)) (da_cons (de_ix' (de_ix' (de_var 5) (de_var 2)) de_int) da_nil))))) (by decide))
  (ds_one (ds_ret (de_fz (df_lc (own := [("weight", 6), ("a", 7)]) rfl sc.nd (di_zip (by rfl) T.b_zip (da_cons (de_var 0) (da_cons (de_var 4) da_nil))) (blkOk_by (by kernel_rfl)) (fun _ _ _ _ _ => (dg_tup rfl (dgs_cons (dg_name 6 sc.nd) (dgs_cons (dg_name 7 sc.nd) dgs_nil)) (hu := (len_cs (len_cs (fun _ _ _ => len_nl)))))) (fun _ _ _ _ _ => dts_nil) (fun _ _ _ _ _ => (de_cal C_times (hr.mono (by decide)) (da_cons (de_var 6) (da_cons (de_var 7) da_nil)) (len_cons (len_cons len_nil)))) (by decide))))))
theorem sc_said_next : FnScope ["voices", "bits", "weights", "found", "k", "bit", "told", "weight", "row"] ["voices", "bits"] (defScope s_said_next) := ⟨rfl, rfl, rfl, by decide +kernel, rfl, by decide +kernel, by decide +kernel⟩
theorem C_said_next (T : Txt K mg) : Cal P w K mg base (fun _ => 0) 4 "said_next" 2 F_said_next := by
  have C_check_bits : Cal P w K mg base (fun _ => 0) 2 "check_bits" 1 F_check_bits := C_check_bits T
  have C_check_voices : Cal P w K mg base (fun _ => 0) 2 "check_voices" 2 F_check_voices := C_check_voices T
  have C_heard : Cal P w K mg base (fun _ => 0) 3 "heard" 4 F_heard := C_heard T
  have C_over : Cal P w K mg base (fun _ => 0) 2 "over" 2 F_over := C_over T
  have C_share : Cal P w K mg base (fun _ => 0) 1 "share" 2 F_share := C_share T
  have C_sum_of : Cal P w K mg base (fun _ => 0) 3 "sum_of" 1 F_sum_of := C_sum_of T
  have C_times : Cal P w K mg base (fun _ => 0) 2 "times" 2 F_times := C_times T
  have sc := sc_said_next
  refine Cal.mk' (k := 3) 9 B_said_next T.a_said_next sc_said_next rfl rfl rfl rfl fun fa cdv A outer s H E hr => ?_
  exact (ds_cons (ds_expr (de_cal C_check_bits (hr.mono (by decide)) (da_cons (de_var 1) da_nil) (len_cons len_nil)))
  (ds_cons (ds_expr (de_cal C_check_voices (hr.mono (by decide)) (da_cons (de_var 0) (da_cons (de_clB ch_len (by rfl) T.b_len boot_len (da_cons (de_var 1) da_nil)) da_nil)) (len_cons (len_cons len_nil))))
  (ds_cons (ds_set 2 sc.nd (de_op oh_mul.d (de_fz (df_lst (da_cons (de_cal C_share (hr.mono (by decide)) (da_cons de_int (da_cons (de_clB ch_len (by rfl) T.b_len boot_len (da_cons (de_var 0) da_nil)) da_nil)) (len_cons (len_cons len_nil))) da_nil))) (de_clB ch_len (by rfl) T.b_len boot_len (da_cons (de_var 0) da_nil))))
  (ds_cons (ds_own 3 sc.nd (df_lst da_nil))
  (ds_cons (ds_for PassesOwn.never rfl (di_enum (by rfl) T.b_enumerate (da_cons (de_var 1) da_nil)) (dg_tup rfl (dgs_cons (dg_name 4 sc.nd) (dgs_cons (dg_name 5 sc.nd) dgs_nil)) (hu := (len_cs (len_cs (fun _ _ _ => len_nl))))) (ds_cons (ds_set 6 sc.nd (de_cal C_sum_of (hr.mono (by decide)) (da_cons (de_fz (df_lc (own := [("weight", 7), ("row", 8)]) rfl sc.nd (di_zip (by rfl) T.b_zip (da_cons (de_var 2) (da_cons (de_var 0) da_nil))) (blkOk_by (by kernel_rfl)) (fun _ _ _ _ _ => (dg_tup rfl (dgs_cons (dg_name 7 sc.nd) (dgs_cons (dg_name 8 sc.nd) dgs_nil)) (hu := (len_cs (len_cs (fun _ _ _ => len_nl)))))) (fun _ _ _ _ _ => dts_nil) (fun _ _ _ _ _ => (de_cal C_times (hr.mono (by decide)) (da_cons (de_var 7) (da_cons (de_ix' (de_var 8) (de_var 4)) da_nil)) (len_cons (len_cons len_nil)))) (by decide))) da_nil) (len_cons len_nil)))
  (ds_cons (ds_expr (de_mtL 3 mo_append PySem.F.slot_list_append PySem.F.type_list_append (pv 3) (de_cal C_over (hr.mono (by decide)) (da_cons (de_var 6) (da_cons (de_cal C_sum_of (hr.mono (by decide)) (da_cons (de_var 2) da_nil) (len_cons len_nil)) da_nil)) (len_cons (len_cons len_nil)))))
  (ds_one (ds_set 2 sc.nd (de_cal C_heard (hr.mono (by decide)) (da_cons (de_var 2) (da_cons (de_var 0) (da_cons (de_var 4) (da_cons (de_var 5) da_nil)))) (len_cons (len_cons (len_cons (len_cons len_nil))))))))))
  (ds_one (ds_ret (de_clT1 3 ch_tuple (by rfl) T.b_tuple boot_tuple (pv 3)))))))))
theorem sc_most_lost : FnScope ["voices", "bits", "best", "row", "told"] ["voices", "bits"] (defScope s_most_lost) := ⟨rfl, rfl, rfl, by decide +kernel, rfl, by decide +kernel, by decide +kernel⟩
theorem C_most_lost (T : Txt K mg) : Cal P w K mg base (fun _ => 0) 5 "most_lost" 2 F_most_lost := by
  have C_bits_for : Cal P w K mg base (fun _ => 0) 2 "bits_for" 1 F_bits_for := C_bits_for T
  have C_check_voices : Cal P w K mg base (fun _ => 0) 2 "check_voices" 2 F_check_voices := C_check_voices T
  have C_less : Cal P w K mg base (fun _ => 0) 1 "less" 2 F_less := C_less T
  have C_mixed_share : Cal P w K mg base (fun _ => 0) 4 "mixed_share" 2 F_mixed_share := C_mixed_share T
  have C_share : Cal P w K mg base (fun _ => 0) 1 "share" 2 F_share := C_share T
  have C_voice_share : Cal P w K mg base (fun _ => 0) 3 "voice_share" 2 F_voice_share := C_voice_share T
  have sc := sc_most_lost
  refine Cal.mk' (k := 4) 5 B_most_lost T.a_most_lost sc_most_lost rfl rfl rfl rfl fun fa cdv A outer s H E hr => ?_
  exact (ds_cons (ds_expr (de_cal C_check_voices (hr.mono (by decide)) (da_cons (de_var 0) (da_cons (de_clB ch_len (by rfl) T.b_len boot_len (da_cons (de_var 1) da_nil)) da_nil)) (len_cons (len_cons len_nil))))
  (ds_cons (ds_set 2 sc.nd (de_cal C_voice_share (hr.mono (by decide)) (da_cons (de_ix' (de_var 0) de_int) (da_cons (de_var 1) da_nil)) (len_cons (len_cons len_nil))))
  (ds_cons (ds_for PassesOwn.never rfl (di_de (de_var 0)) (dg_name 3 sc.nd) (ds_cons (ds_set 4 sc.nd (de_cal C_voice_share (hr.mono (by decide)) (da_cons (de_var 3) (da_cons (de_var 1) da_nil)) (len_cons (len_cons len_nil))))
  (ds_one (ds_set 2 sc.nd (de_if (dt_val (de_cal C_less (hr.mono (by decide)) (da_cons (de_var 2) (da_cons (de_var 4) da_nil)) (len_cons (len_cons len_nil)))) (de_var 4) (de_var 2))))))
  (ds_one (ds_ret (de_tup (da_cons (de_cal C_bits_for (hr.mono (by decide)) (da_cons (de_cal C_mixed_share (hr.mono (by decide)) (da_cons (de_var 0) (da_cons (de_var 1) da_nil)) (len_cons (len_cons len_nil))) da_nil) (len_cons len_nil)) (da_cons (de_cal C_bits_for (hr.mono (by decide)) (da_cons (de_var 2) da_nil) (len_cons len_nil)) (da_cons (de_cal C_bits_for (hr.mono (by decide)) (da_cons (de_cal C_share (hr.mono (by decide)) (da_cons de_int (da_cons (de_clB ch_len (by rfl) T.b_len boot_len (da_cons (de_var 0) da_nil)) da_nil)) (len_cons (len_cons len_nil))) da_nil) (len_cons len_nil)) da_nil)))))))))
theorem sc_half_lost : FnScope ["noughts", "ones"] ["noughts", "ones"] (defScope s_half_lost) := ⟨rfl, rfl, rfl, by decide +kernel, rfl, by decide +kernel, by decide +kernel⟩
theorem C_half_lost (T : Txt K mg) : Cal P w K mg base (fun _ => 0) 4 "half_lost" 2 F_half_lost := by
  have C_best_share : Cal P w K mg base (fun _ => 0) 2 "best_share" 2 F_best_share := C_best_share T
  have C_half_share : Cal P w K mg base (fun _ => 0) 3 "half_share" 2 F_half_share := C_half_share T
  have C_over : Cal P w K mg base (fun _ => 0) 2 "over" 2 F_over := C_over T
  have sc := sc_half_lost
  refine Cal.mk' (k := 3) 2 B_half_lost T.a_half_lost sc_half_lost rfl rfl rfl rfl fun fa cdv A outer s H E hr => ?_
  exact (ds_one (ds_ret (de_cal C_over (hr.mono (by decide)) (da_cons (de_cal C_best_share (hr.mono (by decide)) (da_cons (de_var 0) (da_cons (de_var 1) da_nil)) (len_cons (len_cons len_nil))) (da_cons (de_cal C_half_share (hr.mono (by decide)) (da_cons (de_var 0) (da_cons (de_var 1) da_nil)) (len_cons (len_cons len_nil))) da_nil)) (len_cons (len_cons len_nil)))))
theorem sc_switching : FnScope ["voices", "bits", "rate", "weights", "other", "stay", "k", "bit", "total", "rests", "one", "rest"] ["voices", "bits", "rate"] (defScope s_switching) := ⟨rfl, rfl, rfl, by decide +kernel, rfl, by decide +kernel, by decide +kernel⟩
theorem C_switching (T : Txt K mg) : Cal P w K mg base (fun _ => 0) 4 "switching" 3 F_switching := by
  have C_check_bits : Cal P w K mg base (fun _ => 0) 2 "check_bits" 1 F_check_bits := C_check_bits T
  have C_check_voices : Cal P w K mg base (fun _ => 0) 2 "check_voices" 2 F_check_voices := C_check_voices T
  have C_heard : Cal P w K mg base (fun _ => 0) 3 "heard" 4 F_heard := C_heard T
  have C_less : Cal P w K mg base (fun _ => 0) 1 "less" 2 F_less := C_less T
  have C_over : Cal P w K mg base (fun _ => 0) 2 "over" 2 F_over := C_over T
  have C_plus : Cal P w K mg base (fun _ => 0) 2 "plus" 2 F_plus := C_plus T
  have C_share : Cal P w K mg base (fun _ => 0) 1 "share" 2 F_share := C_share T
  have C_sum_of : Cal P w K mg base (fun _ => 0) 3 "sum_of" 1 F_sum_of := C_sum_of T
  have C_times : Cal P w K mg base (fun _ => 0) 2 "times" 2 F_times := C_times T
  have sc := sc_switching
  refine Cal.mk' (k := 3) 12 B_switching T.a_switching sc_switching rfl rfl rfl rfl fun fa cdv A outer s H E hr => ?_
  exact (ds_cons (ds_expr (de_cal C_check_bits (hr.mono (by decide)) (da_cons (de_var 1) da_nil) (len_cons len_nil)))
  (ds_cons (ds_expr (de_cal C_check_voices (hr.mono (by decide)) (da_cons (de_var 0) (da_cons (de_clB ch_len (by rfl) T.b_len boot_len (da_cons (de_var 1) da_nil)) da_nil)) (len_cons (len_cons len_nil))))
  (ds_cons (ds_if (dt_w (dw_or (dt_not (dt_val (de_cal C_less (hr.mono (by decide)) (da_cons (de_con T.c_ZERO) (da_cons (de_var 2) da_nil)) (len_cons (len_cons len_nil))))) (dw_or (dt_not (dt_val (de_cal C_less (hr.mono (by decide)) (da_cons (de_var 2) (da_cons (de_con T.c_ONE) da_nil)) (len_cons (len_cons len_nil))))) (dw_or1 (dt_cmp oh_lt.d (de_clB ch_len (by rfl) T.b_len boot_len (da_cons (de_var 0) da_nil)) de_int (nomark _)))))) dss_never ds_nil)
  (ds_cons (ds_set 3 sc.nd (de_op oh_mul.d (de_fz (df_lst (da_cons (de_cal C_share (hr.mono (by decide)) (da_cons de_int (da_cons (de_clB ch_len (by rfl) T.b_len boot_len (da_cons (de_var 0) da_nil)) da_nil)) (len_cons (len_cons len_nil))) da_nil))) (de_clB ch_len (by rfl) T.b_len boot_len (da_cons (de_var 0) da_nil))))
  (ds_cons (ds_set 4 sc.nd (de_cal C_over (hr.mono (by decide)) (da_cons (de_var 2) (da_cons (de_tup (da_cons (de_op oh_sub.d (de_clB ch_len (by rfl) T.b_len boot_len (da_cons (de_var 0) da_nil)) de_int) (da_cons de_int da_nil))) da_nil)) (len_cons (len_cons len_nil))))
  (ds_cons (ds_set 5 sc.nd (de_tup (da_cons (de_op oh_sub.d (de_ix' (de_var 2) de_int) (de_ix' (de_var 2) de_int)) (da_cons (de_ix' (de_var 2) de_int) da_nil))))
  (ds_cons (ds_for PassesOwn.never rfl (di_enum (by rfl) T.b_enumerate (da_cons (de_var 1) da_nil)) (dg_tup rfl (dgs_cons (dg_name 6 sc.nd) (dgs_cons (dg_name 7 sc.nd) dgs_nil)) (hu := (len_cs (len_cs (fun _ _ _ => len_nl))))) (ds_cons (ds_if (dt_cmp oh_gt.d (de_var 6) de_int (nomark _)) (ds_cons (ds_set 8 sc.nd (de_cal C_sum_of (hr.mono (by decide)) (da_cons (de_var 3) da_nil) (len_cons len_nil)))
  (ds_cons (ds_setLc 9 (own := [("one", 10)]) rfl sc.nd rfl rfl (by rfl) (di_de (de_var 3)) (blkOk_by (by kernel_rfl)) (fun _ _ _ _ _ => (dg_name 10 sc.nd)) (fun _ _ _ _ _ => dts_nil) (fun _ _ _ _ _ => (de_cal C_share (hr.mono (by decide)) (da_cons (de_op oh_sub.d (de_op oh_mul.d (de_ix' (de_var 8) de_int) (de_ix' (de_var 10) de_int)) (de_op oh_mul.d (de_ix' (de_var 10) de_int) (de_ix' (de_var 8) de_int))) (da_cons (de_op oh_mul.d (de_ix' (de_var 8) de_int) (de_ix' (de_var 10) de_int)) da_nil)) (len_cons (len_cons len_nil)))) (by decide))
  (ds_one (ds_setLc 3 (own := [("one", 10), ("rest", 11)]) rfl sc.nd rfl rfl (by rfl) (di_zip (by rfl) T.b_zip (da_cons (de_var 3) (da_cons (de_var 9) da_nil))) (blkOk_by (by kernel_rfl)) (fun _ _ _ _ _ => (dg_tup rfl (dgs_cons (dg_name 10 sc.nd) (dgs_cons (dg_name 11 sc.nd) dgs_nil)) (hu := (len_cs (len_cs (fun _ _ _ => len_nl)))))) (fun _ _ _ _ _ => dts_nil) (fun _ _ _ _ _ => (de_cal C_plus (hr.mono (by decide)) (da_cons (de_cal C_times (hr.mono (by decide)) (da_cons (de_var 5) (da_cons (de_var 10) da_nil)) (len_cons (len_cons len_nil))) (da_cons (de_cal C_times (hr.mono (by decide)) (da_cons (de_var 4) (da_cons (de_var 11) da_nil)) (len_cons (len_cons len_nil))) da_nil)) (len_cons (len_cons len_nil)))) (by decide))))) ds_nil)
  (ds_one (ds_set 3 sc.nd (de_cal C_heard (hr.mono (by decide)) (da_cons (de_var 3) (da_cons (de_var 0) (da_cons (de_var 6) (da_cons (de_var 7) da_nil)))) (len_cons (len_cons (len_cons (len_cons len_nil)))))))))
  (ds_one (ds_ret (de_cal C_sum_of (hr.mono (by decide)) (da_cons (de_var 3) da_nil) (len_cons len_nil)))))))))))
theorem sc__law_tape : FnScope ["script", "cells", "seed", "cell"] ["script"] (defScope s__law_tape) := ⟨rfl, rfl, rfl, by decide +kernel, rfl, by decide +kernel, by decide +kernel⟩
theorem C__law_tape (T : Txt K mg) : Cal P w K mg base (fun _ => 0) 1 "_law_tape" 1 F__law_tape := by
  have sc := sc__law_tape
  refine Cal.mk' (k := 0) 4 B__law_tape T.a__law_tape sc__law_tape rfl rfl rfl rfl fun fa cdv A outer s H E hr => ?_
  exact (ds_cons (ds_setLc 1 (own := [("cell", 3)]) rfl sc.nd rfl rfl (by rfl) (di_de (de_var 0)) (blkOk_by (by kernel_rfl)) (fun _ _ _ _ _ => (dg_name 3 sc.nd)) (fun _ _ _ _ _ => dts_nil) (fun _ _ _ _ _ => (de_clB ch_abs (by rfl) T.b_abs (by decide +kernel) (da_cons (de_clT ch_int (by rfl) T.b_int boot_int (da_cons (de_var 3) da_nil)) da_nil))) (by decide))
  (ds_cons (ds_set 2 sc.nd de_int)
  (ds_cons (ds_for PassesOwn.never rfl (di_de (de_var 1)) (dg_name 3 sc.nd) (ds_one (ds_set 2 sc.nd (de_op oh_mod.d (de_clT ch_int (by rfl) T.b_int boot_int (da_cons (de_op oh_add.d (de_op oh_mul.d (de_var 2) de_int) (de_var 3)) da_nil)) de_int))))
  (ds_one (ds_ret (de_newO (df_disp (dd_cons (de_str [99, 101, 108, 108, 115]) (de_var 1) (dd_cons (de_str [97, 116]) de_int (dd_cons (de_str [108, 101, 102, 116]) de_int (dd_cons (de_str [115, 101, 101, 100]) (de_var 2) (dd_cons (de_str [115, 97, 108, 116]) de_int dd_nil))))))))))))
theorem sc__law_take : FnScope ["tape", "many", "drawn", "mixed"] ["tape", "many"] (defScope s__law_take) := ⟨rfl, rfl, rfl, by decide +kernel, rfl, by decide +kernel, by decide +kernel⟩
theorem C__law_take (T : Txt K mg) : Cal P w K mg base (fun _ => 0) 1 "_law_take" 2 F__law_take := by
  have sc := sc__law_take
  refine Cal.mk' (k := 0) 4 B__law_take T.a__law_take sc__law_take rfl rfl rfl rfl fun fa cdv A outer s H E hr => ?_
  exact (ds_cons (ds_if (dt_w (dw_and (dt_cmp (oh_eq (r64 hr)).d (de_dget' (r1 hr) (de_var 0) (de_str [108, 101, 102, 116])) de_int (nomark _)) (dw_and1 (dt_cmp oh_lt.d (de_dget' (r1 hr) (de_var 0) (de_str [97, 116])) (de_clB ch_len (by rfl) T.b_len boot_len (da_cons (de_dget' (r1 hr) (de_var 0) (de_str [99, 101, 108, 108, 115])) da_nil)) (nomark _))))) (ds_cons (ds_dputO (r1 hr) (de_var 0) (de_str [108, 101, 102, 116]) (de_ix' (de_dget' (r1 hr) (de_var 0) (de_str [99, 101, 108, 108, 115])) (de_dget' (r1 hr) (de_var 0) (de_str [97, 116]))))
  (ds_one (ds_dputO (r1 hr) (de_var 0) (de_str [97, 116]) (de_op oh_add.d (de_dget' (r1 hr) (de_var 0) (de_str [97, 116])) de_int)))) ds_nil)
  (ds_cons (ds_if (dt_cmp oh_gt.d (de_dget' (r1 hr) (de_var 0) (de_str [108, 101, 102, 116])) de_int (nomark _)) (ds_cons (ds_set 2 sc.nd (de_op oh_mod.d (de_clT ch_int (by rfl) T.b_int boot_int (da_cons (de_dget' (r1 hr) (de_var 0) (de_str [108, 101, 102, 116])) da_nil)) (de_var 1)))
  (ds_cons (ds_dputO (r1 hr) (de_var 0) (de_str [108, 101, 102, 116]) (de_op oh_div.d (de_dget' (r1 hr) (de_var 0) (de_str [108, 101, 102, 116])) (de_var 1)))
  (ds_one (ds_ret (de_var 2))))) ds_nil)
  (ds_cons (ds_dputO (r1 hr) (de_var 0) (de_str [115, 97, 108, 116]) (de_op oh_add.d (de_dget' (r1 hr) (de_var 0) (de_str [115, 97, 108, 116])) de_int))
  (ds_cons (ds_set 3 sc.nd (de_op oh_mod.d (de_clT ch_int (by rfl) T.b_int boot_int (da_cons (de_op oh_add.d (de_op oh_mul.d (de_dget' (r1 hr) (de_var 0) (de_str [115, 101, 101, 100])) de_int) (de_op oh_mul.d (de_dget' (r1 hr) (de_var 0) (de_str [115, 97, 108, 116])) de_int)) da_nil)) de_int))
  (ds_cons (ds_set 3 sc.nd (de_op oh_mod.d (de_clT ch_int (by rfl) T.b_int boot_int (da_cons (de_op oh_add.d (de_op oh_add.d (de_op oh_mul.d (de_var 3) (de_var 3)) (de_op oh_mul.d (de_dget' (r1 hr) (de_var 0) (de_str [115, 97, 108, 116])) de_int)) de_int) da_nil)) de_int))
  (ds_one (ds_ret (de_op oh_mod.d (de_clT ch_int (by rfl) T.b_int boot_int (da_cons (de_var 3) da_nil)) (de_var 1)))))))))
theorem sc__law_other : FnScope ["bits", "bit"] ["bits"] (defScope s__law_other) := ⟨rfl, rfl, rfl, by decide +kernel, rfl, by decide +kernel, by decide +kernel⟩
theorem C__law_other (T : Txt K mg) : Cal P w K mg base (fun _ => 0) 1 "_law_other" 1 F__law_other := by
  have sc := sc__law_other
  refine Cal.mk' (k := 0) 2 B__law_other T.a__law_other sc__law_other rfl rfl rfl rfl fun fa cdv A outer s H E hr => ?_
  exact (ds_one (ds_ret (de_join (de_str []) (de_fz (df_lc (own := [("bit", 1)]) rfl sc.nd (di_de (de_var 0)) (blkOk_by (by kernel_rfl)) (fun _ _ _ _ _ => (dg_name 1 sc.nd)) (fun _ _ _ _ _ => dts_nil) (fun _ _ _ _ _ => (de_ix' (de_str [49, 48]) (de_clT ch_int (by rfl) T.b_int boot_int (da_cons (de_var 1) da_nil)))) (by decide))))))
theorem sc__law_bits : FnScope ["tape", "least", "most", "k"] ["tape", "least", "most"] (defScope s__law_bits) := ⟨rfl, rfl, rfl, by decide +kernel, rfl, by decide +kernel, by decide +kernel⟩
theorem C__law_bits (T : Txt K mg) : Cal P w K mg base (fun _ => 0) 2 "_law_bits" 3 F__law_bits := by
  have C__law_take : Cal P w K mg base (fun _ => 0) 1 "_law_take" 2 F__law_take := C__law_take T
  have sc := sc__law_bits
  refine Cal.mk' (k := 1) 4 B__law_bits T.a__law_bits sc__law_bits rfl rfl rfl rfl fun fa cdv A outer s H E hr => ?_
  exact (ds_one (ds_ret (de_join (de_str []) (de_fz (df_lc (own := [("k", 3)]) rfl sc.nd (di_range1 (by rfl) T.b_range (da_cons (de_op oh_add.d (de_var 1) (de_cal C__law_take (hr.mono (by decide)) (da_cons (de_var 0) (da_cons (de_op oh_add.d (de_op oh_sub.d (de_var 2) (de_var 1)) de_int) da_nil)) (len_cons (len_cons len_nil)))) da_nil)) (blkOk_by (by kernel_rfl)) (fun _ _ _ _ _ => (dg_name 3 sc.nd)) (fun _ _ _ _ _ => dts_nil) (fun _ _ _ _ _ => (de_ix' (de_str [48, 49]) (de_cal C__law_take (hr.mono (by decide)) (da_cons (de_var 0) (da_cons de_int da_nil)) (len_cons (len_cons len_nil))))) (by decide))))))
theorem sc__law_trees_right : FnScope ["tape", "depth", "before", "bits", "told", "one", "best", "tree", "rows", "ahead", "more", "noughts", "ones", "lost", "row", "bit"] ["tape"] (defScope s__law_trees_right) := ⟨rfl, rfl, rfl, by decide +kernel, rfl, by decide +kernel, by decide +kernel⟩
theorem C__law_trees_right (T : Txt K mg) : Cal P w K mg base (fun _ => 0) 10 "_law_trees_right" 1 F__law_trees_right := by
  have C__law_bits : Cal P w K mg base (fun _ => 0) 2 "_law_bits" 3 F__law_bits := C__law_bits T
  have C__law_other : Cal P w K mg base (fun _ => 0) 1 "_law_other" 1 F__law_other := C__law_other T
  have C__law_take : Cal P w K mg base (fun _ => 0) 1 "_law_take" 2 F__law_take := C__law_take T
  have C_best_share : Cal P w K mg base (fun _ => 0) 2 "best_share" 2 F_best_share := C_best_share T
  have C_best_tree : Cal P w K mg base (fun _ => 0) 8 "best_tree" 3 F_best_tree := C_best_tree T
  have C_half_lost : Cal P w K mg base (fun _ => 0) 4 "half_lost" 2 F_half_lost := C_half_lost T
  have C_half_share : Cal P w K mg base (fun _ => 0) 3 "half_share" 2 F_half_share := C_half_share T
  have C_less : Cal P w K mg base (fun _ => 0) 1 "less" 2 F_less := C_less T
  have C_next_share : Cal P w K mg base (fun _ => 0) 9 "next_share" 3 F_next_share := C_next_share T
  have C_plus : Cal P w K mg base (fun _ => 0) 2 "plus" 2 F_plus := C_plus T
  have C_share : Cal P w K mg base (fun _ => 0) 1 "share" 2 F_share := C_share T
  have C_share_by : Cal P w K mg base (fun _ => 0) 4 "share_by" 4 F_share_by := C_share_by T
  have C_sum_of : Cal P w K mg base (fun _ => 0) 3 "sum_of" 1 F_sum_of := C_sum_of T
  have C_times : Cal P w K mg base (fun _ => 0) 2 "times" 2 F_times := C_times T
  have C_tree_share : Cal P w K mg base (fun _ => 0) 8 "tree_share" 3 F_tree_share := C_tree_share T
  have C_trees_of : Cal P w K mg base (fun _ => 0) 4 "trees_of" 1 (F_trees_of 3) := C_trees_of T 3
  have C_weight_of : Cal P w K mg base (fun _ => 0) 2 "weight_of" 2 F_weight_of := C_weight_of T
  have sc := sc__law_trees_right
  refine Cal.mk' (k := 9) 16 B__law_trees_right T.a__law_trees_right sc__law_trees_right rfl rfl rfl rfl fun fa cdv A outer s H E hr => ?_
  exact (ds_cons (ds_set 1 sc.nd (de_cal C__law_take (hr.mono (by decide)) (da_cons (de_var 0) (da_cons de_int da_nil)) (len_cons (len_cons len_nil))))
  (ds_cons (ds_asg (dg_tup rfl (dgs_cons (dg_name 2 sc.nd) (dgs_cons (dg_name 3 sc.nd) dgs_nil)) (hu := (len_cs (len_cs (fun _ _ _ => len_nl))))) (de_tup (da_cons (de_cal C__law_bits (hr.mono (by decide)) (da_cons (de_var 0) (da_cons (de_var 1) (da_cons (de_var 1) da_nil))) (len_cons (len_cons (len_cons len_nil)))) (da_cons (de_cal C__law_bits (hr.mono (by decide)) (da_cons (de_var 0) (da_cons de_int (da_cons de_int da_nil))) (len_cons (len_cons (len_cons len_nil)))) da_nil))))
  (ds_cons (ds_set 4 sc.nd (de_cal C_tree_share (hr.mono (by decide)) (da_cons (de_var 3) (da_cons (de_var 1) (da_cons (de_var 2) da_nil))) (len_cons (len_cons (len_cons len_nil)))))
  (ds_cons (ds_if (dt_w (dw_or (dt_cmp (oh_ne (r64 hr)).d (de_cal C_tree_share (hr.mono (by decide)) (da_cons (de_cal C__law_other (hr.mono (by decide)) (da_cons (de_var 3) da_nil) (len_cons len_nil)) (da_cons (de_var 1) (da_cons (de_cal C__law_other (hr.mono (by decide)) (da_cons (de_var 2) da_nil) (len_cons len_nil)) da_nil))) (len_cons (len_cons (len_cons len_nil)))) (de_var 4) (nomark _)) (dw_or1 (dt_cmp (oh_ne (r64 hr)).d (de_cal C_plus (hr.mono (by decide)) (da_cons (de_cal C_tree_share (hr.mono (by decide)) (da_cons (de_op oh_add.d (de_var 3) (de_str [48])) (da_cons (de_var 1) (da_cons (de_var 2) da_nil))) (len_cons (len_cons (len_cons len_nil)))) (da_cons (de_cal C_tree_share (hr.mono (by decide)) (da_cons (de_op oh_add.d (de_var 3) (de_str [49])) (da_cons (de_var 1) (da_cons (de_var 2) da_nil))) (len_cons (len_cons (len_cons len_nil)))) da_nil)) (len_cons (len_cons len_nil))) (de_var 4) (nomark _))))) (ds_one (ds_ret de_bl)) ds_nil)
  (ds_cons (ds_set 5 sc.nd (de_cal C_next_share (hr.mono (by decide)) (da_cons (de_var 3) (da_cons (de_var 1) (da_cons (de_var 2) da_nil))) (len_cons (len_cons (len_cons len_nil)))))
  (ds_cons (ds_if (dt_w (dw_or (dt_cmp (oh_ne (r64 hr)).d (de_cal C_plus (hr.mono (by decide)) (da_cons (de_var 5) (da_cons (de_cal C_next_share (hr.mono (by decide)) (da_cons (de_cal C__law_other (hr.mono (by decide)) (da_cons (de_var 3) da_nil) (len_cons len_nil)) (da_cons (de_var 1) (da_cons (de_cal C__law_other (hr.mono (by decide)) (da_cons (de_var 2) da_nil) (len_cons len_nil)) da_nil))) (len_cons (len_cons (len_cons len_nil)))) da_nil)) (len_cons (len_cons len_nil))) (de_tup (da_cons de_int (da_cons de_int da_nil))) (nomark _)) (dw_or1 (dt_cmp (oh_ne (r64 hr)).d (de_cal C_times (hr.mono (by decide)) (da_cons (de_var 5) (da_cons (de_var 4) da_nil)) (len_cons (len_cons len_nil))) (de_cal C_tree_share (hr.mono (by decide)) (da_cons (de_op oh_add.d (de_var 3) (de_str [49])) (da_cons (de_var 1) (da_cons (de_var 2) da_nil))) (len_cons (len_cons (len_cons len_nil)))) (nomark _))))) (ds_one (ds_ret de_bl)) ds_nil)
  (ds_cons (ds_asg (dg_tup rfl (dgs_cons (dg_name 6 sc.nd) (dgs_cons (dg_name 7 sc.nd) dgs_nil)) (hu := (len_cs (len_cs (fun _ _ _ => len_nl))))) (de_cal C_best_tree (hr.mono (by decide)) (da_cons (de_var 3) (da_cons (de_var 1) (da_cons (de_var 2) da_nil))) (len_cons (len_cons (len_cons len_nil)))))
  (ds_cons (ds_setLc 8 (own := [("row", 14)]) rfl sc.nd rfl rfl (by rfl) (di_de (de_cal C_trees_of (hr.mono (by decide)) (da_cons (de_var 1) da_nil) (len_cons len_nil))) (blkOk_by (by kernel_rfl)) (fun _ _ _ _ _ => (dg_name 14 sc.nd)) (fun _ _ _ _ _ => dts_nil) (fun _ _ _ _ _ => (de_cal C_times (hr.mono (by decide)) (da_cons (de_cal C_weight_of (hr.mono (by decide)) (da_cons (de_var 14) (da_cons (de_var 1) da_nil)) (len_cons (len_cons len_nil))) (da_cons (de_cal C_share_by (hr.mono (by decide)) (da_cons (de_var 3) (da_cons (de_var 14) (da_cons (de_var 1) (da_cons (de_var 2) da_nil)))) (len_cons (len_cons (len_cons (len_cons len_nil))))) da_nil)) (len_cons (len_cons len_nil)))) (by decide))
  (ds_cons (ds_if (dt_w (dw_or (dt_cmp (oh_ne (r64 hr)).d (de_cal C_sum_of (hr.mono (by decide)) (da_cons (de_var 8) da_nil) (len_cons len_nil)) (de_var 4) (nomark _)) (dw_or (dt_cmp (oh_ne (r64 hr)).d (de_cal C_sum_of (hr.mono (by decide)) (da_cons (de_fz (df_lc (own := [("row", 14)]) rfl sc.nd (di_de (de_cal C_trees_of (hr.mono (by decide)) (da_cons (de_var 1) da_nil) (len_cons len_nil))) (blkOk_by (by kernel_rfl)) (fun _ _ _ _ _ => (dg_name 14 sc.nd)) (fun _ _ _ _ _ => dts_nil) (fun _ _ _ _ _ => (de_cal C_weight_of (hr.mono (by decide)) (da_cons (de_var 14) (da_cons (de_var 1) da_nil)) (len_cons (len_cons len_nil)))) (by decide))) da_nil) (len_cons len_nil)) (de_tup (da_cons de_int (da_cons de_int da_nil))) (nomark _)) (dw_or (dt_val (de_clB (ch_any rfl) (by rfl) T.b_any (by decide +kernel) (da_cons (de_fz (df_lc (own := [("row", 14)]) rfl sc.nd (di_de (de_var 8)) (blkOk_by (by kernel_rfl)) (fun _ _ _ _ _ => (dg_name 14 sc.nd)) (fun _ _ _ _ _ => dts_nil) (fun _ _ _ _ _ => (de_cal C_less (hr.mono (by decide)) (da_cons (de_var 6) (da_cons (de_var 14) da_nil)) (len_cons (len_cons len_nil)))) (by decide))) da_nil))) (dw_or1 (dt_cmp (oh_notin (r65 hr)).d (de_var 6) (de_var 8) (by rfl))))))) (ds_one (ds_ret de_bl)) ds_nil)
  (ds_cons (ds_if (dt_w (dw_or (dt_cmp (oh_ne (r64 hr)).d (de_cal C_times (hr.mono (by decide)) (da_cons (de_cal C_weight_of (hr.mono (by decide)) (da_cons (de_var 7) (da_cons (de_var 1) da_nil)) (len_cons (len_cons len_nil))) (da_cons (de_cal C_share_by (hr.mono (by decide)) (da_cons (de_var 3) (da_cons (de_var 7) (da_cons (de_var 1) (da_cons (de_var 2) da_nil)))) (len_cons (len_cons (len_cons (len_cons len_nil))))) da_nil)) (len_cons (len_cons len_nil))) (de_var 6) (nomark _)) (dw_or1 (dt_cmp (oh_ne (r64 hr)).d (de_ix' (de_cal C_best_tree (hr.mono (by decide)) (da_cons (de_cal C__law_other (hr.mono (by decide)) (da_cons (de_var 3) da_nil) (len_cons len_nil)) (da_cons (de_var 1) (da_cons (de_cal C__law_other (hr.mono (by decide)) (da_cons (de_var 2) da_nil) (len_cons len_nil)) da_nil))) (len_cons (len_cons (len_cons len_nil)))) de_int) (de_var 6) (nomark _))))) (ds_one (ds_ret de_bl)) ds_nil)
  (ds_cons (ds_if (dt_cmp oh_lt.d (de_var 1) de_int (nomark _)) (ds_cons (ds_set 9 sc.nd (de_op oh_add.d (de_ix' (de_str [48, 49]) (de_cal C__law_take (hr.mono (by decide)) (da_cons (de_var 0) (da_cons de_int da_nil)) (len_cons (len_cons len_nil)))) (de_var 2)))
  (ds_cons (ds_set 10 sc.nd (de_cal C_tree_share (hr.mono (by decide)) (da_cons (de_var 3) (da_cons (de_op oh_add.d (de_var 1) de_int) (da_cons (de_var 9) da_nil))) (len_cons (len_cons (len_cons len_nil)))))
  (ds_one (ds_if (dt_w (dw_and (dt_cmp (oh_eq (r64 hr)).d (de_var 1) de_int (nomark _)) (dw_and1 (dt_w (dw_or (dt_val (de_cal C_less (hr.mono (by decide)) (da_cons (de_var 10) (da_cons (de_cal C_times (hr.mono (by decide)) (da_cons (de_tup (da_cons de_int (da_cons de_int da_nil))) (da_cons (de_var 4) da_nil)) (len_cons (len_cons len_nil))) da_nil)) (len_cons (len_cons len_nil)))) (dw_or1 (dt_cmp (oh_ne (r64 hr)).d (de_var 4) (de_cal C_half_share (hr.mono (by decide)) (da_cons (de_clB ch_len (by rfl) T.b_len boot_len (da_cons (de_fz (df_lc (own := [("bit", 15)]) rfl sc.nd (di_de (de_var 3)) (blkOk_by (by kernel_rfl)) (fun _ _ _ _ _ => (dg_name 15 sc.nd)) (fun _ _ _ _ _ => (dts_one (dt_cmp (oh_eq (r64 hr)).d (de_var 15) (de_str [48]) (nomark _)))) (fun _ _ _ _ _ => (de_var 15)) (by decide))) da_nil)) (da_cons (de_clB ch_len (by rfl) T.b_len boot_len (da_cons (de_fz (df_lc (own := [("bit", 15)]) rfl sc.nd (di_de (de_var 3)) (blkOk_by (by kernel_rfl)) (fun _ _ _ _ _ => (dg_name 15 sc.nd)) (fun _ _ _ _ _ => (dts_one (dt_cmp (oh_eq (r64 hr)).d (de_var 15) (de_str [49]) (nomark _)))) (fun _ _ _ _ _ => (de_var 15)) (by decide))) da_nil)) da_nil)) (len_cons (len_cons len_nil))) (nomark _)))))))) (ds_one (ds_ret de_bl)) ds_nil)))) ds_nil)
  (ds_cons (ds_par 11 12 rfl sc.nd (da_cons (de_cal C__law_take (hr.mono (by decide)) (da_cons (de_var 0) (da_cons de_int da_nil)) (len_cons (len_cons len_nil))) (da_cons (de_cal C__law_take (hr.mono (by decide)) (da_cons (de_var 0) (da_cons de_int da_nil)) (len_cons (len_cons len_nil))) da_nil)))
  (ds_cons (ds_if (dt_w (dw_or (dt_cmp (oh_ne (r64 hr)).d (de_cal C_half_share (hr.mono (by decide)) (da_cons (de_var 11) (da_cons (de_var 12) da_nil)) (len_cons (len_cons len_nil))) (de_cal C_half_share (hr.mono (by decide)) (da_cons (de_var 12) (da_cons (de_var 11) da_nil)) (len_cons (len_cons len_nil))) (nomark _)) (dw_or1 (dt_cmp (oh_ne (r64 hr)).d (de_cal C_best_share (hr.mono (by decide)) (da_cons (de_var 11) (da_cons (de_var 12) da_nil)) (len_cons (len_cons len_nil))) (de_cal C_best_share (hr.mono (by decide)) (da_cons (de_var 12) (da_cons (de_var 11) da_nil)) (len_cons (len_cons len_nil))) (nomark _))))) (ds_one (ds_ret de_bl)) ds_nil)
  (ds_cons (ds_if (dt_cmp (oh_ne (r64 hr)).d (de_cal C_times (hr.mono (by decide)) (da_cons (de_cal C_half_share (hr.mono (by decide)) (da_cons (de_var 11) (da_cons (de_var 12) da_nil)) (len_cons (len_cons len_nil))) (da_cons (de_cal C_share (hr.mono (by decide)) (da_cons (de_op oh_add.d (de_op oh_mul.d de_int (de_var 12)) de_int) (da_cons (de_op oh_mul.d de_int (de_op oh_add.d (de_op oh_add.d (de_var 11) (de_var 12)) de_int)) da_nil)) (len_cons (len_cons len_nil))) da_nil)) (len_cons (len_cons len_nil))) (de_cal C_half_share (hr.mono (by decide)) (da_cons (de_var 11) (da_cons (de_op oh_add.d (de_var 12) de_int) da_nil)) (len_cons (len_cons len_nil))) (nomark _)) (ds_one (ds_ret de_bl)) ds_nil)
  (ds_cons (ds_if (dt_cmp (oh_ne (r64 hr)).d (de_cal C_plus (hr.mono (by decide)) (da_cons (de_cal C_half_share (hr.mono (by decide)) (da_cons (de_op oh_add.d (de_var 11) de_int) (da_cons (de_var 12) da_nil)) (len_cons (len_cons len_nil))) (da_cons (de_cal C_half_share (hr.mono (by decide)) (da_cons (de_var 11) (da_cons (de_op oh_add.d (de_var 12) de_int) da_nil)) (len_cons (len_cons len_nil))) da_nil)) (len_cons (len_cons len_nil))) (de_cal C_half_share (hr.mono (by decide)) (da_cons (de_var 11) (da_cons (de_var 12) da_nil)) (len_cons (len_cons len_nil))) (nomark _)) (ds_one (ds_ret de_bl)) ds_nil)
  (ds_cons (ds_if (dt_w (dw_or (dt_cmp (oh_ne (r64 hr)).d (de_cal C_best_share (hr.mono (by decide)) (da_cons (de_op oh_mul.d de_int (de_var 11)) (da_cons (de_op oh_mul.d de_int (de_var 12)) da_nil)) (len_cons (len_cons len_nil))) (de_cal C_times (hr.mono (by decide)) (da_cons (de_cal C_best_share (hr.mono (by decide)) (da_cons (de_var 11) (da_cons (de_var 12) da_nil)) (len_cons (len_cons len_nil))) (da_cons (de_cal C_best_share (hr.mono (by decide)) (da_cons (de_var 11) (da_cons (de_var 12) da_nil)) (len_cons (len_cons len_nil))) da_nil)) (len_cons (len_cons len_nil))) (nomark _)) (dw_or1 (dt_val (de_cal C_less (hr.mono (by decide)) (da_cons (de_cal C_best_share (hr.mono (by decide)) (da_cons (de_var 11) (da_cons (de_var 12) da_nil)) (len_cons (len_cons len_nil))) (da_cons (de_cal C_half_share (hr.mono (by decide)) (da_cons (de_var 11) (da_cons (de_var 12) da_nil)) (len_cons (len_cons len_nil))) da_nil)) (len_cons (len_cons len_nil))))))) (ds_one (ds_ret de_bl)) ds_nil)
  (ds_cons (ds_set 13 sc.nd (de_cal C_half_lost (hr.mono (by decide)) (da_cons (de_var 11) (da_cons (de_var 12) da_nil)) (len_cons (len_cons len_nil))))
  (ds_one (ds_ret (de_and (de_cmp (oh_eq (r64 hr)).d (de_var 13) (de_cal C_half_lost (hr.mono (by decide)) (da_cons (de_var 12) (da_cons (de_var 11) da_nil)) (len_cons (len_cons len_nil))) (nomark _)) (de_and (de_not (de_cal C_less (hr.mono (by decide)) (da_cons (de_var 13) (da_cons (de_tup (da_cons de_int (da_cons de_int da_nil))) da_nil)) (len_cons (len_cons len_nil)))) (de_one (de_cmp oh_le.d (de_op oh_mul.d (de_ix' (de_var 13) de_int) (de_ix' (de_var 13) de_int)) (de_op oh_mul.d (de_op oh_mul.d (de_op oh_mul.d de_int (de_clB (ch_max2 rfl) (by rfl) T.b_max (by decide +kernel) (da_cons de_int (da_cons (de_op oh_add.d (de_var 11) (de_var 12)) da_nil)))) (de_ix' (de_var 13) de_int)) (de_ix' (de_var 13) de_int)) (nomark _))))))))))))))))))))))))
theorem sc__law_row : FnScope ["tape", "many", "found", "k", "d"] ["tape", "many"] (defScope s__law_row) := ⟨rfl, rfl, rfl, by decide +kernel, rfl, by decide +kernel, by decide +kernel⟩
theorem C__law_row (T : Txt K mg) : Cal P w K mg base (fun _ => 0) 2 "_law_row" 2 F__law_row := by
  have C__law_take : Cal P w K mg base (fun _ => 0) 1 "_law_take" 2 F__law_take := C__law_take T
  have C_share : Cal P w K mg base (fun _ => 0) 1 "share" 2 F_share := C_share T
  have sc := sc__law_row
  refine Cal.mk' (k := 1) 5 B__law_row T.a__law_row sc__law_row rfl rfl rfl rfl fun fa cdv A outer s H E hr => ?_
  exact (ds_cons (ds_own 2 sc.nd (df_lst da_nil))
  (ds_cons (ds_for PassesOwn.never rfl (di_range1 (by rfl) T.b_range (da_cons (de_var 1) da_nil)) (dg_name 3 sc.nd) (ds_cons (ds_set 4 sc.nd (de_op oh_add.d de_int (de_cal C__law_take (hr.mono (by decide)) (da_cons (de_var 0) (da_cons de_int da_nil)) (len_cons (len_cons len_nil)))))
  (ds_one (ds_expr (de_mtL 2 mo_append PySem.F.slot_list_append PySem.F.type_list_append (pv 2) (de_cal C_share (hr.mono (by decide)) (da_cons (de_op oh_add.d de_int (de_cal C__law_take (hr.mono (by decide)) (da_cons (de_var 0) (da_cons (de_op oh_sub.d (de_var 4) de_int) da_nil)) (len_cons (len_cons len_nil)))) (da_cons (de_var 4) da_nil)) (len_cons (len_cons len_nil))))))))
  (ds_one (ds_ret (de_clT1 2 ch_tuple (by rfl) T.b_tuple boot_tuple (pv 2))))))
theorem sc__law_voices_right : FnScope ["tape", "bits", "voices", "told", "rows", "turned", "few", "short", "shares", "whole", "best", "names", "ends", "d", "rate", "moved", "row", "bit", "k", "a", "n"] ["tape"] (defScope s__law_voices_right) := ⟨rfl, rfl, rfl, by decide +kernel, rfl, by decide +kernel, by decide +kernel⟩
theorem C__law_voices_right (T : Txt K mg) : Cal P w K mg base (fun _ => 0) 6 "_law_voices_right" 1 F__law_voices_right := by
  have C__law_bits : Cal P w K mg base (fun _ => 0) 2 "_law_bits" 3 F__law_bits := C__law_bits T
  have C__law_other : Cal P w K mg base (fun _ => 0) 1 "_law_other" 1 F__law_other := C__law_other T
  have C__law_row : Cal P w K mg base (fun _ => 0) 2 "_law_row" 2 F__law_row := C__law_row T
  have C__law_take : Cal P w K mg base (fun _ => 0) 1 "_law_take" 2 F__law_take := C__law_take T
  have C_bits_for : Cal P w K mg base (fun _ => 0) 2 "bits_for" 1 F_bits_for := C_bits_for T
  have C_less : Cal P w K mg base (fun _ => 0) 1 "less" 2 F_less := C_less T
  have C_mixed_share : Cal P w K mg base (fun _ => 0) 4 "mixed_share" 2 F_mixed_share := C_mixed_share T
  have C_most_lost : Cal P w K mg base (fun _ => 0) 5 "most_lost" 2 F_most_lost := C_most_lost T
  have C_over : Cal P w K mg base (fun _ => 0) 2 "over" 2 F_over := C_over T
  have C_said_next : Cal P w K mg base (fun _ => 0) 4 "said_next" 2 F_said_next := C_said_next T
  have C_share : Cal P w K mg base (fun _ => 0) 1 "share" 2 F_share := C_share T
  have C_share_text : Cal P w K mg base (fun _ => 0) 1 "share_text" 1 F_share_text := C_share_text T
  have C_sum_of : Cal P w K mg base (fun _ => 0) 3 "sum_of" 1 F_sum_of := C_sum_of T
  have C_switching : Cal P w K mg base (fun _ => 0) 4 "switching" 3 F_switching := C_switching T
  have C_times : Cal P w K mg base (fun _ => 0) 2 "times" 2 F_times := C_times T
  have C_voice_share : Cal P w K mg base (fun _ => 0) 3 "voice_share" 2 F_voice_share := C_voice_share T
  have sc := sc__law_voices_right
  refine Cal.mk' (k := 5) 21 B__law_voices_right T.a__law_voices_right sc__law_voices_right rfl rfl rfl rfl fun fa cdv A outer s H E hr => ?_
  exact (ds_cons (ds_set 1 sc.nd (de_cal C__law_bits (hr.mono (by decide)) (da_cons (de_var 0) (da_cons de_int (da_cons de_int da_nil))) (len_cons (len_cons (len_cons len_nil)))))
  (ds_cons (ds_set 2 sc.nd (de_clT ch_tuple (by rfl) T.b_tuple boot_tuple (da_cons (de_fz (df_lc (own := [("k", 18)]) rfl sc.nd (di_range1 (by rfl) T.b_range (da_cons (de_op oh_add.d de_int (de_cal C__law_take (hr.mono (by decide)) (da_cons (de_var 0) (da_cons de_int da_nil)) (len_cons (len_cons len_nil)))) da_nil)) (blkOk_by (by kernel_rfl)) (fun _ _ _ _ _ => (dg_name 18 sc.nd)) (fun _ _ _ _ _ => dts_nil) (fun _ _ _ _ _ => (de_cal C__law_row (hr.mono (by decide)) (da_cons (de_var 0) (da_cons (de_clB ch_len (by rfl) T.b_len boot_len (da_cons (de_var 1) da_nil)) da_nil)) (len_cons (len_cons len_nil)))) (by decide))) da_nil)))
  (ds_cons (ds_asg (dg_tup rfl (dgs_cons (dg_name 3 sc.nd) (dgs_cons (dg_name 4 sc.nd) dgs_nil)) (hu := (len_cs (len_cs (fun _ _ _ => len_nl))))) (de_tup (da_cons (de_cal C_mixed_share (hr.mono (by decide)) (da_cons (de_var 2) (da_cons (de_var 1) da_nil)) (len_cons (len_cons len_nil))) (da_cons (de_cal C_said_next (hr.mono (by decide)) (da_cons (de_var 2) (da_cons (de_var 1) da_nil)) (len_cons (len_cons len_nil))) da_nil))))
  (ds_cons (ds_if (dt_w (dw_or (dt_cmp (oh_ne (r64 hr)).d (de_cal C_mixed_share (hr.mono (by decide)) (da_cons (de_rev (de_var 2)) (da_cons (de_var 1) da_nil)) (len_cons (len_cons len_nil))) (de_var 3) (nomark _)) (dw_or (dt_cmp (oh_ne (r64 hr)).d (de_cal C_said_next (hr.mono (by decide)) (da_cons (de_rev (de_var 2)) (da_cons (de_var 1) da_nil)) (len_cons (len_cons len_nil))) (de_var 4) (nomark _)) (dw_or (dt_cmp (oh_ne (r64 hr)).d (de_cal C_mixed_share (hr.mono (by decide)) (da_cons (de_op oh_add.d (de_var 2) (de_var 2)) (da_cons (de_var 1) da_nil)) (len_cons (len_cons len_nil))) (de_var 3) (nomark _)) (dw_or1 (dt_cmp (oh_ne (r64 hr)).d (de_cal C_said_next (hr.mono (by decide)) (da_cons (de_op oh_add.d (de_var 2) (de_var 2)) (da_cons (de_var 1) da_nil)) (len_cons (len_cons len_nil))) (de_var 4) (nomark _))))))) (ds_one (ds_ret de_bl)) ds_nil)
  (ds_cons (ds_set 5 sc.nd (de_clT ch_tuple (by rfl) T.b_tuple boot_tuple (da_cons (de_fz (df_lc (own := [("row", 16)]) rfl sc.nd (di_de (de_var 2)) (blkOk_by (by kernel_rfl)) (fun _ _ _ _ _ => (dg_name 16 sc.nd)) (fun _ _ _ _ _ => dts_nil) (fun _ _ _ _ _ => (de_clT ch_tuple (by rfl) T.b_tuple boot_tuple (da_cons (de_fz (df_lc (own := [("n", 20), ("d", 13)]) rfl sc.nd (di_de (de_var 16)) (blkOk_by (by kernel_rfl)) (fun _ _ _ _ _ => (dg_tup rfl (dgs_cons (dg_name 20 sc.nd) (dgs_cons (dg_name 13 sc.nd) dgs_nil)) (hu := (len_cs (len_cs (fun _ _ _ => len_nl)))))) (fun _ _ _ _ _ => dts_nil) (fun _ _ _ _ _ => (de_tup (da_cons (de_op oh_sub.d (de_var 13) (de_var 20)) (da_cons (de_var 13) da_nil)))) (by decide))) da_nil))) (by decide))) da_nil)))
  (ds_cons (ds_if (dt_w (dw_or (dt_cmp (oh_ne (r64 hr)).d (de_cal C_mixed_share (hr.mono (by decide)) (da_cons (de_var 5) (da_cons (de_cal C__law_other (hr.mono (by decide)) (da_cons (de_var 1) da_nil) (len_cons len_nil)) da_nil)) (len_cons (len_cons len_nil))) (de_var 3) (nomark _)) (dw_or1 (dt_cmp (oh_ne (r64 hr)).d (de_cal C_said_next (hr.mono (by decide)) (da_cons (de_var 5) (da_cons (de_cal C__law_other (hr.mono (by decide)) (da_cons (de_var 1) da_nil) (len_cons len_nil)) da_nil)) (len_cons (len_cons len_nil))) (de_clT ch_tuple (by rfl) T.b_tuple boot_tuple (da_cons (de_fz (df_lc (own := [("n", 20), ("d", 13)]) rfl sc.nd (di_de (de_var 4)) (blkOk_by (by kernel_rfl)) (fun _ _ _ _ _ => (dg_tup rfl (dgs_cons (dg_name 20 sc.nd) (dgs_cons (dg_name 13 sc.nd) dgs_nil)) (hu := (len_cs (len_cs (fun _ _ _ => len_nl)))))) (fun _ _ _ _ _ => dts_nil) (fun _ _ _ _ _ => (de_tup (da_cons (de_op oh_sub.d (de_var 13) (de_var 20)) (da_cons (de_var 13) da_nil)))) (by decide))) da_nil)) (nomark _))))) (ds_one (ds_ret de_bl)) ds_nil)
  (ds_cons (ds_if (dt_w (dw_or (dt_cmp (oh_ne (r64 hr)).d (de_cal C_voice_share (hr.mono (by decide)) (da_cons (de_var 4) (da_cons (de_var 1) da_nil)) (len_cons (len_cons len_nil))) (de_var 3) (nomark _)) (dw_or1 (dt_val (de_clB (ch_any rfl) (by rfl) T.b_any (by decide +kernel) (da_cons (de_fz (df_lc (own := [("k", 18)]) rfl sc.nd (di_range1 (by rfl) T.b_range (da_cons (de_clB ch_len (by rfl) T.b_len boot_len (da_cons (de_var 2) da_nil)) da_nil)) (blkOk_by (by kernel_rfl)) (fun _ _ _ _ _ => (dg_name 18 sc.nd)) (fun _ _ _ _ _ => dts_nil) (fun _ _ _ _ _ => (de_cmp (oh_ne (r64 hr)).d (de_cal C_voice_share (hr.mono (by decide)) (da_cons (de_ix' (de_var 5) (de_var 18)) (da_cons (de_cal C__law_other (hr.mono (by decide)) (da_cons (de_var 1) da_nil) (len_cons len_nil)) da_nil)) (len_cons (len_cons len_nil))) (de_cal C_voice_share (hr.mono (by decide)) (da_cons (de_ix' (de_var 2) (de_var 18)) (da_cons (de_var 1) da_nil)) (len_cons (len_cons len_nil))) (nomark _))) (by decide))) da_nil)))))) (ds_one (ds_ret de_bl)) ds_nil)
  (ds_cons (ds_set 6 sc.nd (de_cal C__law_take (hr.mono (by decide)) (da_cons (de_var 0) (da_cons (de_op oh_add.d (de_clB ch_len (by rfl) T.b_len boot_len (da_cons (de_var 1) da_nil)) de_int) da_nil)) (len_cons (len_cons len_nil))))
  (ds_cons (ds_set 7 sc.nd (de_clT ch_tuple (by rfl) T.b_tuple boot_tuple (da_cons (de_fz (df_lc (own := [("row", 16)]) rfl sc.nd (di_de (de_var 2)) (blkOk_by (by kernel_rfl)) (fun _ _ _ _ _ => (dg_name 16 sc.nd)) (fun _ _ _ _ _ => dts_nil) (fun _ _ _ _ _ => (de_slice (de_var 16) do_none (do_some (de_var 6)))) (by decide))) da_nil)))
  (ds_cons (ds_if (dt_w (dw_or (dt_cmp (oh_ne (r64 hr)).d (de_cal C_said_next (hr.mono (by decide)) (da_cons (de_var 7) (da_cons (de_slice (de_var 1) do_none (do_some (de_var 6))) da_nil)) (len_cons (len_cons len_nil))) (de_slice (de_var 4) do_none (do_some (de_var 6))) (nomark _)) (dw_or1 (dt_cmp (oh_ne (r64 hr)).d (de_cal C_times (hr.mono (by decide)) (da_cons (de_cal C_mixed_share (hr.mono (by decide)) (da_cons (de_var 7) (da_cons (de_slice (de_var 1) do_none (do_some (de_var 6))) da_nil)) (len_cons (len_cons len_nil))) (da_cons (de_cal C_voice_share (hr.mono (by decide)) (da_cons (de_slice (de_var 4) (do_some (de_var 6)) do_none) (da_cons (de_slice (de_var 1) (do_some (de_var 6)) do_none) da_nil)) (len_cons (len_cons len_nil))) da_nil)) (len_cons (len_cons len_nil))) (de_var 3) (nomark _))))) (ds_one (ds_ret de_bl)) ds_nil)
  (ds_cons (ds_setLc 8 (own := [("row", 16)]) rfl sc.nd rfl rfl (by rfl) (di_de (de_var 2)) (blkOk_by (by kernel_rfl)) (fun _ _ _ _ _ => (dg_name 16 sc.nd)) (fun _ _ _ _ _ => dts_nil) (fun _ _ _ _ _ => (de_cal C_voice_share (hr.mono (by decide)) (da_cons (de_var 16) (da_cons (de_var 1) da_nil)) (len_cons (len_cons len_nil)))) (by decide))
  (ds_cons (ds_if (dt_w (dw_or (dt_cmp (oh_ne (r64 hr)).d (de_var 3) (de_cal C_times (hr.mono (by decide)) (da_cons (de_cal C_share (hr.mono (by decide)) (da_cons de_int (da_cons (de_clB ch_len (by rfl) T.b_len boot_len (da_cons (de_var 2) da_nil)) da_nil)) (len_cons (len_cons len_nil))) (da_cons (de_cal C_sum_of (hr.mono (by decide)) (da_cons (de_var 8) da_nil) (len_cons len_nil)) da_nil)) (len_cons (len_cons len_nil))) (nomark _)) (dw_or1 (dt_val (de_clB (ch_any rfl) (by rfl) T.b_any (by decide +kernel) (da_cons (de_fz (df_lc (own := [("a", 19)]) rfl sc.nd (di_de (de_var 8)) (blkOk_by (by kernel_rfl)) (fun _ _ _ _ _ => (dg_name 19 sc.nd)) (fun _ _ _ _ _ => dts_nil) (fun _ _ _ _ _ => (de_cal C_less (hr.mono (by decide)) (da_cons (de_var 3) (da_cons (de_cal C_times (hr.mono (by decide)) (da_cons (de_cal C_share (hr.mono (by decide)) (da_cons de_int (da_cons (de_clB ch_len (by rfl) T.b_len boot_len (da_cons (de_var 2) da_nil)) da_nil)) (len_cons (len_cons len_nil))) (da_cons (de_var 19) da_nil)) (len_cons (len_cons len_nil))) da_nil)) (len_cons (len_cons len_nil)))) (by decide))) da_nil)))))) (ds_one (ds_ret de_bl)) ds_nil)
  (ds_cons (ds_asg (dg_tup rfl (dgs_cons (dg_name 9 sc.nd) (dgs_cons (dg_name 10 sc.nd) (dgs_cons (dg_name 11 sc.nd) dgs_nil))) (hu := (len_cs (len_cs (len_cs (fun _ _ _ => len_nl)))))) (de_cal C_most_lost (hr.mono (by decide)) (da_cons (de_var 2) (da_cons (de_var 1) da_nil)) (len_cons (len_cons len_nil))))
  (ds_cons (ds_if (dt_w (dw_or (dt_cmp (oh_ne (r64 hr)).d (de_var 9) (de_cal C_bits_for (hr.mono (by decide)) (da_cons (de_var 3) da_nil) (len_cons len_nil)) (nomark _)) (dw_or (dt_cmp oh_gt.d (de_var 9) (de_op oh_add.d (de_var 10) (de_var 11)) (nomark _)) (dw_or1 (dt_cmp (oh_ne (r64 hr)).d (de_cal C_most_lost (hr.mono (by decide)) (da_cons (de_rev (de_var 2)) (da_cons (de_var 1) da_nil)) (len_cons (len_cons len_nil))) (de_tup (da_cons (de_var 9) (da_cons (de_var 10) (da_cons (de_var 11) da_nil)))) (nomark _)))))) (ds_one (ds_ret de_bl)) ds_nil)
  (ds_cons (ds_setLc 12 (own := [("bit", 17)]) rfl sc.nd rfl rfl (by rfl) (di_de (de_str [48, 49])) (blkOk_by (by kernel_rfl)) (fun _ _ _ _ _ => (dg_name 17 sc.nd)) (fun _ _ _ _ _ => dts_nil) (fun _ _ _ _ _ => (de_op oh_add.d (de_slice (de_var 1) do_none (do_some (de_op oh_sub.d (de_clB ch_len (by rfl) T.b_len boot_len (da_cons (de_var 1) da_nil)) de_int))) (de_var 17))) (by decide))
  (ds_cons (ds_if (dt_cmp (oh_ne (r64 hr)).d (de_cal C_sum_of (hr.mono (by decide)) (da_cons (de_fz (df_lc (own := [("row", 16)]) rfl sc.nd (di_de (de_var 12)) (blkOk_by (by kernel_rfl)) (fun _ _ _ _ _ => (dg_name 16 sc.nd)) (fun _ _ _ _ _ => dts_nil) (fun _ _ _ _ _ => (de_cal C_mixed_share (hr.mono (by decide)) (da_cons (de_var 2) (da_cons (de_var 16) da_nil)) (len_cons (len_cons len_nil)))) (by decide))) da_nil) (len_cons len_nil)) (de_cal C_mixed_share (hr.mono (by decide)) (da_cons (de_clT ch_tuple (by rfl) T.b_tuple boot_tuple (da_cons (de_fz (df_lc (own := [("row", 16)]) rfl sc.nd (di_de (de_var 2)) (blkOk_by (by kernel_rfl)) (fun _ _ _ _ _ => (dg_name 16 sc.nd)) (fun _ _ _ _ _ => dts_nil) (fun _ _ _ _ _ => (de_slice (de_var 16) do_none (do_some (de_op oh_sub.d (de_clB ch_len (by rfl) T.b_len boot_len (da_cons (de_var 1) da_nil)) de_int)))) (by decide))) da_nil)) (da_cons (de_slice (de_var 1) do_none (do_some (de_op oh_sub.d (de_clB ch_len (by rfl) T.b_len boot_len (da_cons (de_var 1) da_nil)) de_int))) da_nil)) (len_cons (len_cons len_nil))) (nomark _)) (ds_one (ds_ret de_bl)) ds_nil)
  (ds_cons (ds_if (dt_cmp oh_gt.d (de_clB ch_len (by rfl) T.b_len boot_len (da_cons (de_var 2) da_nil)) de_int (nomark _)) (ds_cons (ds_set 13 sc.nd (de_op oh_add.d de_int (de_cal C__law_take (hr.mono (by decide)) (da_cons (de_var 0) (da_cons de_int da_nil)) (len_cons (len_cons len_nil)))))
  (ds_cons (ds_set 14 sc.nd (de_cal C_share (hr.mono (by decide)) (da_cons (de_op oh_add.d de_int (de_cal C__law_take (hr.mono (by decide)) (da_cons (de_var 0) (da_cons (de_op oh_sub.d (de_var 13) de_int) da_nil)) (len_cons (len_cons len_nil)))) (da_cons (de_var 13) da_nil)) (len_cons (len_cons len_nil))))
  (ds_cons (ds_set 15 sc.nd (de_cal C_switching (hr.mono (by decide)) (da_cons (de_var 2) (da_cons (de_var 1) (da_cons (de_var 14) da_nil))) (len_cons (len_cons (len_cons len_nil)))))
  (ds_cons (ds_if (dt_w (dw_or (dt_cmp (oh_ne (r64 hr)).d (de_cal C_switching (hr.mono (by decide)) (da_cons (de_rev (de_var 2)) (da_cons (de_var 1) (da_cons (de_var 14) da_nil))) (len_cons (len_cons (len_cons len_nil)))) (de_var 15) (nomark _)) (dw_or1 (dt_cmp (oh_ne (r64 hr)).d (de_cal C_switching (hr.mono (by decide)) (da_cons (de_var 5) (da_cons (de_cal C__law_other (hr.mono (by decide)) (da_cons (de_var 1) da_nil) (len_cons len_nil)) (da_cons (de_var 14) da_nil))) (len_cons (len_cons (len_cons len_nil)))) (de_var 15) (nomark _))))) (ds_one (ds_ret de_bl)) ds_nil)
  (ds_cons (ds_if (dt_cmp (oh_ne (r64 hr)).d (de_cal C_sum_of (hr.mono (by decide)) (da_cons (de_fz (df_lc (own := [("row", 16)]) rfl sc.nd (di_de (de_var 12)) (blkOk_by (by kernel_rfl)) (fun _ _ _ _ _ => (dg_name 16 sc.nd)) (fun _ _ _ _ _ => dts_nil) (fun _ _ _ _ _ => (de_cal C_switching (hr.mono (by decide)) (da_cons (de_var 2) (da_cons (de_var 16) (da_cons (de_var 14) da_nil))) (len_cons (len_cons (len_cons len_nil))))) (by decide))) da_nil) (len_cons len_nil)) (de_if (dt_cmp oh_gt.d (de_clB ch_len (by rfl) T.b_len boot_len (da_cons (de_var 1) da_nil)) de_int (nomark _)) (de_cal C_switching (hr.mono (by decide)) (da_cons (de_clT ch_tuple (by rfl) T.b_tuple boot_tuple (da_cons (de_fz (df_lc (own := [("row", 16)]) rfl sc.nd (di_de (de_var 2)) (blkOk_by (by kernel_rfl)) (fun _ _ _ _ _ => (dg_name 16 sc.nd)) (fun _ _ _ _ _ => dts_nil) (fun _ _ _ _ _ => (de_slice (de_var 16) do_none (do_some (de_op oh_sub.d (de_clB ch_len (by rfl) T.b_len boot_len (da_cons (de_var 1) da_nil)) de_int)))) (by decide))) da_nil)) (da_cons (de_slice (de_var 1) do_none (do_some (de_op oh_sub.d (de_clB ch_len (by rfl) T.b_len boot_len (da_cons (de_var 1) da_nil)) de_int))) (da_cons (de_var 14) da_nil))) (len_cons (len_cons (len_cons len_nil)))) (de_tup (da_cons de_int (da_cons de_int da_nil)))) (nomark _)) (ds_one (ds_ret de_bl)) ds_nil)
  (ds_one (ds_if (dt_w (dw_or (dt_cmp (oh_ne (r64 hr)).d (de_cal C_switching (hr.mono (by decide)) (da_cons (de_tup (da_cons (de_ix' (de_var 2) de_int) (da_cons (de_ix' (de_var 2) de_int) da_nil))) (da_cons (de_var 1) (da_cons (de_var 14) da_nil))) (len_cons (len_cons (len_cons len_nil)))) (de_ix' (de_var 8) de_int) (nomark _)) (dw_or1 (dt_w (dw_and (dt_cmp (oh_eq (r64 hr)).d (de_clB ch_len (by rfl) T.b_len boot_len (da_cons (de_var 1) da_nil)) de_int (nomark _)) (dw_and1 (dt_cmp (oh_ne (r64 hr)).d (de_var 15) (de_var 3) (nomark _)))))))) (ds_one (ds_ret de_bl)) ds_nil))))))) ds_nil)
  (ds_one (ds_ret (de_and (de_cmp (oh_eq (r64 hr)).d (de_cal C_over (hr.mono (by decide)) (da_cons (de_var 3) (da_cons (de_var 3) da_nil)) (len_cons (len_cons len_nil))) (de_tup (da_cons de_int (da_cons de_int da_nil))) (nomark _)) (de_one (de_cmp (oh_eq (r64 hr)).d (de_cal C_share_text (hr.mono (by decide)) (da_cons (de_cal C_share (hr.mono (by decide)) (da_cons de_int (da_cons de_int da_nil)) (len_cons (len_cons len_nil))) da_nil) (len_cons len_nil)) (de_str [49, 47, 50]) (nomark _)))))))))))))))))))))))
theorem sc_law : FnScope ["script", "tape"] ["script"] (defScope s_law) := ⟨rfl, rfl, rfl, by decide +kernel, rfl, by decide +kernel, by decide +kernel⟩
theorem C_law (T : Txt K mg) {fa : Addr} {fd : FuncData} (F : Fun K "law" "law" s_law fa fd) : FnOk P w K mg base CX0 11 fa fd ["script"] (spF K (fun _ => 0) 1 F_law) := by
  have C__law_tape : Cal P w K mg base (fun _ => 0) 1 "_law_tape" 1 F__law_tape := C__law_tape T
  have C__law_trees_right : Cal P w K mg base (fun _ => 0) 10 "_law_trees_right" 1 F__law_trees_right := C__law_trees_right T
  have C__law_voices_right : Cal P w K mg base (fun _ => 0) 6 "_law_voices_right" 1 F__law_voices_right := C__law_voices_right T
  have sc := sc_law
  refine fn_mk' (k := 10) 2 B_law F sc_law rfl rfl rfl rfl fun fa cdv A outer s H E hr => ?_
  exact (ds_cons (ds_set 1 sc.nd (de_cal C__law_tape (hr.mono (by decide)) (da_cons (de_var 0) da_nil) (len_cons len_nil)))
  (ds_one (ds_ret (de_and (de_cal C__law_trees_right (hr.mono (by decide)) (da_cons (de_var 1) da_nil) (len_cons len_nil)) (de_one (de_cal C__law_voices_right (hr.mono (by decide)) (da_cons (de_var 1) da_nil) (len_cons len_nil)))))))
end
end LW

set_option Elab.async false
set_option linter.all false
set_option maxRecDepth 100000
namespace LW
open PySem PySem.Spec PyProof.Rows L2 DL
theorem law_binds (K : PySem.W.Frag) (f : Addr) (fd : FuncData) (F : Fun K "law" "law" s_law f fd) : ∀ (s : Shared) (u : Value), BindsTo s fd ⟨[u], []⟩ [("script", u)] := by
  obtain ⟨_, _, _, _, _, _, _, _, _, rfl, _, _⟩ := F.ex
  exact fun s u => .of_eq rfl
theorem bd_is_bits (kV doc pm : Value) (an : Option Addr) (cdv ct : Value) : ∀ us : List Value, us.length = [("text" : Str)].length → bindArgs (PySem.W.fnOf "is_bits" "is_bits" (defArgs s_is_bits) (defBody s_is_bits) (defScope s_is_bits) .none kV doc pm an cdv ct) ⟨us, []⟩ = pure (((["text"] : List Str)).zip us)
  | [_], _ => rfl
theorem bd_check_bits (kV doc pm : Value) (an : Option Addr) (cdv ct : Value) : ∀ us : List Value, us.length = [("text" : Str)].length → bindArgs (PySem.W.fnOf "check_bits" "check_bits" (defArgs s_check_bits) (defBody s_check_bits) (defScope s_check_bits) .none kV doc pm an cdv ct) ⟨us, []⟩ = pure (((["text"] : List Str)).zip us)
  | [_], _ => rfl
theorem bd_power (kV doc pm : Value) (an : Option Addr) (cdv ct : Value) : ∀ us : List Value, us.length = [("base" : Str), ("times" : Str)].length → bindArgs (PySem.W.fnOf "power" "power" (defArgs s_power) (defBody s_power) (defScope s_power) .none kV doc pm an cdv ct) ⟨us, []⟩ = pure (((["base", "times"] : List Str)).zip us)
  | [_, _], _ => rfl
theorem bd_share (kV doc pm : Value) (an : Option Addr) (cdv ct : Value) : ∀ us : List Value, us.length = [("n" : Str), ("d" : Str)].length → bindArgs (PySem.W.fnOf "share" "share" (defArgs s_share) (defBody s_share) (defScope s_share) .none kV doc pm an cdv ct) ⟨us, []⟩ = pure (((["n", "d"] : List Str)).zip us)
  | [_, _], _ => rfl
theorem bd_plus (kV doc pm : Value) (an : Option Addr) (cdv ct : Value) : ∀ us : List Value, us.length = [("a" : Str), ("b" : Str)].length → bindArgs (PySem.W.fnOf "plus" "plus" (defArgs s_plus) (defBody s_plus) (defScope s_plus) .none kV doc pm an cdv ct) ⟨us, []⟩ = pure (((["a", "b"] : List Str)).zip us)
  | [_, _], _ => rfl
theorem bd_times (kV doc pm : Value) (an : Option Addr) (cdv ct : Value) : ∀ us : List Value, us.length = [("a" : Str), ("b" : Str)].length → bindArgs (PySem.W.fnOf "times" "times" (defArgs s_times) (defBody s_times) (defScope s_times) .none kV doc pm an cdv ct) ⟨us, []⟩ = pure (((["a", "b"] : List Str)).zip us)
  | [_, _], _ => rfl
theorem bd_over (kV doc pm : Value) (an : Option Addr) (cdv ct : Value) : ∀ us : List Value, us.length = [("a" : Str), ("b" : Str)].length → bindArgs (PySem.W.fnOf "over" "over" (defArgs s_over) (defBody s_over) (defScope s_over) .none kV doc pm an cdv ct) ⟨us, []⟩ = pure (((["a", "b"] : List Str)).zip us)
  | [_, _], _ => rfl
theorem bd_less (kV doc pm : Value) (an : Option Addr) (cdv ct : Value) : ∀ us : List Value, us.length = [("a" : Str), ("b" : Str)].length → bindArgs (PySem.W.fnOf "less" "less" (defArgs s_less) (defBody s_less) (defScope s_less) .none kV doc pm an cdv ct) ⟨us, []⟩ = pure (((["a", "b"] : List Str)).zip us)
  | [_, _], _ => rfl
theorem bd_sum_of (kV doc pm : Value) (an : Option Addr) (cdv ct : Value) : ∀ us : List Value, us.length = [("row" : Str)].length → bindArgs (PySem.W.fnOf "sum_of" "sum_of" (defArgs s_sum_of) (defBody s_sum_of) (defScope s_sum_of) .none kV doc pm an cdv ct) ⟨us, []⟩ = pure (((["row"] : List Str)).zip us)
  | [_], _ => rfl
theorem bd_bits_for (kV doc pm : Value) (an : Option Addr) (cdv ct : Value) : ∀ us : List Value, us.length = [("a" : Str)].length → bindArgs (PySem.W.fnOf "bits_for" "bits_for" (defArgs s_bits_for) (defBody s_bits_for) (defScope s_bits_for) .none kV doc pm an cdv ct) ⟨us, []⟩ = pure (((["a"] : List Str)).zip us)
  | [_], _ => rfl
theorem bd_share_text (kV doc pm : Value) (an : Option Addr) (cdv ct : Value) : ∀ us : List Value, us.length = [("a" : Str)].length → bindArgs (PySem.W.fnOf "share_text" "share_text" (defArgs s_share_text) (defBody s_share_text) (defScope s_share_text) .none kV doc pm an cdv ct) ⟨us, []⟩ = pure (((["a"] : List Str)).zip us)
  | [_], _ => rfl
theorem bd_half_share (kV doc pm : Value) (an : Option Addr) (cdv ct : Value) : ∀ us : List Value, us.length = [("noughts" : Str), ("ones" : Str)].length → bindArgs (PySem.W.fnOf "half_share" "half_share" (defArgs s_half_share) (defBody s_half_share) (defScope s_half_share) .none kV doc pm an cdv ct) ⟨us, []⟩ = pure (((["noughts", "ones"] : List Str)).zip us)
  | [_, _], _ => rfl
theorem bd_best_share (kV doc pm : Value) (an : Option Addr) (cdv ct : Value) : ∀ us : List Value, us.length = [("noughts" : Str), ("ones" : Str)].length → bindArgs (PySem.W.fnOf "best_share" "best_share" (defArgs s_best_share) (defBody s_best_share) (defScope s_best_share) .none kV doc pm an cdv ct) ⟨us, []⟩ = pure (((["noughts", "ones"] : List Str)).zip us)
  | [_, _], _ => rfl
theorem bd_contexts_of (kV doc pm : Value) (an : Option Addr) (cdv ct : Value) : ∀ us : List Value, us.length = [("bits" : Str), ("depth" : Str), ("before" : Str)].length → bindArgs (PySem.W.fnOf "contexts_of" "contexts_of" (defArgs s_contexts_of) (defBody s_contexts_of) (defScope s_contexts_of) .none kV doc pm an cdv ct) ⟨us, []⟩ = pure (((["bits", "depth", "before"] : List Str)).zip us)
  | [_, _, _], _ => rfl
theorem bd_weighed (kV doc pm : Value) (an : Option Addr) (cdv ct : Value) : ∀ us : List Value, us.length = [("counts" : Str), ("context" : Str), ("depth" : Str)].length → bindArgs (PySem.W.fnOf "weighed" "weighed" (defArgs s_weighed) (defBody s_weighed) (defScope s_weighed) .none kV doc pm an cdv ct) ⟨us, []⟩ = pure (((["counts", "context", "depth"] : List Str)).zip us)
  | [_, _, _], _ => rfl
theorem bd_tree_share (kV doc pm : Value) (an : Option Addr) (cdv ct : Value) : ∀ us : List Value, us.length = [("bits" : Str), ("depth" : Str), ("before" : Str)].length → bindArgs (PySem.W.fnOf "tree_share" "tree_share" (defArgs s_tree_share) (defBody s_tree_share) (defScope s_tree_share) .none kV doc pm an cdv ct) ⟨us, []⟩ = pure (((["bits", "depth", "before"] : List Str)).zip us)
  | [_, _, _], _ => rfl
theorem bd_trees_of (kV doc pm : Value) (an : Option Addr) (cdv ct : Value) : ∀ us : List Value, us.length = [("depth" : Str)].length → bindArgs (PySem.W.fnOf "trees_of" "trees_of" (defArgs s_trees_of) (defBody s_trees_of) (defScope s_trees_of) .none kV doc pm an cdv ct) ⟨us, []⟩ = pure (((["depth"] : List Str)).zip us)
  | [_], _ => rfl
theorem bd_share_by (kV doc pm : Value) (an : Option Addr) (cdv ct : Value) : ∀ us : List Value, us.length = [("bits" : Str), ("tree" : Str), ("depth" : Str), ("before" : Str)].length → bindArgs (PySem.W.fnOf "share_by" "share_by" (defArgs s_share_by) (defBody s_share_by) (defScope s_share_by) .none kV doc pm an cdv ct) ⟨us, []⟩ = pure (((["bits", "tree", "depth", "before"] : List Str)).zip us)
  | [_, _, _, _], _ => rfl
theorem bd_weight_of (kV doc pm : Value) (an : Option Addr) (cdv ct : Value) : ∀ us : List Value, us.length = [("tree" : Str), ("depth" : Str)].length → bindArgs (PySem.W.fnOf "weight_of" "weight_of" (defArgs s_weight_of) (defBody s_weight_of) (defScope s_weight_of) .none kV doc pm an cdv ct) ⟨us, []⟩ = pure (((["tree", "depth"] : List Str)).zip us)
  | [_, _], _ => rfl
theorem bd_greatest (kV doc pm : Value) (an : Option Addr) (cdv ct : Value) : ∀ us : List Value, us.length = [("counts" : Str), ("context" : Str), ("depth" : Str)].length → bindArgs (PySem.W.fnOf "greatest" "greatest" (defArgs s_greatest) (defBody s_greatest) (defScope s_greatest) .none kV doc pm an cdv ct) ⟨us, []⟩ = pure (((["counts", "context", "depth"] : List Str)).zip us)
  | [_, _, _], _ => rfl
theorem bd_best_tree (kV doc pm : Value) (an : Option Addr) (cdv ct : Value) : ∀ us : List Value, us.length = [("bits" : Str), ("depth" : Str), ("before" : Str)].length → bindArgs (PySem.W.fnOf "best_tree" "best_tree" (defArgs s_best_tree) (defBody s_best_tree) (defScope s_best_tree) .none kV doc pm an cdv ct) ⟨us, []⟩ = pure (((["bits", "depth", "before"] : List Str)).zip us)
  | [_, _, _], _ => rfl
theorem bd_next_share (kV doc pm : Value) (an : Option Addr) (cdv ct : Value) : ∀ us : List Value, us.length = [("bits" : Str), ("depth" : Str), ("before" : Str)].length → bindArgs (PySem.W.fnOf "next_share" "next_share" (defArgs s_next_share) (defBody s_next_share) (defScope s_next_share) .none kV doc pm an cdv ct) ⟨us, []⟩ = pure (((["bits", "depth", "before"] : List Str)).zip us)
  | [_, _, _], _ => rfl
theorem bd_check_voices (kV doc pm : Value) (an : Option Addr) (cdv ct : Value) : ∀ us : List Value, us.length = [("voices" : Str), ("size" : Str)].length → bindArgs (PySem.W.fnOf "check_voices" "check_voices" (defArgs s_check_voices) (defBody s_check_voices) (defScope s_check_voices) .none kV doc pm an cdv ct) ⟨us, []⟩ = pure (((["voices", "size"] : List Str)).zip us)
  | [_, _], _ => rfl
theorem bd_voice_share (kV doc pm : Value) (an : Option Addr) (cdv ct : Value) : ∀ us : List Value, us.length = [("row" : Str), ("bits" : Str)].length → bindArgs (PySem.W.fnOf "voice_share" "voice_share" (defArgs s_voice_share) (defBody s_voice_share) (defScope s_voice_share) .none kV doc pm an cdv ct) ⟨us, []⟩ = pure (((["row", "bits"] : List Str)).zip us)
  | [_, _], _ => rfl
theorem bd_mixed_share (kV doc pm : Value) (an : Option Addr) (cdv ct : Value) : ∀ us : List Value, us.length = [("voices" : Str), ("bits" : Str)].length → bindArgs (PySem.W.fnOf "mixed_share" "mixed_share" (defArgs s_mixed_share) (defBody s_mixed_share) (defScope s_mixed_share) .none kV doc pm an cdv ct) ⟨us, []⟩ = pure (((["voices", "bits"] : List Str)).zip us)
  | [_, _], _ => rfl
theorem bd_heard (kV doc pm : Value) (an : Option Addr) (cdv ct : Value) : ∀ us : List Value, us.length = [("weights" : Str), ("voices" : Str), ("k" : Str), ("bit" : Str)].length → bindArgs (PySem.W.fnOf "heard" "heard" (defArgs s_heard) (defBody s_heard) (defScope s_heard) .none kV doc pm an cdv ct) ⟨us, []⟩ = pure (((["weights", "voices", "k", "bit"] : List Str)).zip us)
  | [_, _, _, _], _ => rfl
theorem bd_said_next (kV doc pm : Value) (an : Option Addr) (cdv ct : Value) : ∀ us : List Value, us.length = [("voices" : Str), ("bits" : Str)].length → bindArgs (PySem.W.fnOf "said_next" "said_next" (defArgs s_said_next) (defBody s_said_next) (defScope s_said_next) .none kV doc pm an cdv ct) ⟨us, []⟩ = pure (((["voices", "bits"] : List Str)).zip us)
  | [_, _], _ => rfl
theorem bd_most_lost (kV doc pm : Value) (an : Option Addr) (cdv ct : Value) : ∀ us : List Value, us.length = [("voices" : Str), ("bits" : Str)].length → bindArgs (PySem.W.fnOf "most_lost" "most_lost" (defArgs s_most_lost) (defBody s_most_lost) (defScope s_most_lost) .none kV doc pm an cdv ct) ⟨us, []⟩ = pure (((["voices", "bits"] : List Str)).zip us)
  | [_, _], _ => rfl
theorem bd_half_lost (kV doc pm : Value) (an : Option Addr) (cdv ct : Value) : ∀ us : List Value, us.length = [("noughts" : Str), ("ones" : Str)].length → bindArgs (PySem.W.fnOf "half_lost" "half_lost" (defArgs s_half_lost) (defBody s_half_lost) (defScope s_half_lost) .none kV doc pm an cdv ct) ⟨us, []⟩ = pure (((["noughts", "ones"] : List Str)).zip us)
  | [_, _], _ => rfl
theorem bd_switching (kV doc pm : Value) (an : Option Addr) (cdv ct : Value) : ∀ us : List Value, us.length = [("voices" : Str), ("bits" : Str), ("rate" : Str)].length → bindArgs (PySem.W.fnOf "switching" "switching" (defArgs s_switching) (defBody s_switching) (defScope s_switching) .none kV doc pm an cdv ct) ⟨us, []⟩ = pure (((["voices", "bits", "rate"] : List Str)).zip us)
  | [_, _, _], _ => rfl
theorem bd__law_tape (kV doc pm : Value) (an : Option Addr) (cdv ct : Value) : ∀ us : List Value, us.length = [("script" : Str)].length → bindArgs (PySem.W.fnOf "_law_tape" "_law_tape" (defArgs s__law_tape) (defBody s__law_tape) (defScope s__law_tape) .none kV doc pm an cdv ct) ⟨us, []⟩ = pure (((["script"] : List Str)).zip us)
  | [_], _ => rfl
theorem bd__law_take (kV doc pm : Value) (an : Option Addr) (cdv ct : Value) : ∀ us : List Value, us.length = [("tape" : Str), ("many" : Str)].length → bindArgs (PySem.W.fnOf "_law_take" "_law_take" (defArgs s__law_take) (defBody s__law_take) (defScope s__law_take) .none kV doc pm an cdv ct) ⟨us, []⟩ = pure (((["tape", "many"] : List Str)).zip us)
  | [_, _], _ => rfl
theorem bd__law_other (kV doc pm : Value) (an : Option Addr) (cdv ct : Value) : ∀ us : List Value, us.length = [("bits" : Str)].length → bindArgs (PySem.W.fnOf "_law_other" "_law_other" (defArgs s__law_other) (defBody s__law_other) (defScope s__law_other) .none kV doc pm an cdv ct) ⟨us, []⟩ = pure (((["bits"] : List Str)).zip us)
  | [_], _ => rfl
theorem bd__law_bits (kV doc pm : Value) (an : Option Addr) (cdv ct : Value) : ∀ us : List Value, us.length = [("tape" : Str), ("least" : Str), ("most" : Str)].length → bindArgs (PySem.W.fnOf "_law_bits" "_law_bits" (defArgs s__law_bits) (defBody s__law_bits) (defScope s__law_bits) .none kV doc pm an cdv ct) ⟨us, []⟩ = pure (((["tape", "least", "most"] : List Str)).zip us)
  | [_, _, _], _ => rfl
theorem bd__law_trees_right (kV doc pm : Value) (an : Option Addr) (cdv ct : Value) : ∀ us : List Value, us.length = [("tape" : Str)].length → bindArgs (PySem.W.fnOf "_law_trees_right" "_law_trees_right" (defArgs s__law_trees_right) (defBody s__law_trees_right) (defScope s__law_trees_right) .none kV doc pm an cdv ct) ⟨us, []⟩ = pure (((["tape"] : List Str)).zip us)
  | [_], _ => rfl
theorem bd__law_row (kV doc pm : Value) (an : Option Addr) (cdv ct : Value) : ∀ us : List Value, us.length = [("tape" : Str), ("many" : Str)].length → bindArgs (PySem.W.fnOf "_law_row" "_law_row" (defArgs s__law_row) (defBody s__law_row) (defScope s__law_row) .none kV doc pm an cdv ct) ⟨us, []⟩ = pure (((["tape", "many"] : List Str)).zip us)
  | [_, _], _ => rfl
theorem bd__law_voices_right (kV doc pm : Value) (an : Option Addr) (cdv ct : Value) : ∀ us : List Value, us.length = [("tape" : Str)].length → bindArgs (PySem.W.fnOf "_law_voices_right" "_law_voices_right" (defArgs s__law_voices_right) (defBody s__law_voices_right) (defScope s__law_voices_right) .none kV doc pm an cdv ct) ⟨us, []⟩ = pure (((["tape"] : List Str)).zip us)
  | [_], _ => rfl
theorem bd_law (kV doc pm : Value) (an : Option Addr) (cdv ct : Value) : ∀ us : List Value, us.length = [("script" : Str)].length → bindArgs (PySem.W.fnOf "law" "law" (defArgs s_law) (defBody s_law) (defScope s_law) .none kV doc pm an cdv ct) ⟨us, []⟩ = pure (((["script"] : List Str)).zip us)
  | [_], _ => rfl
theorem fin_law {P : Program} {w : World} {K : PySem.W.Frag} {h : Heap} {mg : Str → Option Value} (X : K.In h) (G : h.Ns mainGlobals mg) (T : Txt K mg) : At K mg "law" "law" s_law ["script"] ∧ ∀ (f : Addr) (fd : FuncData), Fun K "law" "law" s_law f fd → ∀ base : Heap, FnOk P w K mg base CX0 11 f fd ["script"] (spF K (fun _ => 0) 1 F_law) :=
  ⟨T.a_law, fun f fd F base => C_law T F⟩
end LW
open PySem PySem.W PyProof.Rows in
set_option maxRecDepth 100000 in
set_option maxHeartbeats 0 in
theorem PySem.Challenge.cw_fewestbits_k58_whole_models_with_bits_ex_holds : PySem.Challenge.rw_fewestbits_k58_whole_models_with_bits_ex.Holds := by
  w_on; o_law; k_head; (case hw => w_witness2)
  k_fill
  refine DL.walk_mk (l := PySem.Challenge.rw_fewestbits_k58_whole_models_with_bits_ex) (F := LW.F_law) (st := LW.s_law) 11 ⟨rfl, by decide, by decide⟩ rfl rfl (fun w h Y => PySem.W.kIn_of Y) rfl LW.law_true LW.law_binds ?F
  case F =>
    intro w mg h KX G
    refine LW.fin_law KX G ⟨?_, ?_, ?_, ?_, ?_, ?_, ?_, ?_, ?_, ?_, ?_, ?_, ?_, ?_, ?_, ?_, ?_, ?_, ?_, ?_, ?_, ?_, ?_, ?_, ?_, ?_, ?_, ?_, ?_, ?_, ?_, ?_, ?_, ?_, ?_, ?_, ?_, ?_, ?_, ?_, ?_, ?_, ?_, ?_, ?_, ?_, ?_, ?_, ?_, ?_, ?_, ?_⟩
    · refine' DL.at_mk KX G LW.bd_is_bits ?a ?l ?c ?k
      (case a => k_is)
      (case l => k_is)
      (case c => k_is)
      (case k => k_is)
    · refine' DL.at_mk KX G LW.bd_check_bits ?a ?l ?c ?k
      (case a => k_is)
      (case l => k_is)
      (case c => k_is)
      (case k => k_is)
    · refine' DL.at_mk KX G LW.bd_power ?a ?l ?c ?k
      (case a => k_is)
      (case l => k_is)
      (case c => k_is)
      (case k => k_is)
    · refine' DL.at_mk KX G LW.bd_share ?a ?l ?c ?k
      (case a => k_is)
      (case l => k_is)
      (case c => k_is)
      (case k => k_is)
    · refine' DL.at_mk KX G LW.bd_plus ?a ?l ?c ?k
      (case a => k_is)
      (case l => k_is)
      (case c => k_is)
      (case k => k_is)
    · refine' DL.at_mk KX G LW.bd_times ?a ?l ?c ?k
      (case a => k_is)
      (case l => k_is)
      (case c => k_is)
      (case k => k_is)
    · refine' DL.at_mk KX G LW.bd_over ?a ?l ?c ?k
      (case a => k_is)
      (case l => k_is)
      (case c => k_is)
      (case k => k_is)
    · refine' DL.at_mk KX G LW.bd_less ?a ?l ?c ?k
      (case a => k_is)
      (case l => k_is)
      (case c => k_is)
      (case k => k_is)
    · refine' DL.at_mk KX G LW.bd_sum_of ?a ?l ?c ?k
      (case a => k_is)
      (case l => k_is)
      (case c => k_is)
      (case k => k_is)
    · refine' DL.at_mk KX G LW.bd_bits_for ?a ?l ?c ?k
      (case a => k_is)
      (case l => k_is)
      (case c => k_is)
      (case k => k_is)
    · refine' DL.at_mk KX G LW.bd_share_text ?a ?l ?c ?k
      (case a => k_is)
      (case l => k_is)
      (case c => k_is)
      (case k => k_is)
    · refine' DL.at_mk KX G LW.bd_half_share ?a ?l ?c ?k
      (case a => k_is)
      (case l => k_is)
      (case c => k_is)
      (case k => k_is)
    · refine' DL.at_mk KX G LW.bd_best_share ?a ?l ?c ?k
      (case a => k_is)
      (case l => k_is)
      (case c => k_is)
      (case k => k_is)
    · refine' DL.at_mk KX G LW.bd_contexts_of ?a ?l ?c ?k
      (case a => k_is)
      (case l => k_is)
      (case c => k_is)
      (case k => k_is)
    · refine' DL.at_mk KX G LW.bd_weighed ?a ?l ?c ?k
      (case a => k_is)
      (case l => k_is)
      (case c => k_is)
      (case k => k_is)
    · refine' DL.at_mk KX G LW.bd_tree_share ?a ?l ?c ?k
      (case a => k_is)
      (case l => k_is)
      (case c => k_is)
      (case k => k_is)
    · refine' DL.at_mk KX G LW.bd_trees_of ?a ?l ?c ?k
      (case a => k_is)
      (case l => k_is)
      (case c => k_is)
      (case k => k_is)
    · refine' DL.at_mk KX G LW.bd_share_by ?a ?l ?c ?k
      (case a => k_is)
      (case l => k_is)
      (case c => k_is)
      (case k => k_is)
    · refine' DL.at_mk KX G LW.bd_weight_of ?a ?l ?c ?k
      (case a => k_is)
      (case l => k_is)
      (case c => k_is)
      (case k => k_is)
    · refine' DL.at_mk KX G LW.bd_greatest ?a ?l ?c ?k
      (case a => k_is)
      (case l => k_is)
      (case c => k_is)
      (case k => k_is)
    · refine' DL.at_mk KX G LW.bd_best_tree ?a ?l ?c ?k
      (case a => k_is)
      (case l => k_is)
      (case c => k_is)
      (case k => k_is)
    · refine' DL.at_mk KX G LW.bd_next_share ?a ?l ?c ?k
      (case a => k_is)
      (case l => k_is)
      (case c => k_is)
      (case k => k_is)
    · refine' DL.at_mk KX G LW.bd_check_voices ?a ?l ?c ?k
      (case a => k_is)
      (case l => k_is)
      (case c => k_is)
      (case k => k_is)
    · refine' DL.at_mk KX G LW.bd_voice_share ?a ?l ?c ?k
      (case a => k_is)
      (case l => k_is)
      (case c => k_is)
      (case k => k_is)
    · refine' DL.at_mk KX G LW.bd_mixed_share ?a ?l ?c ?k
      (case a => k_is)
      (case l => k_is)
      (case c => k_is)
      (case k => k_is)
    · refine' DL.at_mk KX G LW.bd_heard ?a ?l ?c ?k
      (case a => k_is)
      (case l => k_is)
      (case c => k_is)
      (case k => k_is)
    · refine' DL.at_mk KX G LW.bd_said_next ?a ?l ?c ?k
      (case a => k_is)
      (case l => k_is)
      (case c => k_is)
      (case k => k_is)
    · refine' DL.at_mk KX G LW.bd_most_lost ?a ?l ?c ?k
      (case a => k_is)
      (case l => k_is)
      (case c => k_is)
      (case k => k_is)
    · refine' DL.at_mk KX G LW.bd_half_lost ?a ?l ?c ?k
      (case a => k_is)
      (case l => k_is)
      (case c => k_is)
      (case k => k_is)
    · refine' DL.at_mk KX G LW.bd_switching ?a ?l ?c ?k
      (case a => k_is)
      (case l => k_is)
      (case c => k_is)
      (case k => k_is)
    · refine' DL.at_mk KX G LW.bd__law_tape ?a ?l ?c ?k
      (case a => k_is)
      (case l => k_is)
      (case c => k_is)
      (case k => k_is)
    · refine' DL.at_mk KX G LW.bd__law_take ?a ?l ?c ?k
      (case a => k_is)
      (case l => k_is)
      (case c => k_is)
      (case k => k_is)
    · refine' DL.at_mk KX G LW.bd__law_other ?a ?l ?c ?k
      (case a => k_is)
      (case l => k_is)
      (case c => k_is)
      (case k => k_is)
    · refine' DL.at_mk KX G LW.bd__law_bits ?a ?l ?c ?k
      (case a => k_is)
      (case l => k_is)
      (case c => k_is)
      (case k => k_is)
    · refine' DL.at_mk KX G LW.bd__law_trees_right ?a ?l ?c ?k
      (case a => k_is)
      (case l => k_is)
      (case c => k_is)
      (case k => k_is)
    · refine' DL.at_mk KX G LW.bd__law_row ?a ?l ?c ?k
      (case a => k_is)
      (case l => k_is)
      (case c => k_is)
      (case k => k_is)
    · refine' DL.at_mk KX G LW.bd__law_voices_right ?a ?l ?c ?k
      (case a => k_is)
      (case l => k_is)
      (case c => k_is)
      (case k => k_is)
    · refine' DL.at_mk KX G LW.bd_law ?a ?l ?c ?k
      (case a => k_is)
      (case l => k_is)
      (case c => k_is)
      (case k => k_is)
    · refine' PySem.W.mg_none_of KX G ?a
      (case a => k_is)
    · refine' PySem.W.mg_none_of KX G ?a
      (case a => k_is)
    · refine' PySem.W.mg_none_of KX G ?a
      (case a => k_is)
    · refine' PySem.W.mg_none_of KX G ?a
      (case a => k_is)
    · refine' PySem.W.mg_none_of KX G ?a
      (case a => k_is)
    · refine' PySem.W.mg_none_of KX G ?a
      (case a => k_is)
    · refine' PySem.W.mg_none_of KX G ?a
      (case a => k_is)
    · refine' PySem.W.mg_none_of KX G ?a
      (case a => k_is)
    · refine' PySem.W.mg_none_of KX G ?a
      (case a => k_is)
    · refine' PySem.W.mg_none_of KX G ?a
      (case a => k_is)
    · refine' PySem.W.mg_none_of KX G ?a
      (case a => k_is)
    · refine' DL.Con.int (PySem.W.mg_of KX G ?a)
      (case a => k_is)
    · refine' DL.Con.tup2 (PySem.W.mg_of KX G ?a) ?l
      (case a => k_is)
      (case l => k_is)
    · refine' DL.Con.tup2 (PySem.W.mg_of KX G ?a) ?l
      (case a => k_is)
      (case l => k_is)

