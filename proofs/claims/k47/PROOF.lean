import PyProof.Rows.All
import Wide.All
import OpenK.AllK
import Wide.FinOn
import HandS.ForMost
import HandS.Deep
import HandS.Wide
import HandS.WideMore
import HandS.WideBits
import HandS.TupAny
import HandS.TupMul
import HandS.Style
import HandS.RaiseMore
import HandS.Conv
import KE.GoesEnum
import KE.GoesZip
import KE.GoesMore
import KE.KRevSl
import HandS.Text
import HandS.Set
import HandS.SetFor
import HandS.SetTxt0
import HandS.More
import HandS.Strs
import PyProof.ListStr
import PyProof.StrLawsIn
import PyProof.Rows.StrMeet
import PySem.Challenge.RW_fewestbits_k47_whole_floors_joined_and_p
set_option Elab.async false
set_option linter.all false
set_option maxRecDepth 100000
namespace DL
open PySem PySem.Spec PyProof.Rows L2

/-! ### plain data -/
abbrev DK := Int ⊕ List Nat
inductive D where
  | non | bl (b : Bool) | int (i : Int) | str (s : List Nat) | lst (xs : List D) | tup (xs : List D)
  | dct (kvs : List (DK × D)) | scr (xs : List Int) | ptr (k : Nat)
abbrev mkS (s : List Nat) : Str := ⟨s.toArray⟩
def mkK : DK → Key
  | .inl i => .inl i
  | .inr s => .inr (mkS s)
/-- a by-reference object -/
inductive O where
  | dct (kvs : List (DK × D)) | ins (c : Nat) (fs : List (Str × D))
/-- a slot of the frame -/
inductive Sl where
  | un | val (d : D) | own (xs : List D) | ownK (kvs : List (DK × D))
def Sl.isOwn : Sl → Bool
  | .own _ => true
  | .ownK _ => true
  | _ => false

mutual
inductive Rep (K : PySem.W.Frag) (F : Hp) (μ : List Addr) : D → V → Prop
  | non : Rep K F μ .non .non
  | bl (b : Bool) : Rep K F μ (.bl b) (.bl b)
  | int (i : Int) : Rep K F μ (.int i) (.int i)
  | str (s : List Nat) : Rep K F μ (.str s) (.str (mkS s))
  | lst {a : Addr} {ds : List D} {vs : List V} : F a = some (.lst vs) → Reps K F μ ds vs → Rep K F μ (.lst ds) (.ref a)
  | tup {a : Addr} {ds : List D} {vs : List V} : SqT K F a vs → Reps K F μ ds vs → Rep K F μ (.tup ds) (.ref a)
  | dct {a : Addr} {o : Obj} {ds : List (DK × D)} {vs : List (Key × V)} : F a = some (.frz o (.dK vs)) → RepKs K F μ ds vs → Rep K F μ (.dct ds) (.ref a)
  | scr {a : Addr} {xs : List Int} : SqL K F a (xs.map V.int) → Rep K F μ (.scr xs) (.ref a)
  | ptr {a : Addr} {k : Nat} : μ[k]? = some a → Rep K F μ (.ptr k) (.ref a)
inductive Reps (K : PySem.W.Frag) (F : Hp) (μ : List Addr) : List D → List V → Prop
  | nil : Reps K F μ [] []
  | cons {d : D} {v : V} {ds : List D} {vs : List V} : Rep K F μ d v → Reps K F μ ds vs → Reps K F μ (d :: ds) (v :: vs)
inductive RepKs (K : PySem.W.Frag) (F : Hp) (μ : List Addr) : List (DK × D) → List (Key × V) → Prop
  | nil : RepKs K F μ [] []
  | cons {k : DK} {d : D} {v : V} {ds : List (DK × D)} {vs : List (Key × V)} : Rep K F μ d v → RepKs K F μ ds vs → RepKs K F μ ((k, d) :: ds) ((mkK k, v) :: vs)
end

def Mono (F : Hp) (μ : List Addr) (F' : Hp) (μ' : List Addr) : Prop := Same F F' ∧ ∀ (k : Nat) (a : Addr), μ[k]? = some a → μ'[k]? = some a
theorem Mono.refl (F : Hp) (μ : List Addr) : Mono F μ F μ := ⟨Same.refl F, fun _ _ h => h⟩
theorem Mono.trans {F F1 F2 : Hp} {μ μ1 μ2 : List Addr} (a : Mono F μ F1 μ1) (b : Mono F1 μ1 F2 μ2) : Mono F μ F2 μ2 := ⟨a.1.trans b.1, fun k x h => b.2 k x (a.2 k x h)⟩
theorem Same.sqT {K : PySem.W.Frag} {H H' : Hp} {a : Addr} {xs : List V} (e : Same H H') (h : SqT K H a xs) : SqT K H' a xs := by
  rcases h with (h | ⟨o, h⟩) | h
  · exact .inl (.inl (e _ _ h))
  · exact .inl (.inr ⟨o, e _ _ h⟩)
  · exact .inr h

section
variable {K : PySem.W.Frag} {F F' H : Hp} {μ μ' : List Addr}
mutual
theorem Rep.mono (m : Mono F μ F' μ') : ∀ {d : D} {v : V}, Rep K F μ d v → Rep K F' μ' d v
  | _, _, .non => .non
  | _, _, .bl b => .bl b
  | _, _, .int i => .int i
  | _, _, .str s => .str s
  | _, _, .lst h r => .lst (m.1 _ _ h) (Reps.mono m r)
  | _, _, .tup h r => .tup (Same.sqT m.1 h) (Reps.mono m r)
  | _, _, .dct h r => .dct (m.1 _ _ h) (RepKs.mono m r)
  | _, _, .scr h => .scr (m.1.seq h)
  | _, _, .ptr h => .ptr (m.2 _ _ h)
theorem Reps.mono (m : Mono F μ F' μ') : ∀ {ds : List D} {vs : List V}, Reps K F μ ds vs → Reps K F' μ' ds vs
  | _, _, .nil => .nil
  | _, _, .cons h r => .cons (Rep.mono m h) (Reps.mono m r)
theorem RepKs.mono (m : Mono F μ F' μ') : ∀ {ds : List (DK × D)} {vs : List (Key × V)}, RepKs K F μ ds vs → RepKs K F' μ' ds vs
  | _, _, .nil => .nil
  | _, _, .cons h r => .cons (Rep.mono m h) (RepKs.mono m r)
end
theorem Reps.length : ∀ {ds : List D} {vs : List V}, Reps K F μ ds vs → ds.length = vs.length
  | _, _, .nil => rfl
  | _, _, .cons _ r => by rw [List.length_cons, List.length_cons, Reps.length r]
theorem Reps.get : ∀ {ds : List D} {vs : List V} {i : Nat} {d : D}, Reps K F μ ds vs → ds[i]? = some d → ∃ v, vs[i]? = some v ∧ Rep K F μ d v
  | _, _, _, _, .nil, e => by simp at e
  | _, _, 0, _, .cons h _, e => by simp at e; subst e; exact ⟨_, rfl, h⟩
  | _, _, i + 1, _, .cons _ r, e => by
    obtain ⟨v, h1, h2⟩ := Reps.get (i := i) r (by simpa using e)
    exact ⟨v, by simpa using h1, h2⟩
theorem Reps.get' : ∀ {ds : List D} {vs : List V} {i : Nat} {v : V}, Reps K F μ ds vs → vs[i]? = some v → ∃ d, ds[i]? = some d ∧ Rep K F μ d v
  | _, _, _, _, .nil, e => by simp at e
  | _, _, 0, _, .cons h _, e => by simp at e; subst e; exact ⟨_, rfl, h⟩
  | _, _, i + 1, _, .cons _ r, e => by
    obtain ⟨v, h1, h2⟩ := Reps.get' (i := i) r (by simpa using e)
    exact ⟨v, by simpa using h1, h2⟩
theorem Reps.append : ∀ {ds es : List D} {vs ws : List V}, Reps K F μ ds vs → Reps K F μ es ws → Reps K F μ (ds ++ es) (vs ++ ws)
  | _, _, _, _, .nil, s => s
  | _, _, _, _, .cons h r, s => .cons h (Reps.append r s)
theorem Reps.take : ∀ {ds : List D} {vs : List V} (n : Nat), Reps K F μ ds vs → Reps K F μ (ds.take n) (vs.take n)
  | _, _, 0, _ => by simpa using Reps.nil
  | _, _, _ + 1, .nil => by simpa using Reps.nil
  | _, _, n + 1, .cons h r => by simpa using Reps.cons h (Reps.take n r)
theorem Reps.drop : ∀ {ds : List D} {vs : List V} (n : Nat), Reps K F μ ds vs → Reps K F μ (ds.drop n) (vs.drop n)
  | _, _, 0, r => by simpa using r
  | _, _, _ + 1, .nil => by simpa using Reps.nil
  | _, _, n + 1, .cons h r => by simpa using Reps.drop n r
theorem Reps.set {d : D} {v : V} (h : Rep K F μ d v) : ∀ {ds : List D} {vs : List V} (n : Nat), Reps K F μ ds vs → Reps K F μ (ds.set n d) (vs.set n v)
  | _, _, _, .nil => by simpa using Reps.nil
  | _, _, 0, .cons _ r => by simpa using Reps.cons h r
  | _, _, n + 1, .cons h' r => by simpa using Reps.cons h' (Reps.set h n r)
theorem Reps.eraseIdx : ∀ {ds : List D} {vs : List V} (n : Nat), Reps K F μ ds vs → Reps K F μ (ds.eraseIdx n) (vs.eraseIdx n)
  | _, _, _, .nil => by simpa using Reps.nil
  | _, _, 0, .cons _ r => by simpa using r
  | _, _, n + 1, .cons h' r => by simpa using Reps.cons h' (Reps.eraseIdx n r)
theorem Reps.rep {ds : List D} {vs : List V} (r : Reps K F μ ds vs) : ∀ n : Nat, Reps K F μ (List.replicate n ds).flatten (List.replicate n vs).flatten
  | 0 => by simpa using Reps.nil
  | n + 1 => by
    rw [List.replicate_succ, List.replicate_succ, List.flatten_cons, List.flatten_cons]
    exact r.append (Reps.rep r n)
theorem Reps.reverse : ∀ {ds : List D} {vs : List V}, Reps K F μ ds vs → Reps K F μ ds.reverse vs.reverse
  | _, _, .nil => .nil
  | _, _, .cons h r => by
    rw [List.reverse_cons, List.reverse_cons]
    exact (Reps.reverse r).append (.cons h .nil)
end

/-! ### state and evaluators -/
abbrev Sto := List Sl × List O
abbrev Ev (α : Type) := Sto → Option (α × Sto)
def bnd {α β : Type} (f : Ev α) (g : α → Ev β) : Ev β := fun s => match f s with
  | some (a, s') => g a s'
  | none => none
def ret {α : Type} (a : α) : Ev α := fun s => some (a, s)
def lft {α : Type} (o : Option α) : Ev α := fun s => match o with
  | some a => some (a, s)
  | none => none
inductive Out where
  | nx (s : Sto) | rt (d : D) (s : Sto) | bk (s : Sto) | ct (s : Sto)
abbrev Es := Sto → Option Out

theorem bnd_some {α β : Type} {f : Ev α} {g : α → Ev β} {s s' : Sto} {b : β} (h : bnd f g s = some (b, s')) : ∃ a s1, f s = some (a, s1) ∧ g a s1 = some (b, s') := by
  unfold bnd at h
  split at h
  · rename_i a s1 e
    exact ⟨a, s1, e, h⟩
  · cases h
theorem lft_some {α : Type} {o : Option α} {s s' : Sto} {a : α} (h : lft o s = some (a, s')) : o = some a ∧ s' = s := by
  unfold lft at h
  split at h
  · cases h; exact ⟨rfl, rfl⟩
  · cases h
theorem ret_some {α : Type} {a b : α} {s s' : Sto} (h : ret a s = some (b, s')) : b = a ∧ s' = s := by
  unfold ret at h
  cases h
  exact ⟨rfl, rfl⟩

/-! ### the relation -/
/-- the state at the def's entry -/
structure Ct where
  cls : Nat → Addr
  H0 : Hp
  F0 : Hp
  μ0 : List Addr
  P : Hp

def SlOk (K : PySem.W.Frag) (c : Ct) (F : Hp) (μ : List Addr) (H : Hp) (a : Addr) (sv : Option (Option V)) : Sl → Prop
  | .un => True
  | .val d => ∃ v, sv = some (some v) ∧ Rep K F μ d v
  | .own ds => sv = some (some (.ref a)) ∧ F a = none ∧ (c.H0 a = none ∧ c.P a = none) ∧ a ∉ μ ∧ ∃ vs, H a = some (.lst vs) ∧ Reps K F μ ds vs
  | .ownK ds => sv = some (some (.ref a)) ∧ F a = none ∧ (c.H0 a = none ∧ c.P a = none) ∧ a ∉ μ ∧ ∃ vs, H a = some (.dK vs) ∧ RepKs K F μ ds vs
def RepFs (K : PySem.W.Frag) (F : Hp) (μ : List Addr) (fs : List (Str × D)) (gs : List (Str × V)) : Prop := fs.map (·.1) = gs.map (·.1) ∧ Reps K F μ (fs.map (·.2)) (gs.map (·.2))
def OOk (K : PySem.W.Frag) (cls : Nat → Addr) (F : Hp) (μ : List Addr) (H : Hp) (a : Addr) : O → Prop
  | .dct ds => ∃ vs, H a = some (.dK vs) ∧ RepKs K F μ ds vs
  | .ins k fs => ∃ dx gs, H a = some (.ins (cls k) dx gs) ∧ RepFs K F μ fs gs
structure StOk (K : PySem.W.Frag) (cls : Nat → Addr) (F : Hp) (μ : List Addr) (H : Hp) (S : List O) : Prop where
  len : μ.length = S.length
  nd : μ.Nodup
  fr : ∀ a, a ∈ μ → F a = none
  ok : ∀ (k : Nat) (a : Addr) (o : O), μ[k]? = some a → S[k]? = some o → OOk K cls F μ H a o

structure Rel (K : PySem.W.Frag) (c : Ct) (F : Hp) (μ : List Addr) (σ : L2.St) (H : Hp) (s : Sto) : Prop where
  sub : Same F H
  ext : Same c.F0 F
  newF : ∀ b o, F b = some o → c.F0 b = some o ∨ c.H0 b = none
  frame : ∀ b o, c.H0 b = some o → b ∉ c.μ0 → H b = some o
  mu : ∃ ν, μ = c.μ0 ++ ν ∧ ∀ b ∈ ν, c.H0 b = none
  len : s.1.length = σ.length
  slots : ∃ α : Nat → Addr, (∀ i x, s.1[i]? = some x → SlOk K c F μ H (α i) σ[i]? x) ∧
    (∀ i j x y, s.1[i]? = some x → s.1[j]? = some y → x.isOwn = true → y.isOwn = true → α i = α j → i = j)
  st : StOk K c.cls F μ H s.2
  prot : ∀ b o, c.P b = some o → H b = some o ∧ F b = none ∧ b ∉ μ ∧ c.H0 b = none

end DL

set_option Elab.async false
set_option linter.all false
set_option maxRecDepth 100000
namespace DL
open PySem PySem.Spec PyProof.Rows L2
section
variable {K : PySem.W.Frag} {c : Ct} {F F' : Hp} {μ μ' : List Addr} {σ σ' : L2.St} {H H' : Hp} {s s' : Sto} {ρ : List Sl} {S S' : List O}

theorem ne_none {α : Type} {x : Option α} {y : α} (h : x = some y) (h' : x = none) : False := by rw [h] at h'; cases h'
theorem Same.upd_new {H : Hp} {p : Addr} {o : HO} (h : H p = none) : Same H (upd H p o) := fun b u e => by rw [upd_ne (ne_of_none e h)]; exact e
theorem Mono.new {p : Addr} {o : HO} (h : F p = none) : Mono F μ (upd F p o) μ := ⟨Same.upd_new h, fun _ _ e => e⟩
theorem Rel.fnone (R : Rel K c F μ σ H s) {p : Addr} (h : H p = none) : F p = none := by
  cases q : F p with
  | none => rfl
  | some o => exact (ne_none (R.sub _ _ q) h).elim
theorem Rel.h0none (R : Rel K c F μ σ H s) {p : Addr} (h : H p = none) : c.H0 p = none := by
  cases q : c.H0 p with
  | none => rfl
  | some o =>
    by_cases hm : p ∈ c.μ0
    · obtain ⟨ν, e, _⟩ := R.mu
      have hm' : p ∈ μ := by rw [e]; exact List.mem_append_left _ hm
      obtain ⟨k, hk⟩ := List.getElem?_of_mem hm'
      have hl : k < s.2.length := by rw [← R.st.len]; exact (List.getElem?_eq_some_iff.mp hk).1
      have := R.st.ok k p _ hk (List.getElem?_eq_getElem hl)
      cases e2 : s.2[k] with
      | dct ds => rw [e2] at this; obtain ⟨vs, h1, _⟩ := this; exact (ne_none h1 h).elim
      | ins k fs => rw [e2] at this; obtain ⟨dx, vs, h1, _⟩ := this; exact (ne_none h1 h).elim
    · exact (ne_none (R.frame _ _ q hm) h).elim
theorem StOk.has (st : StOk K c.cls F μ H S) {a : Addr} (h : a ∈ μ) : ∃ o, H a = some o := by
  obtain ⟨k, hk⟩ := List.getElem?_of_mem h
  have hl : k < S.length := by rw [← st.len]; exact (List.getElem?_eq_some_iff.mp hk).1
  have := st.ok k a _ hk (List.getElem?_eq_getElem hl)
  cases e2 : S[k] with
  | dct ds => rw [e2] at this; obtain ⟨vs, h1, _⟩ := this; exact ⟨_, h1⟩
  | ins k fs => rw [e2] at this; obtain ⟨dx, vs, h1, _⟩ := this; exact ⟨_, h1⟩
theorem SlOk.has {a : Addr} {sv : Option (Option V)} {x : Sl} (h : SlOk K c F μ H a sv x) (o : x.isOwn = true) : ∃ u, H a = some u := by
  cases x with
  | un => cases o
  | val d => cases o
  | own ds => obtain ⟨_, _, _, _, vs, e, _⟩ := h; exact ⟨_, e⟩
  | ownK ds => obtain ⟨_, _, _, _, vs, e, _⟩ := h; exact ⟨_, e⟩
theorem SlOk.fnone {a : Addr} {sv : Option (Option V)} {x : Sl} (h : SlOk K c F μ H a sv x) (o : x.isOwn = true) : F a = none := by
  cases x with
  | un => cases o
  | val d => cases o
  | own ds => exact h.2.1
  | ownK ds => exact h.2.1
theorem SlOk.nmem {a : Addr} {sv : Option (Option V)} {x : Sl} (h : SlOk K c F μ H a sv x) (o : x.isOwn = true) : a ∉ μ := by
  cases x with
  | un => cases o
  | val d => cases o
  | own ds => exact h.2.2.2.1
  | ownK ds => exact h.2.2.2.1
/-- a slot stays fine -/
theorem SlOk.step {a : Addr} {sv : Option (Option V)} {x : Sl} (h : SlOk K c F μ H a sv x) (m : Mono F μ F' μ') (hF : x.isOwn = true → F' a = none) (hμ : x.isOwn = true → a ∉ μ') (hH : x.isOwn = true → ∀ o, H a = some o → H' a = some o) :
    SlOk K c F' μ' H' a sv x := by
  cases x with
  | un => trivial
  | val d => obtain ⟨v, e, r⟩ := h; exact ⟨v, e, r.mono m⟩
  | own ds => obtain ⟨e, _, h0, _, vs, h1, r⟩ := h; exact ⟨e, hF rfl, h0, hμ rfl, vs, hH rfl _ h1, r.mono m⟩
  | ownK ds => obtain ⟨e, _, h0, _, vs, h1, r⟩ := h; exact ⟨e, hF rfl, h0, hμ rfl, vs, hH rfl _ h1, r.mono m⟩
theorem OOk.step {cls : Nat → Addr} {a : Addr} {o : O} (h : OOk K cls F μ H a o) (m : Mono F μ F' μ') (hH : ∀ o, H a = some o → H' a = some o) : OOk K cls F' μ' H' a o := by
  cases o with
  | dct ds => obtain ⟨vs, h1, r⟩ := h; exact ⟨vs, hH _ h1, r.mono m⟩
  | ins k fs => obtain ⟨dx, vs, h1, e, r⟩ := h; exact ⟨dx, vs, hH _ h1, e, r.mono m⟩

/-- a new frozen object -/
theorem Rel.alloc {p : Addr} {o : HO} (R : Rel K c F μ σ H s) (hp : H p = none) : Rel K c (upd F p o) μ σ (upd H p o) s := by
  have hF := R.fnone hp
  have h0 := R.h0none hp
  have m : Mono F μ (upd F p o) μ := Mono.new hF
  refine ⟨fun b u e => ?_, R.ext.trans (Same.upd_new hF), fun b u e => ?_, fun b u e hb => ?_, R.mu, R.len, ?_, ?_, fun b u e => ?_⟩
  · by_cases hb : b = p
    · subst hb; rw [upd_same] at e ⊢; exact e
    · rw [upd_ne hb] at e ⊢; exact R.sub _ _ e
  · by_cases hb : b = p
    · subst hb; exact .inr h0
    · rw [upd_ne hb] at e; exact R.newF _ _ e
  · rw [upd_ne (ne_of_none (R.frame _ _ e hb) hp)]; exact R.frame _ _ e hb
  · obtain ⟨α, h1, h2⟩ := R.slots
    refine ⟨α, fun i x e => ?_, h2⟩
    refine (h1 i x e).step m (fun ho => ?_) (fun ho => (h1 i x e).nmem ho) (fun ho u e' => ?_)
    · obtain ⟨u, e'⟩ := (h1 i x e).has ho
      rw [upd_ne (ne_of_none e' hp)]; exact (h1 i x e).fnone ho
    · rw [upd_ne (ne_of_none e' hp)]; exact e'
  · refine ⟨R.st.len, R.st.nd, fun a ha => ?_, fun k a o' e1 e2 => (R.st.ok k a o' e1 e2).step m fun u e' => by rw [upd_ne (ne_of_none e' hp)]; exact e'⟩
    obtain ⟨u, e'⟩ := R.st.has ha
    rw [upd_ne (ne_of_none e' hp)]; exact R.st.fr a ha
  · obtain ⟨q1, q2, q3, q4⟩ := R.prot b u e
    rw [upd_ne (ne_of_none q1 hp), upd_ne (ne_of_none q1 hp)]
    exact ⟨q1, q2, q3, q4⟩

/-- a name's store -/
theorem Rel.setVal {i : Nat} {d : D} {v : V} (R : Rel K c F μ σ H (ρ, S)) (r : Rep K F μ d v) : Rel K c F μ (σ.set i (some v)) H (ρ.set i (.val d), S) := by
  refine ⟨R.sub, R.ext, R.newF, R.frame, R.mu, by simpa using R.len, ?_, R.st, R.prot⟩
  obtain ⟨α, h1, h2⟩ := R.slots
  have hl : ρ.length = σ.length := R.len
  refine ⟨α, fun j x e => ?_, fun j k x y e1 e2 o1 o2 => ?_⟩
  · by_cases hj : i = j
    · subst hj
      have e : (ρ.set i (.val d))[i]? = some x := e
      rw [List.getElem?_set] at e
      simp only [if_true] at e
      split at e
      · rename_i hi
        cases e
        exact ⟨v, by rw [List.getElem?_set_self (by omega)], r⟩
      · cases e
    · have e : (ρ.set i (.val d))[j]? = some x := e
      rw [List.getElem?_set_ne hj] at e
      rw [List.getElem?_set_ne hj]
      exact h1 j x e
  · have own_ne : ∀ {j : Nat} {x : Sl}, (ρ.set i (.val d))[j]? = some x → x.isOwn = true → ρ[j]? = some x := fun {j x} e o => by
      by_cases hj : i = j
      · subst hj
        rw [List.getElem?_set] at e
        simp only [if_true] at e
        split at e
        · cases e; cases o
        · cases e
      · rw [List.getElem?_set_ne hj] at e; exact e
    exact h2 j k x y (own_ne e1 o1) (own_ne e2 o2) o1 o2

/-- the slots but the last -/
theorem Rel.pop {x : Sl} {sv : Option V} (R : Rel K c F μ (σ ++ [sv]) H (ρ ++ [x], S)) : Rel K c F μ σ H (ρ, S) := by
  have hl : (ρ ++ [x]).length = (σ ++ [sv]).length := R.len
  have hl' : ρ.length = σ.length := by simpa using hl
  refine ⟨R.sub, R.ext, R.newF, R.frame, R.mu, hl', ?_, R.st, R.prot⟩
  obtain ⟨α, h1, h2⟩ := R.slots
  have up : ∀ {i : Nat} {y : Sl}, ρ[i]? = some y → (ρ ++ [x])[i]? = some y ∧ (σ ++ [sv])[i]? = σ[i]? := fun {i y} e => by
    have hi : i < ρ.length := (List.getElem?_eq_some_iff.mp e).1
    exact ⟨by rw [List.getElem?_append_left hi]; exact e, by rw [List.getElem?_append_left (by omega)]⟩
  refine ⟨α, fun i y e => ?_, fun i j y z e1 e2 => h2 i j y z (up e1).1 (up e2).1⟩
  have := h1 i y (up e).1
  rw [(up e).2] at this
  exact this
/-- a new owned object, as one more slot -/
theorem Rel.push {x : Sl} {p : Addr} {o : HO} (R : Rel K c F μ σ H (ρ, S)) (hp : H p = none) (hx : SlOk K c F μ (upd H p o) p (some (some (.ref p))) x) : Rel K c F μ (σ ++ [some (.ref p)]) (upd H p o) (ρ ++ [x], S) := by
  have hF := R.fnone hp
  have h0 := R.h0none hp
  have hl' : ρ.length = σ.length := R.len
  refine ⟨R.sub.trans (Same.upd_new hp), R.ext, R.newF, fun b u e hb => ?_, R.mu, by show (ρ ++ [x]).length = _; simp [hl'], ?_, ?_, fun b u e => ?_⟩
  · rw [upd_ne (ne_of_none (R.frame _ _ e hb) hp)]; exact R.frame _ _ e hb
  · obtain ⟨α, h1, h2⟩ := R.slots
    have low : ∀ {i : Nat} {y : Sl}, (ρ ++ [x])[i]? = some y → (i < ρ.length ∧ ρ[i]? = some y) ∨ (i = ρ.length ∧ y = x) := fun {i y} e => by
      by_cases hi : i < ρ.length
      · rw [List.getElem?_append_left hi] at e; exact .inl ⟨hi, e⟩
      · rw [List.getElem?_append_right (by omega)] at e
        have : i - ρ.length = 0 := by
          cases h : i - ρ.length with
          | zero => rfl
          | succ n => rw [h] at e; simp at e
        rw [this] at e
        simp at e
        exact .inr ⟨by omega, e.symm⟩
    refine ⟨fun i => if i < ρ.length then α i else p, fun i y e => ?_, fun i j y z e1 e2 o1 o2 he => ?_⟩
    · rcases low e with ⟨hi, e⟩ | ⟨hi, rfl⟩
      · show SlOk K c F μ (upd H p o) (if i < ρ.length then α i else p) _ y
        rw [if_pos hi, List.getElem?_append_left (by omega)]
        have q := h1 i y e
        refine q.step (Mono.refl _ _) (fun ho => q.fnone ho) (fun ho => q.nmem ho) fun ho u e' => ?_
        rw [upd_ne (ne_of_none e' hp)]; exact e'
      · show SlOk K c F μ (upd H p o) (if i < ρ.length then α i else p) _ y
        subst hi
        rw [if_neg (by omega), List.getElem?_append_right (by omega)]
        rw [show ρ.length - σ.length = 0 by omega]
        exact hx
    · dsimp only at he
      rcases low e1 with ⟨hi, e1'⟩ | ⟨hi, hy⟩ <;> rcases low e2 with ⟨hj, e2'⟩ | ⟨hj, hz⟩
      · rw [if_pos hi, if_pos hj] at he; exact h2 i j y z e1' e2' o1 o2 he
      · rw [if_pos hi, if_neg (by omega)] at he
        obtain ⟨u, q⟩ := (h1 i y e1').has o1
        rw [he] at q
        exact (ne_none q hp).elim
      · rw [if_neg (by omega), if_pos hj] at he
        obtain ⟨u, q⟩ := (h1 j z e2').has o2
        rw [← he] at q
        exact (ne_none q hp).elim
      · omega
  · refine ⟨R.st.len, R.st.nd, R.st.fr, fun k a o' e1 e2 => (R.st.ok k a o' e1 e2).step (Mono.refl _ _) fun u e' => by rw [upd_ne (ne_of_none e' hp)]; exact e'⟩
  · obtain ⟨q1, q2, q3, q4⟩ := R.prot b u e
    rw [upd_ne (ne_of_none q1 hp)]
    exact ⟨q1, q2, q3, q4⟩
/-- the last slot moves to a name -/
theorem Rel.move {i : Nat} {x : Sl} {sv : Option V} (R : Rel K c F μ (σ ++ [sv]) H (ρ ++ [x], S)) : Rel K c F μ (σ.set i sv) H (ρ.set i x, S) := by
  have hl : (ρ ++ [x]).length = (σ ++ [sv]).length := R.len
  have hl' : ρ.length = σ.length := by simpa using hl
  refine ⟨R.sub, R.ext, R.newF, R.frame, R.mu, by simpa using hl', ?_, R.st, R.prot⟩
  obtain ⟨α, h1, h2⟩ := R.slots
  have up : ∀ {j : Nat} {y : Sl}, ρ[j]? = some y → (ρ ++ [x])[j]? = some y ∧ (σ ++ [sv])[j]? = σ[j]? ∧ j < ρ.length := fun {j y} e => by
    have hi : j < ρ.length := (List.getElem?_eq_some_iff.mp e).1
    exact ⟨by rw [List.getElem?_append_left hi]; exact e, by rw [List.getElem?_append_left (by omega)], hi⟩
  have lastx : (ρ ++ [x])[ρ.length]? = some x := by rw [List.getElem?_append_right (Nat.le_refl _)]; simp
  have lastv : (σ ++ [sv])[ρ.length]? = some sv := by rw [hl', List.getElem?_append_right (Nat.le_refl _)]; simp
  refine ⟨fun j => if j = i then α ρ.length else α j, fun j y e => ?_, fun j k y z e1 e2 o1 o2 he => ?_⟩
  · by_cases hj : i = j
    · subst hj
      have e : (ρ.set i x)[i]? = some y := e
      rw [List.getElem?_set] at e
      simp only [if_true] at e
      split at e
      · rename_i hi
        cases e
        have q := h1 _ _ lastx
        rw [lastv] at q
        dsimp only
        rw [if_pos rfl, List.getElem?_set_self (by omega)]
        exact q
      · cases e
    · have e : (ρ.set i x)[j]? = some y := e
      rw [List.getElem?_set_ne hj] at e
      dsimp only
      rw [if_neg (Ne.symm hj), List.getElem?_set_ne hj]
      have q := h1 j y (up e).1
      rw [(up e).2.1] at q
      exact q
  · have cas : ∀ {j : Nat} {y : Sl}, (ρ.set i x)[j]? = some y → (j = i ∧ i < ρ.length ∧ y = x) ∨ (j ≠ i ∧ ρ[j]? = some y) := fun {j y} e => by
      by_cases hj : i = j
      · subst hj
        rw [List.getElem?_set] at e
        simp only [if_true] at e
        split at e
        · rename_i hi
          cases e
          exact .inl ⟨rfl, hi, rfl⟩
        · cases e
      · rw [List.getElem?_set_ne hj] at e
        exact .inr ⟨Ne.symm hj, e⟩
    dsimp only at he
    rcases cas e1 with ⟨ej, hi, ey⟩ | ⟨hj, f1⟩
    · subst ey
      rcases cas e2 with ⟨ek, hk, ez⟩ | ⟨hk, f2⟩
      · rw [ej, ek]
      · rw [if_pos ej, if_neg hk] at he
        have := h2 _ _ _ _ lastx (up f2).1 o1 o2 he
        have := (up f2).2.2
        omega
    · rcases cas e2 with ⟨ek, hk, ez⟩ | ⟨hk, f2⟩
      · subst ez
        rw [if_neg hj, if_pos ek] at he
        have := h2 _ _ _ _ (up f1).1 lastx o1 o2 he
        have := (up f1).2.2
        omega
      · rw [if_neg hj, if_neg hk] at he
        exact h2 _ _ _ _ (up f1).1 (up f2).1 o1 o2 he
/-- an owned thing is frozen where it stands: the slot holds d from now on -/
theorem Rel.freeze {i : Nat} {x : Sl} {d : D} (R : Rel K c F μ σ H (ρ, S)) (hx : ρ[i]? = some x) (ho : x.isOwn = true) (hd : ∃ ds, x = .own ds ∧ d = .lst ds) :
    ∃ a F', σ[i]? = some (some (.ref a)) ∧ Rel K c F' μ σ H (ρ.set i (.val d), S) ∧ Mono F μ F' μ ∧ Rep K F' μ d (.ref a) := by
  obtain ⟨α, h1, h2⟩ := R.slots
  have q := h1 i x hx
  obtain ⟨o, e1⟩ := q.has ho
  have e2 := q.fnone ho
  have e3 := q.nmem ho
  have m : Mono F μ (upd F (α i) o) μ := Mono.new e2
  have h0p : c.H0 (α i) = none ∧ c.P (α i) = none := by
    obtain ⟨ds, rfl, rfl⟩ := hd
    exact q.2.2.1
  have h0 := h0p.1
  have es : σ[i]? = some (some (.ref (α i))) := by
    obtain ⟨ds, rfl, rfl⟩ := hd
    exact q.1
  have rp : Rep K (upd F (α i) o) μ d (.ref (α i)) := by
    obtain ⟨ds, rfl, rfl⟩ := hd
    obtain ⟨_, _, _, _, vs, h, r⟩ := q
    rw [e1] at h; cases h
    exact .lst upd_same (r.mono m)
  refine ⟨α i, upd F (α i) o, es, ?_, m, rp⟩
  have R' : Rel K c (upd F (α i) o) μ σ H (ρ.set i (.val d), S) := by
    have hl : ρ.length = σ.length := R.len
    refine ⟨fun b u e => ?_, R.ext.trans (Same.upd_new e2), fun b u e => ?_, R.frame, R.mu, by simpa using hl, ?_, ?_, fun b u e => ?_⟩
    · by_cases hb : b = α i
      · subst hb; rw [upd_same] at e; cases e; exact e1
      · rw [upd_ne hb] at e; exact R.sub _ _ e
    · by_cases hb : b = α i
      · subst hb; exact .inr h0
      · rw [upd_ne hb] at e; exact R.newF _ _ e
    · have own_ne : ∀ {j : Nat} {y : Sl}, (ρ.set i (.val d))[j]? = some y → y.isOwn = true → ρ[j]? = some y ∧ j ≠ i := fun {j y} e o => by
        by_cases hj : i = j
        · subst hj
          rw [List.getElem?_set] at e
          simp only [if_true] at e
          split at e
          · cases e; cases o
          · cases e
        · rw [List.getElem?_set_ne hj] at e; exact ⟨e, Ne.symm hj⟩
      refine ⟨α, fun j y e => ?_, fun j k y z e1 e2 o1 o2 => h2 j k y z (own_ne e1 o1).1 (own_ne e2 o2).1 o1 o2⟩
      by_cases hj : i = j
      · subst hj
        have e : (ρ.set i (.val d))[i]? = some y := e
        rw [List.getElem?_set] at e
        simp only [if_true] at e
        split at e
        · cases e; exact ⟨_, es, rp⟩
        · cases e
      · have e' : ρ[j]? = some y := by
          have e : (ρ.set i (.val d))[j]? = some y := e
          rw [List.getElem?_set_ne hj] at e; exact e
        refine (h1 j y e').step m (fun oy => ?_) (fun oy => (h1 j y e').nmem oy) fun _ _ z => z
        rw [upd_ne fun z => hj (h2 j i y x e' hx oy ho z).symm]
        exact (h1 j y e').fnone oy
    · refine ⟨R.st.len, R.st.nd, fun a ha => ?_, fun k a o' q1 q2 => (R.st.ok k a o' q1 q2).step m fun _ z => z⟩
      rw [upd_ne (fun z => e3 (by rw [← z]; exact ha))]
      exact R.st.fr a ha
    · obtain ⟨q1, q2, q3, q4⟩ := R.prot b u e
      rw [upd_ne fun z => by subst z; exact ne_none e h0p.2]
      exact ⟨q1, q2, q3, q4⟩
  exact R'
/-- an owned dict is frozen where it stands, and locked -/
theorem Rel.freezeK {i : Nat} {ds : List (DK × D)} (R : Rel K c F μ σ H (ρ, S)) (hx : ρ[i]? = some (.ownK ds)) :
    ∃ a vs, σ[i]? = some (some (.ref a)) ∧ H a = some (.dK vs) ∧ ∀ od, ∃ F', Rel K c F' μ σ (upd H a (.frz od (.dK vs))) (ρ.set i (.val (.dct ds)), S) ∧ Mono F μ F' μ ∧ Rep K F' μ (.dct ds) (.ref a) := by
  obtain ⟨α, h1, h2⟩ := R.slots
  obtain ⟨es, e2, h0p, e3, vs, e1, r⟩ := h1 i _ hx
  refine ⟨α i, vs, es, e1, fun od => ?_⟩
  have m : Mono F μ (upd F (α i) (.frz od (.dK vs))) μ := Mono.new e2
  have rp : Rep K (upd F (α i) (.frz od (.dK vs))) μ (.dct ds) (.ref (α i)) := .dct upd_same (r.mono m)
  have hl : ρ.length = σ.length := R.len
  refine ⟨upd F (α i) (.frz od (.dK vs)), ⟨fun b u e => ?_, R.ext.trans (Same.upd_new e2), fun b u e => ?_, fun b u e hb => ?_, R.mu, by simpa using hl, ?_, ?_, fun b u e => ?_⟩, m, rp⟩
  · by_cases hb : b = α i
    · subst hb; rw [upd_same] at e ⊢; exact e
    · rw [upd_ne hb] at e ⊢; exact R.sub _ _ e
  · by_cases hb : b = α i
    · subst hb; exact .inr h0p.1
    · rw [upd_ne hb] at e; exact R.newF _ _ e
  · rw [upd_ne fun z => by subst z; exact ne_none e h0p.1]; exact R.frame _ _ e hb
  · have own_ne : ∀ {j : Nat} {y : Sl}, (ρ.set i (.val (.dct ds)))[j]? = some y → y.isOwn = true → ρ[j]? = some y ∧ j ≠ i := fun {j y} e o => by
      by_cases hj : i = j
      · subst hj
        rw [List.getElem?_set] at e
        simp only [if_true] at e
        split at e
        · cases e; cases o
        · cases e
      · rw [List.getElem?_set_ne hj] at e; exact ⟨e, Ne.symm hj⟩
    refine ⟨α, fun j y e => ?_, fun j k y z e1 e2 o1 o2 => h2 j k y z (own_ne e1 o1).1 (own_ne e2 o2).1 o1 o2⟩
    by_cases hj : i = j
    · subst hj
      have e : (ρ.set i (.val (.dct ds)))[i]? = some y := e
      rw [List.getElem?_set] at e
      simp only [if_true] at e
      split at e
      · cases e; exact ⟨_, es, rp⟩
      · cases e
    · have e' : ρ[j]? = some y := by
        have e : (ρ.set i (.val (.dct ds)))[j]? = some y := e
        rw [List.getElem?_set_ne hj] at e; exact e
      have ne : y.isOwn = true → α j ≠ α i := fun oy z => hj (h2 j i y _ e' hx oy rfl z).symm
      refine (h1 j y e').step m (fun oy => ?_) (fun oy => (h1 j y e').nmem oy) fun oy o q => ?_
      · rw [upd_ne (ne oy)]; exact (h1 j y e').fnone oy
      · rw [upd_ne (ne oy)]; exact q
  · refine ⟨R.st.len, R.st.nd, fun a ha => ?_, fun k a o' q1 q2 => (R.st.ok k a o' q1 q2).step m fun u z => ?_⟩
    · rw [upd_ne (fun z => e3 (by rw [← z]; exact ha))]
      exact R.st.fr a ha
    · rw [upd_ne (fun z => e3 (by rw [← z]; exact List.mem_of_getElem? q1))]; exact z
  · obtain ⟨q1, q2, q3, q4⟩ := R.prot b u e
    have hb : b ≠ α i := fun z => by subst z; exact ne_none e h0p.2
    rw [upd_ne hb, upd_ne hb]
    exact ⟨q1, q2, q3, q4⟩
/-- the owned thing of a slot is written -/
theorem Rel.write {i : Nat} {x y : Sl} {o : HO} (R : Rel K c F μ σ H (ρ, S)) (hx : ρ[i]? = some x) (ho : x.isOwn = true) (hy : y.isOwn = true) {a : Addr} (ha : σ[i]? = some (some (.ref a))) (hn : SlOk K c F μ (upd H a o) a (some (some (.ref a))) y) :
    Rel K c F μ σ (upd H a o) (ρ.set i y, S) := by
  obtain ⟨α, h1, h2⟩ := R.slots
  have q := h1 i x hx
  have ea : α i = a := by
    cases x with
    | un => cases ho
    | val d => cases ho
    | own ds => have := q.1; rw [ha] at this; cases this; rfl
    | ownK ds => have := q.1; rw [ha] at this; cases this; rfl
  subst ea
  have e2 := q.fnone ho
  have e3 := q.nmem ho
  have h0p : c.H0 (α i) = none ∧ c.P (α i) = none := by
    cases x with
    | un => cases ho
    | val d => cases ho
    | own ds => exact q.2.2.1
    | ownK ds => exact q.2.2.1
  have h0 := h0p.1
  have hl : ρ.length = σ.length := R.len
  refine ⟨fun b u e => ?_, R.ext, R.newF, fun b u e hb => ?_, R.mu, by simpa using hl, ?_, ?_, fun b u e => ?_⟩
  · rw [upd_ne fun z => by subst z; exact ne_none e e2]; exact R.sub _ _ e
  · rw [upd_ne fun z => by subst z; exact ne_none e h0]; exact R.frame _ _ e hb
  · have cas : ∀ {j : Nat} {z : Sl}, (ρ.set i y)[j]? = some z → (j = i ∧ z = y) ∨ (j ≠ i ∧ ρ[j]? = some z) := fun {j z} e => by
      by_cases hj : i = j
      · subst hj
        rw [List.getElem?_set] at e
        simp only [if_true] at e
        split at e
        · cases e; exact .inl ⟨rfl, rfl⟩
        · cases e
      · rw [List.getElem?_set_ne hj] at e
        exact .inr ⟨Ne.symm hj, e⟩
    refine ⟨α, fun j z e => ?_, fun j k z w' e1 e2 o1 o2 he => ?_⟩
    · rcases cas e with ⟨rfl, rfl⟩ | ⟨hj, e⟩
      · rw [ha]; exact hn
      · refine (h1 j z e).step (Mono.refl _ _) (fun oz => (h1 j z e).fnone oz) (fun oz => (h1 j z e).nmem oz) fun oz u e' => ?_
        rw [upd_ne fun w' => hj (h2 j i z x e hx oz ho w')]; exact e'
    · rcases cas e1 with ⟨ej, ez⟩ | ⟨hj, f1⟩
      · rcases cas e2 with ⟨ek, ew⟩ | ⟨hk, f2⟩
        · rw [ej, ek]
        · rw [ej] at he ⊢; exact h2 _ _ _ _ hx f2 ho o2 he
      · rcases cas e2 with ⟨ek, ew⟩ | ⟨hk, f2⟩
        · rw [ek] at he ⊢; exact h2 _ _ _ _ f1 hx o1 ho he
        · exact h2 _ _ _ _ f1 f2 o1 o2 he
  · refine ⟨R.st.len, R.st.nd, R.st.fr, fun k b o' q1 q2 => (R.st.ok k b o' q1 q2).step (Mono.refl _ _) fun u z => ?_⟩
    rw [upd_ne fun w' => by subst w'; exact e3 (List.mem_of_getElem? q1)]; exact z
  · obtain ⟨q1, q2, q3, q4⟩ := R.prot b u e
    rw [upd_ne fun z => by subst z; exact ne_none e h0p.2]
    exact ⟨q1, q2, q3, q4⟩
/-- a by-reference object is written -/
theorem Rel.writeO {k : Nat} {a : Addr} {ob : O} {o : HO} (R : Rel K c F μ σ H (ρ, S)) (hk : μ[k]? = some a) (hn : OOk K c.cls F μ (upd H a o) a ob) : Rel K c F μ σ (upd H a o) (ρ, S.set k ob) := by
  have hm : a ∈ μ := List.mem_of_getElem? hk
  have e2 := R.st.fr a hm
  refine ⟨fun b u e => ?_, R.ext, R.newF, fun b u e hb => ?_, R.mu, R.len, ?_, ?_, fun b u e => ?_⟩
  · rw [upd_ne fun z => by subst z; exact ne_none e e2]; exact R.sub _ _ e
  · rw [upd_ne fun z => ?_]; exact R.frame _ _ e hb
    subst z
    obtain ⟨ν, e1, h⟩ := R.mu
    rw [e1] at hm
    rcases List.mem_append.mp hm with z | z
    · exact hb z
    · exact ne_none e (h _ z)
  · obtain ⟨α, h1, h2⟩ := R.slots
    refine ⟨α, fun j z e => ?_, h2⟩
    refine (h1 j z e).step (Mono.refl _ _) (fun oz => (h1 j z e).fnone oz) (fun oz => (h1 j z e).nmem oz) fun oz u e' => ?_
    rw [upd_ne (fun w' => (h1 j z e).nmem oz (by rw [w']; exact hm))]; exact e'
  · refine ⟨by show _ = (S.set k ob).length; rw [List.length_set]; exact R.st.len, R.st.nd, R.st.fr, fun j b o' q1 q2 => ?_⟩
    have q2 : (S.set k ob)[j]? = some o' := q2
    by_cases hj : k = j
    · subst hj
      rw [List.getElem?_set] at q2
      simp only [if_true] at q2
      split at q2
      · cases q2
        rw [hk] at q1; cases q1
        exact hn
      · cases q2
    · rw [List.getElem?_set_ne hj] at q2
      refine (R.st.ok j b o' q1 q2).step (Mono.refl _ _) fun u z => ?_
      rw [upd_ne fun w' => ?_]; exact z
      subst w'
      have l1 := (List.getElem?_eq_some_iff.mp hk).1
      have l2 := (List.getElem?_eq_some_iff.mp q1).1
      have e1 := (List.getElem?_eq_some_iff.mp hk).2
      have e2 := (List.getElem?_eq_some_iff.mp q1).2
      exact hj ((List.getElem_inj R.st.nd).mp (e1.trans e2.symm))
  · obtain ⟨q1, q2, q3, q4⟩ := R.prot b u e
    rw [upd_ne fun z => by subst z; exact q3 hm]
    exact ⟨q1, q2, q3, q4⟩
/-- behind a call -/
structure Step (cls : Nat → Addr) (K : PySem.W.Frag) (F : Hp) (μ : List Addr) (H : Hp) (F' : Hp) (μ' : List Addr) (H' : Hp) (S' : List O) : Prop where
  sub : Same F' H'
  ext : Same F F'
  newF : ∀ b o, F' b = some o → F b = some o ∨ H b = none
  frame : ∀ b o, H b = some o → b ∉ μ → H' b = some o
  mu : ∃ ν, μ' = μ ++ ν ∧ ∀ b ∈ ν, H b = none
  st : StOk K cls F' μ' H' S'
theorem Step.mono {cls : Nat → Addr} (t : Step cls K F μ H F' μ' H' S') : Mono F μ F' μ' := ⟨t.ext, fun k a e => by
  obtain ⟨ν, e1, _⟩ := t.mu
  rw [e1, List.getElem?_append_left (List.getElem?_eq_some_iff.mp e).1]; exact e⟩
theorem Rel.step (R : Rel K c F μ σ H (ρ, S)) (t : Step c.cls K F μ H F' μ' H' S') : Rel K c F' μ' σ H' (ρ, S') := by
  have m := t.mono
  obtain ⟨ν, e1, hν⟩ := t.mu
  obtain ⟨ν0, e0, hν0⟩ := R.mu
  refine ⟨t.sub, R.ext.trans t.ext, fun b u e => ?_, fun b u e hb => ?_, ⟨ν0 ++ ν, by rw [e1, e0, List.append_assoc], fun b hb => ?_⟩, R.len, ?_, t.st, fun b u e => ?_⟩
  · rcases t.newF b u e with z | z
    · exact R.newF b u z
    · exact .inr (R.h0none z)
  · refine t.frame b u (R.frame b u e hb) fun z => ?_
    rw [e0] at z
    rcases List.mem_append.mp z with z | z
    · exact hb z
    · exact ne_none e (hν0 _ z)
  · rcases List.mem_append.mp hb with z | z
    · exact hν0 b z
    · exact R.h0none (hν b z)
  · obtain ⟨α, h1, h2⟩ := R.slots
    refine ⟨α, fun i x e => ?_, h2⟩
    have q := h1 i x e
    refine q.step m (fun o => ?_) (fun o => ?_) fun o u e' => t.frame _ _ e' (q.nmem o)
    · obtain ⟨u, e'⟩ := q.has o
      cases z : F' (α i) with
      | none => rfl
      | some w' =>
        rcases t.newF _ _ z with z' | z'
        · exact (ne_none z' (q.fnone o)).elim
        · exact (ne_none e' z').elim
    · rw [e1]
      intro z
      obtain ⟨u, e'⟩ := q.has o
      rcases List.mem_append.mp z with z | z
      · exact q.nmem o z
      · exact (ne_none e' (hν _ z)).elim
  · obtain ⟨q1, q2, q3, q4⟩ := R.prot b u e
    refine ⟨t.frame _ _ q1 q3, ?_, ?_, q4⟩
    · cases z : F' b with
      | none => rfl
      | some w' =>
        rcases t.newF _ _ z with z' | z'
        · exact (ne_none z' q2).elim
        · exact (ne_none q1 z').elim
    · rw [e1]
      intro z
      rcases List.mem_append.mp z with z | z
      · exact q3 z
      · exact (ne_none q1 (hν _ z)).elim
theorem Rel.pnone (R : Rel K c F μ σ H s) {p : Addr} (h : H p = none) : c.P p = none := by
  cases q : c.P p with
  | none => rfl
  | some o => exact (ne_none (R.prot _ _ q).1 h).elim
/-- an owned thing held apart -/
theorem Rel.hold {p : Addr} {o : HO} (R : Rel K c F μ σ H s) (hp : H p = none) : Rel K { c with P := upd c.P p o } F μ σ (upd H p o) s := by
  have hF := R.fnone hp
  have h0 := R.h0none hp
  refine ⟨R.sub.trans (Same.upd_new hp), R.ext, R.newF, fun b u e hb => ?_, R.mu, R.len, ?_, ?_, fun b u e => ?_⟩
  · rw [upd_ne (ne_of_none (R.frame _ _ e hb) hp)]; exact R.frame _ _ e hb
  · obtain ⟨α, h1, h2⟩ := R.slots
    refine ⟨α, fun i x e => ?_, h2⟩
    have q := h1 i x e
    cases x with
    | un => trivial
    | val d => exact q
    | own ds =>
      obtain ⟨q1, q2, ⟨q3, q3'⟩, q4, vs, q5, q6⟩ := q
      exact ⟨q1, q2, ⟨q3, by show upd c.P p o (α i) = none; rw [upd_ne (ne_of_none q5 hp)]; exact q3'⟩, q4, vs, by rw [upd_ne (ne_of_none q5 hp)]; exact q5, q6⟩
    | ownK ds =>
      obtain ⟨q1, q2, ⟨q3, q3'⟩, q4, vs, q5, q6⟩ := q
      exact ⟨q1, q2, ⟨q3, by show upd c.P p o (α i) = none; rw [upd_ne (ne_of_none q5 hp)]; exact q3'⟩, q4, vs, by rw [upd_ne (ne_of_none q5 hp)]; exact q5, q6⟩
  · refine ⟨R.st.len, R.st.nd, R.st.fr, fun k a o' e1 e2 => (R.st.ok k a o' e1 e2).step (Mono.refl _ _) fun u e' => by rw [upd_ne (ne_of_none e' hp)]; exact e'⟩
  · have e : upd c.P p o b = some u := e
    by_cases hb : b = p
    · subst hb
      rw [upd_same] at e ⊢
      refine ⟨e, hF, fun hm => ?_, h0⟩
      obtain ⟨u', e'⟩ := R.st.has hm
      exact ne_none e' hp
    · rw [upd_ne hb] at e ⊢
      exact R.prot b u e
/-- the held thing is written -/
theorem Rel.holdW {p : Addr} {o o' : HO} (R : Rel K { c with P := upd c.P p o } F μ σ H s) : Rel K { c with P := upd c.P p o' } F μ σ (upd H p o') s := by
  obtain ⟨p1, p2, p3, p4⟩ := R.prot p o upd_same
  refine ⟨fun b u e => ?_, R.ext, R.newF, fun b u e hb => ?_, R.mu, R.len, ?_, ?_, fun b u e => ?_⟩
  · rw [upd_ne fun z => by subst z; exact ne_none e p2]; exact R.sub _ _ e
  · rw [upd_ne fun z => by subst z; exact ne_none e p4]; exact R.frame _ _ e hb
  · obtain ⟨α, h1, h2⟩ := R.slots
    refine ⟨α, fun i x e => ?_, h2⟩
    have q := h1 i x e
    have nep : upd c.P p o (α i) = none → α i ≠ p := fun h z => by rw [z, upd_same] at h; cases h
    cases x with
    | un => trivial
    | val d => exact q
    | own ds =>
      obtain ⟨q1, q2, ⟨q3, q3'⟩, q4, vs, q5, q6⟩ := q
      have n := nep q3'
      have q3' : upd c.P p o (α i) = none := q3'
      rw [upd_ne n] at q3'
      exact ⟨q1, q2, ⟨q3, by show upd c.P p o' (α i) = none; rw [upd_ne n]; exact q3'⟩, q4, vs, by rw [upd_ne n]; exact q5, q6⟩
    | ownK ds =>
      obtain ⟨q1, q2, ⟨q3, q3'⟩, q4, vs, q5, q6⟩ := q
      have n := nep q3'
      have q3' : upd c.P p o (α i) = none := q3'
      rw [upd_ne n] at q3'
      exact ⟨q1, q2, ⟨q3, by show upd c.P p o' (α i) = none; rw [upd_ne n]; exact q3'⟩, q4, vs, by rw [upd_ne n]; exact q5, q6⟩
  · refine ⟨R.st.len, R.st.nd, R.st.fr, fun k a ob e1 e2 => (R.st.ok k a ob e1 e2).step (Mono.refl _ _) fun u e' => ?_⟩
    rw [upd_ne fun z => by subst z; exact p3 (List.mem_of_getElem? e1)]; exact e'
  · have e : upd c.P p o' b = some u := e
    by_cases hb : b = p
    · subst hb
      rw [upd_same] at e ⊢
      exact ⟨e, p2, p3, p4⟩
    · rw [upd_ne hb] at e ⊢
      exact R.prot b u (by show upd c.P p o b = some u; rw [upd_ne hb]; exact e)
/-- the held thing becomes a slot -/
theorem Rel.unhold {p : Addr} {o : HO} {x : Sl} (R : Rel K { c with P := upd c.P p o } F μ σ H (ρ, S)) (hP : c.P p = none) (hx : (∃ ds vs, x = .own ds ∧ o = .lst vs ∧ Reps K F μ ds vs) ∨ ∃ ds vs, x = .ownK ds ∧ o = .dK vs ∧ RepKs K F μ ds vs) :
    Rel K c F μ (σ ++ [some (.ref p)]) H (ρ ++ [x], S) := by
  obtain ⟨p1, p2, p3, p4⟩ := R.prot p o upd_same
  have hl' : ρ.length = σ.length := R.len
  refine ⟨R.sub, R.ext, R.newF, R.frame, R.mu, by show (ρ ++ [x]).length = _; simp [hl'], ?_, R.st, fun b u e => ?_⟩
  · obtain ⟨α, h1, h2⟩ := R.slots
    have low : ∀ {i : Nat} {y : Sl}, (ρ ++ [x])[i]? = some y → (i < ρ.length ∧ ρ[i]? = some y) ∨ (i = ρ.length ∧ y = x) := fun {i y} e => by
      by_cases hi : i < ρ.length
      · rw [List.getElem?_append_left hi] at e; exact .inl ⟨hi, e⟩
      · rw [List.getElem?_append_right (by omega)] at e
        have : i - ρ.length = 0 := by
          cases h : i - ρ.length with
          | zero => rfl
          | succ n => rw [h] at e; simp at e
        rw [this] at e
        simp at e
        exact .inr ⟨by omega, e.symm⟩
    have nep : ∀ {i : Nat} {y : Sl}, ρ[i]? = some y → y.isOwn = true → α i ≠ p := fun {i y} e oy z => by
      have q := h1 i y e
      cases y with
      | un => cases oy
      | val d => cases oy
      | own ds => have q3 : upd c.P p o (α i) = none := q.2.2.1.2; rw [z, upd_same] at q3; cases q3
      | ownK ds => have q3 : upd c.P p o (α i) = none := q.2.2.1.2; rw [z, upd_same] at q3; cases q3
    refine ⟨fun i => if i < ρ.length then α i else p, fun i y e => ?_, fun i j y z e1 e2 o1 o2 he => ?_⟩
    · rcases low e with ⟨hi, e⟩ | ⟨hi, rfl⟩
      · dsimp only
        rw [if_pos hi, List.getElem?_append_left (by omega)]
        have q := h1 i y e
        cases y with
        | un => trivial
        | val d => exact q
        | own ds =>
          obtain ⟨q1, q2, ⟨q3, q3'⟩, q4⟩ := q
          have q3' : upd c.P p o (α i) = none := q3'
          rw [upd_ne (nep e rfl)] at q3'
          exact ⟨q1, q2, ⟨q3, q3'⟩, q4⟩
        | ownK ds =>
          obtain ⟨q1, q2, ⟨q3, q3'⟩, q4⟩ := q
          have q3' : upd c.P p o (α i) = none := q3'
          rw [upd_ne (nep e rfl)] at q3'
          exact ⟨q1, q2, ⟨q3, q3'⟩, q4⟩
      · dsimp only
        rw [if_neg (by omega), List.getElem?_append_right (by omega)]
        rw [show i - σ.length = 0 by omega]
        rcases hx with ⟨ds, vs, rfl, rfl, r⟩ | ⟨ds, vs, rfl, rfl, r⟩
        · exact ⟨rfl, p2, ⟨p4, hP⟩, p3, vs, p1, r⟩
        · exact ⟨rfl, p2, ⟨p4, hP⟩, p3, vs, p1, r⟩
    · dsimp only at he
      rcases low e1 with ⟨hi, e1'⟩ | ⟨hi, hy⟩
      · rcases low e2 with ⟨hj, e2'⟩ | ⟨hj, hz⟩
        · rw [if_pos hi, if_pos hj] at he; exact h2 i j y z e1' e2' o1 o2 he
        · rw [if_pos hi, if_neg (by omega)] at he; exact (nep e1' o1 he).elim
      · rcases low e2 with ⟨hj, e2'⟩ | ⟨hj, hz⟩
        · rw [if_neg (by omega), if_pos hj] at he; exact (nep e2' o2 he.symm).elim
        · omega
  · refine R.prot b u ?_
    show upd c.P p o b = some u
    rw [upd_ne fun z => by subst z; exact ne_none e hP]; exact e
/-- names forgotten -/
theorem Rel.forget {i : Nat} {sv : Option V} (R : Rel K c F μ σ H (ρ, S)) : Rel K c F μ (σ.set i sv) H (ρ.set i .un, S) := by
  refine ⟨R.sub, R.ext, R.newF, R.frame, R.mu, by simpa using R.len, ?_, R.st, R.prot⟩
  obtain ⟨α, h1, h2⟩ := R.slots
  have cas : ∀ {j : Nat} {z : Sl}, (ρ.set i .un)[j]? = some z → (j = i ∧ z = .un) ∨ (j ≠ i ∧ ρ[j]? = some z) := fun {j z} e => by
    by_cases hj : i = j
    · subst hj
      rw [List.getElem?_set] at e
      simp only [if_true] at e
      split at e
      · cases e; exact .inl ⟨rfl, rfl⟩
      · cases e
    · rw [List.getElem?_set_ne hj] at e
      exact .inr ⟨Ne.symm hj, e⟩
  refine ⟨α, fun j z e => ?_, fun j k y z e1 e2 o1 o2 he => ?_⟩
  · rcases cas e with ⟨rfl, rfl⟩ | ⟨hj, e⟩
    · trivial
    · rw [List.getElem?_set_ne (Ne.symm hj)]; exact h1 j z e
  · rcases cas e1 with ⟨_, w1⟩ | ⟨hj, f1⟩
    · subst w1; cases o1
    · rcases cas e2 with ⟨_, w2⟩ | ⟨hk, f2⟩
      · subst w2; cases o2
      · exact h2 j k y z f1 f2 o1 o2 he
end
end DL

set_option Elab.async false
set_option linter.all false
set_option maxRecDepth 100000
namespace DL
open PySem PySem.Spec PyProof.Rows L2

theorem imp {X : Cx} {e : Expr} {t t' : TE} (h : PE X e t) (k : ∀ σ H Q, t' σ H Q → t σ H Q) : PE X e t' := ⟨fun pins s σ H Q I w => h.run pins s σ H Q I (k _ _ _ w)⟩
theorem impT {X : Cx} {e : Expr} {t t' : TT} (h : PT X e t) (k : ∀ σ H Q, t' σ H Q → t σ H Q) : PT X e t' := ⟨fun pins s σ H Q I w => h.run pins s σ H Q I (k _ _ _ w)⟩
theorem impW {X : Cx} {e : Expr} {t t' : TT} (h : PW X e t) (k : ∀ σ H Q, t' σ H Q → t σ H Q) : PW X e t' := ⟨fun wh pins s σ H Q I w => h.run wh pins s σ H Q I (k _ _ _ w)⟩
theorem impA {X : Cx} {e : List Expr} {t t' : TA} (h : PA X e t) (k : ∀ σ H Q, t' σ H Q → t σ H Q) : PA X e t' := ⟨fun pos pins s σ H Q I w => h.run pos pins s σ H Q I (k _ _ _ w)⟩
theorem impS {X : Cx} {e : Stmt} {t t' : TS} (h : PS X e t) (k : ∀ D σ H, t' D σ H → t D σ H) : PS X e t' := ⟨fun pins s σ H D I w => h.run pins s σ H D I (k _ _ _ w)⟩
theorem impSs {X : Cx} {e : List Stmt} {t t' : TS} (h : PSs X e t) (k : ∀ D σ H, t' D σ H → t D σ H) : PSs X e t' := ⟨fun pins s σ H D I w => h.run pins s σ H D I (k _ _ _ w)⟩

/-! ### what an evaluator asks -/
def TD (K : PySem.W.Frag) (cls : Nat → Addr) (f : Ev D) : TE := fun σ H Q => ∃ c F μ s, c.cls = cls ∧ Rel K c F μ σ H s ∧ ∃ d s', f s = some (d, s') ∧
  ∀ v H' F' μ', Rel K c F' μ' σ H' s' → Mono F μ F' μ' → Rep K F' μ' d v → Q v H'
def TDT (K : PySem.W.Frag) (cls : Nat → Addr) (f : Ev Bool) : TT := fun σ H Q => ∃ c F μ s, c.cls = cls ∧ Rel K c F μ σ H s ∧ ∃ d s', f s = some (d, s') ∧
  ∀ H' F' μ', Rel K c F' μ' σ H' s' → Mono F μ F' μ' → Q d H'
def TDA (K : PySem.W.Frag) (cls : Nat → Addr) (f : Ev (List D)) : TA := fun σ H Q => ∃ c F μ s, c.cls = cls ∧ Rel K c F μ σ H s ∧ ∃ d s', f s = some (d, s') ∧
  ∀ v H' F' μ', Rel K c F' μ' σ H' s' → Mono F μ F' μ' → Reps K F' μ' d v → Q v H'
/-- a new list of its own -/
def TDF (K : PySem.W.Frag) (cls : Nat → Addr) (f : Ev (List D)) : TE := fun σ H Q => ∃ c F μ ρ S, c.cls = cls ∧ Rel K c F μ σ H (ρ, S) ∧ ∃ d ρ' S', f (ρ, S) = some (d, (ρ', S')) ∧
  ∀ v H' F' μ', Rel K c F' μ' (σ ++ [some v]) H' (ρ' ++ [.own d], S') → Mono F μ F' μ' → Q v H'
/-- a new dict of its own -/
def TDK (K : PySem.W.Frag) (cls : Nat → Addr) (f : Ev (List (DK × D))) : TE := fun σ H Q => ∃ c F μ ρ S, c.cls = cls ∧ Rel K c F μ σ H (ρ, S) ∧ ∃ d ρ' S', f (ρ, S) = some (d, (ρ', S')) ∧
  ∀ v H' F' μ', Rel K c F' μ' (σ ++ [some v]) H' (ρ' ++ [.ownK d], S') → Mono F μ F' μ' → Q v H'
abbrev DE (cls : Nat → Addr) (X : Cx) (e : Expr) (f : Ev D) : Prop := PE X e (TD X.K cls f)
abbrev DT (cls : Nat → Addr) (X : Cx) (e : Expr) (f : Ev Bool) : Prop := PT X e (TDT X.K cls f)
abbrev DW (cls : Nat → Addr) (X : Cx) (e : Expr) (f : Ev Bool) : Prop := PW X e (TDT X.K cls f)
abbrev DA (cls : Nat → Addr) (X : Cx) (e : List Expr) (f : Ev (List D)) : Prop := PA X e (TDA X.K cls f)
abbrev DF (cls : Nat → Addr) (X : Cx) (e : Expr) (f : Ev (List D)) : Prop := PE X e (TDF X.K cls f)
abbrev DFK (cls : Nat → Addr) (X : Cx) (e : Expr) (f : Ev (List (DK × D))) : Prop := PE X e (TDK X.K cls f)

section
variable {cls : Nat → Addr} {X : Cx} {a b e e' : Expr} {f g h : Ev D} {p q : Ev Bool} {pos : Pos} {es : List Expr}

/-! ### names, constants -/
def eVar (i : Nat) : Ev D := fun s => match s.1[i]? with
  | some (.val d) => some (d, s)
  | _ => none
theorem de_var (i : Nat) {x : Str} (hN : X.N[i]? = some x := by rfl) (hv : Vis X.env.scope x := by first | exact Or.inl rfl | exact Or.inr (Or.inl rfl) | exact Or.inr (Or.inr rfl)) (hd : (x == ("__debug__" : Str)) = false := by decide)
    (hcd : (x == ("__classdict__" : Str)) = false := by decide) : DE cls X (.Name x pos) (eVar i) := by
  refine imp (pe_var hN hv hd hcd) fun σ H Q ⟨c, F, μ, s, _, R, d, s', e, k⟩ => ?_
  unfold eVar at e
  split at e
  · rename_i d' hd
    cases e
    obtain ⟨α, h1, _⟩ := R.slots
    obtain ⟨v, ev, r⟩ := h1 i _ hd
    exact ⟨v, ev, k v H F μ R (Mono.refl _ _) r⟩
  · cases e
/-- a thing is locked when its value is out -/
theorem pe_lk {X : Cx} {e : Expr} {t : TE} (h : PE X e t) : PE X e (fun σ H Q => t σ H fun v H1 => Q v H1 ∨ ∃ d u, H1 d = some u ∧ Mut (some u) ∧ ∀ od, Q v (upd H1 d (.frz od u))) := by
  refine ⟨fun pins s σ H Q I hw => thn (h.run pins s σ H _ I hw) fun v s1 ⟨x, H1, I1, r, q⟩ => ?_⟩
  rcases q with q | ⟨d, u, hd, mu, q⟩
  · exact ⟨x, H1, I1, r, q⟩
  · obtain ⟨od, I2⟩ := I1.lock hd mu
    exact ⟨x, _, I2, r, q od⟩
/-- a name whose owned list (dict) is given out: frozen from now on -/
def eOut (i : Nat) : Ev D := fun s => match s.1[i]? with
  | some (.val d) => some (d, s)
  | some (.own ds) => some (.lst ds, (s.1.set i (.val (.lst ds)), s.2))
  | some (.ownK ds) => some (.dct ds, (s.1.set i (.val (.dct ds)), s.2))
  | _ => none
theorem de_out (i : Nat) {x : Str} (hN : X.N[i]? = some x := by rfl) (hv : Vis X.env.scope x := by first | exact Or.inl rfl | exact Or.inr (Or.inl rfl) | exact Or.inr (Or.inr rfl)) (hd : (x == ("__debug__" : Str)) = false := by decide)
    (hcd : (x == ("__classdict__" : Str)) = false := by decide) : DE cls X (.Name x pos) (eOut i) := by
  refine imp (pe_lk (pe_var hN hv hd hcd)) fun σ H Q ⟨c, F, μ, s, _, R, d, s', e, k⟩ => ?_
  obtain ⟨ρ, S⟩ := s
  unfold eOut at e
  split at e
  · rename_i d' hd
    cases e
    obtain ⟨α, h1, _⟩ := R.slots
    obtain ⟨v, ev, r⟩ := h1 i _ hd
    exact ⟨v, ev, .inl (k v H F μ R (Mono.refl _ _) r)⟩
  · rename_i ds hd
    cases e
    obtain ⟨a, F', e1, R', m, r⟩ := R.freeze hd rfl ⟨ds, rfl, rfl⟩
    exact ⟨_, e1, .inl (k _ _ _ _ R' m r)⟩
  · rename_i ds hd
    cases e
    obtain ⟨a, vs, e1, e2, q⟩ := R.freezeK hd
    refine ⟨_, e1, .inr ⟨a, _, e2, trivial, fun od => ?_⟩⟩
    obtain ⟨F', R', m, r⟩ := q od
    exact k _ _ _ _ R' m r
  · cases e
theorem de_const {d : D} {v : V} (h : PE X e (tC v)) (r : ∀ F μ, Rep X.K F μ d v) : DE cls X e (ret d) := by
  refine imp h fun σ H Q ⟨c, F, μ, s, _, R, d', s', e, k⟩ => ?_
  obtain ⟨e1, e2⟩ := ret_some e
  subst e1 e2
  exact k v H F μ R (Mono.refl _ _) (r F μ)
theorem de_int {i j} : DE cls X (.Constant (.int i) j pos) (ret (.int i)) := de_const pe_int fun _ _ => .int i
theorem de_bl {i j} : DE cls X (.Constant (.bool i) j pos) (ret (.bl i)) := de_const pe_bl fun _ _ => .bl i
theorem de_non {j} : DE cls X (.Constant .none j pos) (ret .non) := de_const pe_non fun _ _ => .non
theorem de_str {x : Str} {j} (s : List Nat) (hx : x = mkS s := by decide +kernel) : DE cls X (.Constant (.str x) j pos) (ret (.str s)) := by
  subst hx
  exact de_const pe_str fun _ _ => .str s
/-- a name of the module -/
theorem de_glob {d : D} {x : Str} {v : V} {u : Value} (hg : Gl X x) (hm : X.mg x = some u) (r : RelV v u) (rp : ∀ F μ, Rep X.K F μ d v) (hd : (x == ("__debug__" : Str)) = false := by decide) : DE cls X (.Name x pos) (ret d) :=
  de_const (pe_glob hg hm r hd) rp

/-! ### operators -/
/-- an operation on values and on data -/
def OpD (X : Cx) (fo : Value → Value → Sem Value) (op : D → D → Option D) : Prop :=
  ∃ r : R2, OpR X fo r ∧ ∀ (c : Ct) (F : Hp) (μ : List Addr) (σ : L2.St) (H : Hp) (s : Sto) (x y : V) (d e z : D) (Q : VK), Rel X.K c F μ σ H s → Rep X.K F μ d x → Rep X.K F μ e y → op d e = some z →
    (∀ v H' F' μ', Rel X.K c F' μ' σ H' s → Mono F μ F' μ' → Rep X.K F' μ' z v → Q v H') → r x y H Q
def eBin (op : D → D → Option D) (f g : Ev D) : Ev D := bnd f fun x => bnd g fun y => lft (op x y)
theorem run_bin {op : D → D → Option D} {r : R2} (hr : ∀ (c : Ct) (F : Hp) (μ : List Addr) (σ : L2.St) (H : Hp) (s : Sto) (x y : V) (d e z : D) (Q : VK), Rel X.K c F μ σ H s → Rep X.K F μ d x → Rep X.K F μ e y → op d e = some z →
    (∀ v H' F' μ', Rel X.K c F' μ' σ H' s → Mono F μ F' μ' → Rep X.K F' μ' z v → Q v H') → r x y H Q) (σ : L2.St) (H : Hp) (Q : VK) (w : TD X.K cls (eBin op f g) σ H Q) : tOp r (TD X.K cls f) (TD X.K cls g) σ H Q := by
  obtain ⟨c, F, μ, s, hc, R, z, s', e, k⟩ := w
  obtain ⟨x, s1, e1, e_1⟩ := bnd_some e
  obtain ⟨y, s2, e2, e_2⟩ := bnd_some e_1
  obtain ⟨e3, rfl⟩ := lft_some e_2
  refine ⟨c, F, μ, s, hc, R, x, s1, e1, fun v H1 F1 μ1 R1 m1 r1 => ⟨c, F1, μ1, s1, hc, R1, y, s', e2, fun u H2 F2 μ2 R2 m2 r2 => ?_⟩⟩
  exact hr c F2 μ2 σ H2 s' v u x y z Q R2 (r1.mono m2) r2 e3 fun v' H' F' μ' R' m' r' => k v' H' F' μ' R' (m1.trans (m2.trans m')) r'
theorem de_op {op : Operator} {o : D → D → Option D} (ho : OpD X (binaryOp op) o) (ha : DE cls X a f) (hb : DE cls X b g) : DE cls X (.BinOp a op b pos) (eBin o f g) := by
  obtain ⟨r, h1, h2⟩ := ho
  exact imp (pe_op h1 ha hb) (run_bin h2)
theorem de_cmp {op : CmpOp} {o : D → D → Option D} (ho : OpD X (compareOp op) o) (ha : DE cls X a f) (hb : DE cls X b g) (hm : behindInMarks op b = false) : DE cls X (.Compare a [op] [b] pos) (eBin o f g) := by
  obtain ⟨r, h1, h2⟩ := ho
  exact imp (pe_cmpR h1 ha hb hm) (run_bin h2)
/-- a datum's truth where it is a bool -/
def asB : D → Option Bool
  | .bl b => some b
  | _ => none
def eB (f : Ev D) : Ev Bool := bnd f fun x => lft (asB x)
theorem asB_some {d : D} {k : Bool} (h : asB d = some k) : d = .bl k := by
  cases d <;> simp [asB] at h
  subst h; rfl
theorem Rep.bl_inv {K : PySem.W.Frag} {F : Hp} {μ : List Addr} {k : Bool} {v : V} (r : Rep K F μ (.bl k) v) : v = .bl k := by cases r; rfl
theorem Rep.int_inv {K : PySem.W.Frag} {F : Hp} {μ : List Addr} {k : Int} {v : V} (r : Rep K F μ (.int k) v) : v = .int k := by cases r; rfl
theorem Rep.str_inv {K : PySem.W.Frag} {F : Hp} {μ : List Addr} {k : List Nat} {v : V} (r : Rep K F μ (.str k) v) : v = .str (mkS k) := by cases r; rfl
theorem run_B {f : Ev D} (σ : L2.St) (H : Hp) (Q : Bool → Hp → Prop) (w : TDT X.K cls (eB f) σ H Q) : TD X.K cls f σ H (fun x H' => ∃ k, x = .bl k ∧ Q k H') := by
  obtain ⟨c, F, μ, s, hc, R, z, s', e, k⟩ := w
  obtain ⟨x, s1, e1, e_1⟩ := bnd_some e
  obtain ⟨e3, rfl⟩ := lft_some e_1
  have := asB_some e3
  subst this
  exact ⟨c, F, μ, s, hc, R, _, s', e1, fun v H1 F1 μ1 R1 m1 r1 => ⟨z, r1.bl_inv, k H1 F1 μ1 R1 m1⟩⟩
theorem dt_cmp {op : CmpOp} {o : D → D → Option D} (ho : OpD X (compareOp op) o) (ha : DE cls X a f) (hb : DE cls X b g) (hm : behindInMarks op b = false) : DT cls X (.Compare a [op] [b] pos) (eB (eBin o f g)) := by
  obtain ⟨r, h1, h2⟩ := ho
  refine impT (pt_cmpR h1 ha hb hm) fun σ H Q w => ?_
  exact run_bin h2 σ H _ (run_B σ H Q w)
/-- a op b op' c -/
def eChain (o o' : D → D → Option D) (f g h : Ev D) : Ev D := bnd f fun x => bnd g fun y => bnd (lft (o x y)) fun z => bnd (lft (asB z)) fun k => if k = true then bnd h fun w => lft (o' y w) else ret (.bl false)
theorem run_chain {o o' : D → D → Option D} {r r' : R2} (hr : ∀ (c : Ct) (F : Hp) (μ : List Addr) (σ : L2.St) (H : Hp) (s : Sto) (x y : V) (d e z : D) (Q : VK), Rel X.K c F μ σ H s → Rep X.K F μ d x → Rep X.K F μ e y → o d e = some z →
    (∀ v H' F' μ', Rel X.K c F' μ' σ H' s → Mono F μ F' μ' → Rep X.K F' μ' z v → Q v H') → r x y H Q) (hr' : ∀ (c : Ct) (F : Hp) (μ : List Addr) (σ : L2.St) (H : Hp) (s : Sto) (x y : V) (d e z : D) (Q : VK), Rel X.K c F μ σ H s → Rep X.K F μ d x → Rep X.K F μ e y → o' d e = some z →
    (∀ v H' F' μ', Rel X.K c F' μ' σ H' s → Mono F μ F' μ' → Rep X.K F' μ' z v → Q v H') → r' x y H Q) (σ : L2.St) (H : Hp) (Q : VK) (w : TD X.K cls (eChain o o' f g h) σ H Q) : tChain r r' (TD X.K cls f) (TD X.K cls g) (TD X.K cls h) σ H Q := by
  obtain ⟨c, F, μ, s, hc, R, z, s', e, k⟩ := w
  obtain ⟨x, s1, e1, e_1⟩ := bnd_some e
  obtain ⟨y, s2, e2, e_2⟩ := bnd_some e_1
  obtain ⟨z1, s3, p3, e_3⟩ := bnd_some e_2
  obtain ⟨q3, w3⟩ := lft_some p3
  obtain ⟨kb, s4, p4, e_4⟩ := bnd_some e_3
  obtain ⟨q4, w4⟩ := lft_some p4
  have w5 := asB_some q4
  subst w4 w3 w5
  refine ⟨c, F, μ, s, hc, R, x, s1, e1, fun v H1 F1 μ1 R1 m1 r1 => ⟨c, F1, μ1, s1, hc, R1, y, s4, e2, fun u H2 F2 μ2 R2 m2 r2 => ?_⟩⟩
  refine hr c F2 μ2 σ H2 s4 v u x y _ _ R2 (r1.mono m2) r2 q3 fun v' H3 F3 μ3 R3 m3 r3 => ⟨kb, r3.bl_inv, ?_⟩
  cases kb with
  | true =>
    rw [if_pos rfl] at e_4
    rw [if_pos rfl]
    obtain ⟨w', s5, e5, e_5⟩ := bnd_some e_4
    obtain ⟨e6, rfl⟩ := lft_some e_5
    refine ⟨c, F3, μ3, s4, hc, R3, w', s', e5, fun u' H4 F4 μ4 R4 m4 r4 => ?_⟩
    exact hr' c F4 μ4 σ H4 s' u u' y w' z Q R4 (r2.mono (m3.trans m4)) r4 e6 fun v5 H5 F5 μ5 R5 m5 r5 => k v5 H5 F5 μ5 R5 (m1.trans (m2.trans (m3.trans (m4.trans m5)))) r5
  | false =>
    rw [if_neg Bool.false_ne_true] at e_4
    rw [if_neg Bool.false_ne_true]
    obtain ⟨rfl, rfl⟩ := ret_some e_4
    exact k _ H3 F3 μ3 R3 (m1.trans (m2.trans m3)) (.bl false)
theorem de_chain {op op' : CmpOp} {o o' : D → D → Option D} {c : Expr} (ho : OpD X (compareOp op) o) (ho' : OpD X (compareOp op') o') (ha : DE cls X a f) (hb : DE cls X b g) (hc : DE cls X c h) (hm : lastMarks [op, op'] [b, c] = false := by with_unfolding_all rfl) :
    DE cls X (.Compare a [op, op'] [b, c] pos) (eChain o o' f g h) := by
  obtain ⟨r, h1, h2⟩ := ho
  obtain ⟨r', h1', h2'⟩ := ho'
  exact imp (pe_chain h1 h1' ha hb hc hm) (run_chain h2 h2')
theorem dt_chain {op op' : CmpOp} {o o' : D → D → Option D} {c : Expr} (ho : OpD X (compareOp op) o) (ho' : OpD X (compareOp op') o') (ha : DE cls X a f) (hb : DE cls X b g) (hc : DE cls X c h) (hm : lastMarks [op, op'] [b, c] = false := by with_unfolding_all rfl) :
    DT cls X (.Compare a [op, op'] [b, c] pos) (eB (eChain o o' f g h)) := by
  obtain ⟨r, h1, h2⟩ := ho
  obtain ⟨r', h1', h2'⟩ := ho'
  refine impT (pt_chain h1 h1' ha hb hc hm) fun σ H Q w => ?_
  exact run_chain h2 h2' σ H _ (run_B σ H Q w)
theorem dt_val (he : DE cls X e f) (hi : ∀ whole, isTrue e X.env whole = (do let v ← whole; standAt e.pos; holding [v] (truthy v)) := by intro _; rfl) : DT cls X e (eB f) := by
  refine impT (pt_val he hi) fun σ H Q w => ?_
  exact run_B σ H Q w

/-! ### tests -/
def eAndT (p q : Ev Bool) : Ev Bool := bnd p fun k => if k = true then q else ret false
def eOrT (p q : Ev Bool) : Ev Bool := bnd p fun k => if k = true then ret true else q
def eNotT (p : Ev Bool) : Ev Bool := bnd p fun k => ret (!k)
theorem dw_and1 (ha : DT cls X a p) : DW cls X (.BoolOp .And [a] pos) p := pw_and1 ha
theorem dw_or1 (ha : DT cls X a p) : DW cls X (.BoolOp .Or [a] pos) p := pw_or1 ha
theorem dw_and (ha : DT cls X a p) (hb : DW cls X (.BoolOp .And (b :: es) pos) q) : DW cls X (.BoolOp .And (a :: b :: es) pos) (eAndT p q) := by
  refine impW (pw_and ha hb) fun σ H Q ⟨c, F, μ, s, hc, R, z, s', e, k⟩ => ?_
  obtain ⟨x, s1, e1, e_1⟩ := bnd_some e
  refine ⟨c, F, μ, s, hc, R, x, s1, e1, fun H1 F1 μ1 R1 m1 => ?_⟩
  cases x with
  | true =>
    rw [if_pos rfl] at e_1 ⊢
    exact ⟨c, F1, μ1, s1, hc, R1, z, s', e_1, fun H2 F2 μ2 R2 m2 => k H2 F2 μ2 R2 (m1.trans m2)⟩
  | false =>
    rw [if_neg Bool.false_ne_true] at e_1 ⊢
    obtain ⟨rfl, rfl⟩ := ret_some e_1
    exact k H1 F1 μ1 R1 m1
theorem dw_or (ha : DT cls X a p) (hb : DW cls X (.BoolOp .Or (b :: es) pos) q) : DW cls X (.BoolOp .Or (a :: b :: es) pos) (eOrT p q) := by
  refine impW (pw_or ha hb) fun σ H Q ⟨c, F, μ, s, hc, R, z, s', e, k⟩ => ?_
  obtain ⟨x, s1, e1, e_1⟩ := bnd_some e
  refine ⟨c, F, μ, s, hc, R, x, s1, e1, fun H1 F1 μ1 R1 m1 => ?_⟩
  cases x with
  | true =>
    rw [if_pos rfl] at e_1 ⊢
    obtain ⟨rfl, rfl⟩ := ret_some e_1
    exact k H1 F1 μ1 R1 m1
  | false =>
    rw [if_neg Bool.false_ne_true] at e_1 ⊢
    exact ⟨c, F1, μ1, s1, hc, R1, z, s', e_1, fun H2 F2 μ2 R2 m2 => k H2 F2 μ2 R2 (m1.trans m2)⟩
theorem dt_w (h : DW cls X e p) : DT cls X e p := h.pt
theorem dt_not (ha : DT cls X a p) : DT cls X (.UnaryOp .Not a pos) (eNotT p) := by
  refine impT (pt_not ha) fun σ H Q ⟨c, F, μ, s, hc, R, z, s', e, k⟩ => ?_
  obtain ⟨x, s1, e1, e_1⟩ := bnd_some e
  obtain ⟨rfl, rfl⟩ := ret_some e_1
  exact ⟨c, F, μ, s, hc, R, x, s', e1, fun H1 F1 μ1 R1 m1 => k H1 F1 μ1 R1 m1⟩
/-- .. as values: bools -/
def eAnd (f g : Ev D) : Ev D := bnd f fun x => bnd (lft (asB x)) fun k => if k = true then g else ret (.bl false)
def eOr (f g : Ev D) : Ev D := bnd f fun x => bnd (lft (asB x)) fun k => if k = true then ret (.bl true) else g
def eNot (f : Ev D) : Ev D := bnd f fun x => bnd (lft (asB x)) fun k => ret (.bl (!k))
theorem de_one {op} (ha : DE cls X a f) : DE cls X (.BoolOp op [a] pos) f := pe_one ha
theorem de_and (ha : DE cls X a f) (hb : DE cls X (.BoolOp .And (b :: es) pos) g) : DE cls X (.BoolOp .And (a :: b :: es) pos) (eAnd f g) := by
  refine imp (pe_and ha hb) fun σ H Q ⟨c, F, μ, s, hc, R, z, s', e, k⟩ => ?_
  obtain ⟨x, s1, e1, e_1⟩ := bnd_some e
  obtain ⟨kb, s2, p2, e_2⟩ := bnd_some e_1
  obtain ⟨q2, w2⟩ := lft_some p2
  have w3 := asB_some q2
  subst w2 w3
  refine ⟨c, F, μ, s, hc, R, _, s2, e1, fun v H1 F1 μ1 R1 m1 r1 => ⟨kb, r1.bl_inv, ?_⟩⟩
  cases kb with
  | true =>
    rw [if_pos rfl] at e_2 ⊢
    exact ⟨c, F1, μ1, s2, hc, R1, z, s', e_2, fun v H2 F2 μ2 R2 m2 r2 => k v H2 F2 μ2 R2 (m1.trans m2) r2⟩
  | false =>
    rw [if_neg Bool.false_ne_true] at e_2 ⊢
    obtain ⟨rfl, rfl⟩ := ret_some e_2
    exact k _ H1 F1 μ1 R1 m1 (.bl false)
theorem de_or (ha : DE cls X a f) (hb : DE cls X (.BoolOp .Or (b :: es) pos) g) : DE cls X (.BoolOp .Or (a :: b :: es) pos) (eOr f g) := by
  refine imp (pe_or ha hb) fun σ H Q ⟨c, F, μ, s, hc, R, z, s', e, k⟩ => ?_
  obtain ⟨x, s1, e1, e_1⟩ := bnd_some e
  obtain ⟨kb, s2, p2, e_2⟩ := bnd_some e_1
  obtain ⟨q2, w2⟩ := lft_some p2
  have w3 := asB_some q2
  subst w2 w3
  refine ⟨c, F, μ, s, hc, R, _, s2, e1, fun v H1 F1 μ1 R1 m1 r1 => ⟨kb, r1.bl_inv, ?_⟩⟩
  cases kb with
  | true =>
    rw [if_pos rfl] at e_2 ⊢
    obtain ⟨rfl, rfl⟩ := ret_some e_2
    exact k _ H1 F1 μ1 R1 m1 (.bl true)
  | false =>
    rw [if_neg Bool.false_ne_true] at e_2 ⊢
    exact ⟨c, F1, μ1, s2, hc, R1, z, s', e_2, fun v H2 F2 μ2 R2 m2 r2 => k v H2 F2 μ2 R2 (m1.trans m2) r2⟩
theorem de_not (ha : DE cls X a f) : DE cls X (.UnaryOp .Not a pos) (eNot f) := by
  refine imp (pe_not ha) fun σ H Q ⟨c, F, μ, s, hc, R, z, s', e, k⟩ => ?_
  obtain ⟨x, s1, e1, e_1⟩ := bnd_some e
  obtain ⟨kb, s2, p2, e_2⟩ := bnd_some e_1
  obtain ⟨q2, w2⟩ := lft_some p2
  obtain ⟨w4, w5⟩ := ret_some e_2
  have w3 := asB_some q2
  subst w2 w3 w4 w5
  exact ⟨c, F, μ, s, hc, R, _, s', e1, fun v H1 F1 μ1 R1 m1 r1 => ⟨kb, r1.bl_inv, k _ H1 F1 μ1 R1 m1 (.bl _)⟩⟩
def eIf (p : Ev Bool) (f g : Ev D) : Ev D := bnd p fun k => if k = true then f else g
theorem de_if {c : Expr} (hc : DT cls X c p) (ha : DE cls X a f) (hb : DE cls X b g) : DE cls X (.IfExp c a b pos) (eIf p f g) := by
  refine imp (pe_ifExp hc ha hb) fun σ H Q ⟨c, F, μ, s, hc, R, z, s', e, k⟩ => ?_
  obtain ⟨x, s1, e1, e_1⟩ := bnd_some e
  refine ⟨c, F, μ, s, hc, R, x, s1, e1, fun H1 F1 μ1 R1 m1 => ?_⟩
  cases x with
  | true =>
    rw [if_pos rfl] at e_1 ⊢
    exact ⟨c, F1, μ1, s1, hc, R1, z, s', e_1, fun v H2 F2 μ2 R2 m2 r2 => k v H2 F2 μ2 R2 (m1.trans m2) r2⟩
  | false =>
    rw [if_neg Bool.false_ne_true] at e_1 ⊢
    exact ⟨c, F1, μ1, s1, hc, R1, z, s', e_1, fun v H2 F2 μ2 R2 m2 r2 => k v H2 F2 μ2 R2 (m1.trans m2) r2⟩

/-! ### argument lists, displays -/
def eNil : Ev (List D) := ret []
def eCons (f : Ev D) (g : Ev (List D)) : Ev (List D) := bnd f fun x => bnd g fun xs => ret (x :: xs)
theorem da_nil : DA cls X [] eNil := by
  refine impA pa_nil fun σ H Q ⟨c, F, μ, s, hc, R, z, s', e, k⟩ => ?_
  obtain ⟨rfl, rfl⟩ := ret_some e
  exact k [] H F μ R (Mono.refl _ _) .nil
theorem da_cons {g : Ev (List D)} (ha : DE cls X a f) (hb : DA cls X es g) (hs : starEach (a :: es) X.env = (false, eval a X.env) :: starEach es X.env := by rfl) : DA cls X (a :: es) (eCons f g) := by
  refine impA (pa_cons ha hb hs) fun σ H Q ⟨c, F, μ, s, hc, R, z, s', e, k⟩ => ?_
  obtain ⟨x, s1, e1, e_1⟩ := bnd_some e
  obtain ⟨xs, s2, e2, e_2⟩ := bnd_some e_1
  obtain ⟨rfl, rfl⟩ := ret_some e_2
  refine ⟨c, F, μ, s, hc, R, x, s1, e1, fun v H1 F1 μ1 R1 m1 r1 => ⟨c, F1, μ1, s1, hc, R1, xs, s', e2, fun vs H2 F2 μ2 R2 m2 r2 => ?_⟩⟩
  exact k _ H2 F2 μ2 R2 (m1.trans m2) (.cons (r1.mono m2) r2)
def LIM : Nat := 16777216
theorem lim_le {n : Nat} (h : n ≤ LIM) : n ≤ sizeLine := by rw [sizeLine_eq]; exact h
theorem lim_lt {n : Nat} (h : n < LIM) : n < sizeLine := by rw [sizeLine_eq]; exact h
def few {α : Type} (n : Nat) (a : α) : Option α := if n ≤ LIM then some a else none
theorem few_some {α : Type} {n : Nat} {a b : α} (h : few n a = some b) : n ≤ LIM ∧ b = a := by
  unfold few at h
  split at h
  · rename_i hn; cases h; exact ⟨hn, rfl⟩
  · cases h
def eTup (g : Ev (List D)) : Ev D := bnd g fun xs => lft (few xs.length (.tup xs))
theorem de_tup {g : Ev (List D)} {j} (h : DA cls X es g) : DE cls X (.Tuple es j pos) (eTup g) := by
  refine imp (pe_tup h) fun σ H Q ⟨c, F, μ, s, hc, R, z, s', e, k⟩ => ?_
  obtain ⟨xs, s1, e1, e_1⟩ := bnd_some e
  obtain ⟨e2, rfl⟩ := lft_some e_1
  obtain ⟨hn, rfl⟩ := few_some e2
  refine ⟨c, F, μ, s, hc, R, xs, s', e1, fun vs H1 F1 μ1 R1 m1 r1 => ⟨lim_le (by rw [← r1.length]; exact hn), fun p hp => ?_⟩⟩
  have m2 : Mono F1 μ1 (upd F1 p (.tup vs)) μ1 := Mono.new (R1.fnone hp)
  exact k _ _ _ _ (R1.alloc hp) (m1.trans m2) (.tup (SqT.of upd_same) (r1.mono m2))
/-- a new owned list -/
theorem Rel.pushL {K : PySem.W.Frag} {c : Ct} {F : Hp} {μ : List Addr} {σ : L2.St} {H : Hp} {ρ : List Sl} {S : List O} {p : Addr} {ds : List D} {vs : List V} (R : Rel K c F μ σ H (ρ, S)) (hp : H p = none) (r : Reps K F μ ds vs) :
    Rel K c F μ (σ ++ [some (.ref p)]) (upd H p (.lst vs)) (ρ ++ [.own ds], S) := by
  refine R.push hp ⟨rfl, R.fnone hp, ⟨R.h0none hp, R.pnone hp⟩, fun hm => ?_, vs, upd_same, r⟩
  obtain ⟨o, e⟩ := R.st.has hm
  exact ne_none e hp
theorem Rel.pushK {K : PySem.W.Frag} {c : Ct} {F : Hp} {μ : List Addr} {σ : L2.St} {H : Hp} {ρ : List Sl} {S : List O} {p : Addr} {ds : List (DK × D)} {vs : List (Key × V)} (R : Rel K c F μ σ H (ρ, S)) (hp : H p = none) (r : RepKs K F μ ds vs) :
    Rel K c F μ (σ ++ [some (.ref p)]) (upd H p (.dK vs)) (ρ ++ [.ownK ds], S) := by
  refine R.push hp ⟨rfl, R.fnone hp, ⟨R.h0none hp, R.pnone hp⟩, fun hm => ?_, vs, upd_same, r⟩
  obtain ⟨o, e⟩ := R.st.has hm
  exact ne_none e hp
def eLst (g : Ev (List D)) : Ev (List D) := bnd g fun xs => lft (few xs.length xs)
theorem df_lst {g : Ev (List D)} (h : DA cls X es g) : DF cls X (.List es pos) (eLst g) := by
  refine imp (pe_lst h) fun σ H Q ⟨c, F, μ, ρ, S, hc, R, z, ρ', S', e, k⟩ => ?_
  obtain ⟨xs, s1, e1, e_1⟩ := bnd_some e
  obtain ⟨e2, rfl⟩ := lft_some e_1
  obtain ⟨hn, rfl⟩ := few_some e2
  refine ⟨c, F, μ, _, hc, R, z, _, e1, fun vs H1 F1 μ1 R1 m1 r1 => ⟨lim_le (by rw [← r1.length]; exact hn), fun p hp => ?_⟩⟩
  exact k _ _ _ _ (R1.pushL hp r1) m1
/-- a new list, as a value that nobody changes -/
def eFz (g : Ev (List D)) : Ev D := bnd g fun xs => ret (.lst xs)
theorem de_fz {g : Ev (List D)} (h : DF cls X e g) : DE cls X e (eFz g) := by
  refine imp h fun σ H Q ⟨c, F, μ, s, hc, R, z, s', e, k⟩ => ?_
  obtain ⟨ρ, S⟩ := s
  obtain ⟨xs, ⟨ρ', S'⟩, e1, e_1⟩ := bnd_some e
  obtain ⟨rfl, rfl⟩ := ret_some e_1
  refine ⟨c, F, μ, ρ, S, hc, R, xs, ρ', S', e1, fun v H1 F1 μ1 R1 m1 => ?_⟩
  have hl : (ρ' ++ [Sl.own xs]).length = (σ ++ [some v]).length := R1.len
  have hl' : ρ'.length = σ.length := by simpa using hl
  have hx : (ρ' ++ [Sl.own xs])[ρ'.length]? = some (.own xs) := by rw [List.getElem?_append_right (Nat.le_refl _)]; simp
  obtain ⟨a, F2, e2, R2, m2, r2⟩ := R1.freeze hx rfl ⟨xs, rfl, rfl⟩
  rw [hl', List.getElem?_append_right (Nat.le_refl _)] at e2
  simp at e2
  subst e2
  rw [List.set_append_right _ _ (Nat.le_refl _)] at R2
  simp only [Nat.sub_self, List.set_cons_zero] at R2
  exact k _ _ _ _ R2.pop (m1.trans m2) r2
def eFzK (g : Ev (List (DK × D))) : Ev D := bnd g fun xs => ret (.dct xs)
theorem de_fzK {g : Ev (List (DK × D))} (h : DFK cls X e g) : DE cls X e (eFzK g) := by
  refine imp (pe_lk h) fun σ H Q ⟨c, F, μ, s, hc, R, z, s', e, k⟩ => ?_
  obtain ⟨ρ, S⟩ := s
  obtain ⟨xs, ⟨ρ', S'⟩, e1, e_1⟩ := bnd_some e
  obtain ⟨rfl, rfl⟩ := ret_some e_1
  refine ⟨c, F, μ, ρ, S, hc, R, xs, ρ', S', e1, fun v H1 F1 μ1 R1 m1 => ?_⟩
  have hl : (ρ' ++ [Sl.ownK xs]).length = (σ ++ [some v]).length := R1.len
  have hl' : ρ'.length = σ.length := by simpa using hl
  have hx : (ρ' ++ [Sl.ownK xs])[ρ'.length]? = some (.ownK xs) := by rw [List.getElem?_append_right (Nat.le_refl _)]; simp
  obtain ⟨a, vs, e2, e3, q⟩ := R1.freezeK hx
  rw [hl', List.getElem?_append_right (Nat.le_refl _)] at e2
  simp at e2
  subst e2
  refine .inr ⟨a, _, e3, trivial, fun od => ?_⟩
  obtain ⟨F2, R2, m2, r2⟩ := q od
  rw [List.set_append_right _ _ (Nat.le_refl _)] at R2
  simp only [Nat.sub_self, List.set_cons_zero] at R2
  exact k _ _ _ _ R2.pop (m1.trans m2) r2
end
end DL

set_option Elab.async false
set_option linter.all false
set_option maxRecDepth 100000
namespace DL
open PySem PySem.Spec PyProof.Rows L2

/-! ### data as the model's data: equality -/
mutual
def toPy : D → PyData
  | .non => .none
  | .bl b => .bool b
  | .int i => .int i
  | .str s => .str (mkS s)
  | .lst xs => .list (toPys xs)
  | .tup xs => .tuple (toPys xs)
  | .dct _ => .dict []
  | .scr _ => .dict []
  | .ptr _ => .dict []
def toPys : List D → List PyData
  | [] => []
  | x :: xs => toPy x :: toPys xs
end
mutual
/-- plain data of at most so many levels -/
def flat : Nat → D → Bool
  | _, .non => true
  | _, .bl _ => true
  | _, .int _ => true
  | _, .str s => s.all fun c => decide (c < 1000)
  | n, .lst xs => flats n xs
  | n, .tup xs => flats n xs
  | _, .dct _ => false
  | _, .scr _ => false
  | _, .ptr _ => false
def flats : Nat → List D → Bool
  | _, [] => true
  | 0, _ :: _ => false
  | n + 1, x :: xs => flat n x && flats (n + 1) xs
end
mutual
def eqv : D → D → Bool
  | .non, .non => true
  | .bl a, .bl b => a == b
  | .bl a, .int j => (if a then 1 else 0) == j
  | .int i, .bl b => i == (if b then 1 else 0)
  | .int i, .int j => i == j
  | .str x, .str y => x == y
  | .lst xs, .lst ys => eqvs xs ys
  | .tup xs, .tup ys => eqvs xs ys
  | _, _ => false
def eqvs : List D → List D → Bool
  | [], [] => true
  | x :: xs, y :: ys => eqv x y && eqvs xs ys
  | _, _ => false
end
theorem mkS_eq (s t : List Nat) : (mkS s == mkS t) = (s == t) := by
  rw [Bool.eq_iff_iff, beq_iff_eq, beq_iff_eq]
  constructor
  · intro h; injection h with h; simpa using congrArg Array.toList h
  · rintro rfl; rfl
mutual
theorem toPy_eqv : ∀ d e : D, PyData.eqv (toPy d) (toPy e) = eqv d e
  | .non, e => by cases e <;> simp [toPy, PyData.eqv, eqv]
  | .bl b, e => by cases e <;> simp [toPy, PyData.eqv, eqv]
  | .int i, e => by cases e <;> simp [toPy, PyData.eqv, eqv]
  | .str s, e => by
    cases e <;> simp only [toPy, PyData.eqv, eqv]
    exact mkS_eq _ _
  | .lst xs, e => by
    cases e <;> simp only [toPy, PyData.eqv, eqv]
    exact toPys_eqv _ _
  | .tup xs, e => by
    cases e <;> simp only [toPy, PyData.eqv, eqv]
    exact toPys_eqv _ _
  | .dct _, e => by cases e <;> simp [toPy, PyData.eqv, eqv]
  | .scr _, e => by cases e <;> simp [toPy, PyData.eqv, eqv]
  | .ptr _, e => by cases e <;> simp [toPy, PyData.eqv, eqv]
theorem toPys_eqv : ∀ d e : List D, PyData.eqvAll (toPys d) (toPys e) = eqvs d e
  | [], [] => by simp [toPys, PyData.eqvAll, eqvs]
  | [], y :: ys => by simp [toPys, PyData.eqvAll, eqvs]
  | x :: xs, [] => by simp [toPys, PyData.eqvAll, eqvs]
  | x :: xs, y :: ys => by
    simp only [toPys, PyData.eqvAll, eqvs]
    rw [toPy_eqv x y, toPys_eqv xs ys]
end

theorem strOk_of {s : List Nat} (h : (s.all fun c => decide (c < 1000)) = true) : PyData.strOk (mkS s) = true := by
  unfold PyData.strOk
  rw [← Array.all_toList, List.all_eq_true]
  rw [List.all_eq_true] at h
  intro x hx
  have := of_decide_eq_true (h x (by simpa using hx))
  exact decide_eq_true (by omega)
mutual
theorem flat_ok : ∀ (n : Nat) (d : D), flat n d = true → (toPy d).canLay0 = true ∧ (toPy d).depth ≤ n + 1
  | n, .non, _ => by simp [toPy, PyData.canLay0, PyData.depth]
  | n, .bl _, _ => by simp [toPy, PyData.canLay0, PyData.depth]
  | n, .int _, _ => by simp [toPy, PyData.canLay0, PyData.depth]
  | n, .str s, h => by
    simp only [flat] at h
    simp only [toPy, PyData.canLay0, PyData.depth]
    exact ⟨strOk_of h, by omega⟩
  | n, .lst xs, h => by
    simp only [flat] at h
    obtain ⟨h1, h2⟩ := flats_ok n xs h
    simp only [toPy, PyData.canLay0, PyData.depth]
    exact ⟨h1, by omega⟩
  | n, .tup xs, h => by
    simp only [flat] at h
    obtain ⟨h1, h2⟩ := flats_ok n xs h
    simp only [toPy, PyData.canLay0, PyData.depth]
    exact ⟨h1, by omega⟩
  | _, .dct _, h => by simp [flat] at h
  | _, .scr _, h => by simp [flat] at h
  | _, .ptr _, h => by simp [flat] at h
theorem flats_ok : ∀ (n : Nat) (d : List D), flats n d = true → PyData.canLayAll0 (toPys d) = true ∧ PyData.depthAll (toPys d) ≤ n
  | n, [], _ => by simp [toPys, PyData.canLayAll0, PyData.depthAll]
  | 0, x :: xs, h => by simp [flats] at h
  | n + 1, x :: xs, h => by
    simp only [flats, Bool.and_eq_true] at h
    obtain ⟨h1, h2⟩ := flat_ok n x h.1
    obtain ⟨h3, h4⟩ := flats_ok (n + 1) xs h.2
    simp only [toPys, PyData.canLayAll0, PyData.depthAll, h1, h3]
    exact ⟨rfl, by omega⟩
end
theorem flat_shaped {d : D} (h : flat 8 d = true) : SeqAt.shaped (toPy d) = true := by
  obtain ⟨h1, h2⟩ := flat_ok 8 d h
  unfold SeqAt.shaped
  rw [h1, decide_eq_true (by omega)]
  rfl
section
variable {K : PySem.W.Frag} {F H : Hp} {μ : List Addr}
mutual
theorem Rep.dp (m : Same F H) : ∀ {n : Nat} {d : D} {v : V}, flat n d = true → Rep K F μ d v → Dp K H v (toPy d)
  | _, _, _, _, .non => .non
  | _, _, _, _, .bl b => .bl b
  | _, _, _, _, .int i => .int i
  | _, _, _, _, .str s => .str _
  | _, _, _, h, .lst e r => by
    simp only [flat] at h
    exact .lst (SqL.of (m _ _ e)) (Reps.dp m h r)
  | _, _, _, h, .tup e r => by
    simp only [flat] at h
    exact .tup (Same.sqT m e) (Reps.dp m h r)
  | _, _, _, h, .dct _ _ => by simp [flat] at h
  | _, _, _, h, .scr _ => by simp [flat] at h
  | _, _, _, h, .ptr _ => by simp [flat] at h
theorem Reps.dp (m : Same F H) : ∀ {n : Nat} {ds : List D} {vs : List V}, flats n ds = true → Reps K F μ ds vs → DpAll K H vs (toPys ds)
  | _, _, _, _, .nil => .nil
  | 0, _, _, h, .cons e r => by simp [flats] at h
  | n + 1, _, _, h, .cons e r => by
    simp only [flats, Bool.and_eq_true] at h
    exact .cons (Rep.dp m h.1 e) (Reps.dp m h.2 r)
end
/-- a value as it may be read now: frozen data, or an owned list (dict) as it stands -/
inductive RepH (K : PySem.W.Frag) (F : Hp) (μ : List Addr) (H : Hp) : D → V → Prop
  | rep {d : D} {v : V} : Rep K F μ d v → RepH K F μ H d v
  | lst {a : Addr} {ds : List D} {vs : List V} : H a = some (.lst vs) → Reps K F μ ds vs → RepH K F μ H (.lst ds) (.ref a)
  | dct {a : Addr} {ds : List (DK × D)} {vs : List (Key × V)} : H a = some (.dK vs) → RepKs K F μ ds vs → RepH K F μ H (.dct ds) (.ref a)
theorem RepH.lst_inv (m : Same F H) {ds : List D} {v : V} (r : RepH K F μ H (.lst ds) v) : ∃ a vs, v = .ref a ∧ H a = some (.lst vs) ∧ Reps K F μ ds vs := by
  cases r with
  | rep r => cases r with | lst e r => exact ⟨_, _, rfl, m _ _ e, r⟩
  | lst e r => exact ⟨_, _, rfl, e, r⟩
theorem RepH.dct_inv (m : Same F H) {ds : List (DK × D)} {v : V} (r : RepH K F μ H (.dct ds) v) : ∃ a vs, v = .ref a ∧ Rd H a (.dK vs) ∧ RepKs K F μ ds vs := by
  cases r with
  | rep r => cases r with | dct e r => exact ⟨_, _, rfl, .inr ⟨_, m _ _ e⟩, r⟩
  | dct e r => exact ⟨_, _, rfl, .inl e, r⟩
theorem RepH.tup_inv (m : Same F H) {ds : List D} {v : V} (r : RepH K F μ H (.tup ds) v) : ∃ a vs, v = .ref a ∧ SqT K H a vs ∧ Reps K F μ ds vs := by
  cases r with
  | rep r => cases r with | tup e r => exact ⟨_, _, rfl, Same.sqT m e, r⟩
theorem RepH.int_inv {i : Int} {v : V} (r : RepH K F μ H (.int i) v) : v = .int i := by
  cases r with
  | rep r => cases r; rfl
theorem RepH.bl_inv {i : Bool} {v : V} (r : RepH K F μ H (.bl i) v) : v = .bl i := by
  cases r with
  | rep r => cases r; rfl
theorem RepH.str_inv {i : List Nat} {v : V} (r : RepH K F μ H (.str i) v) : v = .str (mkS i) := by
  cases r with
  | rep r => cases r; rfl
theorem RepH.non_inv {v : V} (r : RepH K F μ H .non v) : v = .non := by
  cases r with
  | rep r => cases r; rfl
theorem RepH.dp (m : Same F H) {d : D} {v : V} (h : flat 8 d = true) (r : RepH K F μ H d v) : Dp K H v (toPy d) := by
  cases r with
  | rep r => exact r.dp m h
  | lst e r =>
    simp only [flat] at h
    exact .lst (SqL.of e) (r.dp m h)
  | dct e r => simp [flat] at h
end
end DL

set_option Elab.async false
set_option linter.all false
set_option maxRecDepth 100000
namespace DL
open PySem PySem.Spec PyProof.Rows L2

/-- what a slot holds, read as it stands -/
def eRd (i : Nat) : Ev D := fun s => match s.1[i]? with
  | some (.val d) => some (d, s)
  | some (.own ds) => some (.lst ds, s)
  | some (.ownK ds) => some (.dct ds, s)
  | _ => none
theorem eRd_some {K : PySem.W.Frag} {c : Ct} {F : Hp} {μ : List Addr} {σ : L2.St} {H : Hp} {s s' : Sto} {i : Nat} {d : D} (R : Rel K c F μ σ H s) (h : eRd i s = some (d, s')) : s' = s ∧ ∃ v, σ[i]? = some (some v) ∧ RepH K F μ H d v := by
  obtain ⟨α, h1, _⟩ := R.slots
  unfold eRd at h
  split at h
  · rename_i d' hd
    cases h
    obtain ⟨v, ev, r⟩ := h1 i _ hd
    exact ⟨rfl, v, ev, .rep r⟩
  · rename_i d' hd
    cases h
    obtain ⟨e1, _, _, _, vs, e2, r⟩ := h1 i _ hd
    exact ⟨rfl, _, e1, .lst e2 r⟩
  · rename_i d' hd
    cases h
    obtain ⟨e1, _, _, _, vs, e2, r⟩ := h1 i _ hd
    exact ⟨rfl, _, e1, .dct e2 r⟩
  · cases h

/-- an operation on values and on data, as they may be read -/
def OpH (X : Cx) (fo : Value → Value → Sem Value) (op : D → D → Option D) : Prop :=
  ∃ r : R2, OpR X fo r ∧ ∀ (c : Ct) (F : Hp) (μ : List Addr) (σ : L2.St) (H : Hp) (s : Sto) (x y : V) (d e z : D) (Q : VK), Rel X.K c F μ σ H s → RepH X.K F μ H d x → RepH X.K F μ H e y → op d e = some z →
    (∀ v H' F' μ', Rel X.K c F' μ' σ H' s → Mono F μ F' μ' → Rep X.K F' μ' z v → Q v H') → r x y H Q
theorem OpH.d {X : Cx} {fo : Value → Value → Sem Value} {op : D → D → Option D} (h : OpH X fo op) : OpD X fo op := by
  obtain ⟨r, h1, h2⟩ := h
  exact ⟨r, h1, fun c F μ σ H s x y d e z Q R r1 r2 => h2 c F μ σ H s x y d e z Q R (.rep r1) (.rep r2)⟩
/-- a call of a built-in with values and with data -/
def ClH (X : Cx) (fv : Value) (op : List D → Option D) : Prop :=
  ∃ r : List V → Hp → VK → Prop, CallR X fv r ∧ ∀ (c : Ct) (F : Hp) (μ : List Addr) (σ : L2.St) (H : Hp) (s : Sto) (xs : List V) (ds : List D) (z : D) (Q : VK), Rel X.K c F μ σ H s → Paired (RepH X.K F μ H) ds xs → op ds = some z →
    (∀ v H' F' μ', Rel X.K c F' μ' σ H' s → Mono F μ F' μ' → Rep X.K F' μ' z v → Q v H') → r xs H Q

section
variable {cls : Nat → Addr} {X : Cx} {a b e e' : Expr} {f g h : Ev D} {p q : Ev Bool} {pos : Pos} {es : List Expr}
/-- x op e, x a name whose owned list is read -/
def eBinL (op : D → D → Option D) (i : Nat) (g : Ev D) : Ev D := bnd (eRd i) fun _ => bnd g fun y => bnd (eRd i) fun x => lft (op x y)
theorem run_binL {op : D → D → Option D} {r : R2} {i : Nat} (hr : ∀ (c : Ct) (F : Hp) (μ : List Addr) (σ : L2.St) (H : Hp) (s : Sto) (x y : V) (d e z : D) (Q : VK), Rel X.K c F μ σ H s → RepH X.K F μ H d x → RepH X.K F μ H e y → op d e = some z →
    (∀ v H' F' μ', Rel X.K c F' μ' σ H' s → Mono F μ F' μ' → Rep X.K F' μ' z v → Q v H') → r x y H Q) (σ : L2.St) (H : Hp) (Q : VK) (w : TD X.K cls (eBinL op i g) σ H Q) : tOp r (tVar i) (TD X.K cls g) σ H Q := by
  obtain ⟨c, F, μ, s, hc, R, z, s', e, k⟩ := w
  obtain ⟨_, s0, e0, f0⟩ := bnd_some e
  obtain ⟨w0, v, hv, _⟩ := eRd_some R e0
  subst w0
  obtain ⟨y, s1, e1, f1⟩ := bnd_some f0
  obtain ⟨x, s2, e2, f2⟩ := bnd_some f1
  obtain ⟨e3, w3⟩ := lft_some f2
  subst w3
  refine ⟨v, hv, c, F, μ, s0, hc, R, y, s1, e1, fun u H1 F1 μ1 R1 m1 r1 => ?_⟩
  obtain ⟨w2, v', hv', r2⟩ := eRd_some R1 e2
  subst w2
  have : v' = v := by rw [hv] at hv'; cases hv'; rfl
  subst this
  exact hr c F1 μ1 σ H1 s' v' u x y z Q R1 r2 (.rep r1) e3 fun v' H' F' μ' R' m' r' => k v' H' F' μ' R' (m1.trans m') r'
/-- e op x, x a name whose owned list is read -/
def eBinR (op : D → D → Option D) (f : Ev D) (i : Nat) : Ev D := bnd f fun x => bnd (eRd i) fun y => lft (op x y)
theorem run_binR {op : D → D → Option D} {r : R2} {i : Nat} (hr : ∀ (c : Ct) (F : Hp) (μ : List Addr) (σ : L2.St) (H : Hp) (s : Sto) (x y : V) (d e z : D) (Q : VK), Rel X.K c F μ σ H s → RepH X.K F μ H d x → RepH X.K F μ H e y → op d e = some z →
    (∀ v H' F' μ', Rel X.K c F' μ' σ H' s → Mono F μ F' μ' → Rep X.K F' μ' z v → Q v H') → r x y H Q) (σ : L2.St) (H : Hp) (Q : VK) (w : TD X.K cls (eBinR op f i) σ H Q) : tOp r (TD X.K cls f) (tVar i) σ H Q := by
  obtain ⟨c, F, μ, s, hc, R, z, s', e, k⟩ := w
  obtain ⟨x, s1, e1, f1⟩ := bnd_some e
  obtain ⟨y, s2, e2, f2⟩ := bnd_some f1
  obtain ⟨e3, w3⟩ := lft_some f2
  subst w3
  refine ⟨c, F, μ, s, hc, R, x, s1, e1, fun u H1 F1 μ1 R1 m1 r1 => ?_⟩
  obtain ⟨w2, v, hv, r2⟩ := eRd_some R1 e2
  subst w2
  exact ⟨v, hv, hr c F1 μ1 σ H1 s' u v x y z Q R1 (.rep r1) r2 e3 fun v' H' F' μ' R' m' r' => k v' H' F' μ' R' (m1.trans m') r'⟩
theorem de_cmpL {op : CmpOp} {o : D → D → Option D} (i : Nat) {x : Str} (ho : OpH X (compareOp op) o) (ha : PE X (.Name x pos) (tVar i)) (hb : DE cls X b g) (hm : behindInMarks op b = false) {pos' : Pos} : DE cls X (.Compare (.Name x pos) [op] [b] pos') (eBinL o i g) := by
  obtain ⟨r, h1, h2⟩ := ho
  exact imp (pe_cmpR h1 ha hb hm) (run_binL h2)
theorem de_cmpR {op : CmpOp} {o : D → D → Option D} (i : Nat) {x : Str} (ho : OpH X (compareOp op) o) (ha : DE cls X a f) (hb : PE X (.Name x pos) (tVar i)) (hm : behindInMarks op (.Name x pos) = false) {pos' : Pos} : DE cls X (.Compare a [op] [.Name x pos] pos') (eBinR o f i) := by
  obtain ⟨r, h1, h2⟩ := ho
  exact imp (pe_cmpR h1 ha hb hm) (run_binR h2)
theorem dt_cmpL {op : CmpOp} {o : D → D → Option D} (i : Nat) {x : Str} (ho : OpH X (compareOp op) o) (ha : PE X (.Name x pos) (tVar i)) (hb : DE cls X b g) (hm : behindInMarks op b = false) {pos' : Pos} : DT cls X (.Compare (.Name x pos) [op] [b] pos') (eB (eBinL o i g)) := by
  obtain ⟨r, h1, h2⟩ := ho
  refine impT (pt_cmpR h1 ha hb hm) fun σ H Q w => ?_
  exact run_binL h2 σ H _ (run_B σ H Q w)
theorem dt_cmpR {op : CmpOp} {o : D → D → Option D} (i : Nat) {x : Str} (ho : OpH X (compareOp op) o) (ha : DE cls X a f) (hb : PE X (.Name x pos) (tVar i)) (hm : behindInMarks op (.Name x pos) = false) {pos' : Pos} : DT cls X (.Compare a [op] [.Name x pos] pos') (eB (eBinR o f i)) := by
  obtain ⟨r, h1, h2⟩ := ho
  refine impT (pt_cmpR h1 ha hb hm) fun σ H Q w => ?_
  exact run_binR h2 σ H _ (run_B σ H Q w)
theorem de_opL {op : Operator} {o : D → D → Option D} (i : Nat) {x : Str} (ho : OpH X (binaryOp op) o) (ha : PE X (.Name x pos) (tVar i)) (hb : DE cls X b g) {pos' : Pos} : DE cls X (.BinOp (.Name x pos) op b pos') (eBinL o i g) := by
  obtain ⟨r, h1, h2⟩ := ho
  exact imp (pe_op h1 ha hb) (run_binL h2)
theorem de_opR {op : Operator} {o : D → D → Option D} (i : Nat) {x : Str} (ho : OpH X (binaryOp op) o) (ha : DE cls X a f) (hb : PE X (.Name x pos) (tVar i)) {pos' : Pos} : DE cls X (.BinOp a op (.Name x pos) pos') (eBinR o f i) := by
  obtain ⟨r, h1, h2⟩ := ho
  exact imp (pe_op h1 ha hb) (run_binR h2)

/-! ### calls of built-ins -/
theorem paired_of {K : PySem.W.Frag} {F H : Hp} {μ : List Addr} : ∀ {ds : List D} {vs : List V}, Reps K F μ ds vs → Paired (RepH K F μ H) ds vs
  | _, _, .nil => .nil
  | _, _, .cons h r => .cons (.rep h) (paired_of r)
def eCl (op : List D → Option D) (g : Ev (List D)) : Ev D := bnd g fun xs => lft (op xs)
theorem run_cl {op : List D → Option D} {g : Ev (List D)} {r : List V → Hp → VK → Prop} (hr : ∀ (c : Ct) (F : Hp) (μ : List Addr) (σ : L2.St) (H : Hp) (s : Sto) (xs : List V) (ds : List D) (z : D) (Q : VK), Rel X.K c F μ σ H s → Paired (RepH X.K F μ H) ds xs → op ds = some z →
    (∀ v H' F' μ', Rel X.K c F' μ' σ H' s → Mono F μ F' μ' → Rep X.K F' μ' z v → Q v H') → r xs H Q) (σ : L2.St) (H : Hp) (Q : VK) (w : TD X.K cls (eCl op g) σ H Q) : tCB r (TDA X.K cls g) σ H Q := by
  obtain ⟨c, F, μ, s, hc, R, z, s', e, k⟩ := w
  obtain ⟨x, s1, e1, f1⟩ := bnd_some e
  obtain ⟨e3, w3⟩ := lft_some f1
  subst w3
  exact ⟨c, F, μ, s, hc, R, x, s', e1, fun u H1 F1 μ1 R1 m1 r1 => hr c F1 μ1 σ H1 s' u x z Q R1 (paired_of r1) e3 fun v' H' F' μ' R' m' r' => k v' H' F' μ' R' (m1.trans m') r'⟩
/-- the only argument is a name whose owned list is read -/
def eCl1 (op : List D → Option D) (i : Nat) : Ev D := bnd (eRd i) fun x => lft (op [x])
theorem run_cl1 {op : List D → Option D} {i : Nat} {r : List V → Hp → VK → Prop} (hr : ∀ (c : Ct) (F : Hp) (μ : List Addr) (σ : L2.St) (H : Hp) (s : Sto) (xs : List V) (ds : List D) (z : D) (Q : VK), Rel X.K c F μ σ H s → Paired (RepH X.K F μ H) ds xs → op ds = some z →
    (∀ v H' F' μ', Rel X.K c F' μ' σ H' s → Mono F μ F' μ' → Rep X.K F' μ' z v → Q v H') → r xs H Q) (σ : L2.St) (H : Hp) (Q : VK) (w : TD X.K cls (eCl1 op i) σ H Q) : tCB r (tCons (tVar i) tNil) σ H Q := by
  obtain ⟨c, F, μ, s, hc, R, z, s', e, k⟩ := w
  obtain ⟨x, s1, e1, f1⟩ := bnd_some e
  obtain ⟨e3, w3⟩ := lft_some f1
  subst w3
  obtain ⟨w2, v, hv, r2⟩ := eRd_some R e1
  subst w2
  exact ⟨v, hv, hr c F μ σ H s' [v] [x] z Q R (.cons r2 .nil) e3 k⟩
theorem de_clB {id : String} {x : Str} {pp : Pos} {g : Ev (List D)} {op : List D → Option D} (hc : ClH X (.builtin id) op) (hg : Gl X x) (hm : X.mg x = none) (hv : bootBuiltins x = some (.builtin id)) (ha : DA cls X (e :: es) g) (hn : x ≠ "__name__" := by decide)
    (hdb : (x == ("__debug__" : Str)) = false := by decide) (he : starEach (e :: es) X.env = (false, eval e X.env) :: starEach es X.env := by rfl) (hpl : (backTo pos (starEach es X.env)).any (·.1) = false := by rfl) :
    DE cls X (.Call (.Name x pp) (e :: es) [] pos) (eCl op g) := by
  obtain ⟨r, h1, h2⟩ := hc
  exact imp (pe_callB h1 hg hm hv ha hn hdb he hpl) (run_cl h2)
theorem de_clT {id : String} {x : Str} {pp : Pos} {g : Ev (List D)} {op : List D → Option D} (hc : ClH X (.type id) op) (hg : Gl X x) (hm : X.mg x = none) (hv : bootBuiltins x = some (.type id)) (ha : DA cls X (e :: es) g) (hn : x ≠ "__name__" := by decide)
    (hdb : (x == ("__debug__" : Str)) = false := by decide) (he : starEach (e :: es) X.env = (false, eval e X.env) :: starEach es X.env := by rfl) (hpl : (backTo pos (starEach es X.env)).any (·.1) = false := by rfl) :
    DE cls X (.Call (.Name x pp) (e :: es) [] pos) (eCl op g) := by
  obtain ⟨r, h1, h2⟩ := hc
  exact imp (pe_callTy h1 hg hm hv ha hn hdb he hpl) (run_cl h2)
theorem de_clB1 {id : String} {x y : Str} {pp py : Pos} {op : List D → Option D} (i : Nat) (hc : ClH X (.builtin id) op) (hg : Gl X x) (hm : X.mg x = none) (hv : bootBuiltins x = some (.builtin id)) (ha : PE X (.Name y py) (tVar i)) (hn : x ≠ "__name__" := by decide)
    (hdb : (x == ("__debug__" : Str)) = false := by decide) (he : starEach [.Name y py] X.env = (false, eval (.Name y py) X.env) :: starEach [] X.env := by rfl) (hpl : (backTo pos (starEach [] X.env)).any (·.1) = false := by rfl) :
    DE cls X (.Call (.Name x pp) [.Name y py] [] pos) (eCl1 op i) := by
  obtain ⟨r, h1, h2⟩ := hc
  exact imp (pe_callB h1 hg hm hv (pa_cons ha pa_nil he) hn hdb he hpl) (run_cl1 h2)
theorem de_clT1 {id : String} {x y : Str} {pp py : Pos} {op : List D → Option D} (i : Nat) (hc : ClH X (.type id) op) (hg : Gl X x) (hm : X.mg x = none) (hv : bootBuiltins x = some (.type id)) (ha : PE X (.Name y py) (tVar i)) (hn : x ≠ "__name__" := by decide)
    (hdb : (x == ("__debug__" : Str)) = false := by decide) (he : starEach [.Name y py] X.env = (false, eval (.Name y py) X.env) :: starEach [] X.env := by rfl) (hpl : (backTo pos (starEach [] X.env)).any (·.1) = false := by rfl) :
    DE cls X (.Call (.Name x pp) [.Name y py] [] pos) (eCl1 op i) := by
  obtain ⟨r, h1, h2⟩ := hc
  exact imp (pe_callTy h1 hg hm hv (pa_cons ha pa_nil he) hn hdb he hpl) (run_cl1 h2)
end

/-! ### the operations -/
section
variable {X : Cx}
/-- an answer that needs no room -/
theorem atom {K : PySem.W.Frag} {c : Ct} {F : Hp} {μ : List Addr} {σ : L2.St} {H : Hp} {s : Sto} {z : D} {v : V} {Q : VK} (R : Rel K c F μ σ H s) (r : Rep K F μ z v)
    (k : ∀ v H' F' μ', Rel K c F' μ' σ H' s → Mono F μ F' μ' → Rep K F' μ' z v → Q v H') : Q v H := k v H F μ R (Mono.refl _ _) r
theorem newTup {K : PySem.W.Frag} {c : Ct} {F : Hp} {μ : List Addr} {σ : L2.St} {H : Hp} {s : Sto} {ds : List D} {vs : List V} {Q : VK} (R : Rel K c F μ σ H s) (r : Reps K F μ ds vs)
    (k : ∀ v H' F' μ', Rel K c F' μ' σ H' s → Mono F μ F' μ' → Rep K F' μ' (.tup ds) v → Q v H') : ∀ p, H p = none → Q (.ref p) (upd H p (.tup vs)) := fun p hp => by
  have m : Mono F μ (upd F p (.tup vs)) μ := Mono.new (R.fnone hp)
  exact k _ _ _ _ (R.alloc hp) m (.tup (SqT.of upd_same) (r.mono m))
theorem newLst {K : PySem.W.Frag} {c : Ct} {F : Hp} {μ : List Addr} {σ : L2.St} {H : Hp} {s : Sto} {ds : List D} {vs : List V} {Q : VK} (R : Rel K c F μ σ H s) (r : Reps K F μ ds vs)
    (k : ∀ v H' F' μ', Rel K c F' μ' σ H' s → Mono F μ F' μ' → Rep K F' μ' (.lst ds) v → Q v H') : ∀ p, H p = none → Q (.ref p) (upd H p (.lst vs)) := fun p hp => by
  have m : Mono F μ (upd F p (.lst vs)) μ := Mono.new (R.fnone hp)
  exact k _ _ _ _ (R.alloc hp) m (.lst upd_same (r.mono m))
def guard' {α : Type} (b : Bool) (a : α) : Option α := if b = true then some a else none
theorem guard_some {α : Type} {b : Bool} {a z : α} (h : guard' b a = some z) : b = true ∧ z = a := by
  unfold guard' at h
  split at h
  · rename_i hb; cases h; exact ⟨hb, rfl⟩
  · cases h
theorem mkS_app (s t : List Nat) : (mkS s ++ mkS t : Str) = mkS (s ++ t) := by
  show Str.append _ _ = _
  simp [Str.append]
theorem mkS_len (s : List Nat) : (mkS s).length = s.length := by simp [Str.length]

def dAdd : D → D → Option D
  | .int a, .int b => some (.int (a + b))
  | .str s, .str t => guard' (decide (s.length + t.length ≤ LIM)) (.str (s ++ t))
  | .tup xs, .tup ys => guard' (decide (xs.length + ys.length ≤ LIM)) (.tup (xs ++ ys))
  | .lst xs, .lst ys => guard' (decide (xs.length + ys.length ≤ LIM)) (.lst (xs ++ ys))
  | _, _ => none
theorem oh_add : OpH X (binaryOp .Add) dAdd := by
  refine ⟨_, ((op_add.or op_add_str).or op_catA).or op_cat, ?_⟩
  intro c F μ σ H s x y d e z Q R r1 r2 h k
  cases d <;> cases e <;> try (simp [dAdd] at h; done)
  case int.int a b =>
    simp only [dAdd, Option.some.injEq] at h; subst h
    rw [r1.int_inv, r2.int_inv]
    exact .inl (.inl (.inl ⟨a, b, rfl, rfl, atom R (.int _) k⟩))
  case str.str a b =>
    simp only [dAdd] at h
    obtain ⟨hn, rfl⟩ := guard_some h
    rw [r1.str_inv, r2.str_inv]
    refine .inl (.inl (.inr ⟨_, _, rfl, rfl, ?_, ?_⟩))
    · rw [mkS_len, mkS_len]; exact lim_le (of_decide_eq_true hn)
    · rw [mkS_app]; exact atom R (.str _) k
  case tup.tup xs ys =>
    simp only [dAdd] at h
    obtain ⟨hn, rfl⟩ := guard_some h
    obtain ⟨a, vs, rfl, e1, q1⟩ := r1.tup_inv R.sub
    obtain ⟨b, ws, rfl, e2, q2⟩ := r2.tup_inv R.sub
    have l1 := q1.length
    have l2 := q2.length
    have hn' := of_decide_eq_true hn
    cases r1 with
    | rep r1 =>
      cases r2 with
      | rep r2 =>
        refine .inl (.inr ⟨a, b, vs, ws, rfl, rfl, e1, e2, lim_le (by omega), fun hv => ?_, fun _ hw => ?_, fun _ _ => ?_⟩)
        · subst hv
          have : xs = [] := by cases xs <;> simp at l1 ⊢
          subst this
          rw [List.nil_append] at k
          exact atom R r2 k
        · subst hw
          have : ys = [] := by cases ys <;> simp at l2 ⊢
          subst this
          rw [List.append_nil] at k
          exact atom R r1 k
        · exact newTup R (q1.append q2) k
  case lst.lst xs ys =>
    simp only [dAdd] at h
    obtain ⟨hn, rfl⟩ := guard_some h
    obtain ⟨a, vs, rfl, e1, q1⟩ := r1.lst_inv R.sub
    obtain ⟨b, ws, rfl, e2, q2⟩ := r2.lst_inv R.sub
    have l1 := q1.length
    have l2 := q2.length
    have hn' := of_decide_eq_true hn
    exact .inr ⟨a, b, vs, ws, rfl, rfl, e1, e2, lim_le (by omega), newLst R (q1.append q2) k⟩
end
end DL

set_option Elab.async false
set_option linter.all false
set_option maxRecDepth 100000
namespace DL
open PySem PySem.Spec PyProof.Rows L2
section
variable {X : Cx}
theorem oh_ii {fo : Value → Value → Sem Value} {C : Int → Int → Prop} {g : Int → Int → Int} {c : Int → Int → Bool} {op : D → D → Option D} (hr : OpR X fo (rI C fun i j => .int (g i j))) (hc : ∀ i j, c i j = true → C i j)
    (hop : ∀ d e z, op d e = some z → ∃ i j, d = .int i ∧ e = .int j ∧ c i j = true ∧ z = .int (g i j)) : OpH X fo op := by
  refine ⟨_, hr, ?_⟩
  intro c F μ σ H s x y d e z Q R r1 r2 h k
  obtain ⟨i, j, rfl, rfl, h1, rfl⟩ := hop d e z h
  rw [r1.int_inv, r2.int_inv]
  exact ⟨i, j, rfl, rfl, hc _ _ h1, atom R (.int _) k⟩
def dSub : D → D → Option D
  | .int a, .int b => some (.int (a - b))
  | _, _ => none
theorem oh_sub : OpH X (binaryOp .Sub) dSub := by
  refine ⟨_, op_sub, ?_⟩
  intro c F μ σ H s x y d e z Q R r1 r2 h k
  cases d <;> cases e <;> try (simp [dSub] at h; done)
  simp only [dSub, Option.some.injEq] at h; subst h
  rw [r1.int_inv, r2.int_inv]
  exact ⟨_, _, rfl, rfl, atom R (.int _) k⟩
def dMod : D → D → Option D
  | .int a, .int b => guard' (decide (0 < b)) (.int (a % b))
  | _, _ => none
theorem oh_mod : OpH X (binaryOp .Mod) dMod := by
  refine oh_ii (c := fun _ b => decide (0 < b)) op_mod (fun i j h => of_decide_eq_true h) fun d e z h => ?_
  cases d <;> cases e <;> try (simp [dMod] at h; done)
  simp only [dMod] at h
  obtain ⟨h1, rfl⟩ := guard_some h
  exact ⟨_, _, rfl, rfl, h1, rfl⟩
def dDiv : D → D → Option D
  | .int a, .int b => guard' (decide (0 < b) && decide (b.natAbs.log2 < 9000)) (.int (a / b))
  | _, _ => none
theorem oh_div : OpH X (binaryOp .FloorDiv) dDiv := by
  refine oh_ii (c := fun _ b => decide (0 < b) && decide (b.natAbs.log2 < 9000)) op_fdivW (fun i j h => ?_) fun d e z h => ?_
  · simp only [Bool.and_eq_true, decide_eq_true_eq] at h; exact h
  cases d <;> cases e <;> try (simp [dDiv] at h; done)
  simp only [dDiv] at h
  obtain ⟨h1, rfl⟩ := guard_some h
  exact ⟨_, _, rfl, rfl, h1, rfl⟩
def dShl : D → D → Option D
  | .int a, .int b => guard' (decide (0 ≤ b) && decide (b ≤ 1000000) && decide (a.natAbs.log2 < 1000000)) (.int (a * 2 ^ b.toNat))
  | _, _ => none
theorem oh_shl : OpH X (binaryOp .LShift) dShl := by
  refine oh_ii (c := fun a b => decide (0 ≤ b) && decide (b ≤ 1000000) && decide (a.natAbs.log2 < 1000000)) op_shlW (fun i j h => ?_) fun d e z h => ?_
  · simp only [Bool.and_eq_true, decide_eq_true_eq] at h
    refine ⟨h.1.1, ?_⟩
    have : Builtin.Int.intBits i ≤ i.natAbs.log2 + 1 := by
      unfold Builtin.Int.intBits
      split <;> omega
    have h2 := h.2
    have h3 := h.1.2
    have : (Builtin.Int.intBits i : Int) + j ≤ 1000001 + 1000000 := by omega
    exact Int.le_trans this (by decide)
  cases d <;> cases e <;> try (simp [dShl] at h; done)
  simp only [dShl] at h
  obtain ⟨h1, rfl⟩ := guard_some h
  exact ⟨_, _, rfl, rfl, h1, rfl⟩
def dShr : D → D → Option D
  | .int a, .int b => guard' (decide (0 ≤ b)) (.int (a / 2 ^ b.toNat))
  | _, _ => none
theorem oh_shr : OpH X (binaryOp .RShift) dShr := by
  refine oh_ii (c := fun _ b => decide (0 ≤ b)) op_shr (fun i j h => of_decide_eq_true h) fun d e z h => ?_
  cases d <;> cases e <;> try (simp [dShr] at h; done)
  simp only [dShr] at h
  obtain ⟨h1, rfl⟩ := guard_some h
  exact ⟨_, _, rfl, rfl, h1, rfl⟩
/-- & 1 alone -/
def dAnd : D → D → Option D
  | .int a, .int b => guard' (decide (0 ≤ a) && decide (b = 1)) (.int (a % 2))
  | _, _ => none
theorem oh_and : OpH X (binaryOp .BitAnd) dAnd := by
  refine ⟨_, op_odd, ?_⟩
  intro c F μ σ H s x y d e z Q R r1 r2 h k
  cases d <;> cases e <;> try (simp [dAnd] at h; done)
  simp only [dAnd] at h
  obtain ⟨h1, rfl⟩ := guard_some h
  simp only [Bool.and_eq_true, decide_eq_true_eq] at h1
  obtain ⟨h1, rfl⟩ := h1
  rw [r1.int_inv, r2.int_inv]
  rename_i a
  obtain ⟨n, rfl⟩ := Int.eq_ofNat_of_zero_le h1
  refine ⟨n, rfl, rfl, ?_⟩
  have e : ((n % 2 : Nat) : Int) = (n : Int) % 2 := by omega
  rw [e]
  exact atom R (.int _) k
def dPow : D → D → Option D
  | .int a, .int b => guard' (decide (0 ≤ b) && decide (b ≤ 1000000) && decide (a.natAbs < 2 ^ 64)) (.int (a ^ b.toNat))
  | _, _ => none
theorem oh_pow : OpH X (binaryOp .Pow) dPow := by
  refine oh_ii (c := fun a b => decide (0 ≤ b) && decide (b ≤ 1000000) && decide (a.natAbs < 2 ^ 64)) op_pow (fun i j h => ?_) fun d e z h => ?_
  · simp only [Bool.and_eq_true, decide_eq_true_eq] at h
    exact ⟨h.1.1, h.1.2, h.2⟩
  cases d <;> cases e <;> try (simp [dPow] at h; done)
  simp only [dPow] at h
  obtain ⟨h1, rfl⟩ := guard_some h
  exact ⟨_, _, rfl, rfl, h1, rfl⟩

/-! ### comparisons -/
def isAtom : D → Bool
  | .non => true | .bl _ => true | .int _ => true | .str _ => true | _ => false
def dEq (d e : D) : Option D := guard' ((isAtom d && isAtom e && !(match d, e with | .bl _, .int _ => true | .int _, .bl _ => true | _, _ => false)) || (flat 8 d && flat 8 e)) (.bl (eqv d e))
def dNe (d e : D) : Option D := guard' ((isAtom d && isAtom e && !(match d, e with | .bl _, .int _ => true | .int _, .bl _ => true | _, _ => false)) || (flat 8 d && flat 8 e)) (.bl (!eqv d e))
theorem atom_eq {K : PySem.W.Frag} {F H : Hp} {μ : List Addr} {d e : D} {x y : V} (h : (isAtom d && isAtom e && !(match d, e with | .bl _, .int _ => true | .int _, .bl _ => true | _, _ => false)) = true) (r1 : RepH K F μ H d x) (r2 : RepH K F μ H e y) :
    scal x y = true ∧ decide (x = y) = eqv d e := by
  cases d <;> cases e <;> simp only [isAtom, Bool.and_false, Bool.false_and, Bool.not_true, Bool.and_true, Bool.not_false, Bool.false_eq_true, Bool.true_and] at h <;> try (cases h; done)
  all_goals first
    | rw [r1.int_inv] | rw [r1.str_inv] | rw [r1.bl_inv] | rw [r1.non_inv]
  all_goals first
    | rw [r2.int_inv] | rw [r2.str_inv] | rw [r2.bl_inv] | rw [r2.non_inv]
  all_goals refine ⟨rfl, ?_⟩
  all_goals first
    | (simp [eqv]; done)
    | (rw [dec_str]; exact mkS_eq _ _)
    | (rw [dec_int]; rfl)
    | (rw [dec_bl]; rfl)
theorem oh_eq (hu : X.A.units + 64 < cLine) : OpH X (compareOp .Eq) dEq := by
  refine ⟨_, op_eq.or (op_eqD hu), ?_⟩
  intro c F μ σ H s x y d e z Q R r1 r2 h k
  obtain ⟨h1, rfl⟩ := guard_some h
  rcases Bool.or_eq_true_iff.mp h1 with h1 | h1
  · obtain ⟨e1, e2⟩ := atom_eq h1 r1 r2
    exact .inl ⟨e1, by rw [e2]; exact atom R (.bl _) k⟩
  · simp only [Bool.and_eq_true] at h1
    exact .inr ⟨_, _, r1.dp R.sub h1.1, r2.dp R.sub h1.2, flat_shaped h1.1, flat_shaped h1.2, by rw [toPy_eqv]; exact atom R (.bl _) k⟩
theorem oh_ne (hu : X.A.units + 64 < cLine) : OpH X (compareOp .NotEq) dNe := by
  refine ⟨_, op_ne.or (op_neD hu), ?_⟩
  intro c F μ σ H s x y d e z Q R r1 r2 h k
  obtain ⟨h1, rfl⟩ := guard_some h
  rcases Bool.or_eq_true_iff.mp h1 with h1 | h1
  · obtain ⟨e1, e2⟩ := atom_eq h1 r1 r2
    exact .inl ⟨e1, by rw [e2]; exact atom R (.bl _) k⟩
  · simp only [Bool.and_eq_true] at h1
    exact .inr ⟨_, _, r1.dp R.sub h1.1, r2.dp R.sub h1.2, flat_shaped h1.1, flat_shaped h1.2, by rw [toPy_eqv]; exact atom R (.bl _) k⟩
def dLt : D → D → Option D
  | .int a, .int b => some (.bl (decide (a < b)))
  | .str a, .str b => some (.bl (decide (a < b)))
  | _, _ => none
def dLe : D → D → Option D
  | .int a, .int b => some (.bl (decide (a ≤ b)))
  | .str a, .str b => some (.bl (!decide (b < a)))
  | _, _ => none
def dGt : D → D → Option D
  | .int a, .int b => some (.bl (decide (b < a)))
  | .str a, .str b => some (.bl (decide (b < a)))
  | _, _ => none
def dGe : D → D → Option D
  | .int a, .int b => some (.bl (decide (b ≤ a)))
  | .str a, .str b => some (.bl (!decide (a < b)))
  | _, _ => none
theorem oh_lt : OpH X (compareOp .Lt) dLt := by
  refine ⟨_, op_lt.or op_lt_str, ?_⟩
  intro c F μ σ H s x y d e z Q R r1 r2 h k
  cases d <;> cases e <;> try (simp [dLt] at h; done)
  · simp only [dLt, Option.some.injEq] at h; subst h
    rw [r1.int_inv, r2.int_inv]
    exact .inl ⟨_, _, rfl, rfl, atom R (.bl _) k⟩
  · simp only [dLt, Option.some.injEq] at h; subst h
    rw [r1.str_inv, r2.str_inv]
    exact .inr ⟨_, _, rfl, rfl, atom R (.bl _) k⟩
theorem oh_le : OpH X (compareOp .LtE) dLe := by
  refine ⟨_, op_le.or op_le_str, ?_⟩
  intro c F μ σ H s x y d e z Q R r1 r2 h k
  cases d <;> cases e <;> try (simp [dLe] at h; done)
  · simp only [dLe, Option.some.injEq] at h; subst h
    rw [r1.int_inv, r2.int_inv]
    exact .inl ⟨_, _, rfl, rfl, atom R (.bl _) k⟩
  · simp only [dLe, Option.some.injEq] at h; subst h
    rw [r1.str_inv, r2.str_inv]
    exact .inr ⟨_, _, rfl, rfl, atom R (.bl _) k⟩
theorem oh_gt : OpH X (compareOp .Gt) dGt := by
  refine ⟨_, op_gt.or op_gt_str, ?_⟩
  intro c F μ σ H s x y d e z Q R r1 r2 h k
  cases d <;> cases e <;> try (simp [dGt] at h; done)
  · simp only [dGt, Option.some.injEq] at h; subst h
    rw [r1.int_inv, r2.int_inv]
    exact .inl ⟨_, _, rfl, rfl, atom R (.bl _) k⟩
  · simp only [dGt, Option.some.injEq] at h; subst h
    rw [r1.str_inv, r2.str_inv]
    exact .inr ⟨_, _, rfl, rfl, atom R (.bl _) k⟩
theorem oh_ge : OpH X (compareOp .GtE) dGe := by
  refine ⟨_, op_ge.or op_ge_str, ?_⟩
  intro c F μ σ H s x y d e z Q R r1 r2 h k
  cases d <;> cases e <;> try (simp [dGe] at h; done)
  · simp only [dGe, Option.some.injEq] at h; subst h
    rw [r1.int_inv, r2.int_inv]
    exact .inl ⟨_, _, rfl, rfl, atom R (.bl _) k⟩
  · simp only [dGe, Option.some.injEq] at h; subst h
    rw [r1.str_inv, r2.str_inv]
    exact .inr ⟨_, _, rfl, rfl, atom R (.bl _) k⟩
def isNonD : D → Bool
  | .non => true
  | _ => false
theorem op_isB : OpR X (compareOp .Is) (fun x y H Q => ∃ a b, x = .bl a ∧ y = .bl b ∧ Q (.bl (a == b)) H) := by
  intro pins s σ H x y v u Q I rx ry ⟨a, b, ex, ey, q⟩
  subst ex ey
  cases rx
  cases ry
  refine wpAny_is_plain (by cases a <;> cases b <;> decide) (fin_bl I q ?_)
  cases a <;> cases b <;> decide
theorem op_isnotB : OpR X (compareOp .IsNot) (fun x y H Q => ∃ a b, x = .bl a ∧ y = .bl b ∧ Q (.bl (!(a == b))) H) := by
  intro pins s σ H x y v u Q I rx ry ⟨a, b, ex, ey, q⟩
  subst ex ey
  cases rx
  cases ry
  refine wpAny_isNot_plain (by cases a <;> cases b <;> decide) (fin_bl I q ?_)
  cases a <;> cases b <;> decide
def dIs : D → D → Option D
  | d, .non => some (.bl (isNonD d))
  | .bl a, .bl b => some (.bl (a == b))
  | _, _ => none
def dIsNot : D → D → Option D
  | d, .non => some (.bl (!isNonD d))
  | .bl a, .bl b => some (.bl (!(a == b)))
  | _, _ => none
theorem rep_non_iff {K : PySem.W.Frag} {F H : Hp} {μ : List Addr} {d : D} {x : V} (r : RepH K F μ H d x) : decide (x = .non) = isNonD d := by
  cases r with
  | rep r => cases r <;> simp [isNonD]
  | lst _ _ => simp [isNonD]
  | dct _ _ => simp [isNonD]
theorem oh_is : OpH X (compareOp .Is) dIs := by
  refine ⟨_, op_isN.or op_isB, ?_⟩
  intro c F μ σ H s x y d e z Q R r1 r2 h k
  cases e with
  | non =>
    cases h
    exact .inl ⟨r2.non_inv, by rw [rep_non_iff r1]; exact atom R (.bl _) k⟩
  | bl b =>
    cases d <;> try (simp [dIs] at h; done)
    simp only [dIs, Option.some.injEq] at h; subst h
    exact .inr ⟨_, _, r1.bl_inv, r2.bl_inv, atom R (.bl _) k⟩
  | _ => cases d <;> simp [dIs] at h
theorem oh_isnot : OpH X (compareOp .IsNot) dIsNot := by
  refine ⟨_, op_notN.or op_isnotB, ?_⟩
  intro c F μ σ H s x y d e z Q R r1 r2 h k
  cases e with
  | non =>
    cases h
    exact .inl ⟨r2.non_inv, by rw [rep_non_iff r1]; exact atom R (.bl _) k⟩
  | bl b =>
    cases d <;> try (simp [dIsNot] at h; done)
    simp only [dIsNot, Option.some.injEq] at h; subst h
    exact .inr ⟨_, _, r1.bl_inv, r2.bl_inv, atom R (.bl _) k⟩
  | _ => cases d <;> simp [dIsNot] at h
end
end DL

set_option Elab.async false
set_option linter.all false
set_option maxRecDepth 100000
namespace DL
open PySem PySem.Spec PyProof.Rows L2
section
variable {X : Cx}
/-! ### repetition -/
theorem rep_codes (x : Array Nat) : ∀ n : Nat, (List.replicate n x).foldl (· ++ ·) #[] = ((List.replicate n x.toList).flatten).toArray := by
  have h : ∀ (n : Nat) (acc : Array Nat), (List.replicate n x).foldl (· ++ ·) acc = acc ++ ((List.replicate n x.toList).flatten).toArray := by
    intro n
    induction n with
    | zero => intro acc; simp
    | succ n ih =>
      intro acc
      rw [List.replicate_succ, List.foldl_cons, ih, List.replicate_succ, List.flatten_cons]
      apply Array.ext'
      simp
  intro n
  rw [h n #[]]
  apply Array.ext'
  simp
theorem op_mul_str : OpR X (binaryOp .Mult) (fun x y H Q => ∃ (z : List Nat) (k : Int), x = .str (mkS z) ∧ y = .int k ∧ -(2 ^ 62) < k ∧ k < 2 ^ 62 ∧ z.length * k.toNat ≤ LIM ∧ Q (.str (mkS (List.replicate k.toNat z).flatten)) H) := by
  intro pins s σ H x y v u Q I rx ry h
  obtain ⟨z, k, rfl, rfl, h1, h2, h3, q⟩ := h
  obtain ⟨t, rfl⟩ := rx
  obtain ⟨t', rfl⟩ := ry
  have hl : (mkS z).length = z.length := mkS_len z
  refine PySem.P.mul_str (by rw [decide_eq_false (by omega), decide_eq_false (by omega)]; rfl) (fun hk hz => ?_) (fun hk hz => ?_) ?_
  · rw [hl]
    have hk1 : 1 ≤ k := by omega
    have h3' : (z.length : Int) * k ≤ 16777216 := by
      have : ((z.length * k.toNat : Nat) : Int) ≤ (LIM : Nat) := by exact_mod_cast h3
      rw [Int.natCast_mul, Int.toNat_of_nonneg (by omega)] at this
      exact this
    have h4 : (z.length : Int) ≤ (2 ^ 63 - 1) / k := (Int.le_ediv_iff_mul_le (by omega)).mpr (by omega)
    omega
  · rw [hl]
    exact (by
      have h4 := lim_le h3
      show Builtin.Str.tooLong _ = false; simp only [Builtin.Str.tooLong, decide_eq_false_iff_not]
      omega)
  · by_cases hk : k < 1
    · rw [if_pos hk]
      have e : k.toNat = 0 := by omega
      rw [e] at q
      exact ⟨by decide, ⟨.str (mkS []), H, I.tok _, ⟨_, rfl⟩, by simpa using q⟩⟩
    · rw [if_neg hk]
      by_cases hb : (k == 1 || (mkS z).length == 0) = true
      · rw [if_pos hb]
        have e : (List.replicate k.toNat z).flatten = z := by
          rcases Bool.or_eq_true_iff.mp hb with hb | hb
          · have : k = 1 := by simpa using hb
            subst this
            simp
          · rw [hl] at hb
            have : z = [] := by simpa using hb
            subst this
            simp
        rw [e] at q
        exact ⟨.str (mkS z), H, I, ⟨_, rfl⟩, q⟩
      · rw [if_neg hb]
        refine ⟨?_, ⟨.str (mkS (List.replicate k.toNat z).flatten), H, I.tok _, ?_, q⟩⟩
        · rw [rep_codes]
          have : ((List.replicate k.toNat z).flatten).length = k.toNat * z.length := by simp
          have h4 : k.toNat * z.length ≤ LIM := by rw [Nat.mul_comm]; exact h3
          have h5 := lim_le h4
          simp [Str.length, Builtin.Str.tooLong]
          omega
        · rw [rep_codes]; exact ⟨_, rfl⟩

/-! a tuple times 1 -/
theorem tuple_mul1 (l : Addr) (items : Array Value) (n : Nat) (dd : Option Addr) (sl : Array (Option Value)) (u : Tok) :
    Meets (Builtin.«tuple.__mul__» ⟨[.ref l, .int 1 u], []⟩) (fun _ R s => s.heap.get? l = some { cls := .type "tuple", dict := dd, data := .seq items n, slots := sl } ∧ R (.ok (.ret (Value.ref l))) s) :=
  .of_wp fun prog w A R s h => by
    obtain ⟨hp, g, d, tk, os⟩ := s
    obtain ⟨hl, h⟩ := h
    have f1 := AutoSeq1.idx_int
    have c1 : (items.isEmpty || (1 : Int) == 1) = true := by simp
    wp_walk using wpAny_loadPart' hl
    exact ⟨_, rfl, h⟩
theorem op_repT1 : OpR X (binaryOp .Mult) (fun x y H Q => ∃ l xs, x = .ref l ∧ y = .int 1 ∧ SqT X.K H l xs ∧ Q (.ref l) H) := by
  intro pins s σ H x y v u Q I rx ry ⟨l, xs, ex, ey, hT, q⟩
  subst ex ey
  cases rx
  obtain ⟨t, rfl⟩ := ry
  obtain ⟨its, r, ⟨⟨cls, dd, data, sl⟩, ho, hc, n, hd⟩, hs⟩ := I.tuple hT
  simp only at hc hd
  subst hc hd
  exact wpAny_binaryOp_repeat_ref (T := "tuple") (U := "int") (by decide) ⟨_, ho, rfl⟩ (fun s' => typeIs_int s' 1 t) noFill_tuple_mul F.fills_int_mul F.slot_int_rmul repeat_tuple F.slot_int_index.lookup
    (call_meets F.slot_int_rmul (typeIs_int s 1 t) F.entry_int_rmul (F.args_int_rmul_2 _ _) (int_rmul_tuple 1 t l its.toArray n dd sl)
      ⟨ho, rfl, ⟨_, ho, rfl⟩, call_meets F.slot_tuple_mul ⟨_, ho, rfl⟩ F.entry_tuple_mul (F.args_tuple_mul_2 _ _) (tuple_mul1 l its.toArray n dd sl t) ⟨ho, .ref l, H, I, rfl, q⟩⟩)

def dMul : D → D → Option D
  | .int a, .int b => guard' (decide (a.natAbs.log2 + b.natAbs.log2 < 1000000)) (.int (a * b))
  | .str z, .int k => guard' (decide (-(2 ^ 62) < k) && decide (k < 2 ^ 62) && decide (z.length * k.toNat ≤ LIM)) (.str (List.replicate k.toNat z).flatten)
  | .lst z, .int k => guard' (decide (-(2 ^ 62) < k) && decide (k < 2 ^ 62) && decide (z.length * k.toNat ≤ LIM)) (.lst (List.replicate k.toNat z).flatten)
  | .tup z, .int k => guard' (!z.isEmpty && decide (1 ≤ k) && decide (k ≤ 1000) && decide (z.length ≤ 1000)) (.tup (List.replicate k.toNat z).flatten)
  | _, _ => none
theorem oh_mul : OpH X (binaryOp .Mult) dMul := by
  refine ⟨_, (((op_mulW.or op_mul_str).or op_rep).or op_repT).or op_repT1, ?_⟩
  intro c F μ σ H s x y d e z Q R r1 r2 h k
  cases d <;> cases e <;> try (simp [dMul] at h; done)
  case int.int a b =>
    simp only [dMul] at h
    obtain ⟨h1, rfl⟩ := guard_some h
    rw [r1.int_inv, r2.int_inv]
    exact .inl (.inl (.inl (.inl ⟨_, _, rfl, rfl, (by have q := of_decide_eq_true h1; exact q), atom R (.int _) k⟩)))
  case str.int a b =>
    simp only [dMul] at h
    obtain ⟨h1, rfl⟩ := guard_some h
    simp only [Bool.and_eq_true, decide_eq_true_eq] at h1
    rw [r1.str_inv, r2.int_inv]
    exact .inl (.inl (.inl (.inr ⟨_, _, rfl, rfl, h1.1.1, h1.1.2, h1.2, atom R (.str _) k⟩)))
  case lst.int a b =>
    simp only [dMul] at h
    obtain ⟨h1, rfl⟩ := guard_some h
    simp only [Bool.and_eq_true, decide_eq_true_eq] at h1
    obtain ⟨l, vs, rfl, e1, q1⟩ := r1.lst_inv R.sub
    rw [r2.int_inv]
    have l1 := q1.length
    exact .inl (.inl (.inr ⟨l, b, vs, rfl, rfl, e1, by omega, by omega, lim_le (by rw [← l1]; exact h1.2), newLst R (q1.rep _) k⟩))
  case tup.int a b =>
    simp only [dMul] at h
    obtain ⟨h1, rfl⟩ := guard_some h
    simp only [Bool.and_eq_true, decide_eq_true_eq, Bool.not_eq_true'] at h1
    obtain ⟨l, vs, rfl, e1, q1⟩ := r1.tup_inv R.sub
    rw [r2.int_inv]
    have l1 := q1.length
    by_cases hb : b = 1
    · subst hb
      refine .inr ⟨l, vs, rfl, rfl, e1, ?_⟩
      have e2 : (List.replicate (1 : Int).toNat a).flatten = a := by simp
      rw [e2] at k
      cases r1 with
      | rep r1 => exact atom R r1 k
    refine .inl (.inr ⟨l, b, vs, rfl, rfl, e1, fun hv => ?_, by omega, h1.1.2, by omega, newTup R (q1.rep _) k⟩)
    subst hv
    have : a = [] := by cases a <;> simp at l1 ⊢
    subst this
    simp at h1

/-! ### one-place operations -/
def UnH (X : Cx) (fo : Value → Sem Value) (op : D → Option D) : Prop :=
  ∃ r : V → Hp → VK → Prop, UnR X fo r ∧ ∀ (c : Ct) (F : Hp) (μ : List Addr) (σ : L2.St) (H : Hp) (s : Sto) (x : V) (d z : D) (Q : VK), Rel X.K c F μ σ H s → RepH X.K F μ H d x → op d = some z →
    (∀ v H' F' μ', Rel X.K c F' μ' σ H' s → Mono F μ F' μ' → Rep X.K F' μ' z v → Q v H') → r x H Q
def eUn (op : D → Option D) (f : Ev D) : Ev D := bnd f fun x => lft (op x)
theorem de_un {cls : Nat → Addr} {a : Expr} {f : Ev D} {pos : Pos} {op : UnaryOp} {o : D → Option D} (ho : UnH X (unaryOp op) o) (ha : DE cls X a f) : DE cls X (.UnaryOp op a pos) (eUn o f) := by
  obtain ⟨r, h1, h2⟩ := ho
  refine imp (pe_un h1 ha) fun σ H Q ⟨c, F, μ, s, hc, R, z, s', e, k⟩ => ?_
  obtain ⟨x, s1, e1, f1⟩ := bnd_some e
  obtain ⟨e3, w3⟩ := lft_some f1
  subst w3
  exact ⟨c, F, μ, s, hc, R, x, s', e1, fun u H1 F1 μ1 R1 m1 r1 => h2 c F1 μ1 σ H1 s' u x z Q R1 (.rep r1) e3 fun v' H' F' μ' R' m' r' => k v' H' F' μ' R' (m1.trans m') r'⟩
def dNeg : D → Option D
  | .int a => some (.int (-a))
  | _ => none
theorem uh_neg : UnH X (unaryOp .USub) dNeg := by
  refine ⟨_, un_neg, ?_⟩
  intro c F μ σ H s x d z Q R r1 h k
  cases d <;> try (simp [dNeg] at h; done)
  simp only [dNeg, Option.some.injEq] at h; subst h
  rw [r1.int_inv]
  exact ⟨_, rfl, atom R (.int _) k⟩

/-! ### calls -/
theorem p1 {α β : Type} {G : α → β → Prop} {a : α} {ys : List β} (h : Paired G [a] ys) : ∃ y, ys = [y] ∧ G a y := by
  cases h with
  | cons h t => cases t; exact ⟨_, rfl, h⟩
theorem p2 {α β : Type} {G : α → β → Prop} {a b : α} {ys : List β} (h : Paired G [a, b] ys) : ∃ y z, ys = [y, z] ∧ G a y ∧ G b z := by
  cases h with
  | cons h t =>
    cases t with
    | cons h' t => cases t; exact ⟨_, _, rfl, h, h'⟩
def dLen : List D → Option D
  | [.str s] => guard' (decide (s.length ≤ LIM)) (.int s.length)
  | [.lst s] => some (.int s.length)
  | [.tup s] => some (.int s.length)
  | [.dct s] => some (.int s.length)
  | _ => none
theorem RepKs.length {K : PySem.W.Frag} {F : Hp} {μ : List Addr} : ∀ {ds : List (DK × D)} {vs : List (Key × V)}, RepKs K F μ ds vs → ds.length = vs.length
  | _, _, .nil => rfl
  | _, _, .cons _ r => by rw [List.length_cons, List.length_cons, RepKs.length r]
theorem call_lenRd : CallR X (.builtin "len") (fun xs H Q => ∃ a kvs, xs = [V.ref a] ∧ Rd H a (.dK kvs) ∧ Q (.int kvs.length) H) := by
  intro pins s σ H xs us Q I r ⟨a, kvs, e, ha, q⟩
  subst e
  obtain ⟨u, rfl, ru⟩ := vals1 r
  cases ru
  exact d_len I ha fun t s' I' => ⟨.int kvs.length, H, I', ⟨t, rfl⟩, q⟩
theorem ch_len : ClH X (.builtin "len") dLen := by
  refine ⟨_, call_len.or call_lenRd, ?_⟩
  intro c F μ σ H s xs ds z Q R r h k
  match ds, h, r with
  | [.str t], h, r =>
    simp only [dLen] at h
    obtain ⟨h1, rfl⟩ := guard_some h
    obtain ⟨y, rfl, r1⟩ := p1 r
    rw [r1.str_inv]
    exact .inl ⟨_, t.length, rfl, ⟨by rw [mkS_len]; exact lim_le (of_decide_eq_true h1), (mkS_len t).symm⟩, atom R (.int _) k⟩
  | [.lst t], h, r =>
    simp only [dLen, Option.some.injEq] at h; subst h
    obtain ⟨y, rfl, r1⟩ := p1 r
    obtain ⟨a, vs, rfl, e1, q1⟩ := r1.lst_inv R.sub
    exact .inl ⟨_, t.length, rfl, .inl ⟨vs, SqL.of e1, q1.length⟩, atom R (.int _) k⟩
  | [.tup t], h, r =>
    simp only [dLen, Option.some.injEq] at h; subst h
    obtain ⟨y, rfl, r1⟩ := p1 r
    obtain ⟨a, vs, rfl, e1, q1⟩ := r1.tup_inv R.sub
    exact .inl ⟨_, t.length, rfl, .inr ⟨vs, e1, q1.length⟩, atom R (.int _) k⟩
  | [.dct t], h, r =>
    simp only [dLen, Option.some.injEq] at h; subst h
    obtain ⟨y, rfl, r1⟩ := p1 r
    obtain ⟨a, vs, rfl, e1, q1⟩ := r1.dct_inv R.sub
    exact .inr ⟨_, vs, rfl, e1, by rw [← q1.length]; exact atom R (.int _) k⟩
def dAbs : List D → Option D
  | [.int a] => some (.int (if a < 0 then -a else a))
  | _ => none
theorem ch_abs : ClH X (.builtin "abs") dAbs := by
  refine ⟨_, call_abs, ?_⟩
  intro c F μ σ H s xs ds z Q R r h k
  match ds, h, r with
  | [.int t], h, r =>
    simp only [dAbs, Option.some.injEq] at h; subst h
    obtain ⟨y, rfl, r1⟩ := p1 r
    rw [r1.int_inv]
    exact ⟨_, rfl, atom R (.int _) k⟩
/-- int of an int, a bool; of a text of one digit -/
def dInt : List D → Option D
  | [.int a] => some (.int a)
  | [.bl b] => some (.int (if b then 1 else 0))
  | [.str [c]] => guard' (decide (48 ≤ c) && decide (c ≤ 57)) (.int ((c : Int) - 48))
  | _ => none
theorem digit_int : ∀ c : Nat, 48 ≤ c → c ≤ 57 → PySem.intText? (mkS [c]) = some ((c : Int) - 48) := by
  intro c h1 h2
  have : ∀ k : Fin 10, PySem.intText? (mkS [48 + k.val]) = some (((48 + k.val : Nat) : Int) - 48) := by decide +kernel
  have e := this ⟨c - 48, by omega⟩
  have e2 : 48 + (c - 48) = c := by omega
  simp only [e2] at e
  exact e
theorem ch_int : ClH X (.type "int") dInt := by
  refine ⟨_, call_int1.or call_int_str, ?_⟩
  intro c F μ σ H s xs ds z Q R r h k
  match ds, h, r with
  | [.int t], h, r =>
    simp only [dInt, Option.some.injEq] at h; subst h
    obtain ⟨y, rfl, r1⟩ := p1 r
    rw [r1.int_inv]
    exact .inl (.inl ⟨_, rfl, atom R (.int _) k⟩)
  | [.bl t], h, r =>
    simp only [dInt, Option.some.injEq] at h; subst h
    obtain ⟨y, rfl, r1⟩ := p1 r
    rw [r1.bl_inv]
    exact .inl (.inr ⟨_, rfl, atom R (.int _) k⟩)
  | [.str [t]], h, r =>
    simp only [dInt] at h
    obtain ⟨h1, rfl⟩ := guard_some h
    simp only [Bool.and_eq_true, decide_eq_true_eq] at h1
    obtain ⟨y, rfl, r1⟩ := p1 r
    rw [r1.str_inv]
    exact .inr ⟨_, _, rfl, digit_int t h1.1 h1.2, by rw [mkS_len]; show 1 ≤ 640; decide, atom R (.int _) k⟩
/-- str of an int of at most some digits -/
def intCodes (i : Int) : List Nat := (toString i).toList.map Char.toNat
def dStr : List D → Option D
  | [.int a] => guard' (decide (a.natAbs.log2 < 1920)) (.str (intCodes a))
  | [.str a] => some (.str a)
  | _ => none
theorem ch_str : ClH X (.type "str") dStr := by
  refine ⟨_, call_str_int.or SkE.call_str_str, ?_⟩
  intro c F μ σ H s xs ds z Q R r h k
  match ds, h, r with
  | [.int t], h, r =>
    simp only [dStr] at h
    obtain ⟨h1, rfl⟩ := guard_some h
    obtain ⟨y, rfl, r1⟩ := p1 r
    rw [r1.int_inv]
    refine .inl ⟨_, rfl, of_decide_eq_true h1, ?_⟩
    have e : ((toString t : String) : Str) = mkS (intCodes t) := Str.ofString_eq_toList _
    rw [e]
    exact atom R (.str _) k
  | [.str t], h, r =>
    simp only [dStr, Option.some.injEq] at h; subst h
    obtain ⟨y, rfl, r1⟩ := p1 r
    rw [r1.str_inv]
    exact .inr ⟨_, rfl, atom R (.str _) k⟩
def dTuple : List D → Option D
  | [.lst xs] => some (.tup xs)
  | [.tup xs] => some (.tup xs)
  | _ => none
theorem ch_tuple : ClH X (.type "tuple") dTuple := by
  refine ⟨_, call_tuple_of, ?_⟩
  intro c F μ σ H s xs ds z Q R r h k
  match ds, h, r with
  | [.lst t], h, r =>
    simp only [dTuple, Option.some.injEq] at h; subst h
    obtain ⟨y, rfl, r1⟩ := p1 r
    obtain ⟨a, vs, rfl, e1, q1⟩ := r1.lst_inv R.sub
    exact ⟨a, vs, rfl, .inl ⟨SqL.of e1, newTup R q1 k⟩⟩
  | [.tup t], h, r =>
    simp only [dTuple, Option.some.injEq] at h; subst h
    obtain ⟨y, rfl, r1⟩ := p1 r
    obtain ⟨a, vs, rfl, e1, q1⟩ := r1.tup_inv R.sub
    cases r1 with
    | rep r1 => exact ⟨a, vs, rfl, .inr ⟨e1, atom R r1 k⟩⟩
def dMax2 : List D → Option D
  | [.int a, .int b] => some (.int (if b > a then b else a))
  | _ => none
theorem ch_max2 (hc : X.calm = true) : ClH X (.builtin "max") dMax2 := by
  refine ⟨_, call_max2 hc, ?_⟩
  intro c F μ σ H s xs ds z Q R r h k
  match ds, h, r with
  | [.int t, .int u], h, r =>
    simp only [dMax2, Option.some.injEq] at h; subst h
    obtain ⟨y, z, rfl, r1, r2⟩ := p2 r
    rw [r1.int_inv, r2.int_inv]
    exact ⟨_, _, rfl, atom R (.int _) k⟩
def dMin2 : List D → Option D
  | [.int a, .int b] => some (.int (if b < a then b else a))
  | _ => none
theorem ch_min2 (hc : X.calm = true) : ClH X (.builtin "min") dMin2 := by
  refine ⟨_, call_min2 hc, ?_⟩
  intro c F μ σ H s xs ds z Q R r h k
  match ds, h, r with
  | [.int t, .int u], h, r =>
    simp only [dMin2, Option.some.injEq] at h; subst h
    obtain ⟨y, z, rfl, r1, r2⟩ := p2 r
    rw [r1.int_inv, r2.int_inv]
    exact ⟨_, _, rfl, atom R (.int _) k⟩
/-- lists of bools, of ints -/
def asBs : List D → Option (List Bool)
  | [] => some []
  | .bl b :: r => (asBs r).map (b :: ·)
  | _ :: _ => none
def asIs : List D → Option (List Int)
  | [] => some []
  | .int b :: r => (asIs r).map (b :: ·)
  | _ :: _ => none
def asSs : List D → Option (List (List Nat))
  | [] => some []
  | .str b :: r => (asSs r).map (b :: ·)
  | _ :: _ => none
theorem asBs_rep {K : PySem.W.Frag} {F : Hp} {μ : List Addr} : ∀ {ds : List D} {vs : List V} {bs : List Bool}, Reps K F μ ds vs → asBs ds = some bs → vs = bs.map V.bl
  | [], _, bs, .nil, h => by simp [asBs] at h; subst h; rfl
  | .bl b :: r, _, bs, .cons h1 h2, h => by
    simp only [asBs, Option.map_eq_some_iff] at h
    obtain ⟨t, e, rfl⟩ := h
    rw [asBs_rep h2 e, h1.bl_inv]; rfl
theorem asIs_rep {K : PySem.W.Frag} {F : Hp} {μ : List Addr} : ∀ {ds : List D} {vs : List V} {bs : List Int}, Reps K F μ ds vs → asIs ds = some bs → vs = bs.map V.int
  | [], _, bs, .nil, h => by simp [asIs] at h; subst h; rfl
  | .int b :: r, _, bs, .cons h1 h2, h => by
    simp only [asIs, Option.map_eq_some_iff] at h
    obtain ⟨t, e, rfl⟩ := h
    rw [asIs_rep h2 e, h1.int_inv]; rfl
theorem asSs_rep {K : PySem.W.Frag} {F : Hp} {μ : List Addr} : ∀ {ds : List D} {vs : List V} {bs : List (List Nat)}, Reps K F μ ds vs → asSs ds = some bs → vs = (bs.map mkS).map V.str
  | [], _, bs, .nil, h => by simp [asSs] at h; subst h; rfl
  | .str b :: r, _, bs, .cons h1 h2, h => by
    simp only [asSs, Option.map_eq_some_iff] at h
    obtain ⟨t, e, rfl⟩ := h
    rw [asSs_rep h2 e, h1.str_inv]; rfl
def dAll : List D → Option D
  | [.lst xs] => (asBs xs).map fun bs => .bl (bs.all id)
  | _ => none
theorem ch_all (hc : X.calm = true) : ClH X (.builtin "all") dAll := by
  refine ⟨_, cr_all hc, ?_⟩
  intro c F μ σ H s xs ds z Q R r h k
  match ds, h, r with
  | [.lst t], h, r =>
    simp only [dAll, Option.map_eq_some_iff] at h
    obtain ⟨bs, e, rfl⟩ := h
    obtain ⟨y, rfl, r1⟩ := p1 r
    obtain ⟨a, vs, rfl, e1, q1⟩ := r1.lst_inv R.sub
    exact ⟨a, bs, rfl, by rw [← asBs_rep q1 e]; exact SqL.of e1, atom R (.bl _) k⟩
def dAny : List D → Option D
  | [.lst xs] => (asBs xs).map fun bs => .bl (bs.any id)
  | _ => none
theorem ch_any (hc : X.calm = true) : ClH X (.builtin "any") dAny := by
  refine ⟨_, cr_any hc, ?_⟩
  intro c F μ σ H s xs ds z Q R r h k
  match ds, h, r with
  | [.lst t], h, r =>
    simp only [dAny, Option.map_eq_some_iff] at h
    obtain ⟨bs, e, rfl⟩ := h
    obtain ⟨y, rfl, r1⟩ := p1 r
    obtain ⟨a, vs, rfl, e1, q1⟩ := r1.lst_inv R.sub
    exact ⟨a, bs, rfl, by rw [← asBs_rep q1 e]; exact SqL.of e1, atom R (.bl _) k⟩
theorem preSum_get (ns : List Int) : ∀ n, n ≤ ns.length → preSum (fun i => ns.getD i 0) n = (ns.take n).sum
  | 0, _ => by simp [preSum]
  | n + 1, h => by
    show preSum _ n + ns.getD n 0 = _
    rw [preSum_get ns n (by omega), List.take_add_one, List.sum_append, List.getD_eq_getElem?_getD, List.getElem?_eq_getElem (by omega)]
    simp
theorem cr_sumT (hc : X.calm = true) : CallR X (.builtin "sum") (fun vs H Q => ∃ (a : Addr) (ns : List Int), vs = [V.ref a] ∧ SqT X.K H a (ns.map V.int) ∧ Q (.int ns.sum) H) := by
  intro pins s σ H vs us Q I r ⟨a, ns, e, hT, q⟩
  subst e
  obtain ⟨its, rv, pt, hz⟩ := I.tuple hT
  rw [Vals.ref1 r]
  have hI := rv.ints
  have hlen : its.length = ns.length := by have := rv.length; rw [List.length_map] at this; exact this.symm
  have ll : a < s.heap.objs.size := by obtain ⟨o, ho, _⟩ := id (show s.heap.IsTuple a its.toArray from pt); exact Heap.lt_size ho
  have hh : X.A.in1.handled = none := I.ok.hd hc
  have hsz : (s.heap.push { cls := .type "tuple_iterator", data := .fields #[.ref a, .int 0 0] }).objs.size = s.heap.objs.size + 1 := Heap.size_push ..
  refine call_sum_walkG (wpAny_pyIter_tuple (show s.heap.IsTuple a its.toArray from pt) ⟨_, _, _, its.toArray.size, _, _, fun i => ns.getD i 0, rfl, Walks.tuple (A := X.A.in1) hh s.heap.objs.size a (Nat.ne_of_lt ll) its.toArray, ⟨⟨_, Heap.get?_push_size _ rfl, rfl, rfl⟩, Heap.IsTuple.push (show s.heap.IsTuple a its.toArray from pt) _⟩, fun b hb => ?_, fun i v hv => ?_, fun h' tk t' hk => ?_⟩)
  · show b < (s.heap.push _).objs.size
    rw [hsz]
    rcases List.mem_cons.mp hb with rfl | hb
    · exact Nat.lt_succ_self _
    · rw [List.mem_singleton.mp hb]; exact Nat.lt_succ_of_lt ll
  · have hv' : its[i]? = some v := by simpa using hv
    obtain ⟨t, e⟩ := PyProof.Rows.IntsAre.int_at hI i v hv'
    exact ⟨t, e⟩
  · have e1 : preSum (fun i => ns.getD i 0) its.toArray.size = ns.sum := by rw [List.size_toArray, hlen, preSum_get ns _ (Nat.le_refl _), List.take_length]
    refine ⟨.int ns.sum, H, I.kept (t' := tk) fun b o e => hk b o (fun z => ?_) (Heap.get?_push_of_some _ e), ⟨t', by rw [e1]⟩, q⟩
    exact Nat.ne_of_lt (Heap.lt_size e) (List.mem_singleton.mp z)
/-- sum of ints -/
def dSum : List D → Option D
  | [.lst xs] => (asIs xs).map fun bs => .int bs.sum
  | [.tup xs] => (asIs xs).map fun bs => .int bs.sum
  | _ => none
theorem ch_sum (hc : X.calm = true) : ClH X (.builtin "sum") dSum := by
  refine ⟨_, (cr_sum hc).or (cr_sumT hc), ?_⟩
  intro c F μ σ H s xs ds z Q R r h k
  match ds, h, r with
  | [.lst t], h, r =>
    simp only [dSum, Option.map_eq_some_iff] at h
    obtain ⟨bs, e, rfl⟩ := h
    obtain ⟨y, rfl, r1⟩ := p1 r
    obtain ⟨a, vs, rfl, e1, q1⟩ := r1.lst_inv R.sub
    exact .inl ⟨a, bs, rfl, by rw [← asIs_rep q1 e]; exact SqL.of e1, atom R (.int _) k⟩
  | [.tup t], h, r =>
    simp only [dSum, Option.map_eq_some_iff] at h
    obtain ⟨bs, e, rfl⟩ := h
    obtain ⟨y, rfl, r1⟩ := p1 r
    obtain ⟨a, vs, rfl, e1, q1⟩ := r1.tup_inv R.sub
    exact .inr ⟨a, bs, rfl, by rw [← asIs_rep q1 e]; exact e1, atom R (.int _) k⟩
end
end DL

set_option Elab.async false
set_option linter.all false
set_option maxRecDepth 100000
namespace DL
open PySem PySem.Spec PyProof.Rows L2

/-! ### statements -/
/-- what is wanted behind a statement, by its outcome -/
def EndsOk (K : PySem.W.Frag) (c : Ct) (F : Hp) (μ : List Addr) (D : Ends) : Out → Prop
  | .nx s' => ∀ σ' H' F' μ', Rel K c F' μ' σ' H' s' → Mono F μ F' μ' → D.nx σ' H'
  | .rt d s' => ∀ v σ' H' F' μ', Rel K c F' μ' σ' H' s' → Mono F μ F' μ' → Rep K F' μ' d v → D.rt v H'
  | .bk s' => ∀ σ' H' F' μ', Rel K c F' μ' σ' H' s' → Mono F μ F' μ' → D.bk σ' H'
  | .ct s' => ∀ σ' H' F' μ', Rel K c F' μ' σ' H' s' → Mono F μ F' μ' → D.ct σ' H'
theorem EndsOk.mono {K : PySem.W.Frag} {c : Ct} {F F1 : Hp} {μ μ1 : List Addr} {D : Ends} {o : Out} (h : EndsOk K c F μ D o) (m : Mono F μ F1 μ1) : EndsOk K c F1 μ1 D o := by
  cases o with
  | nx s => exact fun σ' H' F' μ' R' m' => h σ' H' F' μ' R' (m.trans m')
  | rt d s => exact fun v σ' H' F' μ' R' m' r => h v σ' H' F' μ' R' (m.trans m') r
  | bk s => exact fun σ' H' F' μ' R' m' => h σ' H' F' μ' R' (m.trans m')
  | ct s => exact fun σ' H' F' μ' R' m' => h σ' H' F' μ' R' (m.trans m')
def TSd (K : PySem.W.Frag) (cls : Nat → Addr) (f : Es) : TS := fun D σ H => ∃ c F μ s, c.cls = cls ∧ Rel K c F μ σ H s ∧ ∃ o, f s = some o ∧ EndsOk K c F μ D o
abbrev DS (cls : Nat → Addr) (X : Cx) (e : Stmt) (f : Es) : Prop := PS X e (TSd X.K cls f)
abbrev DSs (cls : Nat → Addr) (X : Cx) (e : List Stmt) (f : Es) : Prop := PSs X e (TSd X.K cls f)
/-- targets -/
def Off (vs : List Nat) (σ σ' : L2.St) : Prop := σ'.length = σ.length ∧ ∀ (i : Nat), i ∉ vs → σ'[i]? = σ[i]?
theorem Off.refl (vs : List Nat) (σ : L2.St) : Off vs σ σ := ⟨rfl, fun _ _ => rfl⟩
theorem Off.trans {vs ws : List Nat} {σ σ1 σ2 : L2.St} (a : Off vs σ σ1) (b : Off ws σ1 σ2) : Off (vs ++ ws) σ σ2 := ⟨b.1.trans a.1, fun i hi => by
  rw [List.mem_append] at hi
  rw [b.2 i fun h => hi (.inr h), a.2 i fun h => hi (.inl h)]⟩
def TDG (K : PySem.W.Frag) (cls : Nat → Addr) (vs : List Nat) (t : D → Sto → Option Sto) : TG := fun v σ H Q => ∃ c F μ s d, c.cls = cls ∧ Rel K c F μ σ H s ∧ Rep K F μ d v ∧ ∃ s', t d s = some s' ∧
  ∀ σ' H' F' μ', Rel K c F' μ' σ' H' s' → Mono F μ F' μ' → Off vs σ σ' → Q σ' H'
def TDGs (K : PySem.W.Frag) (cls : Nat → Addr) (vs : List Nat) (t : List D → Sto → Option Sto) : TGs := fun v σ H Q => ∃ c F μ s d, c.cls = cls ∧ Rel K c F μ σ H s ∧ Reps K F μ d v ∧ ∃ s', t d s = some s' ∧
  ∀ σ' H' F' μ', Rel K c F' μ' σ' H' s' → Mono F μ F' μ' → Off vs σ σ' → Q σ' H'
abbrev DG (cls : Nat → Addr) (X : Cx) (e : Expr) (vs : List Nat) (t : D → Sto → Option Sto) : Prop := PG X e (TDG X.K cls vs t)
abbrev DGs (cls : Nat → Addr) (X : Cx) (e : List Expr) (vs : List Nat) (t : List D → Sto → Option Sto) : Prop := PGs X e (TDGs X.K cls vs t)
theorem impG {X : Cx} {e : Expr} {t t' : TG} (h : PG X e t) (k : ∀ v σ H Q, t' v σ H Q → t v σ H Q) : PG X e t' := ⟨fun pins s σ H v u Q I r w => h.run pins s σ H v u Q I r (k _ _ _ _ w)⟩
theorem impGs {X : Cx} {e : List Expr} {t t' : TGs} (h : PGs X e t) (k : ∀ v σ H Q, t' v σ H Q → t v σ H Q) : PGs X e t' := ⟨fun pins s σ H v u Q I r w => h.run pins s σ H v u Q I r (k _ _ _ _ w)⟩

section
variable {cls : Nat → Addr} {X : Cx} {a b e e' : Expr} {f g h : Ev D} {p q : Ev Bool} {pos : Pos} {es : List Expr} {st : Stmt} {sts : List Stmt} {u v w : Es}
def tNm (i : Nat) : D → Sto → Option Sto := fun d s => some (s.1.set i (.val d), s.2)
def tNl : List D → Sto → Option Sto
  | [], s => some s
  | _, _ => none
def tCs (t : D → Sto → Option Sto) (u : List D → Sto → Option Sto) : List D → Sto → Option Sto
  | d :: ds, s => match t d s with
    | some s1 => u ds s1
    | none => none
  | _, _ => none
def tTp (u : List D → Sto → Option Sto) : D → Sto → Option Sto
  | .tup ds, s => u ds s
  | _, _ => none
theorem dg_name (i : Nat) {x : Str} (hN : X.N.Nodup) (hi : X.N[i]? = some x := by rfl) (hx : Loc X.env.scope x := by first | exact Or.inl rfl | exact Or.inr rfl) (hf : X.fn x = true ∨ X.env.scope.names.lookup x = some .local := by first | exact .inl rfl | exact .inr rfl | assumption) : DG cls X (.Name x pos) [i] (tNm i) := by
  refine impG (pg_name hN hi hx hf) fun v σ H Q ⟨c, F, μ, s, d, hc, R, r, s', e, k⟩ => ?_
  unfold tNm at e
  cases e
  exact k _ _ _ _ (R.setVal r) (Mono.refl _ _) ⟨by simp, fun j hj => by rw [List.getElem?_set_ne (fun z => hj (by simp [z]))]⟩
theorem dgs_nil : DGs cls X [] [] tNl := by
  refine impGs pgs_nil fun v σ H Q ⟨c, F, μ, s, d, hc, R, r, s', e, k⟩ => ?_
  cases d with
  | nil =>
    cases r
    unfold tNl at e
    cases e
    exact ⟨rfl, k _ _ _ _ R (Mono.refl _ _) (Off.refl _ _)⟩
  | cons _ _ => simp [tNl] at e
theorem dgs_cons {vs ws : List Nat} {t : D → Sto → Option Sto} {u : List D → Sto → Option Sto} (h1 : DG cls X a vs t) (h2 : DGs cls X es ws u) (hs : (assignEach (a :: es) X.env).map (·.2) = assign a X.env :: (assignEach es X.env).map (·.2) := by rfl) : DGs cls X (a :: es) (vs ++ ws) (tCs t u) := by
  refine impGs (pgs_cons h1 h2 hs) fun v σ H Q ⟨c, F, μ, s, d, hc, R, r, s', e, k⟩ => ?_
  cases d with
  | nil => simp [tCs] at e
  | cons d ds =>
    cases r with
    | cons r rr =>
      simp only [tCs] at e
      split at e
      · rename_i s1 e1
        refine ⟨_, _, rfl, c, F, μ, s, d, hc, R, r, s1, e1, fun σ' H' F' μ' R' m' o' => ⟨c, F', μ', s1, ds, hc, R', rr.mono m', s', e, fun σ2 H2 F2 μ2 R2 m2 o2 => k σ2 H2 F2 μ2 R2 (m'.trans m2) (o'.trans o2)⟩⟩
      · cases e
theorem dg_tup {k : Nat} {n : Nat} {vs : List Nat} {u : List D → Sto → Option Sto} (hc : X.calm = true) (h : DGs cls X es vs u) (hn : (assignEach es X.env).length = n := by rfl) (hst : (assignEach es X.env).findIdx? (·.1) = none := by rfl)
    (hu : ∀ ds s s', u ds s = some s' → ds.length = n) : DG cls X (.Tuple es k pos) vs (tTp u) := by
  refine impG (pg_tup hc h hn hst) fun v σ H Q ⟨c, F, μ, s, d, hc, R, r, s', e, k⟩ => ?_
  cases d <;> simp only [tTp] at e <;> try (cases e; done)
  rename_i ds
  cases r with
  | tup e1 r =>
    exact ⟨_, _, rfl, Same.sqT R.sub e1, by rw [← r.length]; exact hu _ _ _ e, c, F, μ, s, ds, hc, R, r, s', e, k⟩
theorem len_nl {ds : List D} {s s' : Sto} (h : tNl ds s = some s') : ds.length = 0 := by
  cases ds with
  | nil => rfl
  | cons _ _ => simp [tNl] at h
theorem len_cs {t : D → Sto → Option Sto} {u : List D → Sto → Option Sto} {n : Nat} (hu : ∀ ds s s', u ds s = some s' → ds.length = n) : ∀ ds s s', tCs t u ds s = some s' → ds.length = n + 1 := by
  intro ds s s' h
  cases ds with
  | nil => simp [tCs] at h
  | cons d ds =>
    simp only [tCs] at h
    split at h
    · rw [List.length_cons, hu _ _ _ h]
    · cases h

/-! blocks -/
def sNil : Es := fun s => some (.nx s)
def sSeq (u v : Es) : Es := fun s => match u s with
  | some (.nx s') => v s'
  | o => o
theorem ds_nil : DSs cls X [] sNil := by
  refine impSs pss_nil fun D σ H ⟨c, F, μ, s, hc, R, o, e, k⟩ => ?_
  unfold sNil at e
  cases e
  exact k _ _ _ _ R (Mono.refl _ _)
theorem ds_cons (h1 : DS cls X st u) (h2 : DSs cls X sts v) : DSs cls X (st :: sts) (sSeq u v) := by
  refine impSs (pss_cons h1 h2) fun D σ H ⟨c, F, μ, s, hc, R, o, e, k⟩ => ?_
  unfold sSeq at e
  cases hu : u s with
  | none => rw [hu] at e; simp at e
  | some o1 =>
    refine ⟨c, F, μ, s, hc, R, o1, hu, ?_⟩
    rw [hu] at e
    cases o1 with
    | nx s1 => exact fun σ' H' F' μ' R' m' => ⟨c, F', μ', s1, hc, R', o, e, k.mono m'⟩
    | rt d s1 => cases e; exact k
    | bk s1 => cases e; exact k
    | ct s1 => cases e; exact k
theorem ds_one (h1 : DS cls X st u) : DSs cls X [st] u := by
  refine impSs (pss_one h1) fun D σ H w => w
/-- x = e -/
def sSet (i : Nat) (f : Ev D) : Es := fun s => match f s with
  | some (d, s') => some (.nx (s'.1.set i (.val d), s'.2))
  | none => none
theorem ds_set (i : Nat) {x : Str} {pos' : Pos} (hN : X.N.Nodup) (he : DE cls X e f) (hi : X.N[i]? = some x := by rfl) (hx : Loc X.env.scope x := by first | exact Or.inl rfl | exact Or.inr rfl) (hs : swapsWith e (some (.Name x pos')) pos.line X.env = pure false := by rfl)
    (hf : X.fn x = true ∨ X.env.scope.names.lookup x = some .local := by first | exact .inl rfl | exact .inr rfl | assumption) : DS cls X (.Assign [.Name x pos'] e pos) (sSet i f) := by
  refine impS (ps_set hN hi hx he hs hf) fun D σ H ⟨c, F, μ, s, hc, R, o, e, k⟩ => ?_
  unfold sSet at e
  split at e
  · rename_i d s1 e1
    cases e
    exact ⟨c, F, μ, s, hc, R, d, s1, e1, fun v H' F' μ' R' m' r' => k _ _ _ _ (R'.setVal r') m'⟩
  · cases e
/-- x = a new list (dict) of its own -/
def sOwn (i : Nat) (f : Ev (List D)) : Es := fun s => match f s with
  | some (d, s') => some (.nx (s'.1.set i (.own d), s'.2))
  | none => none
theorem ds_own (i : Nat) {x : Str} {pos' : Pos} {f : Ev (List D)} (hN : X.N.Nodup) (he : DF cls X e f) (hi : X.N[i]? = some x := by rfl) (hx : Loc X.env.scope x := by first | exact Or.inl rfl | exact Or.inr rfl) (hs : swapsWith e (some (.Name x pos')) pos.line X.env = pure false := by rfl)
    (hf : X.fn x = true ∨ X.env.scope.names.lookup x = some .local := by first | exact .inl rfl | exact .inr rfl | assumption) : DS cls X (.Assign [.Name x pos'] e pos) (sOwn i f) := by
  refine impS (ps_set hN hi hx he hs hf) fun D σ H ⟨c, F, μ, s, hc, R, o, e, k⟩ => ?_
  obtain ⟨ρ, S⟩ := s
  unfold sOwn at e
  split at e
  · rename_i d s1 e1
    cases e
    exact ⟨c, F, μ, ρ, S, hc, R, d, s1.1, s1.2, e1, fun v H' F' μ' R' m' => k _ _ _ _ R'.move m'⟩
  · cases e
def sOwnK (i : Nat) (f : Ev (List (DK × D))) : Es := fun s => match f s with
  | some (d, s') => some (.nx (s'.1.set i (.ownK d), s'.2))
  | none => none
theorem ds_ownK (i : Nat) {x : Str} {pos' : Pos} {f : Ev (List (DK × D))} (hN : X.N.Nodup) (he : DFK cls X e f) (hi : X.N[i]? = some x := by rfl) (hx : Loc X.env.scope x := by first | exact Or.inl rfl | exact Or.inr rfl) (hs : swapsWith e (some (.Name x pos')) pos.line X.env = pure false := by rfl)
    (hf : X.fn x = true ∨ X.env.scope.names.lookup x = some .local := by first | exact .inl rfl | exact .inr rfl | assumption) : DS cls X (.Assign [.Name x pos'] e pos) (sOwnK i f) := by
  refine impS (ps_set hN hi hx he hs hf) fun D σ H ⟨c, F, μ, s, hc, R, o, e, k⟩ => ?_
  obtain ⟨ρ, S⟩ := s
  unfold sOwnK at e
  split at e
  · rename_i d s1 e1
    cases e
    exact ⟨c, F, μ, ρ, S, hc, R, d, s1.1, s1.2, e1, fun v H' F' μ' R' m' => k _ _ _ _ R'.move m'⟩
  · cases e
/-- target = e -/
def sAsg (t : D → Sto → Option Sto) (f : Ev D) : Es := fun s => match f s with
  | some (d, s') => (t d s').map Out.nx
  | none => none
theorem ds_asg {tg : Expr} {vs : List Nat} {t : D → Sto → Option Sto} (hg : DG cls X tg vs t) (he : DE cls X e f) (hs : swapsWithSole [tg] e pos.line X.env = pure false := by rfl) (hw : swappedStores [tg] e X.env = pure none := by rfl)
    (h1 : (assignEach [tg] X.env).map (·.2) = [assign tg X.env] := by rfl) : DS cls X (.Assign [tg] e pos) (sAsg t f) := by
  refine impS (ps_asg he hg hs hw h1) fun D σ H ⟨c, F, μ, s, hc, R, o, e, k⟩ => ?_
  unfold sAsg at e
  split at e
  · rename_i d s1 e1
    rw [Option.map_eq_some_iff] at e
    obtain ⟨s2, e2, rfl⟩ := e
    exact ⟨c, F, μ, s, hc, R, d, s1, e1, fun v H' F' μ' R' m' r' => ⟨c, F', μ', s1, d, hc, R', r', s2, e2, fun σ2 H2 F2 μ2 R2 m2 _ => k _ _ _ _ R2 (m'.trans m2)⟩⟩
  · cases e
/-- a, b = e1, e2 -/
def sPar (i j : Nat) (g : Ev (List D)) : Es := fun s => match g s with
  | some ([a, b], s') => some (.nx ((s'.1.set i (.val a)).set j (.val b), s'.2))
  | _ => none
theorem ds_par (i j : Nat) {x y : Str} {g : Ev (List D)} {px py pt : Pos} {kt k2 pt2} (hc : X.calm = true) (hN : X.N.Nodup) (ha : DA cls X [a, b] g) (hi : X.N[i]? = some x := by rfl) (hj : X.N[j]? = some y := by rfl) (hij : i ≠ j := by decide)
    (hx : X.env.scope.names.lookup x = some .local := by rfl) (hy : X.env.scope.names.lookup y = some .local := by rfl) (hw : swappedStores [.Tuple [.Name x px, .Name y py] kt pt] (.Tuple [a, b] k2 pt2) X.env = pure (some [x, y]) := by rfl)
    (hs : swapsWithSole [.Tuple [.Name x px, .Name y py] kt pt] (.Tuple [a, b] k2 pt2) pos.line X.env = pure false := by rfl) : DS cls X (.Assign [.Tuple [.Name x px, .Name y py] kt pt] (.Tuple [a, b] k2 pt2) pos) (sPar i j g) := by
  refine impS (ps_par hc hN hi hj hij hx hy ha hw hs) fun D σ H ⟨c, F, μ, s, hc, R, o, e, k⟩ => ?_
  unfold sPar at e
  split at e
  · rename_i d1 d2 s1 e1
    cases e
    refine ⟨c, F, μ, s, hc, R, _, s1, e1, fun vs H' F' μ' R' m' r' => ?_⟩
    cases r' with
    | cons r1 rr =>
      cases rr with
      | cons r2 rr =>
        cases rr
        exact ⟨_, _, rfl, k _ _ _ _ ((R'.setVal r1).setVal r2) m'⟩
  · cases e
/-- x op= e -/
def sAug (i : Nat) (op : D → D → Option D) (f : Ev D) : Es := fun s => match s.1[i]? with
  | some (.val x) => match f s with
    | some (y, s') => (op x y).map fun z => .nx (s'.1.set i (.val z), s'.2)
    | none => none
  | _ => none
theorem ds_aug (i : Nat) {x : Str} {pos' : Pos} {op : Operator} {o : D → D → Option D} (hN : X.N.Nodup) (ho : OpD X (inplaceOp op) o) (he : DE cls X e f) (hi : X.N[i]? = some x := by rfl) (hx : Loc X.env.scope x := by first | exact Or.inl rfl | exact Or.inr rfl)
    (hf : X.fn x = true ∨ X.env.scope.names.lookup x = some .local := by first | exact .inl rfl | exact .inr rfl | assumption) : DS cls X (.AugAssign (.Name x pos') op e pos) (sAug i o f) := by
  obtain ⟨r, h1, h2⟩ := ho
  refine impS (ps_aug hN hi hx he (ti := r) h1 hf) fun D σ H ⟨c, F, μ, s, hc, R, o, e, k⟩ => ?_
  unfold sAug at e
  split at e
  · rename_i x' hx'
    split at e
    · rename_i y s1 e1
      rw [Option.map_eq_some_iff] at e
      obtain ⟨z, e2, rfl⟩ := e
      obtain ⟨α, hsl, _⟩ := R.slots
      obtain ⟨v, ev, rv⟩ := hsl i _ hx'
      refine ⟨v, ev, c, F, μ, s, hc, R, y, s1, e1, fun u H1 F1 μ1 R1 m1 r1 => ?_⟩
      exact h2 c F1 μ1 σ H1 s1 v u x' y z _ R1 (rv.mono m1) r1 e2 fun v' H' F' μ' R' m' r' => k _ _ _ _ (R'.setVal r') (m1.trans m')
    · cases e
  · cases e
def sRet (f : Ev D) : Es := fun s => match f s with
  | some (d, s') => some (.rt d s')
  | none => none
theorem ds_ret (he : DE cls X e f) : DS cls X (.Return (some e) pos) (sRet f) := by
  refine impS (ps_ret he) fun D σ H ⟨c, F, μ, s, hc, R, o, e, k⟩ => ?_
  unfold sRet at e
  split at e
  · rename_i d s1 e1
    cases e
    exact ⟨c, F, μ, s, hc, R, d, s1, e1, fun v H' F' μ' R' m' r' => k v _ _ _ _ R' m' r'⟩
  · cases e
def sExpr (f : Ev D) : Es := fun s => match f s with
  | some (_, s') => some (.nx s')
  | none => none
theorem ds_expr (he : DE cls X e f) (hs : swapsWith e none pos.line X.env = pure false := by rfl) : DS cls X (.Expr e pos) (sExpr f) := by
  refine impS (ps_expr he hs) fun D σ H ⟨c, F, μ, s, hc, R, o, e, k⟩ => ?_
  unfold sExpr at e
  split at e
  · rename_i d s1 e1
    cases e
    exact ⟨c, F, μ, s, hc, R, d, s1, e1, fun v H' F' μ' R' m' r' => k _ _ _ _ R' m'⟩
  · cases e
def sIf (p : Ev Bool) (u v : Es) : Es := fun s => match p s with
  | some (k, s') => if k = true then u s' else v s'
  | none => none
theorem ds_if {c : Expr} {sts sts' : List Stmt} (hc : DT cls X c p) (ha : DSs cls X sts u) (hb : DSs cls X sts' v) : DS cls X (.If c sts sts' pos) (sIf p u v) := by
  refine impS (ps_if hc ha hb) fun D σ H ⟨c, F, μ, s, hc, R, o, e, k⟩ => ?_
  unfold sIf at e
  split at e
  · rename_i kb s1 e1
    refine ⟨c, F, μ, s, hc, R, kb, s1, e1, fun H' F' μ' R' m' => ?_⟩
    cases kb with
    | true => rw [if_pos rfl] at e ⊢; exact ⟨c, F', μ', s1, hc, R', o, e, k.mono m'⟩
    | false => rw [if_neg Bool.false_ne_true] at e ⊢; exact ⟨c, F', μ', s1, hc, R', o, e, k.mono m'⟩
  · cases e
def sNever : Es := fun _ => none
theorem ds_never : DS cls X st sNever := by
  refine impS ps_never fun D σ H ⟨c, F, μ, s, hc, R, o, e, k⟩ => ?_
  cases e
theorem dss_never : DSs cls X sts sNever := by
  refine impSs pss_never fun D σ H ⟨c, F, μ, s, hc, R, o, e, k⟩ => ?_
  cases e
def sBreak : Es := fun s => some (.bk s)
theorem ds_break : DS cls X (.Break pos) sBreak := by
  refine impS ps_break fun D σ H ⟨c, F, μ, s, hc, R, o, e, k⟩ => ?_
  cases e
  exact k _ _ _ _ R (Mono.refl _ _)
def sCont : Es := fun s => some (.ct s)
theorem ds_cont : DS cls X (.Continue pos) sCont := by
  refine impS ps_continue fun D σ H ⟨c, F, μ, s, hc, R, o, e, k⟩ => ?_
  cases e
  exact k _ _ _ _ R (Mono.refl _ _)
theorem ds_pass : DS cls X (.Pass pos) sNil := by
  refine impS ps_pass fun D σ H ⟨c, F, μ, s, hc, R, o, e, k⟩ => ?_
  cases e
  exact k _ _ _ _ R (Mono.refl _ _)
/-- while -/
def whileF (p : Ev Bool) (u : Es) : Nat → Sto → Option Out
  | 0, _ => none
  | n + 1, s => match p s with
    | some (true, s1) => match u s1 with
      | some (.nx s2) => whileF p u n s2
      | some (.ct s2) => whileF p u n s2
      | some (.bk s2) => some (.nx s2)
      | some (.rt d s2) => some (.rt d s2)
      | none => none
    | some (false, s1) => some (.nx s1)
    | none => none
def FUEL : Nat := 1000000
def sWhile (p : Ev Bool) (u : Es) : Es := whileF p u FUEL
theorem ds_while {c : Expr} {body : List Stmt} (hp : PassesOwn (model X.prog X.w) X.A X.env X.xe) (hc : DT cls X c p) (hb : DSs cls X body u) : DS cls X (.While c body [] pos) (sWhile p u) := by
  refine impS (ps_while hp hc hb) fun D σ H ⟨c, F, μ, s, hc, R, o, e, k⟩ => ?_
  refine ⟨fun m σ' H' => ∃ F' μ' s', Rel X.K c F' μ' σ' H' s' ∧ Mono F μ F' μ' ∧ whileF p u m s' = some o, ⟨FUEL, F, μ, s, R, Mono.refl _ _, e⟩, ?_⟩
  rintro m σ1 H1 ⟨F1, μ1, s1, R1, m1, e1⟩
  cases m with
  | zero => cases e1
  | succ m =>
    unfold whileF at e1
    cases hp' : p s1 with
    | none => rw [hp'] at e1; cases e1
    | some r =>
      obtain ⟨kb, s2⟩ := r
      rw [hp'] at e1
      refine ⟨c, F1, μ1, s1, hc, R1, kb, s2, hp', fun H2 F2 μ2 R2 m2 => ?_⟩
      cases kb with
      | false =>
        dsimp only at e1
        cases e1
        rw [if_neg Bool.false_ne_true]
        exact k _ _ _ _ R2 (m1.trans m2)
      | true =>
        dsimp only at e1
        rw [if_pos rfl]
        refine ⟨fun σ' H' => ∃ F' μ' s', Rel X.K c F' μ' σ' H' s' ∧ Mono F μ F' μ' ∧ whileF p u m s' = some o, fun σ' H' h => ⟨m, Nat.lt_succ_self _, h⟩, ?_⟩
        cases hu : u s2 with
        | none => rw [hu] at e1; cases e1
        | some o2 =>
          rw [hu] at e1
          refine ⟨c, F2, μ2, s2, hc, R2, o2, hu, ?_⟩
          cases o2 with
          | nx s3 => exact fun σ3 H3 F3 μ3 R3 m3 => ⟨F3, μ3, s3, R3, m1.trans (m2.trans m3), e1⟩
          | ct s3 => exact fun σ3 H3 F3 μ3 R3 m3 => ⟨F3, μ3, s3, R3, m1.trans (m2.trans m3), e1⟩
          | bk s3 => cases e1; exact fun σ3 H3 F3 μ3 R3 m3 => k _ _ _ _ R3 (m1.trans (m2.trans m3))
          | rt d s3 => cases e1; exact fun v3 σ3 H3 F3 μ3 R3 m3 r3 => k _ _ _ _ _ R3 (m1.trans (m2.trans m3)) r3
end
end DL

set_option Elab.async false
set_option linter.all false
set_option maxRecDepth 100000
namespace DL
open PySem PySem.Spec PyProof.Rows L2

/-! ### what is walked -/
structure Serve (K : PySem.W.Frag) (F : Hp) (μ : List Addr) (J : It) (ds : List D) : Prop where
  go : ∀ i H, i < ds.length → Same F H → J.go i H
  stop : ∀ i H, ds.length ≤ i → Same F H → J.stop i H
  yld : ∀ i H x H', i < ds.length → Same F H → J.yld i H x H' → (H' = H ∧ ∃ d, ds[i]? = some d ∧ Rep K F μ d x) ∨
    ∃ T vs es, H T = none ∧ H' = upd H T (.tup vs) ∧ x = .ref T ∧ ds[i]? = some (.tup es) ∧ Reps K F μ es vs
def TDI (K : PySem.W.Frag) (cls : Nat → Addr) (f : Ev (List D)) : TI := fun σ H R => ∃ c F μ s, c.cls = cls ∧ Rel K c F μ σ H s ∧ ∃ ds s', f s = some (ds, s') ∧
  ∀ J H' F' μ', Rel K c F' μ' σ H' s' → Mono F μ F' μ' → Serve K F' μ' J ds → R J H'
abbrev DI (cls : Nat → Addr) (X : Cx) (tg e : Expr) (f : Ev (List D)) : Prop := PI X tg e (TDI X.K cls f)
theorem impI {X : Cx} {tg e : Expr} {t t' : TI} (h : PI X tg e t) (k : ∀ σ H Q, t' σ H Q → t σ H Q) : PI X tg e t' := ⟨fun pins s σ H R I w => h.run pins s σ H R I (k _ _ _ w)⟩
theorem pi_or {X : Cx} {tg e : Expr} {t t' : TI} (h : PI X tg e t) (h' : PI X tg e t') : PI X tg e (fun σ H R => t σ H R ∨ t' σ H R) := ⟨fun pins s σ H R I w => w.elim (h.run pins s σ H R I) (h'.run pins s σ H R I)⟩

def keyD : DK → D
  | .inl i => .int i
  | .inr s => .str s
def items : D → Option (List D)
  | .lst xs => some xs
  | .tup xs => some xs
  | .str s => some (s.map fun c => .str [c])
  | .scr xs => some (xs.map .int)
  | .dct kvs => some (kvs.map fun kv => keyD kv.1)
  | _ => none
def eItems (f : Ev D) : Ev (List D) := bnd f fun d => lft (items d)

section
variable {K : PySem.W.Frag} {F H : Hp} {μ : List Addr}
theorem serve_list {a : Addr} {ds : List D} {vs : List V} (h : F a = some (.lst vs)) (r : Reps K F μ ds vs) (hj : ∀ H, Same F H → ∀ xs, SqL K H a xs → xs = vs) : Serve K F μ (Itl K a) ds where
  go := fun i H hi m => ⟨vs, vs[i]'(by rw [← r.length]; exact hi), SqL.of (m _ _ h), by simp⟩
  stop := fun i H hi m => ⟨vs, SqL.of (m _ _ h), by rw [← r.length]; exact hi⟩
  yld := fun i H x H' hi m y => by
    obtain ⟨e, y⟩ := y
    have hx := y vs (SqL.of (m _ _ h))
    obtain ⟨d, hd, rd⟩ := r.get' hx
    exact .inl ⟨e, d, hd, rd⟩
theorem serve_seqL {a : Addr} {ds : List D} {vs : List V} (h : SqL K F a vs) (r : Reps K F μ ds vs) : Serve K F μ (Itl K a) ds where
  go := fun i H hi m => ⟨vs, vs[i]'(by rw [← r.length]; exact hi), m.seq h, by simp⟩
  stop := fun i H hi m => ⟨vs, m.seq h, by rw [← r.length]; exact hi⟩
  yld := fun i H x H' hi m y => by
    obtain ⟨e, y⟩ := y
    have hx := y vs (m.seq h)
    obtain ⟨d, hd, rd⟩ := r.get' hx
    exact .inl ⟨e, d, hd, rd⟩
theorem serve_seqT {a : Addr} {ds : List D} {vs : List V} (h : SqT K F a vs) (r : Reps K F μ ds vs) : Serve K F μ (Itt K a) ds where
  go := fun i H hi m => ⟨vs, vs[i]'(by rw [← r.length]; exact hi), Same.sqT m h, by simp⟩
  stop := fun i H hi m => ⟨vs, Same.sqT m h, by rw [← r.length]; exact hi⟩
  yld := fun i H x H' hi m y => by
    obtain ⟨e, y⟩ := y
    have hx := y vs (Same.sqT m h)
    obtain ⟨d, hd, rd⟩ := r.get' hx
    exact .inl ⟨e, d, hd, rd⟩
theorem serve_str (s : List Nat) : Serve K F μ (Its (mkS s)) (s.map fun c => .str [c]) where
  go := fun i H hi m => by simpa [Its] using hi
  stop := fun i H hi m => by simpa [Its] using hi
  yld := fun i H x H' hi m y => by
    obtain ⟨e, c, hc, rfl⟩ := y
    refine .inl ⟨e, .str [c], ?_, .str [c]⟩
    have : s[i]? = some c := by simpa [mkS] using hc
    rw [List.getElem?_map, this]; rfl
theorem rep_key (k : DK) : Rep K F μ (keyD k) (kV (mkK k)) := by
  cases k with
  | inl i => exact .int i
  | inr s => exact .str s
theorem RepKs.len : ∀ {ds : List (DK × D)} {vs : List (Key × V)}, RepKs K F μ ds vs → ds.length = vs.length
  | _, _, .nil => rfl
  | _, _, .cons _ r => by rw [List.length_cons, List.length_cons, RepKs.len r]
theorem RepKs.at : ∀ {ds : List (DK × D)} {vs : List (Key × V)} {i : Nat} {k : Key} {v : V}, RepKs K F μ ds vs → vs[i]? = some (k, v) → ∃ j d, ds[i]? = some (j, d) ∧ k = mkK j ∧ Rep K F μ d v
  | _, _, _, _, _, .nil, e => by simp at e
  | _, _, 0, _, _, @RepKs.cons _ _ _ j d v ds vs h _, e => by
    simp at e
    obtain ⟨rfl, rfl⟩ := e
    exact ⟨j, d, rfl, rfl, h⟩
  | _, _, i + 1, _, _, .cons _ r, e => by
    obtain ⟨j, d, h1, h2⟩ := RepKs.at (i := i) r (by simpa using e)
    exact ⟨j, d, by simpa using h1, h2⟩
theorem serve_keys {a : Addr} {o : Obj} {ds : List (DK × D)} {vs : List (Key × V)} (h : F a = some (.frz o (.dK vs))) (r : RepKs K F μ ds vs) : Serve K F μ (Itk a o vs) (ds.map fun kv => keyD kv.1) where
  go := fun i H hi m => ⟨m _ _ h, by rw [List.length_map, RepKs.len r] at hi; exact hi⟩
  stop := fun i H hi m => ⟨m _ _ h, by rw [List.length_map, RepKs.len r] at hi; exact hi⟩
  yld := fun i H x H' hi m y => by
    obtain ⟨e, k, v, hk, rfl⟩ := y
    obtain ⟨j, d, h1, rfl, _⟩ := RepKs.at r hk
    exact .inl ⟨e, keyD j, by rw [List.getElem?_map, h1]; rfl, rep_key j⟩
theorem serve_vals {a : Addr} {o : Obj} {ds : List (DK × D)} {vs : List (Key × V)} (h : F a = some (.frz o (.dK vs))) (r : RepKs K F μ ds vs) : Serve K F μ (Itd a o vs) (ds.map fun kv => kv.2) where
  go := fun i H hi m => ⟨m _ _ h, by rw [List.length_map, RepKs.len r] at hi; exact hi⟩
  stop := fun i H hi m => ⟨m _ _ h, by rw [List.length_map, RepKs.len r] at hi; exact hi⟩
  yld := fun i H x H' hi m y => by
    obtain ⟨e, k, hk⟩ := y
    obtain ⟨j, d, h1, _, h2⟩ := RepKs.at r hk
    exact .inl ⟨e, d, by rw [List.getElem?_map, h1]; rfl, h2⟩
theorem reps_ints : ∀ xs : List Int, Reps K F μ (xs.map .int) (xs.map V.int)
  | [] => .nil
  | x :: xs => .cons (.int x) (reps_ints xs)
def rangeL (lo c : Int) (n : Nat) : List D := (List.range n).map fun (i : Nat) => D.int (lo + (i : Int) * c)
theorem serve_rng (lo : Int) (n : Nat) : Serve K F μ (Itr lo n) (rangeL lo 1 n) where
  go := fun i H hi m => by simpa [rangeL, Itr] using hi
  stop := fun i H hi m => by simpa [rangeL, Itr] using hi
  yld := fun i H x H' hi m y => by
    obtain ⟨e, rfl⟩ := y
    have hi : i < n := by simpa [rangeL] using hi
    refine .inl ⟨e, .int (lo + i), ?_, .int _⟩
    unfold rangeL
    rw [List.getElem?_map, List.getElem?_range hi]
    simp
theorem serve_rngC (lo c : Int) (n : Nat) : Serve K F μ (Itc lo c n) (rangeL lo c n) where
  go := fun i H hi m => by simpa [rangeL, Itc] using hi
  stop := fun i H hi m => by simpa [rangeL, Itc] using hi
  yld := fun i H x H' hi m y => by
    obtain ⟨e, rfl⟩ := y
    have hi : i < n := by simpa [rangeL] using hi
    refine .inl ⟨e, .int (lo + i * c), ?_, .int _⟩
    unfold rangeL
    rw [List.getElem?_map, List.getElem?_range hi]
    simp
end

section
variable {cls : Nat → Addr} {X : Cx} {a b e e' iter tg : Expr} {f g h : Ev D} {p q : Ev Bool} {pos : Pos} {es : List Expr} {u v : Es}
theorem di_de (he : DE cls X e f) : DI cls X tg e (eItems f) := by
  refine impI (pi_or (pi_or (pi_or (pi_list he) (pi_tup he)) (pi_str he)) (pi_keys he)) fun σ H R ⟨c, F, μ, s, hc, Rl, ds, s', e, k⟩ => ?_
  obtain ⟨d, s1, e1, f1⟩ := bnd_some e
  obtain ⟨e2, w2⟩ := lft_some f1
  subst w2
  cases d <;> simp only [items] at e2 <;> try (cases e2; done)
  · cases e2
    refine .inl (.inr ⟨c, F, μ, s, hc, Rl, _, s', e1, fun v H1 F1 μ1 R1 m1 r1 => ?_⟩)
    exact ⟨_, r1.str_inv, k _ _ _ _ R1 m1 (serve_str _)⟩
  · cases e2
    refine .inl (.inl (.inl ⟨c, F, μ, s, hc, Rl, _, s', e1, fun v H1 F1 μ1 R1 m1 r1 => ?_⟩))
    cases r1 with
    | lst h r => exact ⟨_, rfl, ⟨_, SqL.of (R1.sub _ _ h)⟩, k _ _ _ _ R1 m1 (serve_seqL (SqL.of h) r)⟩
  · cases e2
    refine .inl (.inl (.inr ⟨c, F, μ, s, hc, Rl, _, s', e1, fun v H1 F1 μ1 R1 m1 r1 => ?_⟩))
    cases r1 with
    | tup h r => exact ⟨_, rfl, ⟨_, Same.sqT R1.sub h⟩, k _ _ _ _ R1 m1 (serve_seqT h r)⟩
  · cases e2
    refine .inr ⟨c, F, μ, s, hc, Rl, _, s', e1, fun v H1 F1 μ1 R1 m1 r1 => ?_⟩
    cases r1 with
    | dct h r => exact ⟨_, _, rfl, .inl ⟨_, R1.sub _ _ h, k _ _ _ _ R1 m1 (serve_keys h r)⟩⟩
  · cases e2
    refine .inl (.inl (.inl ⟨c, F, μ, s, hc, Rl, _, s', e1, fun v H1 F1 μ1 R1 m1 r1 => ?_⟩))
    cases r1 with
    | scr h => exact ⟨_, rfl, ⟨_, R1.sub.seq h⟩, k _ _ _ _ R1 m1 (serve_seqL h (reps_ints _))⟩
/-- d.values() -/
def valsD : D → Option (List D)
  | .dct kvs => some (kvs.map fun kv => kv.2)
  | _ => none
def eVals (f : Ev D) : Ev (List D) := bnd f fun d => lft (valsD d)
theorem di_vals {apos cpos : Pos} (he : DE cls X e f) (hbase : attributeBase e "values" X.env (eval e X.env) = eval e X.env := by rfl) (hline : (apos.endLine == cpos.line) = true := by rfl) : DI cls X tg (.Call (.Attribute e "values" apos) [] [] cpos) (eVals f) := by
  refine impI (pi_values he hbase hline) fun σ H R ⟨c, F, μ, s, hc, Rl, ds, s', e, k⟩ => ?_
  obtain ⟨d, s1, e1, f1⟩ := bnd_some e
  obtain ⟨e2, w2⟩ := lft_some f1
  subst w2
  cases d <;> simp only [valsD] at e2 <;> try (cases e2; done)
  cases e2
  refine ⟨c, F, μ, s, hc, Rl, _, s', e1, fun v H1 F1 μ1 R1 m1 r1 => ?_⟩
  cases r1 with
  | dct h r => exact ⟨_, _, _, rfl, R1.sub _ _ h, k _ _ _ _ R1 m1 (serve_vals h r)⟩
/-- range -/
def inB62 (i : Int) : Bool := decide (-(2 ^ 62) ≤ i) && decide (i < 2 ^ 62)
def dRange1 : List D → Option (List D)
  | [.int j] => guard' (inB62 j) (rangeL 0 1 j.toNat)
  | _ => none
def dRange2 : List D → Option (List D)
  | [.int i, .int j] => guard' (inB62 i && inB62 j) (rangeL i 1 (j - i).toNat)
  | _ => none
def dRange3 : List D → Option (List D)
  | [.int i, .int j, .int c] => guard' (decide (c ≠ 0) && decide (c.natAbs < 1073741824) && Builtin.Range.small i j c && decide (0 ≤ Builtin.Range.rangeSize i j c)) (rangeL i c (Builtin.Range.rangeSize i j c).toNat)
  | _ => none
def eRange (op : List D → Option (List D)) (g : Ev (List D)) : Ev (List D) := bnd g fun d => lft (op d)
theorem reps1 {K : PySem.W.Frag} {F : Hp} {μ : List Addr} {i : Int} {vs : List V} (r : Reps K F μ [.int i] vs) : vs = [.int i] := by
  cases r with
  | cons h r => cases r; rw [h.int_inv]
theorem reps2 {K : PySem.W.Frag} {F : Hp} {μ : List Addr} {i j : Int} {vs : List V} (r : Reps K F μ [.int i, .int j] vs) : vs = [.int i, .int j] := by
  cases r with
  | cons h r => rw [h.int_inv, reps1 r]
theorem reps3 {K : PySem.W.Frag} {F : Hp} {μ : List Addr} {i j k : Int} {vs : List V} (r : Reps K F μ [.int i, .int j, .int k] vs) : vs = [.int i, .int j, .int k] := by
  cases r with
  | cons h r => rw [h.int_inv, reps2 r]
theorem di_range1 {g : Ev (List D)} {pp : Pos} (hg : Gl X "range") (hm : X.mg "range" = none) (ha : DA cls X [a] g) (hs : starEach [a] X.env = [(false, eval a X.env)] := by rfl) : DI cls X tg (.Call (.Name "range" pp) [a] [] pos) (eRange dRange1 g) := by
  refine impI (pi_range1 hg hm ha hs) fun σ H R ⟨c, F, μ, s, hc, Rl, ds, s', e, k⟩ => ?_
  obtain ⟨d, s1, e1, f1⟩ := bnd_some e
  obtain ⟨e2, w2⟩ := lft_some f1
  subst w2
  refine ⟨c, F, μ, s, hc, Rl, d, s', e1, fun vs H1 F1 μ1 R1 m1 r1 => ?_⟩
  match d, e2, r1 with
  | [.int j], e2, r1 =>
    simp only [dRange1] at e2
    obtain ⟨h1, rfl⟩ := guard_some e2
    simp only [inB62, Bool.and_eq_true, decide_eq_true_eq] at h1
    exact ⟨j, reps1 r1, h1.1, h1.2, k _ _ _ _ R1 m1 (serve_rng 0 _)⟩
theorem di_range2 {g : Ev (List D)} {pp : Pos} (hg : Gl X "range") (hm : X.mg "range" = none) (ha : DA cls X [a, b] g) (hs : starEach [a, b] X.env = [(false, eval a X.env), (false, eval b X.env)] := by rfl) (hs2 : starEach [b] X.env = [(false, eval b X.env)] := by rfl) : DI cls X tg (.Call (.Name "range" pp) [a, b] [] pos) (eRange dRange2 g) := by
  refine impI (pi_range2 hg hm ha hs hs2) fun σ H R ⟨c, F, μ, s, hc, Rl, ds, s', e, k⟩ => ?_
  obtain ⟨d, s1, e1, f1⟩ := bnd_some e
  obtain ⟨e2, w2⟩ := lft_some f1
  subst w2
  refine ⟨c, F, μ, s, hc, Rl, d, s', e1, fun vs H1 F1 μ1 R1 m1 r1 => ?_⟩
  match d, e2, r1 with
  | [.int i, .int j], e2, r1 =>
    simp only [dRange2] at e2
    obtain ⟨h1, rfl⟩ := guard_some e2
    simp only [inB62, Bool.and_eq_true, decide_eq_true_eq] at h1
    exact ⟨i, j, reps2 r1, ⟨h1.1.1, h1.1.2, h1.2.1, h1.2.2⟩, k _ _ _ _ R1 m1 (serve_rng _ _)⟩
theorem di_range3 {e3 : Expr} {g : Ev (List D)} {pp : Pos} (hg : Gl X "range") (hm : X.mg "range" = none) (ha : DA cls X [a, b, e3] g) (hs : starEach [a, b, e3] X.env = (false, eval a X.env) :: starEach [b, e3] X.env := by rfl)
    (hpl : (backTo pos (starEach [b, e3] X.env)).any (·.1) = false := by rfl) : DI cls X tg (.Call (.Name "range" pp) [a, b, e3] [] pos) (eRange dRange3 g) := by
  refine impI (pi_range3 hg hm ha hs hpl) fun σ H R ⟨c, F, μ, s, hc, Rl, ds, s', e, k⟩ => ?_
  obtain ⟨d, s1, e1, f1⟩ := bnd_some e
  obtain ⟨e2, w2⟩ := lft_some f1
  subst w2
  refine ⟨c, F, μ, s, hc, Rl, d, s', e1, fun vs H1 F1 μ1 R1 m1 r1 => ?_⟩
  match d, e2, r1 with
  | [.int i, .int j, .int st], e2, r1 =>
    simp only [dRange3] at e2
    obtain ⟨h1, rfl⟩ := guard_some e2
    simp only [Bool.and_eq_true, decide_eq_true_eq] at h1
    exact ⟨i, j, st, _, reps3 r1, ⟨h1.1.1.1, h1.1.1.2, h1.1.2, (Int.toNat_of_nonneg h1.2).symm⟩, k _ _ _ _ R1 m1 (serve_rngC _ _ _)⟩

/-! ### for -/
def forL (t : D → Sto → Option Sto) (u : Es) : List D → Sto → Option Out
  | [], s => some (.nx s)
  | d :: ds, s => match t d s with
    | none => none
    | some s1 => match u s1 with
      | some (.nx s2) => forL t u ds s2
      | some (.ct s2) => forL t u ds s2
      | some (.bk s2) => some (.nx s2)
      | some (.rt r s2) => some (.rt r s2)
      | none => none
def sFor (f : Ev (List D)) (t : D → Sto → Option Sto) (u : Es) : Es := fun s => match f s with
  | some (ds, s') => forL t u ds s'
  | none => none
theorem drop_cons {α : Type} {ds : List α} {i : Nat} {d : α} (h : ds[i]? = some d) : ds.drop i = d :: ds.drop (i + 1) := by
  have hi := (List.getElem?_eq_some_iff.mp h).1
  have e := (List.getElem?_eq_some_iff.mp h).2
  rw [List.drop_eq_getElem_cons hi, e]
/-- one item comes -/
theorem comes {K : PySem.W.Frag} {c : Ct} {F1 F' : Hp} {μ1 μ' : List Addr} {σ : L2.St} {H H' : Hp} {s : Sto} {J : It} {ds : List D} {i : Nat} {x : V} (S : Serve K F1 μ1 J ds) (R : Rel K c F' μ' σ H s) (m : Mono F1 μ1 F' μ') (hi : i < ds.length) (y : J.yld i H x H') :
    ∃ d F2, ds[i]? = some d ∧ Rel K c F2 μ' σ H' s ∧ Mono F' μ' F2 μ' ∧ Rep K F2 μ' d x := by
  rcases S.yld i H x H' hi (m.1.trans R.sub) y with ⟨rfl, d, hd, r⟩ | ⟨T, vs, es, hT, rfl, rfl, hd, r⟩
  · exact ⟨d, F', hd, R, Mono.refl _ _, r.mono m⟩
  · have m2 : Mono F' μ' (upd F' T (.tup vs)) μ' := Mono.new (R.fnone hT)
    exact ⟨.tup es, _, hd, R.alloc hT, m2, .tup (SqT.of upd_same) (r.mono (m.trans m2))⟩
theorem ds_for {body : List Stmt} {f : Ev (List D)} {ts : List Nat} {t : D → Sto → Option Sto} (hp : PassesOwn (model X.prog X.w) X.A X.env X.xe) (hc : X.calm = true) (hi : DI cls X tg iter f) (hg : DG cls X tg ts t) (hb : DSs cls X body u)
    (hs : ∀ x, foldedSetIterable iter X.env x = pure x := by intro _; rfl) : DS cls X (.For tg iter body [] pos) (sFor f t u) := by
  refine impS (ps_for hp hc hi hg hb hs) fun D σ H ⟨c, F, μ, s, hc, R, o, e, k⟩ => ?_
  unfold sFor at e
  split at e
  · rename_i ds s1 e1
    refine ⟨c, F, μ, s, hc, R, ds, s1, e1, fun J H1 F1 μ1 R1 m1 S => ?_⟩
    refine ⟨fun i m σ' H' => m = ds.length - i ∧ i ≤ ds.length ∧ ∃ F' μ' s', Rel X.K c F' μ' σ' H' s' ∧ Mono F1 μ1 F' μ' ∧ forL t u (ds.drop i) s' = some o, ⟨ds.length, rfl, Nat.zero_le _, F1, μ1, s1, R1, Mono.refl _ _, e⟩, ?_⟩
    rintro i m σ2 H2 ⟨rfl, hil, F2, μ2, s2, R2, m2, e2⟩
    by_cases hlt : i < ds.length
    · refine .inr ⟨S.go i H2 hlt (m2.1.trans R2.sub), fun σ' H' => i + 1 ≤ ds.length ∧ ∃ F' μ' s', Rel X.K c F' μ' σ' H' s' ∧ Mono F1 μ1 F' μ' ∧ forL t u (ds.drop (i + 1)) s' = some o, fun σ' H' h => ⟨ds.length - (i + 1), by omega, rfl, h⟩, fun x H3 y => ?_⟩
      obtain ⟨d, F3, hd, R3, m3, r3⟩ := comes S R2 m2 hlt y
      rw [drop_cons hd] at e2
      unfold forL at e2
      cases ht : t d s2 with
      | none => rw [ht] at e2; cases e2
      | some s3 =>
        rw [ht] at e2
        dsimp only at e2
        refine ⟨c, F3, μ2, s2, d, hc, R3, r3, s3, ht, fun σ4 H4 F4 μ4 R4 m4 _ => ?_⟩
        cases hu : u s3 with
        | none => rw [hu] at e2; cases e2
        | some o4 =>
          rw [hu] at e2
          refine ⟨c, F4, μ4, s3, hc, R4, o4, hu, ?_⟩
          have mm : Mono F1 μ1 F4 μ4 := m2.trans (m3.trans m4)
          cases o4 with
          | nx s5 => exact fun σ5 H5 F5 μ5 R5 m5 => ⟨hlt, F5, μ5, s5, R5, mm.trans m5, e2⟩
          | ct s5 => exact fun σ5 H5 F5 μ5 R5 m5 => ⟨hlt, F5, μ5, s5, R5, mm.trans m5, e2⟩
          | bk s5 => cases e2; exact fun σ5 H5 F5 μ5 R5 m5 => k _ _ _ _ R5 (m1.trans (mm.trans m5))
          | rt r s5 => cases e2; exact fun v5 σ5 H5 F5 μ5 R5 m5 r5 => k _ _ _ _ _ R5 (m1.trans (mm.trans m5)) r5
    · have hi' : i = ds.length := by omega
      subst hi'
      rw [List.drop_length] at e2
      cases e2
      exact .inl ⟨S.stop _ H2 (Nat.le_refl _) (m2.1.trans R2.sub), k _ _ _ _ R2 (m1.trans m2)⟩
  · cases e

/-! ### comprehensions -/
def wipeS (ρ : List Sl) : List Nat → List Sl
  | [] => ρ
  | v :: vs => (wipeS ρ vs).set v .un
def restS (ρ0 ρ : List Sl) : List Nat → List Sl
  | [] => ρ
  | v :: vs => (restS ρ0 ρ vs).set v (ρ0[v]?.getD .un)
theorem wipe_get (σ : L2.St) (vs : List Nat) (i : Nat) : (wipe σ vs)[i]? = if i ∈ vs then σ[i]?.map (fun _ => none) else σ[i]? := by
  induction vs with
  | nil => simp [wipe]
  | cons v vs ih =>
    unfold wipe
    rw [List.getElem?_set]
    by_cases hv : v = i
    · subst hv
      simp only [if_true, wipe_length, List.mem_cons, true_or]
      by_cases hl : v < σ.length
      · simp [hl]
      · simp [hl]
    · rw [if_neg hv, ih]
      have : (i ∈ v :: vs) ↔ i ∈ vs := by simp [Ne.symm hv]
      simp only [this]
theorem wipeS_length (ρ : List Sl) : ∀ vs, (wipeS ρ vs).length = ρ.length
  | [] => rfl
  | v :: vs => by unfold wipeS; rw [List.length_set, wipeS_length ρ vs]
theorem restS_length (ρ0 ρ : List Sl) : ∀ vs, (restS ρ0 ρ vs).length = ρ.length
  | [] => rfl
  | v :: vs => by unfold restS; rw [List.length_set, restS_length ρ0 ρ vs]
theorem wipeS_get (ρ : List Sl) (vs : List Nat) (i : Nat) : (wipeS ρ vs)[i]? = if i ∈ vs then ρ[i]?.map (fun _ => .un) else ρ[i]? := by
  induction vs with
  | nil => simp [wipeS]
  | cons v vs ih =>
    unfold wipeS
    rw [List.getElem?_set]
    by_cases hv : v = i
    · subst hv
      simp only [if_true, wipeS_length, List.mem_cons, true_or]
      by_cases hl : v < ρ.length
      · simp [hl]
      · simp [hl]
    · rw [if_neg hv, ih]
      have : (i ∈ v :: vs) ↔ i ∈ vs := by simp [Ne.symm hv]
      simp only [this]
theorem restS_get (ρ0 ρ : List Sl) (vs : List Nat) (i : Nat) : (restS ρ0 ρ vs)[i]? = if i ∈ vs then ρ[i]?.map (fun _ => ρ0[i]?.getD .un) else ρ[i]? := by
  induction vs with
  | nil => simp [restS]
  | cons v vs ih =>
    unfold restS
    rw [List.getElem?_set]
    by_cases hv : v = i
    · subst hv
      simp only [if_true, restS_length, List.mem_cons, true_or]
      by_cases hl : v < ρ.length
      · simp [hl]
      · simp [hl]
    · rw [if_neg hv, ih]
      have : (i ∈ v :: vs) ↔ i ∈ vs := by simp [Ne.symm hv]
      simp only [this]
/-- other slots that hold what is known -/
theorem Rel.congr {K : PySem.W.Frag} {c : Ct} {F : Hp} {μ : List Addr} {σ σ' : L2.St} {H : Hp} {ρ ρ' : List Sl} {S : List O} (R : Rel K c F μ σ H (ρ, S)) (hl : ρ'.length = σ'.length)
    (h : ∀ (i : Nat) x, ρ'[i]? = some x → x = .un ∨ (∃ d v, x = .val d ∧ σ'[i]? = some (some v) ∧ Rep K F μ d v) ∨ (ρ[i]? = some x ∧ σ'[i]? = σ[i]?)) : Rel K c F μ σ' H (ρ', S) := by
  refine ⟨R.sub, R.ext, R.newF, R.frame, R.mu, hl, ?_, R.st, R.prot⟩
  obtain ⟨α, h1, h2⟩ := R.slots
  refine ⟨α, fun i x e => ?_, fun i j x y e1 e2 o1 o2 he => ?_⟩
  · rcases h i x e with rfl | ⟨d, v, rfl, e1, r⟩ | ⟨e1, e2⟩
    · trivial
    · exact ⟨v, e1, r⟩
    · rw [e2]; exact h1 i x e1
  · have own : ∀ {i : Nat} {x : Sl}, ρ'[i]? = some x → x.isOwn = true → ρ[i]? = some x := fun {i x} e o => by
      rcases h i x e with rfl | ⟨d, v, rfl, _, _⟩ | ⟨e1, _⟩
      · cases o
      · cases o
      · exact e1
    exact h2 i j x y (own e1 o1) (own e2 o2) o1 o2 he
theorem Rel.wiped {K : PySem.W.Frag} {c : Ct} {F : Hp} {μ : List Addr} {σ : L2.St} {H : Hp} {ρ : List Sl} {S : List O} (R : Rel K c F μ σ H (ρ, S)) (vs : List Nat) : Rel K c F μ (wipe σ vs) H (wipeS ρ vs, S) := by
  refine R.congr (by rw [wipeS_length, wipe_length]; exact R.len) fun i x e => ?_
  rw [wipeS_get] at e
  by_cases hi : i ∈ vs
  · rw [if_pos hi] at e
    rw [Option.map_eq_some_iff] at e
    obtain ⟨_, _, rfl⟩ := e
    exact .inl rfl
  · rw [if_neg hi] at e
    exact .inr (.inr ⟨e, by rw [wipe_get, if_neg hi]⟩)
theorem Rel.rest {K : PySem.W.Frag} {c c' : Ct} {F F' : Hp} {μ μ' : List Addr} {σ : L2.St} {H H' : Hp} {ρ0 ρ : List Sl} {S0 S : List O} {vs : List Nat} (R0 : Rel K c F μ σ H (ρ0, S0)) (hn : ∀ v ∈ vs, (ρ0[v]?.getD .un).isOwn = false) (m : Mono F μ F' μ')
    (R : Rel K c' F' μ' (wipe σ vs) H' (wipeS ρ vs, S)) : Rel K c' F' μ' σ H' (restS ρ0 ρ vs, S) := by
  have hl : (wipeS ρ vs).length = (wipe σ vs).length := R.len
  rw [wipeS_length, wipe_length] at hl
  have hl0 : ρ0.length = σ.length := R0.len
  refine R.congr (by rw [restS_length]; exact hl) fun i x e => ?_
  rw [restS_get] at e
  by_cases hi : i ∈ vs
  · rw [if_pos hi] at e
    rw [Option.map_eq_some_iff] at e
    obtain ⟨y, hy, rfl⟩ := e
    have hi' := (List.getElem?_eq_some_iff.mp hy).1
    obtain ⟨α, h1, _⟩ := R0.slots
    have e0 : ρ0[i]? = some (ρ0[i]'(by omega)) := List.getElem?_eq_getElem _
    have hno := hn i hi
    rw [e0] at hno ⊢
    simp only [Option.getD_some] at hno ⊢
    have q := h1 i _ e0
    cases hx : ρ0[i]'(by omega) with
    | un => exact .inl rfl
    | val d =>
      rw [hx] at q
      obtain ⟨v, e1, r⟩ := q
      exact .inr (.inl ⟨d, v, rfl, e1, r.mono m⟩)
    | own ds => rw [hx] at hno; cases hno
    | ownK ds => rw [hx] at hno; cases hno
  · rw [if_neg hi] at e
    exact .inr (.inr ⟨by rw [wipeS_get, if_neg hi]; exact e, by rw [wipe_get, if_neg hi]⟩)

def lcL (vs : List Nat) (t : D → Sto → Option Sto) (p : Ev Bool) (g : Ev D) : List D → Sto → Option (List D × Sto)
  | [], s => some ([], s)
  | d :: ds, s => match t d (wipeS s.1 vs, s.2) with
    | none => none
    | some s1 => match p s1 with
      | none => none
      | some (false, s2) => lcL vs t p g ds s2
      | some (true, s2) => match g s2 with
        | none => none
        | some (y, s3) => match lcL vs t p g ds s3 with
          | none => none
          | some (ys, s4) => some (y :: ys, s4)
def eLc (vs : List Nat) (f : Ev (List D)) (t : D → Sto → Option Sto) (p : Ev Bool) (g : Ev D) : Ev (List D) := fun s => match f s with
  | none => none
  | some (ds, s1) => if (vs.all fun v => !(s1.1[v]?.getD .un).isOwn) && decide (ds.length ≤ LIM) then
      match lcL vs t p g ds s1 with
      | none => none
      | some (ys, s2) => some (ys, (restS s1.1 s2.1 vs, s2.2))
    else none
def pYes : Ev Bool := ret true
abbrev DTs (cls : Nat → Addr) (X : Cx) (es : List Expr) (p : Ev Bool) : Prop := PTs X es (TDT X.K cls p)
theorem impTs {X : Cx} {e : List Expr} {t t' : TT} (h : PTs X e t) (k : ∀ σ H Q, t' σ H Q → t σ H Q) : PTs X e t' := ⟨fun pins s σ H Q I w => h.run pins s σ H Q I (k _ _ _ w)⟩
theorem dts_nil : DTs cls X [] pYes := by
  refine impTs pts_nil fun σ H Q ⟨c, F, μ, s, hc, R, d, s', e, k⟩ => ?_
  obtain ⟨rfl, rfl⟩ := ret_some e
  exact k _ _ _ R (Mono.refl _ _)
theorem dts_one {c : Expr} (h : DT cls X c p) : DTs cls X [c] p := pts_one h
theorem wipe_off {vs ws : List Nat} {σ σ' : L2.St} (h : ∀ i ∈ ws, i ∈ vs) (o : Off ws (wipe σ vs) σ') : wipe σ' vs = wipe σ vs := by
  apply List.ext_getElem?
  intro i
  rw [wipe_get]
  by_cases hi : i ∈ vs
  · rw [if_pos hi, wipe_get, if_pos hi]
    have l : σ'.length = σ.length := by rw [o.1, wipe_length]
    by_cases hl : i < σ.length
    · rw [List.getElem?_eq_getElem (by omega), List.getElem?_eq_getElem hl]; simp
    · rw [List.getElem?_eq_none (by omega), List.getElem?_eq_none (by omega)]
  · rw [if_neg hi, o.2 i fun z => hi (h i z)]
theorem run_lc {vs ws : List Nat} {f : Ev (List D)} {t : D → Sto → Option Sto} {p : Ev Bool} {g : Ev D} (hv : ∀ i ∈ ws, i ∈ vs) (σ : L2.St) (H : Hp) (Q : VK) (w : TDF X.K cls (eLc vs f t p g) σ H Q) :
    tLc (TDI X.K cls f) (TDG X.K cls ws t) (TDT X.K cls p) (TD X.K cls g) vs σ H Q := by
  obtain ⟨c, F, μ, ρ, S, hc, R, ys, ρ', S', e, k⟩ := w
  unfold eLc at e
  split at e
  · cases e
  rename_i ds s1 e1
  split at e
  · rename_i hcond
    split at e
    · cases e
    rename_i ys' s2 e2
    cases e
    simp only [Bool.and_eq_true, List.all_eq_true, Bool.not_eq_true', decide_eq_true_eq] at hcond
    obtain ⟨hno, hlim⟩ := hcond
    refine ⟨c, F, μ, (ρ, S), hc, R, ds, s1, e1, fun J H1 F1 μ1 R1 m1 Sv => ?_⟩
    intro L hL
    refine ⟨fun i m H' => m = ds.length - i ∧ i ≤ ds.length ∧ ∃ F' μ' s' acc va ys2, Rel X.K { c with P := upd c.P L (.lst va) } F' μ' (wipe σ vs) H' (wipeS s'.1 vs, s'.2) ∧ Mono F1 μ1 F' μ' ∧ Reps X.K F' μ' acc va ∧ acc.length ≤ i ∧
      lcL vs t p g (ds.drop i) s' = some (ys2, s2) ∧ ys = acc ++ ys2,
      ⟨ds.length, rfl, Nat.zero_le _, F1, μ1, s1, [], [], ys, (R1.wiped vs).hold hL, Mono.refl _ _, .nil, Nat.zero_le _, e2, rfl⟩, ?_⟩
    rintro i m H2 ⟨rfl, hil, F2, μ2, s3, acc, va, ys2, R2, m2, ra, la, e3, rfl⟩
    by_cases hlt : i < ds.length
    · refine .inr ⟨Sv.go i H2 hlt (m2.1.trans R2.sub), fun H' => i + 1 ≤ ds.length ∧ ∃ F' μ' s' acc' va' ys3, Rel X.K { c with P := upd c.P L (.lst va') } F' μ' (wipe σ vs) H' (wipeS s'.1 vs, s'.2) ∧ Mono F1 μ1 F' μ' ∧ Reps X.K F' μ' acc' va' ∧ acc'.length ≤ i + 1 ∧
        lcL vs t p g (ds.drop (i + 1)) s' = some (ys3, s2) ∧ acc ++ ys2 = acc' ++ ys3, fun H' h => ⟨ds.length - (i + 1), by omega, rfl, h⟩, fun x H3 y => ?_⟩
      obtain ⟨d, F3, hd, R3, m3, r3⟩ := comes Sv R2 m2 hlt y
      rw [drop_cons hd] at e3
      unfold lcL at e3
      cases ht : t d (wipeS s3.1 vs, s3.2) with
      | none => rw [ht] at e3; cases e3
      | some s4 =>
        rw [ht] at e3
        dsimp only at e3
        refine ⟨{ c with P := upd c.P L (.lst va) }, F3, μ2, _, d, hc, R3, r3, s4, ht, fun σ4 H4 F4 μ4 R4 m4 o4 => ?_⟩
        have ew : L2.wipe σ4 vs = L2.wipe σ vs := wipe_off hv o4
        refine ⟨ew, ?_⟩
        cases hp : p s4 with
        | none => rw [hp] at e3; cases e3
        | some r =>
          obtain ⟨kb, s5⟩ := r
          rw [hp] at e3
          refine ⟨{ c with P := upd c.P L (.lst va) }, F4, μ4, s4, hc, R4, kb, s5, hp, fun H5 F5 μ5 R5 m5 => ?_⟩
          have mm : Mono F2 μ2 F5 μ5 := m3.trans (m4.trans m5)
          cases kb with
          | false =>
            dsimp only
            rw [if_neg Bool.false_ne_true]
            dsimp only at e3
            have R5' := Rel.wiped (ρ := s5.1) (S := s5.2) R5 vs
            rw [ew] at R5'
            exact ⟨hlt, F5, μ5, s5, acc, va, ys2, R5', m2.trans mm, ra.mono mm, by omega, e3, rfl⟩
          | true =>
            dsimp only
            rw [if_pos rfl]
            dsimp only at e3
            cases hg : g s5 with
            | none => rw [hg] at e3; cases e3
            | some r =>
              obtain ⟨yd, s6⟩ := r
              rw [hg] at e3
              dsimp only at e3
              refine ⟨{ c with P := upd c.P L (.lst va) }, F5, μ5, s5, hc, R5, yd, s6, hg, fun u H6 F6 μ6 R6 m6 r6 => ?_⟩
              have mm6 : Mono F2 μ2 F6 μ6 := mm.trans m6
              have hD : H6 L = some (.lst va) := (R6.prot L (.lst va) upd_same).1
              cases hl : lcL vs t p g (ds.drop (i + 1)) s6 with
              | none => rw [hl] at e3; cases e3
              | some r =>
                obtain ⟨ys3, s7⟩ := r
                rw [hl] at e3
                dsimp only at e3
                cases e3
                have hla : va.length = acc.length := ra.length.symm
                refine ⟨va, hD, lim_lt (by omega), hlt, F6, μ6, s6, acc ++ [yd], va ++ [u], ys3, ?_, m2.trans mm6, (ra.mono mm6).append (.cons r6 .nil), by simp; omega, hl, by simp⟩
                have R6' := Rel.wiped (ρ := s6.1) (S := s6.2) (R6.holdW (o' := .lst (va ++ [u]))) vs
                rw [ew] at R6'
                exact R6'
    · have hi' : i = ds.length := by omega
      subst hi'
      rw [List.drop_length] at e3
      cases e3
      rw [List.append_nil] at k
      refine .inl ⟨Sv.stop _ H2 (Nat.le_refl _) (m2.1.trans R2.sub), ?_⟩
      have R3 := Rel.rest (ρ0 := s1.1) (S0 := s1.2) R1 hno m2 R2
      exact k _ _ _ _ (R3.unhold (R1.pnone hL) (.inl ⟨_, _, rfl, rfl, ra⟩)) (m1.trans m2)
  · cases e
theorem df_lc {elt : Expr} {ifs : List Expr} {scope : Scope} {own : List (Str × Nat)} {ws : List Nat} {f : Ev (List D)} {t : D → Sto → Option Sto} {p : Ev Bool} {g : Ev D} (hc : X.calm = true) (hN : X.N.Nodup) (hi : DI cls X tg iter f) (ok : BlkOk X.N X.env.scope scope own)
    (hg : ∀ (s : Shared) (H : Hp) (C : Addr) (cl : List (Str × Addr)) (fp : List Addr), DG cls (X.blk s H scope (compEnvC scope cl C X.env) fp) tg ws t) (ht : ∀ (s : Shared) (H : Hp) (C : Addr) (cl : List (Str × Addr)) (fp : List Addr), DTs cls (X.blk s H scope (compEnvC scope cl C X.env) fp) ifs p)
    (he : ∀ (s : Shared) (H : Hp) (C : Addr) (cl : List (Str × Addr)) (fp : List Addr), DE cls (X.blk s H scope (compEnvC scope cl C X.env) fp) elt g) (hv : ∀ i ∈ ws, i ∈ own.map (·.2)) (hs : ∀ x, foldedSetIterable iter X.env x = pure x := by intro _; rfl) :
    DF cls X (.ListComp elt [⟨tg, iter, ifs, 0⟩] scope pos) (eLc (own.map (·.2)) f t p g) :=
  imp (pe_lc hc hN hi ok hg ht he hs) (run_lc hv)
end
end DL

set_option Elab.async false
set_option linter.all false
set_option maxRecDepth 100000
namespace DL
open PySem PySem.Spec PyProof.Rows L2

theorem PE.or {X : Cx} {e : Expr} {t t' : TE} (h : PE X e t) (h' : PE X e t') : PE X e (fun σ H Q => t σ H Q ∨ t' σ H Q) := ⟨fun pins s σ H Q I w => w.elim (h.run pins s σ H Q I) (h'.run pins s σ H Q I)⟩

section
variable {K : PySem.W.Frag} {c : Ct} {F F' H : Hp} {μ μ' : List Addr} {σ : L2.St} {s : Sto} {ρ : List Sl} {S : List O}
/-- an owned dict becomes a by-reference object -/
theorem Rel.toStore {p : Addr} {ds : List (DK × D)} (R : Rel K c F μ (σ ++ [some (.ref p)]) H (ρ ++ [.ownK ds], S)) : Rel K c F (μ ++ [p]) σ H (ρ, S ++ [.dct ds]) ∧ Mono F μ F (μ ++ [p]) := by
  have hl : (ρ ++ [Sl.ownK ds]).length = (σ ++ [some (V.ref p)]).length := R.len
  have hl' : ρ.length = σ.length := by simpa using hl
  obtain ⟨α, h1, h2⟩ := R.slots
  have lastx : (ρ ++ [Sl.ownK ds])[ρ.length]? = some (.ownK ds) := by rw [List.getElem?_append_right (Nat.le_refl _)]; simp
  have lastv : (σ ++ [some (V.ref p)])[ρ.length]? = some (some (.ref p)) := by rw [hl', List.getElem?_append_right (Nat.le_refl _)]; simp
  have q := h1 _ _ lastx
  rw [lastv] at q
  obtain ⟨q1, q2, ⟨q3, q3'⟩, q4, vs, q5, q6⟩ := q
  have ep : α ρ.length = p := by cases q1; rfl
  rw [ep] at q2 q3 q3' q4 q5
  have m : Mono F μ F (μ ++ [p]) := ⟨Same.refl F, fun k a e => by rw [List.getElem?_append_left (List.getElem?_eq_some_iff.mp e).1]; exact e⟩
  refine ⟨?_, m⟩
  obtain ⟨ν, e0, hν⟩ := R.mu
  have up : ∀ {i : Nat} {y : Sl}, ρ[i]? = some y → (ρ ++ [Sl.ownK ds])[i]? = some y ∧ (σ ++ [some (V.ref p)])[i]? = σ[i]? ∧ i < ρ.length := fun {i y} e => by
    have hi : i < ρ.length := (List.getElem?_eq_some_iff.mp e).1
    exact ⟨by rw [List.getElem?_append_left hi]; exact e, by rw [List.getElem?_append_left (by omega)], hi⟩
  refine ⟨R.sub, R.ext, R.newF, R.frame, ⟨ν ++ [p], by rw [e0, List.append_assoc], fun b hb => ?_⟩, hl', ⟨α, fun i y e => ?_, fun i j y z e1 e2 => h2 i j y z (up e1).1 (up e2).1⟩, ?_, fun b o e => ?_⟩
  · rcases List.mem_append.mp hb with hb | hb
    · exact hν b hb
    · rw [List.mem_singleton.mp hb]; exact q3
  · have q := h1 i y (up e).1
    rw [(up e).2.1] at q
    refine q.step m (fun o => q.fnone o) (fun o => ?_) fun _ _ z => z
    intro hm
    rcases List.mem_append.mp hm with hm | hm
    · exact q.nmem o hm
    · have := h2 i ρ.length y _ (up e).1 lastx o rfl (by rw [ep]; exact List.mem_singleton.mp hm)
      have := (up e).2.2
      omega
  · refine ⟨by simp [R.st.len], ?_, fun a ha => ?_, fun k a o e1 e2 => ?_⟩
    · rw [List.nodup_append]
      refine ⟨R.st.nd, by simp, fun a ha b hb => ?_⟩
      rw [List.mem_singleton.mp hb]
      exact fun z => q4 (z ▸ ha)
    · rcases List.mem_append.mp ha with ha | ha
      · exact R.st.fr a ha
      · rw [List.mem_singleton.mp ha]; exact q2
    · have e2 : (S ++ [O.dct ds])[k]? = some o := e2
      by_cases hk : k < S.length
      · rw [List.getElem?_append_left (by rw [R.st.len]; exact hk)] at e1
        rw [List.getElem?_append_left hk] at e2
        exact (R.st.ok k a o e1 e2).step m fun _ z => z
      · rw [List.getElem?_append_right (by rw [R.st.len]; show S.length ≤ k; omega)] at e1
        rw [List.getElem?_append_right (by omega)] at e2
        have : k - S.length = 0 := by
          cases h : k - S.length with
          | zero => rfl
          | succ n => rw [h] at e2; simp at e2
        have hlen : μ.length = S.length := R.st.len
        rw [this] at e2
        rw [hlen, this] at e1
        simp at e1 e2
        subst e1 e2
        exact ⟨vs, q5, q6.mono m⟩
  · obtain ⟨w1, w2, w3, w4⟩ := R.prot b o e
    refine ⟨w1, w2, fun hm => ?_, w4⟩
    rcases List.mem_append.mp hm with hm | hm
    · exact w3 hm
    · rw [List.mem_singleton.mp hm] at e; exact ne_none e q3'
end

section
variable {cls : Nat → Addr} {X : Cx} {a b e e' iter tg : Expr} {f g h : Ev D} {p q : Ev Bool} {pos : Pos} {es : List Expr} {u v : Es}
/-- a new dict as a by-reference object -/
def eNewO (g : Ev (List (DK × D))) : Ev D := fun s => match g s with
  | some (ds, (ρ, S)) => some (.ptr S.length, (ρ, S ++ [.dct ds]))
  | none => none
theorem de_newO {g : Ev (List (DK × D))} (h : DFK cls X e g) : DE cls X e (eNewO g) := by
  refine imp h fun σ H Q ⟨c, F, μ, s, hc, R, z, s', e, k⟩ => ?_
  obtain ⟨ρ, S⟩ := s
  unfold eNewO at e
  split at e
  · rename_i ds ρ' S' e1
    cases e
    refine ⟨c, F, μ, ρ, S, hc, R, ds, ρ', S', e1, fun v H1 F1 μ1 R1 m1 => ?_⟩
    obtain ⟨α, h1, _⟩ := R1.slots
    have hl : (ρ' ++ [Sl.ownK ds]).length = (σ ++ [some v]).length := R1.len
    have hl' : ρ'.length = σ.length := by simpa using hl
    have lastx : (ρ' ++ [Sl.ownK ds])[ρ'.length]? = some (.ownK ds) := by rw [List.getElem?_append_right (Nat.le_refl _)]; simp
    have lastv : (σ ++ [some v])[ρ'.length]? = some (some v) := by rw [hl', List.getElem?_append_right (Nat.le_refl _)]; simp
    have q := h1 _ _ lastx
    rw [lastv] at q
    have ev : v = .ref (α ρ'.length) := by
      have := q.1
      cases this; rfl
    rw [ev] at R1 ⊢
    obtain ⟨R2, m2⟩ := R1.toStore
    have hlen : μ1.length = S'.length := R1.st.len
    exact k _ _ _ _ R2 (m1.trans m2) (.ptr (by rw [← hlen, List.getElem?_append_right (Nat.le_refl _)]; simp))
  · cases e

/-! ### subscripts -/
def ixStr (s : List Nat) (i : Int) : Option D := (atI s i).map fun c => .str [c]
def dIx : D → D → Option D
  | .lst xs, .int i => atI xs i
  | .tup xs, .int i => atI xs i
  | .str s, .int i => if s.length ≤ LIM then ixStr s i else none
  | _, _ => none
theorem atI_rep {K : PySem.W.Frag} {F : Hp} {μ : List Addr} {ds : List D} {vs : List V} {i : Int} {d : D} (r : Reps K F μ ds vs) (h : atI ds i = some d) : ∃ v, atI vs i = some v ∧ Rep K F μ d v := by
  unfold atI at h ⊢
  rw [← r.length]
  rw [Option.bind_eq_some_iff] at h
  obtain ⟨j, e1, e2⟩ := h
  obtain ⟨v, e3, rv⟩ := r.get e2
  exact ⟨v, by rw [e1]; exact e3, rv⟩
theorem ix_ok {K : PySem.W.Frag} {c : Ct} {F : Hp} {μ : List Addr} {σ : L2.St} {H : Hp} {s : Sto} {x y : V} {d e z : D} {Q : VK} (R : Rel K c F μ σ H s) (r1 : RepH K F μ H d x) (r2 : RepH K F μ H e y) (h : dIx d e = some z)
    (k : ∀ v H' F' μ', Rel K c F' μ' σ H' s → Mono F μ F' μ' → Rep K F' μ' z v → Q v H') : (rIxL K x y H Q ∨ rIxT K x y H Q) ∨ rIxS x y H Q := by
  cases d <;> cases e <;> simp only [dIx] at h <;> try (cases h; done)
  case str.int t i =>
    split at h
    · rename_i hl
      unfold ixStr at h
      rw [Option.map_eq_some_iff] at h
      obtain ⟨c', e1, rfl⟩ := h
      rw [r1.str_inv, r2.int_inv]
      exact .inr ⟨_, i, c', rfl, rfl, by rw [mkS_len]; exact lim_le hl, by simpa using e1, atom R (.str [c']) k⟩
    · cases h
  case lst.int t i =>
    obtain ⟨a, vs, rfl, e1, q1⟩ := r1.lst_inv R.sub
    obtain ⟨v, e2, rv⟩ := atI_rep q1 h
    rw [r2.int_inv]
    exact .inl (.inl ⟨a, vs, i, v, rfl, rfl, SqL.of e1, e2, atom R rv k⟩)
  case tup.int t i =>
    obtain ⟨a, vs, rfl, e1, q1⟩ := r1.tup_inv R.sub
    obtain ⟨v, e2, rv⟩ := atI_rep q1 h
    rw [r2.int_inv]
    exact .inl (.inr ⟨a, vs, i, v, rfl, rfl, e1, e2, atom R rv k⟩)
theorem de_ix (ha : DE cls X a f) (hb : DE cls X b g) (hs : PlainIx b) : DE cls X (.Subscript a b pos) (eBin dIx f g) := by
  refine imp (pe_ix ((ix_list.or ix_tup).or ix_str) ha hb hs) fun σ H Q w => ?_
  exact run_bin (fun c F μ σ H s x y d e z Q R r1 r2 h k => ix_ok R (.rep r1) (.rep r2) h k) σ H Q w
theorem de_ixL (i : Nat) {x : Str} {pos' : Pos} (ha : PE X (.Name x pos') (tVar i)) (hb : DE cls X b g) (hs : PlainIx b) : DE cls X (.Subscript (.Name x pos') b pos) (eBinL dIx i g) := by
  refine imp (pe_ix ((ix_list.or ix_tup).or ix_str) ha hb hs) fun σ H Q w => ?_
  exact run_binL (fun c F μ σ H s x y d e z Q R r1 r2 h k => ix_ok R r1 r2 h k) σ H Q w

/-! ### dicts -/
def asK : D → Option DK
  | .int i => some (.inl i)
  | .str s => some (.inr s)
  | _ => none
theorem mkK_inj {k j : DK} (h : mkK k = mkK j) : k = j := by
  cases k <;> cases j <;> simp only [mkK] at h
  · injection h with h; rw [h]
  · cases h
  · cases h
  · injection h with h
    injection h with h
    have := congrArg Array.toList h
    simp at this
    rw [this]
theorem asK_rep {K : PySem.W.Frag} {F : Hp} {μ : List Addr} {d : D} {k : DK} {v : V} (r : Rep K F μ d v) (h : asK d = some k) : v = kV (mkK k) := by
  cases d <;> simp only [asK] at h <;> try (cases h; done)
  · cases h; exact r.int_inv
  · cases h; exact r.str_inv
def kGet (kvs : List (DK × D)) (k : DK) : Option D := (kvs.find? fun kv => decide (kv.1 = k)).map (·.2)
def kPut (kvs : List (DK × D)) (k : DK) (v : D) : List (DK × D) :=
  if (kvs.any fun kv => decide (kv.1 = k)) = true then kvs.map (fun kv => if kv.1 = k then (kv.1, v) else kv) else kvs ++ [(k, v)]
theorem kGet_rep {K : PySem.W.Frag} {F : Hp} {μ : List Addr} (k : DK) : ∀ {ds : List (DK × D)} {vs : List (Key × V)}, RepKs K F μ ds vs → (∀ d, kGet ds k = some d → ∃ v, valV vs (mkK k) = some v ∧ Rep K F μ d v) ∧ (kGet ds k = none → valV vs (mkK k) = none)
  | _, _, .nil => ⟨fun d h => by simp [kGet] at h, fun _ => rfl⟩
  | _, _, @RepKs.cons _ _ _ j d v ds vs r rr => by
    have ih := kGet_rep k rr
    unfold kGet valV
    rw [List.find?_cons, List.find?_cons]
    by_cases hj : j = k
    · subst hj
      simp only [decide_true]
      exact ⟨fun d' h => by simp at h; subst h; exact ⟨v, rfl, r⟩, fun h => by simp at h⟩
    · have hj' : ¬ mkK j = mkK k := fun z => hj (mkK_inj z)
      simp only [decide_eq_false hj, decide_eq_false hj']
      exact ih
theorem kPut_rep {K : PySem.W.Frag} {F : Hp} {μ : List Addr} {k : DK} {d : D} {v : V} (rv : Rep K F μ d v) {ds : List (DK × D)} {vs : List (Key × V)} (r : RepKs K F μ ds vs) : RepKs K F μ (kPut ds k d) (putK vs (mkK k) v) := by
  have hany : ∀ {ds : List (DK × D)} {vs : List (Key × V)}, RepKs K F μ ds vs → (ds.any fun kv => decide (kv.1 = k)) = (vs.any fun kv => decide (kv.1 = mkK k)) := by
    intro ds vs r
    induction ds generalizing vs with
    | nil => cases r; rfl
    | cons p ds ih =>
      cases r with
      | cons r rr =>
        rw [List.any_cons, List.any_cons, ih rr]
        congr 1
        rw [Bool.eq_iff_iff]
        simp only [decide_eq_true_eq]
        exact ⟨fun h => by rw [h], fun h => mkK_inj h⟩
  have hmap : ∀ {ds : List (DK × D)} {vs : List (Key × V)}, RepKs K F μ ds vs → RepKs K F μ (ds.map (fun kv => if kv.1 = k then (kv.1, d) else kv)) (vs.map (fun kv => if kv.1 = mkK k then (kv.1, v) else kv)) := by
    intro ds vs r
    induction ds generalizing vs with
    | nil => cases r; exact .nil
    | cons p ds ih =>
      cases r with
      | @cons j d' v' _ _ r rr =>
        rw [List.map_cons, List.map_cons]
        dsimp only
        by_cases hj : j = k
        · rw [if_pos hj, if_pos (by rw [hj])]
          exact .cons rv (ih rr)
        · rw [if_neg hj, if_neg fun z => hj (mkK_inj z)]
          exact .cons r (ih rr)
  have happ : ∀ {ds : List (DK × D)} {vs : List (Key × V)}, RepKs K F μ ds vs → RepKs K F μ (ds ++ [(k, d)]) (vs ++ [(mkK k, v)]) := by
    intro ds vs r
    induction ds generalizing vs with
    | nil => cases r; exact .cons rv .nil
    | cons p ds ih =>
      cases r with
      | cons r rr => exact .cons r (ih rr)
  unfold kPut putK
  rw [hany r]
  split
  · exact hmap r
  · exact happ r
/-- what a dict is: frozen, owned, or by reference -/
def dctOf (S : List O) : D → Option (List (DK × D))
  | .dct kvs => some kvs
  | .ptr k => match S[k]? with
    | some (.dct kvs) => some kvs
    | _ => none
  | _ => none
theorem dctOf_rep {K : PySem.W.Frag} {c : Ct} {F : Hp} {μ : List Addr} {σ : L2.St} {H : Hp} {s : Sto} {x : V} {d : D} {kvs : List (DK × D)} (R : Rel K c F μ σ H s) (r : RepH K F μ H d x) (h : dctOf s.2 d = some kvs) :
    ∃ a vs, x = .ref a ∧ Rd H a (.dK vs) ∧ RepKs K F μ kvs vs := by
  cases d <;> simp only [dctOf] at h <;> try (cases h; done)
  · cases h; exact r.dct_inv R.sub
  · rename_i k
    cases r with
    | rep r =>
      cases r with
      | ptr hk =>
        split at h
        · rename_i kv hS
          cases h
          obtain ⟨vs, e, q⟩ := R.st.ok k _ _ hk hS
          exact ⟨_, vs, rfl, .inl e, q⟩
        · cases h
/-- d[k] -/
def eDGet (f g : Ev D) : Ev D := bnd f fun x => bnd g fun y => fun s => match dctOf s.2 x, asK y with
  | some kvs, some k => (kGet kvs k).map fun d => (d, s)
  | _, _ => none
theorem de_dget (hu : X.A.units + 1 < cLine) (ho : DE cls X a f) (hi : DE cls X b g) (hs : NoSl b) : DE cls X (.Subscript a b pos) (eDGet f g) := by
  refine imp (pe_dget hu ho hi hs) fun σ H Q ⟨c, F, μ, s, hc, R, z, s', e, k⟩ => ?_
  obtain ⟨x, s1, e1, f1⟩ := bnd_some e
  obtain ⟨y, s2, e2, f2⟩ := bnd_some f1
  split at f2
  · rename_i kvs kk h1 h2
    rw [Option.map_eq_some_iff] at f2
    obtain ⟨d, e3, w⟩ := f2
    cases w
    refine ⟨c, F, μ, s, hc, R, x, s1, e1, fun v H1 F1 μ1 R1 m1 r1 => ⟨c, F1, μ1, s1, hc, R1, y, s', e2, fun u H2 F2 μ2 R2 m2 r2 => ?_⟩⟩
    obtain ⟨a, vs, rfl, ha, q⟩ := dctOf_rep R2 (.rep (r1.mono m2)) h1
    obtain ⟨w, hw, rw'⟩ := (kGet_rep kk q).1 _ e3
    exact ⟨a, w, rfl, .inl ⟨vs, mkK kk, ha, asK_rep r2 h2, hw.symm⟩, k _ _ _ _ R2 (m1.trans m2) rw'⟩
  · cases f2
/-- d.get(k, x) -/
def eDGet2 (f g h : Ev D) : Ev D := bnd f fun x => fun s0 => match dctOf s0.2 x with
  | none => none
  | some _ => (bnd g fun y => bnd h fun z => fun s => match dctOf s.2 x, asK y with
    | some kvs, some k => some ((kGet kvs k).getD z, s)
    | _, _ => none) s0
theorem de_dget2 {apos cpos : Pos} (hu : X.A.units + 1 < cLine) (ho : DE cls X a f) (he : DE cls X b g) (hf : DE cls X e h) (m : M2 X a "get" apos b e cpos) : DE cls X (.Call (.Attribute a "get" apos) [b, e] [] cpos) (eDGet2 f g h) := by
  refine imp (pe_dget2 hu ho he hf m) fun σ H Q ⟨c, F, μ, s, hc, R, z, s', e, k⟩ => ?_
  obtain ⟨x, s1, e1, f1⟩ := bnd_some e
  split at f1
  · cases f1
  rename_i kvs0 h0
  obtain ⟨y, s2, e2, f2⟩ := bnd_some f1
  obtain ⟨t, s3, e3, f3⟩ := bnd_some f2
  split at f3
  · rename_i kvs kk h1 h2
    cases f3
    refine ⟨c, F, μ, s, hc, R, x, s1, e1, fun v H1 F1 μ1 R1 m1 r1 => ?_⟩
    obtain ⟨a0, vs0, rfl, ha0, q0⟩ := dctOf_rep R1 (.rep r1) h0
    refine ⟨a0, rfl, .inl ⟨vs0, ha0⟩, c, F1, μ1, s1, hc, R1, y, s2, e2, fun u H2 F2 μ2 R2 m2 r2 => ⟨c, F2, μ2, s2, hc, R2, t, s', e3, fun w H3 F3 μ3 R3 m3 r3 => ?_⟩⟩
    obtain ⟨a, vs, ea, ha, q⟩ := dctOf_rep R3 (.rep (r1.mono (m2.trans m3))) h1
    cases ea
    refine ⟨_, .inl ⟨vs, mkK kk, ha, asK_rep r2 h2, rfl⟩, ?_⟩
    have kg := kGet_rep kk q
    cases hk : kGet kvs kk with
    | none =>
      rw [hk] at k
      rw [kg.2 hk]
      exact k _ _ _ _ R3 (m1.trans (m2.trans m3)) r3
    | some d =>
      rw [hk] at k
      obtain ⟨w', hw, rw'⟩ := kg.1 _ hk
      rw [hw]
      exact k _ _ _ _ R3 (m1.trans (m2.trans m3)) rw'
  · cases f3
/-- d.get(k, x), d a name that owns the dict -/
def ownKOf (s : Sto) (i : Nat) : Option (List (DK × D)) := match s.1[i]? with
  | some (.ownK kvs) => some kvs
  | _ => none
theorem ownKOf_rep {K : PySem.W.Frag} {c : Ct} {F : Hp} {μ : List Addr} {σ : L2.St} {H : Hp} {s : Sto} {i : Nat} {kvs : List (DK × D)} (R : Rel K c F μ σ H s) (h : ownKOf s i = some kvs) :
    ∃ a vs, σ[i]? = some (some (.ref a)) ∧ H a = some (.dK vs) ∧ RepKs K F μ kvs vs := by
  unfold ownKOf at h
  split at h
  · rename_i kv hs
    cases h
    obtain ⟨α, h1, _⟩ := R.slots
    obtain ⟨e1, _, _, _, vs, e2, r⟩ := h1 i _ hs
    exact ⟨_, vs, e1, e2, r⟩
  · cases h
def eDGet2L (i : Nat) (g h : Ev D) : Ev D := fun s0 => match ownKOf s0 i with
  | none => none
  | some _ => (bnd g fun y => bnd h fun z => fun s => match ownKOf s i, asK y with
    | some kvs, some k => some ((kGet kvs k).getD z, s)
    | _, _ => none) s0
theorem de_dget2L (i : Nat) {x : Str} {pos' apos cpos : Pos} (hu : X.A.units + 1 < cLine) (ho : PE X (.Name x pos') (tVar i)) (he : DE cls X b g) (hf : DE cls X e h) (m : M2 X (.Name x pos') "get" apos b e cpos) : DE cls X (.Call (.Attribute (.Name x pos') "get" apos) [b, e] [] cpos) (eDGet2L i g h) := by
  refine imp (pe_dget2 hu ho he hf m) fun σ H Q ⟨c, F, μ, s, hc, R, z, s', e, k⟩ => ?_
  unfold eDGet2L at e
  split at e
  · cases e
  rename_i kvs0 h0
  obtain ⟨y, s2, e2, f2⟩ := bnd_some e
  obtain ⟨t, s3, e3, f3⟩ := bnd_some f2
  split at f3
  · rename_i kvs kk h1 h2
    cases f3
    obtain ⟨a0, vs0, es0, ha0, q0⟩ := ownKOf_rep R h0
    refine ⟨_, es0, a0, rfl, .inl ⟨vs0, .inl ha0⟩, c, F, μ, s, hc, R, y, s2, e2, fun u H2 F2 μ2 R2 m2 r2 => ⟨c, F2, μ2, s2, hc, R2, t, s', e3, fun w H3 F3 μ3 R3 m3 r3 => ?_⟩⟩
    obtain ⟨a, vs, es, ha, q⟩ := ownKOf_rep R3 h1
    rw [es0] at es; cases es
    refine ⟨_, .inl ⟨vs, mkK kk, .inl ha, asK_rep (r2.mono m3) h2, rfl⟩, ?_⟩
    have kg := kGet_rep kk q
    cases hk : kGet kvs kk with
    | none =>
      rw [hk] at k
      rw [kg.2 hk]
      exact k _ _ _ _ R3 (m2.trans m3) r3
    | some d =>
      rw [hk] at k
      obtain ⟨w', hw, rw'⟩ := kg.1 _ hk
      rw [hw]
      exact k _ _ _ _ R3 (m2.trans m3) rw'
  · cases f3
/-- d[k] = e, d a by-reference object -/
def sDPutO (f g h : Ev D) : Es := fun s => (match h s with
  | none => none
  | some (z, s1) => match f s1 with
    | some (.ptr n, s2) => match g s2 with
      | some (y, s3) => match s3.2[n]?, asK y with
        | some (.dct kvs), some k => if kvs.length < LIM then some (.nx (s3.1, s3.2.set n (.dct (kPut kvs k z)))) else none
        | _, _ => none
      | none => none
    | _ => none)
theorem ds_dputO {value : Expr} {pos' : Pos} (hu : X.A.units + 1 < cLine) (ho : DE cls X a f) (hi : DE cls X b g) (hv : DE cls X value h) (hs : swapsWith value (some (.Subscript a b pos')) pos.line X.env = pure false := by rfl) : DS cls X (.Assign [.Subscript a b pos'] value pos) (sDPutO f g h) := by
  refine impS (ps_dput hu ho hi hv hs) fun D σ H ⟨c, F, μ, s, hc, R, o, e, k⟩ => ?_
  unfold sDPutO at e
  split at e
  · cases e
  rename_i z s1 e1
  split at e
  · rename_i n s2 e2
    split at e
    · rename_i y s3 e3
      split at e
      · rename_i kvs kk h1 h2
        split at e
        · rename_i hl
          cases e
          refine ⟨c, F, μ, s, hc, R, z, s1, e1, fun v H1 F1 μ1 R1 m1 r1 => ⟨c, F1, μ1, s1, hc, R1, _, s2, e2, fun u H2 F2 μ2 R2 m2 r2 => ⟨c, F2, μ2, s2, hc, R2, y, s3, e3, fun w H3 F3 μ3 R3 m3 r3 => ?_⟩⟩⟩
          cases r2 with
          | @ptr ad _ hk =>
            have hk' := m3.2 _ _ hk
            obtain ⟨vs, e4, q⟩ := R3.st.ok n _ _ hk' h1
            have ql := q.length
            refine ⟨_, _, rfl, .inl ⟨vs, mkK kk, e4, asK_rep r3 h2, lim_lt (by omega), rfl⟩, ?_⟩
            exact k _ _ _ _ (Rel.writeO (ρ := s3.1) (S := s3.2) R3 hk' ⟨_, upd_same, kPut_rep (r1.mono (m2.trans m3)) q⟩) (m1.trans (m2.trans m3))
        · cases e
      · cases e
    · cases e
  · cases e
/-- d[k] = e, d a name that owns the dict -/
def sDPutL (i : Nat) (g h : Ev D) : Es := fun s => (match h s with
  | none => none
  | some (z, s1) => match ownKOf s1 i with
    | none => none
    | some _ => match g s1 with
      | some (y, s3) => match ownKOf s3 i, asK y with
        | some kvs, some k => if kvs.length < LIM then some (.nx (s3.1.set i (.ownK (kPut kvs k z)), s3.2)) else none
        | _, _ => none
      | none => none)
theorem ds_dputL (i : Nat) {x : Str} {px : Pos} {value : Expr} {pos' : Pos} (hu : X.A.units + 1 < cLine) (ho : PE X (.Name x px) (tVar i)) (hi : DE cls X b g) (hv : DE cls X value h) (hs : swapsWith value (some (.Subscript (.Name x px) b pos')) pos.line X.env = pure false := by rfl) :
    DS cls X (.Assign [.Subscript (.Name x px) b pos'] value pos) (sDPutL i g h) := by
  refine impS (ps_dput hu ho hi hv hs) fun D σ H ⟨c, F, μ, s, hc, R, o, e, k⟩ => ?_
  unfold sDPutL at e
  split at e
  · cases e
  rename_i z s1 e1
  split at e
  · cases e
  rename_i kvs0 h0
  split at e
  · rename_i y s3 e3
    split at e
    · rename_i kvs kk h1 h2
      split at e
      · rename_i hl
        cases e
        refine ⟨c, F, μ, s, hc, R, z, s1, e1, fun v H1 F1 μ1 R1 m1 r1 => ?_⟩
        obtain ⟨a0, vs0, es0, ha0, q0⟩ := ownKOf_rep R1 h0
        refine ⟨_, es0, c, F1, μ1, s1, hc, R1, y, s3, e3, fun w H3 F3 μ3 R3 m3 r3 => ?_⟩
        unfold ownKOf at h1
        split at h1
        · rename_i kv hs3
          cases h1
          obtain ⟨α, hsl, _⟩ := R3.slots
          obtain ⟨q1, q2, q3, q4, vs, q5, q6⟩ := hsl i _ hs3
          have ea : α i = a0 := by rw [es0] at q1; cases q1; rfl
          rw [ea] at q1 q2 q3 q4 q5
          have ql := q6.length
          refine ⟨_, _, rfl, .inl ⟨vs, mkK kk, q5, asK_rep r3 h2, lim_lt (by omega), rfl⟩, ?_⟩
          refine k _ _ _ _ (Rel.write (ρ := s3.1) (S := s3.2) R3 hs3 rfl rfl q1 ⟨rfl, q2, q3, q4, _, upd_same, kPut_rep (r1.mono m3) q6⟩) (m1.trans m3)
        · cases h1
      · cases e
    · cases e
  · cases e
/-- {} -/
theorem df_dnew : DFK cls X (.Dict [] [] pos) (ret []) := by
  refine imp pe_dnewK fun σ H Q ⟨c, F, μ, ρ, S, hc, R, z, ρ', S', e, k⟩ => ?_
  obtain ⟨w1, w2⟩ := ret_some e
  cases w2
  subst w1
  intro p hp
  exact k _ _ _ _ (R.pushK hp .nil) (Mono.refl _ _)
end
end DL

set_option Elab.async false
set_option linter.all false
set_option maxRecDepth 100000
namespace DL
open PySem PySem.Spec PyProof.Rows L2
section
variable {cls : Nat → Addr} {X : Cx} {a b e e' iter tg : Expr} {f g h : Ev D} {p q : Ev Bool} {pos : Pos} {es : List Expr} {u v : Es}
/-! ### slices -/
def TDO (K : PySem.W.Frag) (cls : Nat → Addr) (f : Ev (Option Int)) : TO := fun σ H Q => ∃ c F μ s, c.cls = cls ∧ Rel K c F μ σ H s ∧ ∃ d s', f s = some (d, s') ∧
  ∀ H' F' μ', Rel K c F' μ' σ H' s' → Mono F μ F' μ' → Q d H'
abbrev DO (cls : Nat → Addr) (X : Cx) (e : Option Expr) (f : Ev (Option Int)) : Prop := PO X e (TDO X.K cls f)
theorem impO {X : Cx} {e : Option Expr} {t t' : TO} (h : PO X e t) (k : ∀ σ H Q, t' σ H Q → t σ H Q) : PO X e t' := ⟨fun pins s σ H Q I w => h.run pins s σ H Q I (k _ _ _ w)⟩
def asI : D → Option Int
  | .int i => some i
  | _ => none
def ePart (f : Ev D) : Ev (Option Int) := bnd f fun d => lft ((asI d).map some)
theorem do_none : DO cls X none (ret none) := by
  refine impO po_none fun σ H Q ⟨c, F, μ, s, hc, R, d, s', e, k⟩ => ?_
  obtain ⟨w1, w2⟩ := ret_some e
  subst w1 w2
  exact k _ _ _ R (Mono.refl _ _)
theorem do_some (he : DE cls X e f) : DO cls X (some e) (ePart f) := by
  refine impO (po_some he) fun σ H Q ⟨c, F, μ, s, hc, R, d, s', e, k⟩ => ?_
  obtain ⟨x, s1, e1, f1⟩ := bnd_some e
  obtain ⟨e2, w2⟩ := lft_some f1
  subst w2
  rw [Option.map_eq_some_iff] at e2
  obtain ⟨i, e3, rfl⟩ := e2
  cases x <;> simp only [asI] at e3 <;> cases e3
  exact ⟨c, F, μ, s, hc, R, _, s', e1, fun v H1 F1 μ1 R1 m1 r1 => ⟨_, r1.int_inv, k _ _ _ R1 m1⟩⟩
def cutG {α : Type} (xs : List α) (lo hi : Option Int) : List α := (xs.drop (HT.sIx xs.length 0 lo)).take (HT.sIx xs.length xs.length hi - HT.sIx xs.length 0 lo)
def dSl : D → Option Int → Option Int → Option D
  | .lst xs, lo, hi => some (.lst (cutG xs lo hi))
  | .tup xs, lo, hi => some (.tup (cutG xs lo hi))
  | .str xs, lo, hi => if xs.length ≤ LIM then some (.str (cutG xs lo hi)) else none
  | _, _, _ => none
theorem cut_rep {K : PySem.W.Frag} {F : Hp} {μ : List Addr} {ds : List D} {vs : List V} (r : Reps K F μ ds vs) (lo hi : Option Int) : Reps K F μ (cutG ds lo hi) (cutV vs lo hi) := by
  unfold cutG cutV
  rw [r.length]
  exact (r.drop _).take _
theorem cut_all {α : Type} {xs : List α} {lo hi : Option Int} (h : HT.sIx xs.length 0 lo = 0 ∧ HT.sIx xs.length xs.length hi = xs.length) : cutG xs lo hi = xs := by
  unfold cutG
  rw [h.1, h.2]
  simp
def eSl (f : Ev D) (l h : Ev (Option Int)) : Ev D := bnd f fun x => bnd l fun lo => bnd h fun hi => lft (dSl x lo hi)
theorem de_slice {lo hi : Option Expr} {l h : Ev (Option Int)} {p2 : Pos} (he : DE cls X e f) (hl : DO cls X lo l) (hh : DO cls X hi h) : DE cls X (.Subscript e (.Slice lo hi none p2) pos) (eSl f l h) := by
  refine imp (pe_slice ((sl_list.or sl_tupA).or sl_str) he hl hh) fun σ H Q ⟨c, F, μ, s, hc, R, z, s', e, k⟩ => ?_
  obtain ⟨x, s1, e1, f1⟩ := bnd_some e
  obtain ⟨i, s2, e2, f2⟩ := bnd_some f1
  obtain ⟨j, s3, e3, f3⟩ := bnd_some f2
  obtain ⟨e4, w4⟩ := lft_some f3
  subst w4
  refine ⟨c, F, μ, s, hc, R, x, s1, e1, fun v H1 F1 μ1 R1 m1 r1 => ⟨c, F1, μ1, s1, hc, R1, i, s2, e2, fun H2 F2 μ2 R2 m2 => ⟨c, F2, μ2, s2, hc, R2, j, s', e3, fun H3 F3 μ3 R3 m3 => ?_⟩⟩⟩
  have k' : ∀ v H' F' μ', Rel X.K c F' μ' σ H' s' → Mono F3 μ3 F' μ' → Rep X.K F' μ' z v → Q v H' := fun v H' F' μ' R' m' r' => k v H' F' μ' R' (m1.trans (m2.trans (m3.trans m'))) r'
  have r3 := r1.mono (m2.trans m3)
  cases x <;> simp only [dSl] at e4 <;> try (cases e4; done)
  · rename_i sx
    split at e4
    · rename_i hl
      cases e4
      rw [r3.str_inv]
      refine .inr ⟨_, rfl, by rw [mkS_len]; exact lim_le hl, ?_⟩
      have : cutS (mkS sx) i j = mkS (cutG sx i j) := by
        unfold cutS cutG
        rw [mkS_len]
      rw [this]
      exact atom R3 (.str _) k'
    · cases e4
  · cases e4
    cases r3 with
    | lst h r => exact .inl (.inl ⟨_, _, rfl, SqL.of (R3.sub _ _ h), newLst R3 (cut_rep r i j) k'⟩)
  · cases e4
    cases r3 with
    | tup h r =>
      refine .inl (.inr ⟨_, _, rfl, Same.sqT R3.sub h, fun hh => ?_, fun hh => newTup R3 (cut_rep r i j) k'⟩)
      rw [← r.length] at hh
      rw [cut_all hh] at k'
      exact atom R3 (.tup h r) k'

/-! ### join -/
def dJoin : D → D → Option D
  | .str a, .lst xs => (asSs xs).bind fun ss => if (ss.map List.length).sum + ss.length * a.length ≤ LIM then some (.str (TL.joinL a ss)) else none
  | .str a, .tup xs => (asSs xs).bind fun ss => if (ss.map List.length).sum + ss.length * a.length ≤ LIM then some (.str (TL.joinL a ss)) else none
  | _, _ => none
theorem mkS_tl (x : Str) : mkS (TL.tl x) = x := by cases x; simp [TL.tl]
theorem join_mk (a : List Nat) (ss : List (List Nat)) : Txt.join (mkS a) (ss.map mkS) = mkS (TL.joinL a ss) := by
  rw [← mkS_tl (Txt.join (mkS a) (ss.map mkS)), show Txt.join (mkS a) (ss.map mkS) = Builtin.Str.glued (mkS a) (ss.map mkS) from rfl, StrLaws.glued_eq_join, TL.tl_join]
  congr 2
  rw [List.map_map]
  induction ss with
  | nil => rfl
  | cons s ss ih => rw [List.map_cons, ih]; rfl
theorem join_ok {K : PySem.W.Frag} {c : Ct} {F : Hp} {μ : List Addr} {σ : L2.St} {H : Hp} {s : Sto} {x y : V} {d e z : D} {Q : VK} (R : Rel K c F μ σ H s) (r1 : Rep K F μ d x) (r2 : RepH K F μ H e y) (h : dJoin d e = some z)
    (k : ∀ v H' F' μ', Rel K c F' μ' σ H' s → Mono F μ F' μ' → Rep K F' μ' z v → Q v H') :
    ∃ a p, ∃ ys : List Str, x = .str a ∧ [y] = [.ref p] ∧ (SqL K H p (ys.map V.str) ∨ SqT K H p (ys.map V.str)) ∧ (ys.map (·.length)).sum + ys.length * a.length ≤ 16777216 ∧ Q (.str (Txt.join a ys)) H := by
  have hl : ∀ ss : List (List Nat), ((ss.map mkS).map (·.length)).sum = (ss.map List.length).sum := fun ss => by
    rw [List.map_map]
    congr 1
    all_goals
      apply List.map_congr_left
      intro s _
      exact mkS_len s
  cases d <;> cases e <;> simp only [dJoin] at h <;> try (cases h; done)
  · rw [Option.bind_eq_some_iff] at h
    obtain ⟨ss, e1, h⟩ := h
    split at h
    · rename_i hh
      cases h
      obtain ⟨p, vs, rfl, ha, q⟩ := r2.lst_inv R.sub
      have := asSs_rep q e1
      subst this
      refine ⟨_, p, ss.map mkS, r1.str_inv, rfl, .inl (SqL.of ha), by rw [hl, List.length_map, mkS_len]; exact hh, ?_⟩
      rw [join_mk]
      exact atom R (.str _) k
    · cases h
  · rw [Option.bind_eq_some_iff] at h
    obtain ⟨ss, e1, h⟩ := h
    split at h
    · rename_i hh
      cases h
      obtain ⟨p, vs, rfl, ha, q⟩ := r2.tup_inv R.sub
      have := asSs_rep q e1
      subst this
      refine ⟨_, p, ss.map mkS, r1.str_inv, rfl, .inr ha, by rw [hl, List.length_map, mkS_len]; exact hh, ?_⟩
      rw [join_mk]
      exact atom R (.str _) k
    · cases h
def isStrD : D → Bool
  | .str _ => true
  | _ => false
theorem de_join {apos : Pos} (ho : DE cls X a f) (he : DE cls X e g) (hs : starEach [e] X.env = [(false, eval e X.env)] := by rfl) (hbase : attributeBase a "join" X.env (eval a X.env) = eval a X.env := by rfl) (hline : (apos.endLine == pos.line) = true := by rfl) :
    DE cls X (.Call (.Attribute a "join" apos) [e] [] pos) (eBin dJoin f g) := by
  refine imp (pe_join ho he hs hbase hline) fun σ H Q ⟨c, F, μ, s, hc, R, z, s', e, k⟩ => ?_
  obtain ⟨x, s1, e1, f1⟩ := bnd_some e
  obtain ⟨y, s2, e2, f2⟩ := bnd_some f1
  obtain ⟨e3, w3⟩ := lft_some f2
  subst w3
  have hx : ∃ t, x = .str t := by
    cases x <;> cases y <;> simp only [dJoin] at e3 <;> first | exact ⟨_, rfl⟩ | cases e3
  obtain ⟨t, rfl⟩ := hx
  refine ⟨c, F, μ, s, hc, R, _, s1, e1, fun v H1 F1 μ1 R1 m1 r1 => ⟨⟨_, r1.str_inv⟩, c, F1, μ1, s1, hc, R1, y, s', e2, fun u H2 F2 μ2 R2 m2 r2 => ?_⟩⟩
  exact join_ok R2 (r1.mono m2) (.rep r2) e3 fun v' H' F' μ' R' m' r' => k v' H' F' μ' R' (m1.trans (m2.trans m')) r'
theorem de_joinL (i : Nat) {x : Str} {px apos : Pos} (ho : DE cls X a f) (he : PE X (.Name x px) (tVar i)) (hs : starEach [.Name x px] X.env = [(false, eval (.Name x px) X.env)] := by rfl) (hbase : attributeBase a "join" X.env (eval a X.env) = eval a X.env := by rfl)
    (hline : (apos.endLine == pos.line) = true := by rfl) : DE cls X (.Call (.Attribute a "join" apos) [.Name x px] [] pos) (eBinR dJoin f i) := by
  refine imp (pe_join ho he hs hbase hline) fun σ H Q ⟨c, F, μ, s, hc, R, z, s', e, k⟩ => ?_
  obtain ⟨x, s1, e1, f1⟩ := bnd_some e
  obtain ⟨y, s2, e2, f2⟩ := bnd_some f1
  obtain ⟨e3, w3⟩ := lft_some f2
  subst w3
  have hx : ∃ t, x = .str t := by
    cases x <;> cases y <;> simp only [dJoin] at e3 <;> first | exact ⟨_, rfl⟩ | cases e3
  obtain ⟨t, rfl⟩ := hx
  refine ⟨c, F, μ, s, hc, R, _, s1, e1, fun v H1 F1 μ1 R1 m1 r1 => ⟨⟨_, r1.str_inv⟩, ?_⟩⟩
  obtain ⟨w2, v', hv', r2⟩ := eRd_some R1 e2
  subst w2
  exact ⟨v', hv', join_ok R1 r1 r2 e3 fun v' H' F' μ' R' m' r' => k v' H' F' μ' R' (m1.trans m') r'⟩

/-! ### methods of an owned list -/
def ownOf (s : Sto) (i : Nat) : Option (List D) := match s.1[i]? with
  | some (.own ds) => some ds
  | _ => none
theorem ownOf_rep {K : PySem.W.Frag} {c : Ct} {F : Hp} {μ : List Addr} {σ : L2.St} {H : Hp} {s : Sto} {i : Nat} {ds : List D} (R : Rel K c F μ σ H s) (h : ownOf s i = some ds) :
    ∃ a vs, σ[i]? = some (some (.ref a)) ∧ H a = some (.lst vs) ∧ Reps K F μ ds vs ∧ (∀ ds' vs', Reps K F μ ds' vs' → Rel K c F μ σ (upd H a (.lst vs')) (s.1.set i (.own ds'), s.2)) := by
  unfold ownOf at h
  split at h
  · rename_i kv hs
    cases h
    obtain ⟨α, h1, _⟩ := id R.slots
    obtain ⟨e1, e2, e3, e4, vs, e5, r⟩ := h1 i _ hs
    exact ⟨_, vs, e1, e5, r, fun ds' vs' r' => Rel.write (ρ := s.1) (S := s.2) R hs rfl rfl e1 ⟨rfl, e2, e3, e4, _, upd_same, r'⟩⟩
  · cases h
def setOwn (s : Sto) (i : Nat) (ds : List D) : Sto := (s.1.set i (.own ds), s.2)
/-- x.m(e): op on the owned list and the argument: the answer and the new list -/
def eMtL (i : Nat) (op : List D → D → Option (D × List D)) (f : Ev D) : Ev D := fun s0 => match ownOf s0 i with
  | none => none
  | some _ => match f s0 with
    | none => none
    | some (y, s) => match ownOf s i with
      | none => none
      | some ds => match op ds y with
        | none => none
        | some (z, ds') => some (z, setOwn s i ds')
def MtO (X : Cx) (id : String) (op : List D → D → Option (D × List D)) : Prop :=
  ∃ r : V → List V → Hp → VK → Prop, MtR X id r ∧ ∀ (K : PySem.W.Frag) (F : Hp) (μ : List Addr) (H : Hp) (a : Addr) (vs : List V) (ds : List D) (y z : D) (ds' : List D) (w : V) (Q : VK), H a = some (.lst vs) → Reps K F μ ds vs → Same F H → Rep K F μ y w → op ds y = some (z, ds') →
    (∀ v vs', Reps K F μ ds' vs' → Rep K F μ z v → Q v (upd H a (.lst vs'))) → r (.ref a) [w] H Q
theorem de_mtL (i : Nat) {x : Str} {px apos cpos : Pos} {m : Str} {id : String} {op : List D → D → Option (D × List D)} (hm : MtO X id op) (slot : PySem.Slot "list" m id) (hty : typeOf (.builtin id) = pure (.type "method_descriptor"))
    (ho : PE X (.Name x px) (tVar i)) (he : DE cls X e f) (hbase : attributeBase (.Name x px) m X.env (eval (.Name x px) X.env) = eval (.Name x px) X.env := by rfl)
    (hfew : ((backTo cpos (starEach [e] X.env)).all (fun x => !x.1) && (backToKw cpos (keywordEach [] X.env)).all (fun x => x.1.isSome)
      && decide (([e] : List Expr).length + ([] : List Keyword).length + (if ([] : List Keyword).isEmpty then 0 else 1) < 30)) = true := by rfl)
    (hline : (apos.endLine == cpos.line) = true := by rfl) (hs : starEach [e] X.env = (false, eval e X.env) :: starEach [] X.env := by rfl) (hplain : (backTo cpos (starEach [] X.env)).any (·.1) = false := by rfl) :
    DE cls X (.Call (.Attribute (.Name x px) m apos) [e] [] cpos) (eMtL i op f) := by
  obtain ⟨r, h1, h2⟩ := hm
  refine imp (pe_bm PySem.F.plainAttrs_list slot hty h1 ho (pa_cons he pa_nil hs) hbase hfew hline hs hplain) fun σ H Q ⟨c, F, μ, s, hc, R, z, s', e, k⟩ => ?_
  unfold eMtL at e
  split at e
  · cases e
  rename_i ds0 h0
  split at e
  · cases e
  rename_i y s1 e1
  split at e
  · cases e
  rename_i ds hd
  split at e
  · cases e
  rename_i z' ds' h3
  cases e
  obtain ⟨a0, vs0, es0, ha0, q0, _⟩ := ownOf_rep R h0
  refine ⟨_, es0, .inl ⟨rfl, _, SqL.of ha0⟩, c, F, μ, s, hc, R, y, s1, e1, fun w H1 F1 μ1 R1 m1 r1 => ?_⟩
  obtain ⟨a, vs, es, ha, q, kw⟩ := ownOf_rep R1 hd
  have ea : a = a0 := by rw [es0] at es; cases es; rfl
  subst ea
  exact h2 X.K F1 μ1 H1 a vs ds y _ ds' w Q ha q R1.sub r1 h3 fun v vs' q' rz => k v _ F1 μ1 (kw ds' vs' q') m1 rz
theorem MtM.toR {id : String} {r : V → List V → Hp → VK → Prop} (h : MtM X id r) : MtR X id r := h
def mAppend : List D → D → Option (D × List D) := fun ds y => if ds.length < LIM then some (.non, ds ++ [y]) else none
theorem mo_append : MtO X "list.append" mAppend := by
  refine ⟨_, MtM.toR mt_append, ?_⟩
  intro K F μ H a vs ds y z ds' w Q ha r m rw' h k
  unfold mAppend at h
  split at h
  · rename_i hl
    cases h
    have := r.length
    exact ⟨a, vs, w, rfl, rfl, ha, lim_lt (by omega), k _ _ (r.append (.cons rw' .nil)) .non⟩
  · cases h
def mPopAt : List D → D → Option (D × List D)
  | ds, .int i => if 0 ≤ i ∧ i < ds.length ∧ ds.length ≤ LIM then (ds[i.toNat]?).map fun d => (d, ds.eraseIdx i.toNat) else none
  | _, _ => none
theorem mo_popAt : MtO X "list.pop" mPopAt := by
  refine ⟨_, MtM.toR mt_popAt, ?_⟩
  intro K F μ H a vs ds y z ds' w Q ha r m rw' h k
  cases y <;> simp only [mPopAt] at h <;> try (cases h; done)
  rename_i i
  split at h
  · rename_i hc
    obtain ⟨h1, h2, h3⟩ := hc
    rw [Option.map_eq_some_iff] at h
    obtain ⟨d, e1, h⟩ := h
    cases h
    obtain ⟨x, hx, rx⟩ := r.get e1
    have hl := r.length
    rw [rw'.int_inv]
    have hL : LIM = 16777216 := rfl
    refine ⟨a, vs, i, i.toNat, x, rfl, rfl, ha, by omega, by omega, ?_, hx, k _ _ (r.eraseIdx _) rx⟩
    exact PySem.StrLaws.seqIndex_nonneg h1 (by omega)
  · cases h
def mExtend : List D → D → Option (D × List D)
  | ds, .lst es => if ds.length + es.length ≤ LIM then some (.non, ds ++ es) else none
  | _, _ => none
theorem mo_extend : MtO X "list.extend" mExtend := by
  refine ⟨_, MtM.toR mt_extend, ?_⟩
  intro K F μ H a vs ds y z ds' w Q ha r m rw' h k
  cases y <;> simp only [mExtend] at h <;> try (cases h; done)
  split at h
  · rename_i hl
    cases h
    cases rw' with
    | @lst b _ ws hb r2 =>
      have l1 := r.length
      have l2 := r2.length
      exact ⟨a, b, vs, ws, rfl, rfl, ha, m _ _ hb, lim_le (by omega), k _ _ (r.append r2) .non⟩
  · cases h
/-- x.pop() -/
def ePopL (i : Nat) : Ev D := fun s => match ownOf s i with
  | none => none
  | some ds => (ds[ds.length - 1]?).map fun d => (d, setOwn s i ds.dropLast)
theorem Reps.dropLast {K : PySem.W.Frag} {F : Hp} {μ : List Addr} {ds : List D} {vs : List V} (r : Reps K F μ ds vs) : Reps K F μ ds.dropLast vs.dropLast := by
  rw [List.dropLast_eq_take, List.dropLast_eq_take, r.length]
  exact r.take _
theorem de_popL (i : Nat) {x : Str} {px apos cpos : Pos} (ho : PE X (.Name x px) (tVar i)) (hbase : attributeBase (.Name x px) "pop" X.env (eval (.Name x px) X.env) = eval (.Name x px) X.env := by rfl) (hline : (apos.endLine == cpos.line) = true := by rfl) :
    DE cls X (.Call (.Attribute (.Name x px) "pop" apos) [] [] cpos) (ePopL i) := by
  refine imp (pe_bm0 PySem.F.plainAttrs_list PySem.F.slot_list_pop PySem.F.type_list_pop (MtM.toR mt_pop) ho hbase hline) fun σ H Q ⟨c, F, μ, s, hc, R, z, s', e, k⟩ => ?_
  unfold ePopL at e
  split at e
  · cases e
  rename_i ds hd
  rw [Option.map_eq_some_iff] at e
  obtain ⟨d, e1, e⟩ := e
  cases e
  obtain ⟨a, vs, es, ha, q, kw⟩ := ownOf_rep R hd
  obtain ⟨x', hx, rx⟩ := q.get e1
  rw [q.length] at hx
  exact ⟨_, es, .inl ⟨rfl, _, SqL.of ha⟩, a, vs, x', rfl, rfl, ha, hx, k _ _ _ _ (kw _ _ q.dropLast) (Mono.refl _ _) rx⟩
/-- x[i] = e of an owned list -/
def sSetL (i : Nat) (g h : Ev D) : Es := fun s => match h s with
  | none => none
  | some (z, s1) => match ownOf s1 i with
    | none => none
    | some _ => match g s1 with
      | none => none
      | some (y, s2) => match ownOf s2 i, y with
        | some ds, .int k => match ixN ds.length k with
          | some j => some (.nx (setOwn s2 i (ds.set j z)))
          | none => none
        | _, _ => none
theorem ds_setL (i : Nat) {x : Str} {px pos' : Pos} {value : Expr} (ho : PE X (.Name x px) (tVar i)) (hi : DE cls X b g) (hv : DE cls X value h) (hs1 : swapsWithSole [.Subscript (.Name x px) b pos'] value pos.line X.env = pure false := by rfl)
    (hw : swappedStores [.Subscript (.Name x px) b pos'] value X.env = pure none := by rfl) (h1 : (assignEach [.Subscript (.Name x px) b pos'] X.env).map (·.2) = [assign (.Subscript (.Name x px) b pos') X.env] := by rfl)
    (ha : ∀ v, assign (.Subscript (.Name x px) b pos') X.env v = (do
      let ov ← holding [v] (eval (.Name x px) X.env)
      let iv ← holding [v, ov] (eval b X.env)
      standAt pos'
      holding [v, ov, iv] (setItem ov iv v)
      release [v, ov, iv] []) := by intro _; rfl) : DS cls X (.Assign [.Subscript (.Name x px) b pos'] value pos) (sSetL i g h) := by
  refine impS (ps_asg hv (pg_sub ho hi set_list ha) hs1 hw h1) fun D σ H ⟨c, F, μ, s, hc, R, o, e, k⟩ => ?_
  unfold sSetL at e
  split at e
  · cases e
  rename_i z s1 e1
  split at e
  · cases e
  rename_i ds0 h0
  split at e
  · cases e
  rename_i y s2 e2
  split at e
  · rename_i ds kk h3 
    split at e
    · rename_i j hj
      cases e
      refine ⟨c, F, μ, s, hc, R, z, s1, e1, fun v H1 F1 μ1 R1 m1 r1 => ?_⟩
      obtain ⟨a0, vs0, es0, ha0, q0, _⟩ := ownOf_rep R1 h0
      refine ⟨_, es0, c, F1, μ1, s1, hc, R1, _, s2, e2, fun w H2 F2 μ2 R2 m2 r2 => ?_⟩
      obtain ⟨a, vs, es, ha, q, kw⟩ := ownOf_rep R2 h3
      have ea : a = a0 := by rw [es0] at es; cases es; rfl
      subst ea
      refine ⟨a, vs, kk, j, rfl, r2.int_inv, ha, by rw [← q.length]; exact hj, ?_⟩
      exact k _ _ _ _ (kw _ _ (q.set (r1.mono m2) j)) (m1.trans m2)
    · cases e
  · cases e

/-! ### defs -/
abbrev Fn := List D → List O → Option (D × List O)
/-- the promise of a def: it answers as F does -/
def spF (K : PySem.W.Frag) (cls : Nat → Addr) (n : Nat) (F : Fn) : Sp := fun vs H Q _ => ∃ Fz μ S ds r S', Same Fz H ∧ StOk K cls Fz μ H S ∧ Reps K Fz μ ds vs ∧ ds.length = n ∧ F ds S = some (r, S') ∧
  ∀ v H' F' μ', Step cls K Fz μ H F' μ' H' S' → Rep K F' μ' r v → Q v H'
def runF (N : Nat) (u : Es) : Fn := fun ds S => match u (ds.map .val ++ List.replicate (N - ds.length) .un, S) with
  | some (.rt d s') => some (d, s'.2)
  | some (.nx s') => some (.non, s'.2)
  | _ => none
theorem start_rel {K : PySem.W.Frag} {Fz H : Hp} {μ : List Addr} {S : List O} {ds : List D} {vs : List V} {N : List Str} (m : Same Fz H) (st : StOk K cls Fz μ H S) (r : Reps K Fz μ ds vs) :
    Rel K ⟨cls, H, Fz, μ, fun _ => none⟩ Fz μ (L2.start N vs) H (ds.map .val ++ List.replicate (N.length - ds.length) .un, S) := by
  refine ⟨m, Same.refl _, fun b o e => .inl e, fun b o e _ => e, ⟨[], by simp, fun b hb => by cases hb⟩, ?_, ⟨fun _ => 0, fun i x e => ?_, fun i j x y e1 e2 o1 o2 => ?_⟩, st, fun b o e => by cases e⟩
  · unfold L2.start; simp [r.length]
  · by_cases hi : i < ds.length
    · rw [List.getElem?_append_left (by simpa using hi)] at e
      rw [List.getElem?_map] at e
      obtain ⟨d, hd⟩ : ∃ d, ds[i]? = some d := ⟨_, List.getElem?_eq_getElem hi⟩
      rw [hd] at e
      cases e
      obtain ⟨v, hv, rv⟩ := r.get hd
      refine ⟨v, ?_, rv⟩
      unfold L2.start
      rw [List.getElem?_append_left (by rw [List.length_map, ← r.length]; exact hi), List.getElem?_map, hv]
      rfl
    · rw [List.getElem?_append_right (by simpa using hi)] at e
      have := List.mem_of_getElem? e
      rw [List.mem_replicate] at this
      rw [this.2]
      trivial
  · exfalso
    have no : ∀ {i : Nat} {x : Sl}, (ds.map Sl.val ++ List.replicate (N.length - ds.length) Sl.un)[i]? = some x → x.isOwn = true → False := fun {i x} e o => by
      have := List.mem_of_getElem? e
      rw [List.mem_append, List.mem_map, List.mem_replicate] at this
      rcases this with ⟨d, _, rfl⟩ | ⟨_, rfl⟩
      · cases o
      · cases o
    exact no e1 o1
theorem Rel.toStep {K : PySem.W.Frag} {Fz F' H H' : Hp} {μ μ' : List Addr} {σ : L2.St} {s : Sto} (R : Rel K ⟨cls, H, Fz, μ, fun _ => none⟩ F' μ' σ H' s) : Step cls K Fz μ H F' μ' H' s.2 :=
  ⟨R.sub, R.ext, R.newF, R.frame, R.mu, R.st⟩
theorem fn_ok {P : Program} {w : World} {K : PySem.W.Frag} {mg : Str → Option Value} {base : Heap} {x qual : Str} {st : Stmt} {f : Addr} {fd : FuncData} {N ps : List Str} {k : Nat} {u : Es} (F : Fun K x qual st f fd) (S : FnScope N ps (defScope st))
    (hbody : ∀ (cdv : Value) (A : Around) (outer : List Env) (s : Shared) (H : Hp) (E : XK), Room k (A.deeper (envOfC qual (defScope st) s.heap.objs.size f cdv)) →
      DSs cls (cxOf CX0 P w K mg base N qual (defScope st) f cdv A outer s H E).nox (defBody st) u) : FnOk P w K mg base CX0 (k + 1) f fd ps (spF K cls ps.length (runF N.length u)) := by
  refine F.ok S (fun vs H Q E h => ?_) (fun cdv A outer s H vs Q E hr h => ?_)
  · obtain ⟨Fz, μ, S, ds, r, S', m, st, rp, hl, _⟩ := h
    rw [← rp.length]; exact hl
  · obtain ⟨Fz, μ, S, ds, r, S', m, st, rp, hl, e, kk⟩ := h
    refine ⟨_, hbody cdv A outer s H E hr, ?_⟩
    unfold runF at e
    split at e
    · rename_i d s' e1
      cases e
      exact ⟨_, Fz, μ, _, rfl, start_rel m st rp, _, e1, fun v σ' H' F' μ' R' m' r' => kk v H' F' μ' R'.toStep r'⟩
    · rename_i s' e1
      cases e
      exact ⟨_, Fz, μ, _, rfl, start_rel m st rp, _, e1, fun σ' H' F' μ' R' m' => kk .non H' F' μ' R'.toStep .non⟩
    · cases e
def eCall (F : Fn) (g : Ev (List D)) : Ev D := fun s => match g s with
  | some (ds, (ρ, S)) => match F ds S with
    | some (r, S') => some (r, (ρ, S'))
    | none => none
  | none => none
theorem run_call {F : Fn} {n : Nat} {g : Ev (List D)} (hn : ∀ ds s s', g s = some (ds, s') → ds.length = n) (σ : L2.St) (H : Hp) (Q : VK) (w : TD X.K cls (eCall F g) σ H Q) : tCall (spF X.K cls n F) [] E0 (TDA X.K cls g) σ H Q := by
  obtain ⟨c, Fz, μ, s, hc, R, z, s', e, k⟩ := w
  unfold eCall at e
  split at e
  · rename_i ds ρ S e1
    split at e
    · rename_i r S' e2
      cases e
      refine ⟨c, Fz, μ, s, hc, R, ds, (ρ, S), e1, fun vs H1 F1 μ1 R1 m1 r1 => ?_⟩
      show spF X.K cls n F (vs ++ []) H1 Q E0
      rw [List.append_nil]
      subst hc
      exact ⟨F1, μ1, S, ds, z, S', R1.sub, R1.st, r1, hn _ _ _ e1, e2, fun v H' F' μ' t r' => k v H' F' μ' (R1.step t) (m1.trans t.mono) r'⟩
    · cases e
  · cases e
theorem len_nil (ds : List D) (s s' : Sto) (h : eNil s = some (ds, s')) : ds.length = 0 := by
  obtain ⟨w, _⟩ := ret_some h
  subst w; rfl
theorem len_cons {f : Ev D} {g : Ev (List D)} {n : Nat} (hn : ∀ ds s s', g s = some (ds, s') → ds.length = n) : ∀ ds s s', eCons f g s = some (ds, s') → ds.length = n + 1 := by
  intro ds s s' h
  obtain ⟨x, s1, e1, f1⟩ := bnd_some h
  obtain ⟨xs, s2, e2, f2⟩ := bnd_some f1
  obtain ⟨w, _⟩ := ret_some f2
  subst w
  rw [List.length_cons, hn _ _ _ e2]
theorem de_call {x : Str} {pp : Pos} {g : Ev (List D)} {n : Nat} {F : Fn} {k : Nat} {fa : Addr} {fd : FuncData} {ps : List Str} (G : FnOk X.prog X.w X.K X.mg X.base CX0 k fa fd ps (spF X.K cls n F)) (hr : Room k X.A) (hg : Gl X x) (hm : X.mg x = some (.ref fa)) (hk : PySem.W.keepIn X.K (.ref fa) = true)
    (hb : Binds X.K fd ps []) (ha : DA cls X (e :: es) g) (hn : ∀ ds s s', g s = some (ds, s') → ds.length = n) (hdb : (x == ("__debug__" : Str)) = false := by decide) (he : starEach (e :: es) X.env = (false, eval e X.env) :: starEach es X.env := by rfl)
    (hpl : (backTo pos (starEach es X.env)).any (·.1) = false := by rfl) : DE cls X (.Call (.Name x pp) (e :: es) [] pos) (eCall F g) :=
  imp (pe_call G hr hg hm hk hb .nil pass0 ha hdb he hpl) (run_call hn)
end
end DL

set_option Elab.async false
set_option linter.all false
set_option maxRecDepth 100000
namespace DL
open PySem PySem.Spec PyProof.Rows L2

/-! ### enumerate and zip over lists, tuples, texts -/
set_option maxHeartbeats 1000000 in
theorem meets_enum1 {v : Value} {o : Obj} {Hh : Heap → Prop} (B : Begins v o Hh) :
    Meets (Builtin.«enumerate.__new__» ⟨[.type "enumerate", v], []⟩) (fun _ R s => Hh s.heap ∧
      R (.ok (.ret (.ref (s.heap.push o).objs.size)))
        { s with heap := (s.heap.push o).push { cls := .type "enumerate", data := .fields #[.none, .bool false, .ref s.heap.objs.size, rawInt 0, .none, .none] } }) :=
  .of_wp fun prog w A R s h => by
    obtain ⟨hp, g, d, tk, os⟩ := s
    obtain ⟨hl, h⟩ := h
    have hsub := sub_enumerate
    have it : ∀ {A : Around} {E : Value → Shared → Prop} {Q : Value → Shared → Prop}, Q (.ref hp.objs.size) ⟨hp.push o, g, d, tk, os⟩ → wpAny (model prog w) A (pyIter v) Q E ⟨hp, g, d, tk, os⟩ := fun {A E Q} q => B.iter prog w A E _ Q hl q
    wp_walk
    refine wpAny_stack_any fun st => wpAny_pure ?_
    split
    · rename_i c _ _ _ _ _
      cases (c == Value.type "enumerate")
      · wp_walk using it
        exact ⟨_, rfl, h⟩
      · wp_walk using it
        exact ⟨_, rfl, h⟩
    · wp_walk using it
      exact ⟨_, rfl, h⟩

theorem call_enum1 {prog : Program} {w : World} {A : Around} {E : Value → Shared → Prop} {s : Shared} {v : Value} {o : Obj} {Hh : Heap → Prop} {Q : Value → Shared → Prop} (B : Begins v o Hh) (h1 : Hh s.heap)
    (h : ∀ h', IsEnum h' (s.heap.objs.size + 1) s.heap.objs.size 0 .none → h'.get? s.heap.objs.size = some o → (∀ b o, s.heap.get? b = some o → h'.get? b = some o) → Q (.ref (s.heap.objs.size + 1)) { s with heap := h' }) :
    wpAny (model prog w) A (call (.type "enumerate") [v]) Q E s := by
  refine callType_new F.called_enumerate (by decide) (F.typeCall_enumerate_1 _) (F.newCall_enumerate_1 _) (fun obj => F.args_object_init_2 obj _) F.entry_enumerate_new
    (meets_enum1 B) ⟨h1, ?_⟩
  have hz : (s.heap.push o).objs.size = s.heap.objs.size + 1 := Heap.size_push ..
  show _ ∧ _
  rw [hz]
  have he : IsEnum ((s.heap.push o).push { cls := .type "enumerate", data := .fields #[.none, .bool false, .ref s.heap.objs.size, rawInt 0, .none, .none] }) (s.heap.objs.size + 1) s.heap.objs.size 0 .none := by
    have := Heap.get?_push_size (s.heap.push o) (o := { cls := .type "enumerate", data := .fields #[.none, .bool false, .ref s.heap.objs.size, rawInt 0, .none, .none] }) rfl
    rw [hz] at this; exact this
  exact ⟨⟨_, he, rfl⟩, h _ he (Heap.get?_push_of_some _ (Heap.get?_push_size _ B.free)) fun b o x => Heap.get?_push_of_some _ (Heap.get?_push_of_some _ x)⟩

/-- a source: its items, its address (a text has none), the state of its iterator -/
structure SrcD (P : Program) (w : World) (K : PySem.W.Frag) (G : Hp → Prop) (xs : List V) (u : Value) (o : Obj) (src : List Addr) (St : Addr → Nat → Heap → Prop) : Prop where
  free : o.isFreed = false
  beg : ∀ (X : Cx) (pins : List (Addr × Obj)) (σ : L2.St) (H : Hp) (s : Shared), X.prog = P → X.w = w → X.K = K → Inv X pins σ H s → G H → (∃ Hc, Begins u o Hc ∧ Hc s.heap) ∧ ∀ b ∈ src, b < s.heap.objs.size
  st0 : ∀ (it : Addr) (h : Heap), h.get? it = some o → St it 0 h
  keep : ∀ (it : Addr) (i : Nat) (h h' : Heap), St it i h → (∀ o, h.get? it = some o → h'.get? it = some o) → St it i h'
  obj : ∀ (it : Addr) (i : Nat) (h : Heap), St it i h → ∃ o, h.get? it = some o ∧ ∀ v, o.data ≠ .cell v
  draws : ∀ (X : Cx) (pins : List (Addr × Obj)) (σ : L2.St) (H : Hp) (s : Shared) (it : Addr) (A : Around), X.prog = P → X.w = w → X.K = K → Inv X pins σ H s → G H → A.handled = none → it ∉ src →
    ∃ ex : Heap → Prop, ex s.heap ∧ Draws P w A it (it :: src) xs.length (fun i v => ∃ y, xs[i]? = some y ∧ RelV y v) (fun i h => St it i h ∧ ex h)
theorem drawsImp {prog : Program} {w : World} {A : Around} {it : Addr} {fp : List Addr} {n m : Nat} {P P' : Nat → Value → Prop} {St : Nat → Heap → Prop} (D : Draws prog w A it fp n P St) (hn : m = n) (h : ∀ i v, P i v → P' i v) : Draws prog w A it fp m P' St := by
  subst hn
  exact ⟨D.live, D.frame, fun i s Q E hi st k => D.item i s Q E hi st fun x h' tk p st' sb => k x h' tk (h _ _ p) st' sb, D.done⟩
section
variable {P : Program} {w : World} {K : PySem.W.Frag} {xs : List V} {a : Addr}
theorem src_list : SrcD P w K (fun H => SqL K H a xs) xs (.ref a) { cls := .type "list_iterator", data := .fields #[.ref a, .int 0 0] } [a] (fun it i h => h.IsListIter it a i) where
  free := rfl
  beg := fun X pins σ H s hP hw hK I hG => by
    subst hK
    obtain ⟨its, rv, p, hz⟩ := I.list hG
    refine ⟨⟨_, begins_list a its.toArray, p.isList⟩, fun b hb => ?_⟩
    rw [List.mem_singleton.mp hb]; exact p.lt
  st0 := fun it h e => ⟨_, e, rfl, rfl⟩
  keep := fun it i h h' st k => st.at fun o e => k o e
  obj := fun it i h st => by
    obtain ⟨o, e, _, d⟩ := st
    exact ⟨o, e, fun v q => by rw [d] at q; cases q⟩
  draws := fun X pins σ H s it A hP hw hK I hG hA hit => by
    subst hP hw hK
    obtain ⟨its, rv, p, hz⟩ := I.list hG
    refine ⟨fun h => h.IsList a its.toArray, p.isList, drawsImp (Draws.list hA it a (fun z => hit (by simp [z])) its.toArray) (by simp [rv.length]) fun i v hv => ?_⟩
    have hv : its[i]? = some v := by simpa using hv
    cases hx : xs[i]? with
    | none => rw [Vals.none_of rv hx] at hv; cases hv
    | some y =>
      obtain ⟨u, hu, ru⟩ := rv.get hx
      rw [hv] at hu; cases hu
      exact ⟨y, rfl, ru⟩
theorem src_tup : SrcD P w K (fun H => SqT K H a xs) xs (.ref a) { cls := .type "tuple_iterator", data := .fields #[.ref a, .int 0 0] } [a] (fun it i h => h.IsTupleIter it a i) where
  free := rfl
  beg := fun X pins σ H s hP hw hK I hG => by
    subst hK
    obtain ⟨its, rv, p, hz⟩ := I.tuple hG
    refine ⟨⟨_, begins_tuple a its.toArray, (show s.heap.IsTuple a its.toArray from p)⟩, fun b hb => ?_⟩
    rw [List.mem_singleton.mp hb]
    obtain ⟨o, e, _⟩ := id p
    exact Heap.lt_size e
  st0 := fun it h e => ⟨_, e, rfl, rfl⟩
  keep := fun it i h h' st k => st.at fun o e => k o e
  obj := fun it i h st => by
    obtain ⟨o, e, _, d⟩ := st
    exact ⟨o, e, fun v q => by rw [d] at q; cases q⟩
  draws := fun X pins σ H s it A hP hw hK I hG hA hit => by
    subst hP hw hK
    obtain ⟨its, rv, p, hz⟩ := I.tuple hG
    refine ⟨fun h => h.IsTuple a its.toArray, (show s.heap.IsTuple a its.toArray from p), drawsImp (Draws.tuple hA it a (fun z => hit (by simp [z])) its.toArray) (by simp [rv.length]) fun i v hv => ?_⟩
    have hv : its[i]? = some v := by simpa using hv
    cases hx : xs[i]? with
    | none => rw [Vals.none_of rv hx] at hv; cases hv
    | some y =>
      obtain ⟨u, hu, ru⟩ := rv.get hx
      rw [hv] at hu; cases hu
      exact ⟨y, rfl, ru⟩
theorem src_str {z : Str} {t : Tok} : SrcD P w K (fun _ => True) (z.cps.toList.map fun c => .str ⟨#[c]⟩) (.str z t) { cls := .type (strIterType z), data := .fields #[.str z t, .int 0 0] } [] (fun it i h => h.IsStrIter it (strIterType z) z t i) where
  free := rfl
  beg := fun X pins σ H s hP hw hK I hG => ⟨⟨_, begins_text z t, trivial⟩, fun b hb => by cases hb⟩
  st0 := fun it h e => ⟨_, e, rfl, rfl⟩
  keep := fun it i h h' st k => by
    obtain ⟨o, e, c, d⟩ := st
    exact ⟨o, k o e, c, d⟩
  obj := fun it i h st => by
    obtain ⟨o, e, _, d⟩ := st
    exact ⟨o, e, fun v q => by rw [d] at q; cases q⟩
  draws := fun X pins σ H s it A hP hw hK I hG hA hit => by
    subst hP hw hK
    have D := Draws.text (prog := X.prog) (w := X.w) hA it z t
    refine ⟨fun _ => True, trivial, ⟨fun i h st => D.live i h st.1, fun i h h' st k => ⟨D.frame i h h' st.1 k, trivial⟩, fun i s Q E hi st k => D.item i s Q E (by simpa using hi) st.1 fun x h' tk p st' sb => k x h' tk ?_ ⟨st', trivial⟩ sb, fun s Q E st => D.done s Q E (by simpa using st.1)⟩⟩
    obtain ⟨c, u, hc, rfl⟩ := p
    refine ⟨.str ⟨#[c]⟩, ?_, u, rfl⟩
    rw [List.getElem?_map]
    have : z.cps.toList[i]? = some c := by simpa using hc
    rw [this]; rfl
end
/-- pairs of new tuples -/
def ItP (G : Hp → Prop) (n : Nat) (f g : Nat → Option V) : It :=
  ⟨fun i H => i < n ∧ G H, fun i H v H' => ∃ T x y, v = .ref T ∧ H T = none ∧ H' = upd H T (.tup [x, y]) ∧ f i = some x ∧ g i = some y, fun i H => n ≤ i ∧ G H⟩
theorem turn_zipD {P : Program} {w : World} {K : PySem.W.Frag} {G1 G2 : Hp → Prop} {xs ys : List V} {u1 u2 : Value} {o1 o2 : Obj} {src1 src2 : List Addr} {St1 St2 : Addr → Nat → Heap → Prop} (S1 : SrcD P w K G1 xs u1 o1 src1 St1) (S2 : SrcD P w K G2 ys u2 o2 src2 St2)
    {elts : List Expr} {kk : Nat} {tpos : Pos} {z TI TO i1 i2 : Addr} (Sp : ZipSep2 z TI TO i1 i2 (i1 :: src1) (i2 :: src2)) (n1 : i1 ∉ src1) (n2 : i2 ∉ src2) :
    Turn P w K (.Tuple elts kk tpos) (ItP (fun H => G1 H ∧ G2 H) (min xs.length ys.length) (fun i => xs[i]?) (fun i => ys[i]?)) [z, TI, TO, i1, i2] z
      (fun i h => i ≤ min xs.length ys.length ∧ IsZip h z TI TO .none ∧ IsTupOf2 h TI (.ref i1) (.ref i2) ∧ (∃ x y, IsTupOf2 h TO x y) ∧ St1 i1 i h ∧ St2 i2 i h) where
  mem := by simp
  obj := fun i h st c hc => by
    obtain ⟨_, hz, hTI, ⟨x, y, hTO⟩, h1, h2⟩ := st
    have e' : c = z ∨ c = TI ∨ c = TO ∨ c = i1 ∨ c = i2 := by simpa using hc
    rcases e' with q | q | q | q | q
    · rw [q]; exact ⟨_, hz, fun v q => nomatch q⟩
    · rw [q]; exact ⟨_, hTI, fun v q => nomatch q⟩
    · rw [q]; exact ⟨_, hTO, fun v q => nomatch q⟩
    · rw [q]; exact S1.obj _ _ _ h1
    · rw [q]; exact S2.obj _ _ _ h2
  keep := fun i h h' st k => by
    obtain ⟨hl, hz, hTI, ⟨x, y, hTO⟩, h1, h2⟩ := st
    exact ⟨hl, k z (by simp) _ hz, k TI (by simp) _ hTI, ⟨x, y, k TO (by simp) _ hTO⟩, S1.keep _ _ _ _ h1 fun o q => k i1 (by simp) o q, S2.keep _ _ _ _ h2 fun o q => k i2 (by simp) o q⟩
  item := by
    intro X hP hw hK hc i pins s σ H E I hf st hg
    obtain ⟨hl, hz, hTI, hTO, h1, h2⟩ := id st
    obtain ⟨hi, g1, g2⟩ := hg
    have hA := I.ok.hd hc
    obtain ⟨ex1, x1, D1⟩ := S1.draws X pins σ H s i1 X.A.in1 hP hw hK I g1 hA n1
    obtain ⟨ex2, x2, D2⟩ := S2.draws X pins σ H s i2 X.A.in1 hP hw hK I g2 hA n2
    have W := WalksT.zipD2 Sp D1 D2
    refine W.item i s _ _ hi ⟨hz, hTI, hTO, ⟨h1, x1⟩, ⟨h2, x2⟩⟩ fun T vals h' tk hv hT htup mid k1 => ⟨_, rfl, W.go elts kk tpos i T { s with heap := h', toks := tk } _ _ mid fun h'' st'' k2 => ?_⟩
    obtain ⟨v1, v2, ⟨y1, hy1, r1⟩, ⟨y2, hy2, r2⟩, rfl⟩ := hv
    have nT := W.apart _ _ _ mid
    have old : ∀ c ∈ [z, TI, TO, i1, i2], c < s.heap.objs.size := fun c hcm => by
      obtain ⟨x0, y0, hTO⟩ := hTO
      have e' : c = z ∨ c = TI ∨ c = TO ∨ c = i1 ∨ c = i2 := by simpa using hcm
      rcases e' with q | q | q | q | q
      · rw [q]; exact Heap.lt_size hz
      · rw [q]; exact Heap.lt_size hTI
      · rw [q]; exact Heap.lt_size hTO
      · rw [q]; obtain ⟨_, e1, _⟩ := S1.obj _ _ _ h1; exact Heap.lt_size e1
      · rw [q]; obtain ⟨_, e1, _⟩ := S2.obj _ _ _ h2; exact Heap.lt_size e1
    have ht2 : h''.IsTuple T #[v1, v2] := by
      obtain ⟨o, e, r⟩ := htup
      exact ⟨o, k2 T o nT e, r⟩
    have new : ObjOk X.prog X.w (upd H T (.tup [y1, y2])) h'' T (.tup [y1, y2]) :=
      ⟨by show 2 ≤ sizeLine; decide, [v1, v2], .cons r1 (.cons r2 .nil), ht2⟩
    have inw : ∀ b, b ∈ [z, TO, i1, i2] → b ∈ [z, TI, TO, i1, i2] := fun b hb => by
      simp only [List.mem_cons, List.not_mem_nil, or_false] at hb ⊢
      rcases hb with q | q | q | q
      · exact .inl q
      · exact .inr (.inr (.inl q))
      · exact .inr (.inr (.inr (.inl q)))
      · exact .inr (.inr (.inr (.inr q)))
    have I1 : Inv X pins σ (upd H T (.tup [y1, y2])) { s with heap := h'', toks := tk } :=
      I.turnedNew (t' := tk) (ch := [z, TI, TO, i1, i2]) (fun c o hb q => k2 c o (fun z' => hb (inw c z')) (k1 c o (fun z' => hb (inw c z')) q)) hf hT new
    obtain ⟨w1, w2, w3, w4, w5⟩ := st''
    exact ⟨.ref T, _, I1, rfl, ⟨T, y1, y2, rfl, I.hok.fresh hT, rfl, hy1, hy2⟩, ⟨hi, w1, w2, w3, w4.1, w5.1⟩, fun c hcm => by
      rw [upd_ne (Nat.ne_of_lt (Nat.lt_of_lt_of_le (old c hcm) hT))]
      exact (hf c hcm).1⟩
  done := by
    intro X hP hw hK hc i pins s σ H E I hf st hg
    obtain ⟨hl, hz, hTI, hTO, h1, h2⟩ := id st
    obtain ⟨hi, g1, g2⟩ := hg
    have hA := I.ok.hd hc
    have ei : i = min xs.length ys.length := Nat.le_antisymm hl hi
    obtain ⟨ex1, x1, D1⟩ := S1.draws X pins σ H s i1 X.A.in1 hP hw hK I g1 hA n1
    obtain ⟨ex2, x2, D2⟩ := S2.draws X pins σ H s i2 X.A.in1 hP hw hK I g2 hA n2
    have W := WalksT.zipD2 Sp D1 D2
    rw [ei] at h1 h2
    refine W.done s _ _ ⟨hz, hTI, hTO, ⟨h1, x1⟩, ⟨h2, x2⟩⟩ fun h' tk k1 => ⟨rfl, ?_⟩
    have inw : ∀ b, b ∈ [z, TO, i1, i2] → b ∈ [z, TI, TO, i1, i2] := fun b hb => by
      simp only [List.mem_cons, List.not_mem_nil, or_false] at hb ⊢
      rcases hb with q | q | q | q
      · exact .inl q
      · exact .inr (.inr (.inl q))
      · exact .inr (.inr (.inr (.inl q)))
      · exact .inr (.inr (.inr (.inr q)))
    exact I.turnedL (t' := tk) (ch := [z, TI, TO, i1, i2]) (fun c o hb q => k1 c o (fun z' => hb (inw c z')) q) hf
  self := fun A i s Q E st h => wpAny_pyIter_zip st.2.1 h
theorem turn_enumD {P : Program} {w : World} {K : PySem.W.Frag} {G1 : Hp → Prop} {xs : List V} {u1 : Value} {o1 : Obj} {src1 : List Addr} {St1 : Addr → Nat → Heap → Prop} (S1 : SrcD P w K G1 xs u1 o1 src1 St1)
    {elts : List Expr} {kk : Nat} {tpos : Pos} {z i1 : Addr} (hz1 : z ≠ i1) (hzs : z ∉ src1) (n1 : i1 ∉ src1) :
    Turn P w K (.Tuple elts kk tpos) (ItP G1 xs.length (fun i => some (.int (i : Nat))) (fun i => xs[i]?)) [z, i1] z
      (fun i h => i ≤ xs.length ∧ (∃ old, IsEnum h z i1 (0 + (i : Int)) old) ∧ St1 i1 i h) where
  mem := by simp
  obj := fun i h st c hc => by
    obtain ⟨_, ⟨old, hz⟩, h1⟩ := st
    have e' : c = z ∨ c = i1 := by simpa using hc
    rcases e' with q | q
    · rw [q]; exact ⟨_, hz, fun v q => nomatch q⟩
    · rw [q]; exact S1.obj _ _ _ h1
  keep := fun i h h' st k => by
    obtain ⟨hl, ⟨old, hz⟩, h1⟩ := st
    exact ⟨hl, ⟨old, k z (by simp) _ hz⟩, S1.keep _ _ _ _ h1 fun o q => k i1 (by simp) o q⟩
  item := by
    intro X hP hw hK hc i pins s σ H E I hf st hg
    obtain ⟨hl, hz, h1⟩ := id st
    obtain ⟨hi, g1⟩ := hg
    have hA := I.ok.hd hc
    obtain ⟨ex1, x1, D1⟩ := S1.draws X pins σ H s i1 X.A.in1 hP hw hK I g1 hA n1
    have W := WalksT.enumFrom 0 D1 z hz1 (by simp only [List.mem_cons, not_or]; exact ⟨hz1, hzs⟩) (by simp)
    refine W.item i s _ _ hi ⟨hz, ⟨h1, x1⟩⟩ fun T vals h' tk hv hT htup mid k1 => ⟨_, rfl, W.go elts kk tpos i T { s with heap := h', toks := tk } _ _ mid fun h'' st'' k2 => ?_⟩
    obtain ⟨tt, v1, ⟨y1, hy1, r1⟩, rfl⟩ := hv
    have nT := W.apart _ _ _ mid
    have old : ∀ c ∈ [z, i1], c < s.heap.objs.size := fun c hcm => by
      obtain ⟨x0, hz⟩ := hz
      have e' : c = z ∨ c = i1 := by simpa using hcm
      rcases e' with q | q
      · rw [q]; exact Heap.lt_size hz
      · rw [q]; obtain ⟨_, e1, _⟩ := S1.obj _ _ _ h1; exact Heap.lt_size e1
    have ht2 : h''.IsTuple T #[.int (0 + (i : Int)) tt, v1] := by
      obtain ⟨o, e, r⟩ := htup
      exact ⟨o, k2 T o nT e, r⟩
    have new : ObjOk X.prog X.w (upd H T (.tup [.int (i : Nat), y1])) h'' T (.tup [.int (i : Nat), y1]) :=
      ⟨by show 2 ≤ sizeLine; decide, [.int (0 + (i : Int)) tt, v1], .cons ⟨tt, by rw [Int.zero_add]⟩ (.cons r1 .nil), ht2⟩
    have I1 : Inv X pins σ (upd H T (.tup [.int (i : Nat), y1])) { s with heap := h'', toks := tk } :=
      I.turnedNew (t' := tk) (ch := [z, i1]) (fun c o hb q => k2 c o hb (k1 c o hb q)) hf hT new
    obtain ⟨w1, w2⟩ := st''
    refine ⟨.ref T, _, I1, rfl, ⟨T, _, y1, rfl, I.hok.fresh hT, rfl, rfl, hy1⟩, ⟨hi, ?_, w2.1⟩, fun c hcm => by
      rw [upd_ne (Nat.ne_of_lt (Nat.lt_of_lt_of_le (old c hcm) hT))]
      exact (hf c hcm).1⟩
    exact w1
  done := by
    intro X hP hw hK hc i pins s σ H E I hf st hg
    obtain ⟨hl, hz, h1⟩ := id st
    obtain ⟨hi, g1⟩ := hg
    have hA := I.ok.hd hc
    have ei : i = xs.length := Nat.le_antisymm hl hi
    obtain ⟨ex1, x1, D1⟩ := S1.draws X pins σ H s i1 X.A.in1 hP hw hK I g1 hA n1
    have W := WalksT.enumFrom 0 D1 z hz1 (by simp only [List.mem_cons, not_or]; exact ⟨hz1, hzs⟩) (by simp)
    rw [ei] at h1 hz
    refine W.done s _ _ ⟨hz, ⟨h1, x1⟩⟩ fun h' tk k1 => ⟨rfl, ?_⟩
    exact I.turnedL (t' := tk) (ch := [z, i1]) (fun c o hb q => k1 c o hb q) hf
  self := fun A i s Q E st h => by
    obtain ⟨_, ⟨old, hz⟩, _⟩ := st
    exact wpAny_pyIter_enum hz h

/-! ### the walked things -/
/-- what a datum is as a source -/
def srcOf (K : PySem.W.Frag) (v : V) (xs : List V) (G : Hp → Prop) : Prop :=
  (∃ a, v = .ref a ∧ G = fun H => SqL K H a xs) ∨ (∃ a, v = .ref a ∧ G = fun H => SqT K H a xs) ∨ ∃ z, v = .str z ∧ xs = z.cps.toList.map (fun c => .str ⟨#[c]⟩) ∧ G = fun _ => True
theorem srcOf_get {P : Program} {w : World} {K : PySem.W.Frag} {v : V} {xs : List V} {G : Hp → Prop} {u : Value} (h : srcOf K v xs G) (r : RelV v u) : ∃ o src St, SrcD P w K G xs u o src St := by
  rcases h with ⟨a, rfl, rfl⟩ | ⟨a, rfl, rfl⟩ | ⟨z, rfl, rfl, rfl⟩
  · cases r; exact ⟨_, _, _, src_list⟩
  · cases r; exact ⟨_, _, _, src_tup⟩
  · obtain ⟨t, rfl⟩ := r; exact ⟨_, _, _, src_str⟩
section
variable {cls : Nat → Addr} {X : Cx} {a b e e2 iter tg : Expr} {f g h : Ev D} {p q : Ev Bool} {pos : Pos} {es : List Expr} {u v : Es}
def iEnumD (K : PySem.W.Frag) (ta : TA) : TI := fun σ H R => ta σ H fun vs H1 => ∃ v xs G, vs = [v] ∧ srcOf K v xs G ∧ G H1 ∧ R (ItP G xs.length (fun i => some (.int (i : Nat))) (fun i => xs[i]?)) H1
theorem pi_enumD {ta : TA} {pp tpos : Pos} {elts : List Expr} {kk : Nat} (hg : Gl X "enumerate") (hm : X.mg "enumerate" = none) (ha : PA X [e] ta) (hs : starEach [e] X.env = [(false, eval e X.env)] := by rfl) :
    PI X (.Tuple elts kk tpos) (.Call (.Name "enumerate" pp) [e] [] pos) (iEnumD X.K ta) := by
  refine ⟨fun pins s σ H R I h => ?_⟩
  refine Call_ (ld_blt I hg hm boot_enumerate (PyProof.Rows.callWith_type1 (thn (ha.run pos pins s σ H _ I h) fun us s1 ⟨vs, H1, I1, r1, q1⟩ => ?_) hs rfl))
  obtain ⟨v, xs, G, rfl, hsrc, hG, q⟩ := q1
  obtain ⟨u, rfl, ru⟩ := vals1 r1
  obtain ⟨o, src, St, S⟩ := srcOf_get (P := X.prog) (w := X.w) hsrc ru
  obtain ⟨⟨Hc, B, hc⟩, hsl⟩ := S.beg X pins σ H1 s1 rfl rfl rfl I1 hG
  refine call_enum1 B hc fun h' he hit hk => wpAny_pyIter_enum he ?_
  have I2 : Inv X pins σ H1 { s1 with heap := h' } := I1.kept (t' := s1.toks) hk
  have nlt : ∀ k, s1.heap.objs.size + k ∉ src := fun k hm => absurd (hsl _ hm) (by
    intro hlt
    exact absurd hlt (Nat.not_lt.mpr (Nat.le_add_right s1.heap.objs.size k)))
  refine ⟨s1.heap.objs.size + 1, [s1.heap.objs.size + 1, s1.heap.objs.size], _, _, H1, rfl, I2, turn_enumD S (Nat.succ_ne_self _) (nlt 1) (nlt 0), ⟨Nat.zero_le _, ⟨.none, he⟩, S.st0 _ _ hit⟩, fun b hb => ?_, q⟩
  have e' : b = s1.heap.objs.size + 1 ∨ b = s1.heap.objs.size := by simpa using hb
  have hle : s1.heap.objs.size ≤ b := by
    rcases e' with z | z
    · rw [z]; exact Nat.le_add_right _ _
    · rw [z]; exact Nat.le_refl _
  exact I1.fpOk hle (I1.hok.fresh hle)
def iZipD (K : PySem.W.Frag) (ta : TA) : TI := fun σ H R => ta σ H fun vs H1 => ∃ v1 v2 xs ys G1 G2, vs = [v1, v2] ∧ srcOf K v1 xs G1 ∧ srcOf K v2 ys G2 ∧ G1 H1 ∧ G2 H1 ∧ R (ItP (fun H => G1 H ∧ G2 H) (min xs.length ys.length) (fun i => xs[i]?) (fun i => ys[i]?)) H1
theorem pi_zipD {ta : TA} {pp tpos : Pos} {elts : List Expr} {kk : Nat} (hg : Gl X "zip") (hm : X.mg "zip" = none) (ha : PA X [e, e2] ta)
    (hs : starEach [e, e2] X.env = (false, eval e X.env) :: starEach [e2] X.env := by rfl) (hpl : (backTo pos (starEach [e2] X.env)).any (·.1) = false := by rfl) :
    PI X (.Tuple elts kk tpos) (.Call (.Name "zip" pp) [e, e2] [] pos) (iZipD X.K ta) := by
  refine ⟨fun pins s σ H R I h => ?_⟩
  refine Call_ (ld_blt I hg hm PyProof.Rows.boot_zip (PyProof.Rows.callWith_type1 (thn (ha.run pos pins s σ H _ I h) fun us s1 ⟨vs, H1, I1, r1, q1⟩ => ?_) hs hpl))
  obtain ⟨v1, v2, xs, ys, G1, G2, rfl, hs1, hs2, hG1, hG2, q⟩ := q1
  obtain ⟨u1, u2, rfl, ru1, ru2⟩ := vals2 r1
  obtain ⟨o1, src1, St1, S1⟩ := srcOf_get (P := X.prog) (w := X.w) hs1 ru1
  obtain ⟨o2, src2, St2, S2⟩ := srcOf_get (P := X.prog) (w := X.w) hs2 ru2
  obtain ⟨⟨Hc1, B1, hc1⟩, hl1⟩ := S1.beg X pins σ H1 s1 rfl rfl rfl I1 hG1
  obtain ⟨⟨Hc2, B2, hc2⟩, hl2⟩ := S2.beg X pins σ H1 s1 rfl rfl rfl I1 hG2
  refine zip_begins2 B1 B2 hc1 hc2 fun h' hz hTI hTO hg1 hg2 hsz hk => wpAny_pyIter_zip hz ?_
  have I2 : Inv X pins σ H1 { s1 with heap := h' } := I1.kept (t' := s1.toks) hk
  have nl1 : ∀ k, s1.heap.objs.size + k ∉ src1 := fun k hm => absurd (hl1 _ hm) (Nat.not_lt.mpr (Nat.le_add_right s1.heap.objs.size k))
  have nl2 : ∀ k, s1.heap.objs.size + k ∉ src2 := fun k hm => absurd (hl2 _ hm) (Nat.not_lt.mpr (Nat.le_add_right s1.heap.objs.size k))
  generalize hN : s1.heap.objs.size = N at *
  have ne : ∀ {i j : Nat}, i ≠ j → (N + i : Addr) ≠ (N + j : Addr) := fun h z => h (Nat.add_left_cancel z)
  have Sp : ZipSep2 (N + 4 : Addr) (N + 2 : Addr) (N + 3 : Addr) (N : Addr) (N + 1 : Addr) (N :: src1) ((N + 1) :: src2) := by
    refine ⟨ne (by decide), ne (by decide), ne (by decide), ne (i := 2) (j := 0) (by decide), by simp, ?_, ?_, ne (by decide), by simp, ?_, ?_, ?_, ?_⟩
    · simp only [List.mem_cons, not_or]; exact ⟨ne (i := 4) (j := 0) (by decide), nl1 4⟩
    · simp only [List.mem_cons, not_or]; exact ⟨ne (i := 3) (j := 0) (by decide), nl1 3⟩
    · simp only [List.mem_cons, not_or]; exact ⟨ne (by decide), nl2 4⟩
    · simp only [List.mem_cons, not_or]; exact ⟨ne (by decide), nl2 3⟩
    · simp only [List.mem_cons, not_or]; exact ⟨ne (i := 0) (j := 1) (by decide), nl2 0⟩
    · simp only [List.mem_cons, not_or]; exact ⟨ne (i := 1) (j := 0) (by decide), nl1 1⟩
  refine ⟨N + 4, [N + 4, N + 2, N + 3, N, N + 1], _, _, H1, rfl, I2, turn_zipD S1 S2 Sp (nl1 0) (nl2 1), ⟨Nat.zero_le _, hz, hTI, ⟨_, _, hTO⟩, S1.st0 _ _ hg1, S2.st0 _ _ hg2⟩, fun b hb => ?_, q⟩
  have e' : b = N + 4 ∨ b = N + 2 ∨ b = N + 3 ∨ b = N ∨ b = N + 1 := by simpa using hb
  have hle : s1.heap.objs.size ≤ b := by
    rw [hN]
    rcases e' with z | z | z | z | z
    · rw [z]; exact Nat.le_add_right _ _
    · rw [z]; exact Nat.le_add_right _ _
    · rw [z]; exact Nat.le_add_right _ _
    · rw [z]; exact Nat.le_refl _
    · rw [z]; exact Nat.le_add_right _ _
  exact I1.fpOk hle (I1.hok.fresh hle)

/-- on data -/
def pairL : List D → List D → List D
  | x :: xs, y :: ys => .tup [x, y] :: pairL xs ys
  | _, _ => []
theorem pairL_get : ∀ (xs ys : List D) (i : Nat) x y, xs[i]? = some x → ys[i]? = some y → (pairL xs ys)[i]? = some (.tup [x, y])
  | [], _, i, x, y, h, _ => by simp at h
  | _ :: _, [], i, x, y, _, h => by simp at h
  | a :: xs, b :: ys, 0, x, y, h1, h2 => by simp at h1 h2; subst h1 h2; rfl
  | a :: xs, b :: ys, i + 1, x, y, h1, h2 => by
    simp only [pairL, List.getElem?_cons_succ] at h1 h2 ⊢
    exact pairL_get xs ys i x y h1 h2
theorem pairL_length : ∀ (xs ys : List D), (pairL xs ys).length = min xs.length ys.length
  | [], _ => by simp [pairL]
  | _ :: _, [] => by simp [pairL]
  | a :: xs, b :: ys => by
    have := pairL_length xs ys
    simp only [pairL, List.length_cons]
    omega
def items0 : D → Option (List D)
  | .dct _ => none
  | d => items d
theorem src_rep {K : PySem.W.Frag} {c : Ct} {F : Hp} {μ : List Addr} {σ : L2.St} {H : Hp} {s : Sto} {d : D} {ds : List D} {v : V} (R : Rel K c F μ σ H s) (r : Rep K F μ d v) (h : items0 d = some ds) :
    ∃ xs G, srcOf K v xs G ∧ G H ∧ Reps K F μ ds xs ∧ ∀ H', Same F H' → G H' := by
  cases d <;> simp only [items0, items] at h <;> try (cases h; done)
  · cases h
    rename_i t
    rw [r.str_inv]
    refine ⟨_, _, .inr (.inr ⟨_, rfl, rfl, rfl⟩), trivial, ?_, fun _ _ => trivial⟩
    have : ∀ t : List Nat, Reps K F μ (t.map fun c => .str [c]) (t.map fun c => V.str ⟨#[c]⟩) := fun t => by
      induction t with
      | nil => exact .nil
      | cons c t ih => exact .cons (.str [c]) ih
    simpa using this t
  · cases h
    cases r with
    | lst h r => exact ⟨_, _, .inl ⟨_, rfl, rfl⟩, SqL.of (R.sub _ _ h), r, fun H' m => SqL.of (m _ _ h)⟩
  · cases h
    cases r with
    | tup h r => exact ⟨_, _, .inr (.inl ⟨_, rfl, rfl⟩), Same.sqT R.sub h, r, fun H' m => Same.sqT m h⟩
  · cases h
    cases r with
    | scr h => exact ⟨_, _, .inl ⟨_, rfl, rfl⟩, R.sub.seq h, reps_ints _, fun H' m => m.seq h⟩
theorem serve_pair {K : PySem.W.Frag} {F : Hp} {μ : List Addr} {G : Hp → Prop} {n : Nat} {f g : Nat → Option V} {ds es : List D} (hG : ∀ H, Same F H → G H) (hn : (pairL ds es).length = n)
    (hf : ∀ (i : Nat) x, i < n → f i = some x → ∃ d, ds[i]? = some d ∧ Rep K F μ d x) (hg : ∀ (i : Nat) x, i < n → g i = some x → ∃ d, es[i]? = some d ∧ Rep K F μ d x) : Serve K F μ (ItP G n f g) (pairL ds es) where
  go := fun i H hi m => ⟨by omega, hG H m⟩
  stop := fun i H hi m => ⟨by omega, hG H m⟩
  yld := fun i H x H' hi m y => by
    obtain ⟨T, x1, x2, rfl, hT, rfl, e1, e2⟩ := y
    obtain ⟨d1, h1, r1⟩ := hf i x1 (by omega) e1
    obtain ⟨d2, h2, r2⟩ := hg i x2 (by omega) e2
    exact .inr ⟨T, _, _, hT, rfl, rfl, pairL_get _ _ _ _ _ h1 h2, .cons r1 (.cons r2 .nil)⟩
def countL (n : Nat) : List D := (List.range n).map fun i => D.int (i : Nat)
def dEnum : List D → Option (List D)
  | [d] => (items0 d).map fun ds => pairL (countL ds.length) ds
  | _ => none
def dZip : List D → Option (List D)
  | [d, e] => (items0 d).bind fun ds => (items0 e).map fun es => pairL ds es
  | _ => none
def eArg (op : List D → Option (List D)) (g : Ev (List D)) : Ev (List D) := bnd g fun d => lft (op d)
theorem di_enum {g : Ev (List D)} {pp tpos : Pos} {elts : List Expr} {kk : Nat} (hg : Gl X "enumerate") (hm : X.mg "enumerate" = none) (ha : DA cls X [e] g) (hs : starEach [e] X.env = [(false, eval e X.env)] := by rfl) :
    DI cls X (.Tuple elts kk tpos) (.Call (.Name "enumerate" pp) [e] [] pos) (eArg dEnum g) := by
  refine impI (pi_enumD hg hm ha hs) fun σ H R ⟨c, F, μ, s, hc, Rl, ds, s', e, k⟩ => ?_
  obtain ⟨d, s1, e1, f1⟩ := bnd_some e
  obtain ⟨e2, w2⟩ := lft_some f1
  subst w2
  refine ⟨c, F, μ, s, hc, Rl, d, s', e1, fun vs H1 F1 μ1 R1 m1 r1 => ?_⟩
  match d, e2, r1 with
  | [d], e2, r1 =>
    simp only [dEnum, Option.map_eq_some_iff] at e2
    obtain ⟨es, e3, rfl⟩ := e2
    cases r1 with
    | cons ra rr =>
      cases rr
      obtain ⟨xs, G, h1, h2, h3, h4⟩ := src_rep R1 ra e3
      refine ⟨_, xs, G, rfl, h1, h2, k _ _ _ _ R1 m1 (serve_pair h4 ?_ (fun i x hi hx => ?_) fun i x hi hx => ?_)⟩
      · rw [pairL_length, ← h3.length]; simp [countL]
      · cases hx
        refine ⟨.int (i : Nat), ?_, .int _⟩
        unfold countL
        rw [List.getElem?_map, List.getElem?_range (by rw [h3.length]; exact hi)]
        rfl
      · exact h3.get' hx
theorem di_zip {g : Ev (List D)} {pp tpos : Pos} {elts : List Expr} {kk : Nat} (hg : Gl X "zip") (hm : X.mg "zip" = none) (ha : DA cls X [e, e2] g) (hs : starEach [e, e2] X.env = (false, eval e X.env) :: starEach [e2] X.env := by rfl)
    (hpl : (backTo pos (starEach [e2] X.env)).any (·.1) = false := by rfl) : DI cls X (.Tuple elts kk tpos) (.Call (.Name "zip" pp) [e, e2] [] pos) (eArg dZip g) := by
  refine impI (pi_zipD hg hm ha hs hpl) fun σ H R ⟨c, F, μ, s, hc, Rl, ds, s', e, k⟩ => ?_
  obtain ⟨d, s1, e1, f1⟩ := bnd_some e
  obtain ⟨e2, w2⟩ := lft_some f1
  subst w2
  refine ⟨c, F, μ, s, hc, Rl, d, s', e1, fun vs H1 F1 μ1 R1 m1 r1 => ?_⟩
  match d, e2, r1 with
  | [d1, d2], e2, r1 =>
    simp only [dZip, Option.bind_eq_some_iff, Option.map_eq_some_iff] at e2
    obtain ⟨es, e3, fs, e4, rfl⟩ := e2
    cases r1 with
    | cons ra rr =>
      cases rr with
      | cons rb rq =>
        cases rq
        obtain ⟨xs, G, h1, h2, h3, h4⟩ := src_rep R1 ra e3
        obtain ⟨ys, G', h1', h2', h3', h4'⟩ := src_rep R1 rb e4
        refine ⟨_, _, xs, ys, G, G', rfl, h1, h1', h2, h2', k _ _ _ _ R1 m1 (serve_pair (fun H m => ⟨h4 H m, h4' H m⟩) ?_ (fun i x hi hx => ?_) fun i x hi hx => ?_)⟩
        · rw [pairL_length, ← h3.length, ← h3'.length]
        · exact h3.get' hx
        · exact h3'.get' hx
end
end DL

set_option Elab.async false
set_option linter.all false
set_option maxRecDepth 100000
namespace DL
open PySem PySem.Spec PyProof.Rows L2

/-! ### x[::-1] -/
theorem fmc {α β : Type} {f g : α → Option β} : {l : List α} → (∀ x ∈ l, f x = g x) → l.filterMap f = l.filterMap g
  | [], _ => rfl
  | x :: xs, h => by
    rw [List.filterMap_cons, List.filterMap_cons, h x (by simp), fmc fun y hy => h y (by simp [hy])]
section
variable {prog : Program} {w : World} {A : Around} {E : Value → Shared → Prop} {s : Shared}
theorem rev_codes (x : Str) (t : Tok) : (slicePicked x none none (some (-1, t))).filterMap (x.cps[·]?) = x.cps.toList.reverse := by
  have e : slicePicked x none none (some (-1, t)) = sliceRange ((x.cps.size : Int) - 1) (-1) (-1) := rfl
  rw [e, PySem.W.krv_sliceRange, PySem.W.krv_range, List.filterMap_reverse, PySem.W.krv_all]
theorem getItem_str_rev {x : Str} {t tk : Tok} {a : Addr} {Q : Value → Shared → Prop} (hs : s.heap.IsSlice a none none (some (-1, tk))) (hz : x.length ≤ sizeLine)
    (h : Q (.str ⟨x.cps.toList.reverse.toArray⟩ s.toks) { s with toks := s.toks + 1 }) : wpAny (model prog w) A (getItem (.str x t) (.ref a)) Q E s := by
  refine wpAny_getItem_str_slice hs (by rfl) ?_
  unfold sliceMade
  rw [if_neg (by simp), rev_codes]
  exact ⟨by simpa [Str.length] using hz, h⟩
theorem getItem_tup_rev {t sl : Addr} {items : Array Value} {vs : Value} {Q : Value → Shared → Prop} (ht : IsTup s.heap t items) (hs : s.heap.IsSliceOf sl .none .none vs) (pv : IsPart vs (some (-1)))
    (h : Q (.ref s.heap.objs.size) { s with heap := s.heap.push { cls := .type "tuple", data := .seq items.toList.reverse.toArray } }) (hsz : items.size ≤ sizeLine) : wpAny (model prog w) A (getItem (.ref t) (.ref sl)) Q E s := by
  obtain ⟨os, hos, hcs, hds⟩ := id hs
  have hTs : s.TypeIs (.ref sl) "slice" := ⟨os, hos, hcs⟩
  have htake : sizeOk (.seq items.toList.reverse.toArray) := by
    show items.toList.reverse.toArray.size ≤ sizeLine
    rw [List.size_toArray, List.length_reverse, Array.length_toList]
    exact hsz
  unfold getItem
  try with_reducible refine wpAny_holding ?_
  first | refine wpAny_bind (wpAny_pure ?_) | skip
  refine wpAny_bind (wpAny_sequenceKey ht.typeIs (by decide) ?_)
  refine wpAny_bind (wpAny_callSpecial?_slot (name := Str.ofString "__getitem__") ht.typeIs PyProof.Rows.slot_tuple_getitem
    (wpAny_call_entry PyProof.Rows.slot_tuple_getitem ht.typeIs entry_tuple_getitem ?_ (args_tuple_getitem _ _)))
  show wpAny _ _ (Builtin.Tuple.tupleItemsOf (.ref t) >>= _) _ _ s
  refine wpAny_bind (tupleItemsOf_ ht ?_)
  refine wpAny_bind (wpAny_typeOf hTs ?_)
  rw [if_pos (by decide)]
  have app : ∀ {A' : Around} {Q' : Int × Int × Nat → Shared → Prop}, Q' ((items.size : Int) - 1, -1, items.size) s → wpAny (model prog w) A' (Builtin.Slice.sliceApplied (.ref sl) (pure (items.size : Int))) Q' E s := fun {A' Q'} q => by
    unfold Builtin.Slice.sliceApplied Builtin.Slice.sliceFields
    refine wpAny_bind (wpAny_bind (wpAny_field hos hds (x := .none) rfl (wpAny_bind (wpAny_field hos hds (x := .none) rfl (wpAny_bind (wpAny_field hos hds (x := vs) rfl (wpAny_pure ?_)))))))
    refine wpAny_bind (HT.slicePart_ pv ?_)
    show wpAny _ _ (if ((-1 : Int) == 0) = true then _ else _) _ _ s
    rw [if_neg (by decide)]
    refine wpAny_bind (HT.slicePart_ .none (wpAny_bind (HT.slicePart_ .none (wpAny_bind (wpAny_pure ?_)))))
    have e1 : Builtin.Slice.sliceAdjust none none (-1) (items.size : Int) = ((items.size : Int) - 1, -1) := by
      unfold Builtin.Slice.sliceAdjust
      rfl
    have e2 : Builtin.Slice.slicePlaces ((items.size : Int) - 1) (-1) (-1) = items.size := by
      unfold Builtin.Slice.slicePlaces
      simp only [show ¬ ((-1 : Int) > 0) by decide, if_false]
      by_cases hz : items.size = 0
      · rw [hz]; simp
      · have : ((items.size : Int) - 1) > -1 := by omega
        simp only [show (- -1 : Int) = 1 by decide, Int.ediv_one]
        split <;> omega
    show wpAny _ _ (match Builtin.Slice.sliceAdjust none none (-1) (items.size : Int) with | (lo, hi) => pure (lo, (-1 : Int), Builtin.Slice.slicePlaces lo hi (-1))) _ _ s
    rw [e1]
    show wpAny _ _ (pure ((items.size : Int) - 1, (-1 : Int), Builtin.Slice.slicePlaces ((items.size : Int) - 1) (-1) (-1))) _ _ s
    rw [e2]
    exact wpAny_pure q
  refine wpAny_bind (app ?_)
  have epick : ((List.range items.size).filterMap fun (m : Nat) => items[((items.size : Int) - 1 + (m : Int) * -1).toNat]?).toArray = items.toList.reverse.toArray := by
    congr 1
    rw [← PySem.W.krv_all items, ← List.filterMap_reverse, ← PySem.W.krv_range, List.filterMap_map]
    apply fmc
    intro m hm
    have := List.mem_range.mp hm
    have e : ((items.size : Int) - 1 + (m : Int) * -1).toNat = items.size - 1 - m := by omega
    rw [e]; rfl
  show wpAny _ _ (if (((items.size : Int) - 1) == 0 && (-1 : Int) == 1 && items.size == items.size) = true then _ else _) _ _ s
  rw [if_neg (by simp), epick]
  first
    | exact wpAny_bind (m := Builtin.Tuple.tupleExact _) (wpAny_newObj_type (wpAny_pure ⟨_, rfl, wpAny_pure h⟩) htake)
    | exact wpAny_bind (m := Builtin.Tuple.tupleExact _) (wpAny_newObj_type (wpAny_bind (wpAny_pure (wpAny_pure ⟨_, rfl, wpAny_pure h⟩))) htake)
    | exact wpAny_bind (wpAny_bind (m := Builtin.Tuple.tupleExact _) (wpAny_newObj_type (wpAny_pure (wpAny_pure ⟨_, rfl, wpAny_pure h⟩)) htake))
    | exact wpAny_bind (wpAny_bind (m := Builtin.Tuple.tupleExact _) (wpAny_newObj_type (wpAny_pure ⟨_, rfl, wpAny_pure h⟩) htake))
end
section
variable {cls : Nat → Addr} {X : Cx} {e : Expr} {f : Ev D} {pos : Pos}
def tRevX (K : PySem.W.Frag) (te : TE) : TE := fun σ H Q => te σ H fun x H1 => (∃ z, x = .str z ∧ z.length ≤ sizeLine ∧ Q (.str ⟨z.cps.toList.reverse.toArray⟩) H1) ∨ ∃ a xs, x = .ref a ∧ SqT K H1 a xs ∧ ∀ p, H1 p = none → Q (.ref p) (upd H1 p (.tup xs.reverse))
theorem pe_revX {te : TE} {k : Nat} {p1 p2 p3 : Pos} (he : PE X e te) : PE X (.Subscript e (.Slice none none (some (.UnaryOp .USub (.Constant (.int 1) k p1) p2)) p3) pos) (tRevX X.K te) := by
  refine ⟨fun pins s σ H Q I h => ?_⟩
  refine Subscript_ (thn (he.run pins s σ H _ I h) fun v s1 ⟨x, H1, I1, r1, q1⟩ => ?_)
  have hst : PO X (some (.UnaryOp .USub (.Constant (.int 1) k p1) p2)) (tPart (tUn (rU fun i => .int (-i)) (tC (.int 1)))) := po_some (pe_un un_neg pe_int)
  refine wpAny_Slice (thn (po_none.run pins s1 σ H1 (fun o H2 => o = none ∧ H2 = H1) I1 ⟨rfl, rfl⟩) fun vl s2 ⟨l, H2, I2, pl, el, e2⟩ => ?_)
  subst el e2
  refine thn (po_none.run pins s2 σ H2 (fun o H3 => o = none ∧ H3 = H2) I2 ⟨rfl, rfl⟩) fun vu s3 ⟨u, H3, I3, pu, eu, e3⟩ => ?_
  subst eu e3
  refine thn (hst.run pins s3 σ H3 (fun o H4 => o = some (-1) ∧ H4 = H3) I3 ⟨1, rfl, -1, rfl, rfl, rfl⟩) fun vs s4 ⟨o, H4, I4, ps, eo, e4⟩ => ?_
  subst eo e4
  have I5 : Inv X pins σ H4 { s4 with heap := s4.heap.push { cls := .type "slice", data := .fields #[vl, vu, vs] } } := I4.kept (t' := s4.toks) fun b ob q => Heap.get?_push_of_some _ q
  cases pl
  cases pu
  cases ps with
  | int _ tk =>
    rcases q1 with ⟨z, ex, hz, q⟩ | ⟨a, xs, ex, hx, q⟩
    · subst ex
      obtain ⟨tt, rfl⟩ := r1
      show wpAny (model X.prog X.w) X.A (subscriptTail e (.Slice none none (some (.UnaryOp .USub (.Constant (.int 1) k p1) p2)) p3) (.str z tt) (.ref s4.heap.objs.size)) (EP X pins σ Q) X.xe { s4 with heap := s4.heap.push { cls := .type "slice", data := .fields #[.none, .none, .int (-1) tk] } }
      refine tail_any (ops := [.str z tt, .ref s4.heap.objs.size]) (typeIs_str _ z tt) PySem.F.slot_str_getitem.lookup ?_ (by with_unfolding_all rfl)
      refine getItem_str_rev (tk := tk) ⟨_, Heap.get?_push_size _ rfl, rfl, rfl⟩ hz ?_
      exact ⟨.str _, H4, I5.tok _, ⟨_, rfl⟩, q⟩
    · subst ex
      cases r1
      obtain ⟨its, r, ht, hz⟩ := I5.tuple hx
      have hlen := r.length
      show wpAny (model X.prog X.w) X.A (subscriptTail e (.Slice none none (some (.UnaryOp .USub (.Constant (.int 1) k p1) p2)) p3) (.ref a) (.ref s4.heap.objs.size)) (EP X pins σ Q) X.xe { s4 with heap := s4.heap.push { cls := .type "slice", data := .fields #[.none, .none, .int (-1) tk] } }
      refine tail_any (ops := [.ref a, .ref s4.heap.objs.size]) ht.typeIs PyProof.Rows.slot_tuple_getitem.lookup ?_ (by with_unfolding_all rfl)
      refine getItem_tup_rev ht (Heap.IsSliceOf.new _ _ _ _) (.int _ tk) ?_ (by rw [List.size_toArray]; omega)
      refine ⟨.ref _, _, I5.laid (t' := s4.toks) (o := .tup xs.reverse) (fun b ob q => Heap.get?_push_of_some _ q) (Nat.le_refl _) ?_, rfl, q _ (I5.hok.fresh (Nat.le_refl _))⟩
      exact ⟨by rw [List.length_reverse]; exact hz, _, r.reverse, IsTup.new _ _⟩
def dRev : D → Option D
  | .str s => if s.length ≤ LIM then some (.str s.reverse) else none
  | .tup xs => some (.tup xs.reverse)
  | .lst xs => some (.lst xs.reverse)
  | _ => none
theorem de_rev {k : Nat} {p1 p2 p3 : Pos} (he : DE cls X e f) : DE cls X (.Subscript e (.Slice none none (some (.UnaryOp .USub (.Constant (.int 1) k p1) p2)) p3) pos) (eUn dRev f) := by
  refine imp (PE.or (pe_revL he) (pe_revX he)) fun σ H Q ⟨c, F, μ, s, hc, R, z, s', e, kk⟩ => ?_
  obtain ⟨x, s1, e1, f1⟩ := bnd_some e
  obtain ⟨e2, w2⟩ := lft_some f1
  subst w2
  cases x <;> simp only [dRev] at e2 <;> try (cases e2; done)
  · split at e2
    · rename_i hl
      cases e2
      refine .inr ⟨c, F, μ, s, hc, R, _, s', e1, fun v H1 F1 μ1 R1 m1 r1 => .inl ⟨_, r1.str_inv, by rw [mkS_len]; exact lim_le hl, ?_⟩⟩
      exact kk _ _ _ _ R1 m1 (by simpa using Rep.str _)
    · cases e2
  · cases e2
    refine .inl ⟨c, F, μ, s, hc, R, _, s', e1, fun v H1 F1 μ1 R1 m1 r1 => ?_⟩
    cases r1 with
    | lst h r => exact ⟨_, _, rfl, SqL.of (R1.sub _ _ h), newLst R1 r.reverse fun v H' F' μ' R' m' r' => kk v H' F' μ' R' (m1.trans m') r'⟩
  · cases e2
    refine .inr ⟨c, F, μ, s, hc, R, _, s', e1, fun v H1 F1 μ1 R1 m1 r1 => .inr ?_⟩
    cases r1 with
    | tup h r => exact ⟨_, _, rfl, Same.sqT R1.sub h, newTup R1 r.reverse fun v H' F' μ' R' m' r' => kk v H' F' μ' R' (m1.trans m') r'⟩
end
end DL

set_option Elab.async false
set_option linter.all false
set_option maxRecDepth 100000
namespace DL
open PySem PySem.Spec PyProof.Rows L2

section
variable {cls : Nat → Addr} {X : Cx} {a b e : Expr} {f g : Ev D} {pos : Pos}
/-! ### in place -/
theorem iop_ii {fo : Value → Value → Sem Value} {C : Int → Int → Prop} {g : Int → Int → Int} {c : Int → Int → Bool} (hr : OpR X fo (rI C fun i j => .int (g i j))) (hc : ∀ i j, c i j = true → C i j) :
    OpD X fo (fun d e => match d, e with | .int i, .int j => guard' (c i j) (.int (g i j)) | _, _ => none) :=
  (oh_ii hr hc fun d e z h => by
    cases d <;> cases e <;> try (cases h; done)
    obtain ⟨h1, rfl⟩ := guard_some h
    exact ⟨_, _, rfl, rfl, h1, rfl⟩).d
def dAddI : D → D → Option D
  | .int a, .int b => some (.int (a + b))
  | .str a, .str b => guard' (decide (a.length + b.length ≤ LIM)) (.str (a ++ b))
  | _, _ => none
theorem oi_add : OpD X (inplaceOp .Add) dAddI := OpH.d (by
  refine ⟨_, iop_add.or iop_add_str, ?_⟩
  intro c F μ σ H s x y d e z Q R r1 r2 h k
  cases d <;> cases e <;> try (cases h; done)
  case int.int a b =>
    cases h
    rw [r1.int_inv, r2.int_inv]
    exact .inl ⟨a, b, rfl, rfl, atom R (.int _) k⟩
  case str.str a b =>
    simp only [dAddI] at h
    obtain ⟨hn, rfl⟩ := guard_some h
    rw [r1.str_inv, r2.str_inv]
    refine .inr ⟨_, _, rfl, rfl, ?_, ?_⟩
    · rw [mkS_len, mkS_len]; exact lim_le (of_decide_eq_true hn)
    · rw [mkS_app]; exact atom R (.str _) k)
def dSubI : D → D → Option D
  | .int i, .int j => guard' ((fun _ _ => true : Int → Int → Bool) i j) (.int (i - j))
  | _, _ => none
theorem oi_sub : OpD X (inplaceOp .Sub) dSubI := by
  have := iop_ii (X := X) (fo := inplaceOp .Sub) (C := fun _ _ => True) (g := fun i j => i - j) (c := fun _ _ => true) (by
    intro pins s σ H x y v u Q I rx ry ⟨i, j, e1, e2, _, q⟩
    exact iop_sub pins s σ H x y v u Q I rx ry ⟨i, j, e1, e2, q⟩) fun _ _ _ => trivial
  have e : dSubI = (fun d e => match d, e with | .int i, .int j => guard' ((fun _ _ => true : Int → Int → Bool) i j) (.int (i - j)) | _, _ => none) := by
    funext d e; cases d <;> cases e <;> rfl
  rw [e]; exact this
def dMulI : D → D → Option D
  | .int i, .int j => guard' ((fun i j => decide (i.natAbs < 2 ^ 64) || decide (j.natAbs < 2 ^ 64) : Int → Int → Bool) i j) (.int (i * j))
  | _, _ => none
theorem oi_mul : OpD X (inplaceOp .Mult) dMulI := by
  have := iop_ii (X := X) (fo := inplaceOp .Mult) (C := CMul) (g := fun i j => i * j) (c := fun i j => decide (i.natAbs < 2 ^ 64) || decide (j.natAbs < 2 ^ 64)) iop_mul fun i j h => by
    simp only [Bool.or_eq_true, decide_eq_true_eq] at h
    unfold CMul
    omega
  have e : dMulI = (fun d e => match d, e with | .int i, .int j => guard' ((fun i j => decide (i.natAbs < 2 ^ 64) || decide (j.natAbs < 2 ^ 64) : Int → Int → Bool) i j) (.int (i * j)) | _, _ => none) := by
    funext d e; cases d <;> cases e <;> rfl
  rw [e]; exact this
def dDivI : D → D → Option D
  | .int i, .int j => guard' ((fun _ j => decide (0 < j) && decide (j.natAbs.log2 < 9000) : Int → Int → Bool) i j) (.int (i / j))
  | _, _ => none
theorem oi_div : OpD X (inplaceOp .FloorDiv) dDivI := by
  have := iop_ii (X := X) (fo := inplaceOp .FloorDiv) (C := CDivW) (g := fun i j => i / j) (c := fun _ j => decide (0 < j) && decide (j.natAbs.log2 < 9000)) iop_fdivW fun i j h => by
    simp only [Bool.and_eq_true, decide_eq_true_eq] at h; exact h
  have e : dDivI = (fun d e => match d, e with | .int i, .int j => guard' ((fun _ j => decide (0 < j) && decide (j.natAbs.log2 < 9000) : Int → Int → Bool) i j) (.int (i / j)) | _, _ => none) := by
    funext d e; cases d <;> cases e <;> rfl
  rw [e]; exact this

/-! ### in -/
def uniA : D → Bool
  | .non => true | .bl _ => true | .int _ => true | .str _ => true | _ => false
theorem uni_flat {K : PySem.W.Frag} {F : Hp} {μ : List Addr} {d : D} {v : V} (h : uniA d = true) (r : Rep K F μ d v) : flatV v = true := by
  cases r <;> first | rfl | cases h
theorem eqV_eqv {K : PySem.W.Frag} {F G : Hp} {μ ν : List Addr} {d e : D} {v w : V} (h1 : uniA d = true) (h2 : uniA e = true) (r : Rep K F μ d v) (q : Rep K G ν e w) : eqV v w = eqv d e := by
  cases r <;> first | (cases h1; done) | skip
  all_goals cases q <;> first | (cases h2; done) | skip
  all_goals first | rfl | exact mkS_eq _ _
theorem inV_eqv {K : PySem.W.Frag} {F G : Hp} {μ ν : List Addr} {e : D} {w : V} (h2 : uniA e = true) (q : Rep K G ν e w) : ∀ {ds : List D} {vs : List V}, ds.all uniA = true → Reps K F μ ds vs → inV w vs = ds.any fun z => eqv z e
  | _, _, _, .nil => rfl
  | _, _, h, .cons r rs => by
    rw [List.all_cons, Bool.and_eq_true] at h
    have ih := inV_eqv h2 q h.2 rs
    unfold inV at ih ⊢
    rw [List.any_cons, List.any_cons, ih, eqV_eqv h.1 h2 r q]
theorem flats_V {K : PySem.W.Frag} {F : Hp} {μ : List Addr} : ∀ {ds : List D} {vs : List V}, ds.all uniA = true → Reps K F μ ds vs → vs.all flatV = true
  | _, _, _, .nil => rfl
  | _, _, h, .cons r rs => by
    rw [List.all_cons, Bool.and_eq_true] at h
    rw [List.all_cons, Bool.and_eq_true]
    exact ⟨uni_flat h.1 r, flats_V h.2 rs⟩
theorem RepH.uni {K : PySem.W.Frag} {F H : Hp} {μ : List Addr} {d : D} {v : V} (h : uniA d = true) (r : RepH K F μ H d v) : Rep K F μ d v := by
  cases d <;> first | (cases h; done) | skip
  · rw [r.non_inv]; exact .non
  · rw [r.bl_inv]; exact .bl _
  · rw [r.int_inv]; exact .int _
  · rw [r.str_inv]; exact .str _
def inD (neg : Bool) : D → D → Option D
  | .str [c], .str z => some (.bl (neg ^^ decide (c ∈ z)))
  | d, .tup z => guard' (uniA d && z.all uniA) (.bl (neg ^^ z.any fun y => eqv y d))
  | d, .lst z => guard' ((uniA d && z.all uniA) || (flat 8 d && flat 8 (.lst z))) (.bl (neg ^^ z.any fun y => eqv y d))
  | _, _ => none
theorem toPys_any (d : D) : ∀ z : List D, (toPys z).any (fun y => PyData.eqv y (toPy d)) = z.any fun y => eqv y d
  | [] => rfl
  | y :: z => by
    show ((toPy y :: toPys z).any _) = _
    rw [List.any_cons, List.any_cons, toPys_any d z, toPy_eqv]
theorem in_ok {neg : Bool} {c : Ct} {F : Hp} {μ : List Addr} {σ : L2.St} {H : Hp} {s : Sto} {x y : V} {d e z : D} {Q : VK} (R : Rel X.K c F μ σ H s) (r1 : RepH X.K F μ H d x) (r2 : RepH X.K F μ H e y) (h : inD neg d e = some z)
    (k : ∀ v H' F' μ', Rel X.K c F' μ' σ H' s → Mono F μ F' μ' → Rep X.K F' μ' z v → Q v H') :
    (∃ (c : Nat) (z : Str), x = .str ⟨#[c]⟩ ∧ y = .str z ∧ Q (.bl (neg ^^ decide (c ∈ z.cps.toList))) H) ∨
    (∃ p xs, y = .ref p ∧ (SqL X.K H p xs ∨ SqT X.K H p xs) ∧ flatV x = true ∧ xs.all flatV = true ∧ Q (.bl (neg ^^ inV x xs)) H) ∨
    (∃ d ds, Dp X.K H x d ∧ Dp X.K H y (.list ds) ∧ SeqAt.shaped d = true ∧ SeqAt.shaped (.list ds) = true ∧ Q (.bl (neg ^^ ds.any fun z => PyData.eqv z d)) H) := by
  unfold inD at h
  split at h
  · cases h
    rw [r1.str_inv, r2.str_inv]
    exact .inl ⟨_, _, rfl, rfl, by simpa [mkS] using atom R (.bl _) k⟩
  · obtain ⟨h1, rfl⟩ := guard_some h
    simp only [Bool.and_eq_true] at h1
    obtain ⟨p, vs, rfl, e1, q1⟩ := r2.tup_inv R.sub
    refine .inr (.inl ⟨p, vs, rfl, .inr e1, uni_flat h1.1 (r1.uni h1.1), flats_V h1.2 q1, ?_⟩)
    rw [inV_eqv h1.1 (r1.uni h1.1) h1.2 q1]
    exact atom R (.bl _) k
  · obtain ⟨h1, rfl⟩ := guard_some h
    rcases Bool.or_eq_true_iff.mp h1 with h1 | h1
    · simp only [Bool.and_eq_true] at h1
      obtain ⟨p, vs, rfl, e1, q1⟩ := r2.lst_inv R.sub
      refine .inr (.inl ⟨p, vs, rfl, .inl (.of e1), uni_flat h1.1 (r1.uni h1.1), flats_V h1.2 q1, ?_⟩)
      rw [inV_eqv h1.1 (r1.uni h1.1) h1.2 q1]
      exact atom R (.bl _) k
    · simp only [Bool.and_eq_true] at h1
      refine .inr (.inr ⟨_, _, r1.dp R.sub h1.1, r2.dp R.sub h1.2, flat_shaped h1.1, flat_shaped h1.2, ?_⟩)
      rw [toPys_any]
      exact atom R (.bl _) k
  · cases h
theorem oh_in (hu : X.A.units + 65 < cLine) : OpH X (compareOp .In) (inD false) := by
  refine ⟨_, op_in_sign.or (op_in_seq.or (op_inD hu)), ?_⟩
  intro c F μ σ H s x y d e z Q R r1 r2 h k
  rcases in_ok R r1 r2 h k with h | h | h
  · obtain ⟨c, z, e1, e2, q⟩ := h
    exact .inl ⟨c, z, e1, e2, by simpa using q⟩
  · obtain ⟨p, xs, e1, e2, e3, e4, q⟩ := h
    exact .inr (.inl ⟨p, xs, e1, e2, e3, e4, by simpa using q⟩)
  · obtain ⟨p, xs, e1, e2, e3, e4, q⟩ := h
    exact .inr (.inr ⟨p, xs, e1, e2, e3, e4, by simpa only [Bool.false_xor] using q⟩)
theorem oh_notin (hu : X.A.units + 65 < cLine) : OpH X (compareOp .NotIn) (inD true) := by
  refine ⟨_, op_notIn_sign.or (op_notIn_seq.or (op_notInD hu)), ?_⟩
  intro c F μ σ H s x y d e z Q R r1 r2 h k
  rcases in_ok R r1 r2 h k with h | h | h
  · obtain ⟨c, z, e1, e2, q⟩ := h
    exact .inl ⟨c, z, e1, e2, by simpa only [Bool.true_xor] using q⟩
  · obtain ⟨p, xs, e1, e2, e3, e4, q⟩ := h
    refine .inr (.inl ⟨p, xs, e1, e2, e3, e4, ?_⟩)
    rw [Bool.true_xor] at q
    rw [if_pos rfl]
    exact q
  · obtain ⟨p, xs, e1, e2, e3, e4, q⟩ := h
    exact .inr (.inr ⟨p, xs, e1, e2, e3, e4, by simpa only [Bool.true_xor] using q⟩)

/-! ### truth -/
def truD : D → Option Bool
  | .non => some false
  | .bl b => some b
  | .int i => some (i != 0)
  | .str s => if s.length ≤ LIM then some (!s.isEmpty) else none
  | .lst xs => some (!xs.isEmpty)
  | .tup xs => some (!xs.isEmpty)
  | _ => none
theorem tru_rep {K : PySem.W.Frag} {F H : Hp} {μ : List Addr} {d : D} {v : V} {b : Bool} (m : Same F H) (r : RepH K F μ H d v) (h : truD d = some b) : TruV K v H b := by
  cases d with
  | non => cases h; rw [r.non_inv]; rfl
  | bl b => cases h; rw [r.bl_inv]; rfl
  | int i => cases h; rw [r.int_inv]; rfl
  | str s =>
    simp only [truD] at h
    split at h
    · rename_i hl
      cases h
      rw [r.str_inv]
      refine ⟨by rw [mkS_len]; exact lim_le hl, ?_⟩
      rw [mkS_len]
      cases s with
      | nil => rfl
      | cons c t =>
        have : ((((c :: t).length : Nat) : Int) != 0) = true := by
          rw [List.length_cons, bne_iff_ne]; omega
        rw [this]; rfl
    · cases h
  | lst xs =>
    cases h
    obtain ⟨a, vs, rfl, e, q⟩ := r.lst_inv m
    exact .inl ⟨vs, .of e, by have := q.length; cases xs <;> cases vs <;> simp at this ⊢⟩
  | tup xs =>
    cases h
    obtain ⟨a, vs, rfl, e, q⟩ := r.tup_inv m
    exact .inr (.inl ⟨vs, e, by have := q.length; cases xs <;> cases vs <;> simp at this ⊢⟩)
  | dct xs => cases h
  | scr xs => cases h
  | ptr k => cases h
def eTr (f : Ev D) : Ev Bool := bnd f fun x => lft (truD x)
theorem dt_truth (he : DE cls X e f) (hi : ∀ whole, isTrue e X.env whole = (do let v ← whole; standAt e.pos; holding [v] (truthy v)) := by intro _; rfl) : DT cls X e (eTr f) := by
  refine impT (pt_truth he hi) fun σ H Q ⟨c, F, μ, s, hc, R, z, s', e, k⟩ => ?_
  obtain ⟨x, s1, e1, f1⟩ := bnd_some e
  obtain ⟨e3, w3⟩ := lft_some f1
  subst w3
  exact ⟨c, F, μ, s, hc, R, x, s', e1, fun v H' F' μ' R' m' r' => ⟨z, tru_rep R'.sub (.rep r') e3, k _ _ _ R' m'⟩⟩
def eTrL (i : Nat) : Ev Bool := bnd (eRd i) fun x => lft (truD x)
theorem dt_truthL (i : Nat) (he : PE X e (tVar i)) (hi : ∀ whole, isTrue e X.env whole = (do let v ← whole; standAt e.pos; holding [v] (truthy v)) := by intro _; rfl) : DT cls X e (eTrL i) := by
  refine impT (pt_truth he hi) fun σ H Q ⟨c, F, μ, s, hc, R, z, s', e, k⟩ => ?_
  obtain ⟨x, s1, e1, f1⟩ := bnd_some e
  obtain ⟨e3, w3⟩ := lft_some f1
  subst w3
  obtain ⟨rfl, v, ev, r⟩ := eRd_some R e1
  exact ⟨v, ev, z, tru_rep R.sub r e3, k _ _ _ R (Mono.refl _ _)⟩

/-! ### x = [... for ...] -/
theorem Rel.frz {K : PySem.W.Frag} {c : Ct} {F1 : Hp} {μ1 : List Addr} {σ : L2.St} {H1 : Hp} {ρ' : List Sl} {S' : List O} {xs : List D} {v : V} (R1 : Rel K c F1 μ1 (σ ++ [some v]) H1 (ρ' ++ [.own xs], S')) :
    ∃ F2, Rel K c F2 μ1 σ H1 (ρ', S') ∧ Mono F1 μ1 F2 μ1 ∧ Rep K F2 μ1 (.lst xs) v := by
  have hl : (ρ' ++ [Sl.own xs]).length = (σ ++ [some v]).length := R1.len
  have hl' : ρ'.length = σ.length := by simpa using hl
  have hx : (ρ' ++ [Sl.own xs])[ρ'.length]? = some (.own xs) := by rw [List.getElem?_append_right (Nat.le_refl _)]; simp
  obtain ⟨a, F2, e2, R2, m2, r2⟩ := R1.freeze hx rfl ⟨xs, rfl, rfl⟩
  rw [hl', List.getElem?_append_right (Nat.le_refl _)] at e2
  simp at e2
  subst e2
  rw [List.set_append_right _ _ (Nat.le_refl _)] at R2
  simp only [Nat.sub_self, List.set_cons_zero] at R2
  exact ⟨F2, R2.pop, m2, r2⟩
theorem ds_setLc (i : Nat) {y : Str} {py : Pos} {elt tg iter : Expr} {ifs : List Expr} {scope : Scope} {own : List (Str × Nat)} {spos : Pos} {ws : List Nat} {f : Ev (List D)} {t : D → Sto → Option Sto} {p : Ev Bool} {g : Ev D} (hc : X.calm = true) (hN : X.N.Nodup) (hy : X.N[i]? = some y) (hyl : X.env.scope.names.lookup y = some .local)
    (hsw : swapsWith (.ListComp elt [⟨tg, iter, ifs, 0⟩] scope pos) (some (.Name y py)) spos.line X.env = pure true) (hi : DI cls X tg iter f) (ok : BlkOk X.N X.env.scope scope own)
    (hg : ∀ (s : Shared) (H : Hp) (C : Addr) (cl : List (Str × Addr)) (fp : List Addr), DG cls (X.blk s H scope (compEnvC scope cl C X.env) fp) tg ws t) (ht : ∀ (s : Shared) (H : Hp) (C : Addr) (cl : List (Str × Addr)) (fp : List Addr), DTs cls (X.blk s H scope (compEnvC scope cl C X.env) fp) ifs p)
    (he : ∀ (s : Shared) (H : Hp) (C : Addr) (cl : List (Str × Addr)) (fp : List Addr), DE cls (X.blk s H scope (compEnvC scope cl C X.env) fp) elt g) (hv : ∀ i ∈ ws, i ∈ own.map (·.2)) (hs : ∀ x, foldedSetIterable iter X.env x = pure x := by intro _; rfl) :
    DS cls X (.Assign [.Name y py] (.ListComp elt [⟨tg, iter, ifs, 0⟩] scope pos) spos) (sSet i (eFz (eLc (own.map (·.2)) f t p g))) := by
  refine impS (ps_setLc (g := TDG X.K cls ws t) (tt := TDT X.K cls p) (te := TD X.K cls g) hc hN hy hyl hsw hi ok hg ht he hs) fun D σ H ⟨c, F, μ, s, hc, R, o, e, k⟩ => ?_
  obtain ⟨ρ, S⟩ := s
  unfold sSet at e
  split at e
  · rename_i d s1 e1
    cases e
    obtain ⟨x, s2, e2, f2⟩ := bnd_some e1
    cases f2
    refine run_lc hv σ H _ ⟨c, F, μ, ρ, S, hc, R, x, s1.1, s1.2, e2, fun v H' F' μ' R' m' => ?_⟩
    obtain ⟨F2, R2, m2, r2⟩ := R'.frz
    exact k _ _ _ _ (R2.setVal r2) (m'.trans m2)
  · cases e
theorem ds_ownLc (i : Nat) {y : Str} {py : Pos} {elt tg iter : Expr} {ifs : List Expr} {scope : Scope} {own : List (Str × Nat)} {spos : Pos} {ws : List Nat} {f : Ev (List D)} {t : D → Sto → Option Sto} {p : Ev Bool} {g : Ev D} (hc : X.calm = true) (hN : X.N.Nodup) (hy : X.N[i]? = some y) (hyl : X.env.scope.names.lookup y = some .local)
    (hsw : swapsWith (.ListComp elt [⟨tg, iter, ifs, 0⟩] scope pos) (some (.Name y py)) spos.line X.env = pure true) (hi : DI cls X tg iter f) (ok : BlkOk X.N X.env.scope scope own)
    (hg : ∀ (s : Shared) (H : Hp) (C : Addr) (cl : List (Str × Addr)) (fp : List Addr), DG cls (X.blk s H scope (compEnvC scope cl C X.env) fp) tg ws t) (ht : ∀ (s : Shared) (H : Hp) (C : Addr) (cl : List (Str × Addr)) (fp : List Addr), DTs cls (X.blk s H scope (compEnvC scope cl C X.env) fp) ifs p)
    (he : ∀ (s : Shared) (H : Hp) (C : Addr) (cl : List (Str × Addr)) (fp : List Addr), DE cls (X.blk s H scope (compEnvC scope cl C X.env) fp) elt g) (hv : ∀ i ∈ ws, i ∈ own.map (·.2)) (hs : ∀ x, foldedSetIterable iter X.env x = pure x := by intro _; rfl) :
    DS cls X (.Assign [.Name y py] (.ListComp elt [⟨tg, iter, ifs, 0⟩] scope pos) spos) (sOwn i (eLc (own.map (·.2)) f t p g)) := by
  refine impS (ps_setLc (g := TDG X.K cls ws t) (tt := TDT X.K cls p) (te := TD X.K cls g) hc hN hy hyl hsw hi ok hg ht he hs) fun D σ H ⟨c, F, μ, s, hc, R, o, e, k⟩ => ?_
  obtain ⟨ρ, S⟩ := s
  unfold sOwn at e
  split at e
  · rename_i d s1 e1
    cases e
    exact run_lc hv σ H _ ⟨c, F, μ, ρ, S, hc, R, d, s1.1, s1.2, e1, fun v H' F' μ' R' m' => k _ _ _ _ R'.move m'⟩
  · cases e
end
end DL

set_option Elab.async false
set_option linter.all false
set_option maxRecDepth 100000
namespace DL
open PySem PySem.Spec PyProof.Rows L2

/-! ### defs by name -/
structure Cal (P : Program) (w : World) (K : PySem.W.Frag) (mg : Str → Option Value) (base : Heap) (cls : Nat → Addr) (k : Nat) (x : Str) (n : Nat) (F : Fn) : Prop where
  ex : ∃ (fa : Addr) (fd : FuncData) (ps : List Str), FnOk P w K mg base CX0 k fa fd ps (spF K cls n F) ∧ mg x = some (.ref fa) ∧ PySem.W.keepIn K (.ref fa) = true ∧ Binds K fd ps []
/-- where a def stands -/
structure At (K : PySem.W.Frag) (mg : Str → Option Value) (x qual : Str) (st : Stmt) (ps : List Str) : Prop where
  ex : ∃ (fa : Addr) (fd : FuncData), Fun K x qual st fa fd ∧ mg x = some (.ref fa) ∧ Binds K fd ps []
theorem Cal.of {P : Program} {w : World} {K : PySem.W.Frag} {mg : Str → Option Value} {base : Heap} {cls : Nat → Addr} {k : Nat} {x qual : Str} {st : Stmt} {ps : List Str} {n : Nat} {F : Fn} (a : At K mg x qual st ps)
    (h : ∀ fa fd, Fun K x qual st fa fd → FnOk P w K mg base CX0 k fa fd ps (spF K cls n F)) : Cal P w K mg base cls k x n F := by
  obtain ⟨fa, fd, F1, e, b⟩ := a.ex
  exact ⟨fa, fd, ps, h fa fd F1, e, F1.kp, b⟩
section
variable {cls : Nat → Addr} {X : Cx} {a b c e : Expr} {f g h : Ev D} {p : Ev Bool} {pos : Pos} {es : List Expr}
theorem de_cal {x : Str} {pp : Pos} {g : Ev (List D)} {n : Nat} {F : Fn} {k : Nat} (G : Cal X.prog X.w X.K X.mg X.base cls k x n F) (hr : Room k X.A) (ha : DA cls X (e :: es) g) (hn : ∀ ds s s', g s = some (ds, s') → ds.length = n) (hg : Gl X x := by rfl) (hdb : (x == ("__debug__" : Str)) = false := by decide) (he : starEach (e :: es) X.env = (false, eval e X.env) :: starEach es X.env := by rfl)
    (hpl : (backTo pos (starEach es X.env)).any (·.1) = false := by rfl) : DE cls X (.Call (.Name x pp) (e :: es) [] pos) (eCall F g) := by
  obtain ⟨fa, fd, ps, h1, h2, h3, h4⟩ := G.ex
  exact de_call h1 hr hg h2 h3 h4 ha hn hdb he hpl
/-! ### not, as a value -/
theorem de_ix' (ha : DE cls X a f) (hb : DE cls X b g) (hs : PlainIx b := by intro _ _; rfl) : DE cls X (.Subscript a b pos) (eBin dIx f g) := de_ix ha hb hs
theorem de_ixL' (i : Nat) {x : Str} {pos' : Pos} (ha : PE X (.Name x pos') (tVar i)) (hb : DE cls X b g) (hs : PlainIx b := by intro _ _; rfl) : DE cls X (.Subscript (.Name x pos') b pos) (eBinL dIx i g) := de_ixL i ha hb hs
theorem de_dget' (hu : X.A.units + 1 < cLine) (ho : DE cls X a f) (hi : DE cls X b g) (hs : NoSl b := by intro _ _; rfl) : DE cls X (.Subscript a b pos) (eDGet f g) := de_dget hu ho hi hs
/-- x[k] of a list, tuple, text or dict -/
def eIxA (f g : Ev D) : Ev D := fun s => match eBin dIx f g s with
  | some r => some r
  | none => eDGet f g s
theorem de_ixA (hu : X.A.units + 1 < cLine) (ha : DE cls X a f) (hb : DE cls X b g) (hs : PlainIx b := by intro _ _; rfl) : DE cls X (.Subscript a b pos) (eIxA f g) := by
  refine imp (PE.or (de_ix (pos := pos) ha hb hs) (de_dget (pos := pos) hu ha hb hs)) fun σ H Q ⟨c, F, μ, s, hc, R, z, s', e, k⟩ => ?_
  unfold eIxA at e
  split at e
  · rename_i r hr
    cases e
    exact .inl ⟨c, F, μ, s, hc, R, z, s', hr, k⟩
  · exact .inr ⟨c, F, μ, s, hc, R, z, s', e, k⟩
theorem m2 {o : Expr} {m : Str} {apos : Pos} {e f : Expr} {cpos : Pos} (h1 : attributeBase o m X.env (eval o X.env) = eval o X.env := by rfl)
    (h2 : ((backTo cpos (starEach [e, f] X.env)).all (fun x => !x.1) && (backToKw cpos (keywordEach [] X.env)).all (fun x => x.1.isSome)
    && decide (([e, f] : List Expr).length + ([] : List Keyword).length + (if ([] : List Keyword).isEmpty then 0 else 1) < 30)) = true := by rfl)
    (h3 : (apos.endLine == cpos.line) = true := by rfl) (h4 : backTo cpos (starEach [e, f] X.env) = [(false, eval e X.env), (false, eval f X.env)] := by rfl) : M2 X o m apos e f cpos := ⟨h1, h2, h3, h4⟩
/-! ### constants of the module -/
structure Con (K : PySem.W.Frag) (mg : Str → Option Value) (x : Str) (d : D) : Prop where
  ex : ∃ (v : V) (u : Value), mg x = some u ∧ RelV v u ∧ ∀ F μ, Rep K F μ d v
theorem de_con {d : D} {x : Str} (c : Con X.K X.mg x d) (hg : Gl X x := by rfl) (hd : (x == ("__debug__" : Str)) = false := by decide) : DE cls X (.Name x pos) (ret d) := by
  obtain ⟨v, u, h1, h2, h3⟩ := c.ex
  exact de_glob hg h1 h2 h3 hd
theorem Con.int {K : PySem.W.Frag} {mg : Str → Option Value} {x : Str} {i : Int} {t : Tok} (h : mg x = some (.int i t)) : Con K mg x (.int i) := ⟨.int i, _, h, ⟨t, rfl⟩, fun _ _ => .int i⟩
theorem Con.str {K : PySem.W.Frag} {mg : Str → Option Value} {x : Str} {z : Str} {t : Tok} (s : List Nat) (h : mg x = some (.str z t)) (e : z = mkS s) : Con K mg x (.str s) := ⟨.str z, _, h, ⟨t, rfl⟩, fun _ _ => e ▸ .str s⟩
theorem Con.tup {K : PySem.W.Frag} {mg : Str → Option Value} {x : Str} {a : Addr} {od : Option Addr} {its : Array Value} {n : Nat} {sl : Array (Option Value)} {ds : List D} {vs : List V} (h : mg x = some (.ref a)) (l : K.lookup a = some ⟨.type "tuple", od, .seq its n, sl⟩)
    (hz : its.size ≤ sizeLine) (r : Vals vs its.toList) (q : ∀ F μ, Reps K F μ ds vs) : Con K mg x (.tup ds) := ⟨.ref a, _, h, rfl, fun F μ => .tup (.inr ⟨_, its, n, l, rfl, rfl, hz, r⟩) (q F μ)⟩
end
theorem Cal.zero {P : Program} {w : World} {K : PySem.W.Frag} {mg : Str → Option Value} {base : Heap} {cls : Nat → Addr} {k : Nat} {x qual : Str} {st : Stmt} {ps : List Str} {n : Nat} {F : Fn} (a : At K mg x qual st ps) (hp : ps.length = n) (h : ∀ ds S, F ds S = none := by intros; rfl) : Cal P w K mg base cls k x n F :=
  .of a fun fa fd _ => by
    refine ⟨fun vs H Q E q => ?_, fun A outer s H args us vs Q E _ _ _ _ q => ?_⟩
    · obtain ⟨_, _, S, ds, _, _, _, _, _, _, e, _⟩ := q
      rw [h] at e; cases e
    · obtain ⟨_, _, S, ds, _, _, _, _, _, _, e, _⟩ := q
      rw [h] at e; cases e
theorem r65 {k : Nat} {A : Around} (r : Room k A) : A.units + 65 < cLine := by have := r.un; omega
theorem r64 {k : Nat} {A : Around} (r : Room k A) : A.units + 64 < cLine := by have := r.un; omega
theorem r1 {k : Nat} {A : Around} (r : Room k A) : A.units + 1 < cLine := by have := r.un; omega
/-! ### the law itself -/
theorem law_sp {K : PySem.W.Frag} {cls : Nat → Addr} {F : Fn} (h : ∀ ns : List Int, ns.length ≤ 63 → ∃ S', F [.scr ns] [] = some (.bl true, S')) {H : Hp} {a : Addr} {ns : List Int} (hl : ns.length ≤ 63) (hS : SqL K H a (ns.map V.int)) :
    spF K cls 1 F [.ref a] H (fun v _ => v = .bl true) fun _ _ _ => False := by
  obtain ⟨S', e⟩ := h ns hl
  refine ⟨H, [], [], [.scr ns], .bl true, S', Same.refl H, ⟨rfl, List.nodup_nil, fun a h => (by cases h), fun k a o h => (by simp at h)⟩, .cons (.scr hS) .nil, rfl, e, fun v H' F' μ' _ r => ?_⟩
  cases r; rfl
end DL

set_option Elab.async false
set_option linter.all false
set_option maxRecDepth 100000
namespace DL
open PySem PySem.Spec PyProof.Rows L2

/-! ### {k: v, ..} -/
section
variable {cls : Nat → Addr} {X : Cx} {a b e : Expr} {f g : Ev D} {pos : Pos} {ks : List (Option Expr)} {es : List Expr}
def TDP (K : PySem.W.Frag) (cls : Nat → Addr) (f : Ev (List (DK × D))) (σ : L2.St) (H : Hp) (Q : List (V × V) → Hp → Prop) : Prop := ∃ c F μ s, c.cls = cls ∧ Rel K c F μ σ H s ∧ ∃ d s', f s = some (d, s') ∧
  ∀ vs H' F' μ', Rel K c F' μ' σ H' s' → Mono F μ F' μ' → RepKs K F' μ' d vs → Q (vs.map fun kv => (kV kv.1, kv.2)) H'
structure DD (cls : Nat → Addr) (X : Cx) (pos : Pos) (ks : List (Option Expr)) (es : List Expr) (f : Ev (List (DK × D))) : Prop where
  ex : ∃ trs, PPs X pos ks es trs ∧ ∀ σ H Q, TDP X.K cls f σ H Q → tPairs trs σ H Q
theorem dd_nil : DD cls X pos [] [] (ret []) := ⟨[], pps_nil, fun σ H Q ⟨c, F, μ, s, hc, R, d, s', e, k⟩ => by
  obtain ⟨w1, w2⟩ := ret_some e
  subst w1 w2
  exact k [] _ _ _ R (Mono.refl _ _) .nil⟩
def eDisp (f g : Ev D) (r : Ev (List (DK × D))) : Ev (List (DK × D)) := bnd f fun x => bnd (lft (asK x)) fun k => bnd g fun v => bnd r fun ps => ret ((k, v) :: ps)
theorem dd_cons {r : Ev (List (DK × D))} (hk : DE cls X a f) (hv : DE cls X b g) (hr : DD cls X pos ks es r) : DD cls X pos (some a :: ks) (b :: es) (eDisp f g r) := by
  obtain ⟨trs, h1, h2⟩ := hr.ex
  refine ⟨_, pps_cons hk hv h1, fun σ H Q ⟨c, F, μ, s, hc, R, d, s', e, k⟩ => ?_⟩
  obtain ⟨x, s1, e1, f1⟩ := bnd_some e
  obtain ⟨kk, s2, e2, f2⟩ := bnd_some f1
  obtain ⟨w1, w2⟩ := lft_some e2
  subst w2
  obtain ⟨v, s3, e3, f3⟩ := bnd_some f2
  obtain ⟨ps, s4, e4, f4⟩ := bnd_some f3
  obtain ⟨w3, w4⟩ := ret_some f4
  subst w3 w4
  refine ⟨c, F, μ, s, hc, R, x, _, e1, fun vx H1 F1 μ1 R1 m1 r1 => ⟨c, F1, μ1, _, hc, R1, v, _, e3, fun vv H2 F2 μ2 R2 m2 r2 => ?_⟩⟩
  refine h2 σ H2 _ ⟨c, F2, μ2, _, hc, R2, ps, _, e4, fun vs H3 F3 μ3 R3 m3 r3 => ?_⟩
  have := k ((mkK kk, vv) :: vs) H3 F3 μ3 R3 (m1.trans (m2.trans m3)) (.cons (r2.mono m3) r3)
  rw [List.map_cons] at this
  rw [asK_rep r1 w1]
  exact this
def mergeD (more : List (DK × D)) : List (DK × D) := more.foldl (fun acc kv => kPut acc kv.1 kv.2) []
theorem mergeD_rep {K : PySem.W.Frag} {F : Hp} {μ : List Addr} : ∀ {more : List (DK × D)} {vs : List (Key × V)} {acc : List (DK × D)} {va : List (Key × V)}, RepKs K F μ acc va → RepKs K F μ more vs →
    RepKs K F μ (more.foldl (fun acc kv => kPut acc kv.1 kv.2) acc) (mergeK va vs)
  | _, _, _, _, h, .nil => h
  | _, _, acc, va, h, @RepKs.cons _ _ _ j d v ds vs r rs => by
    have := mergeD_rep (acc := kPut acc j d) (va := putK va (mkK j) v) (kPut_rep r h) rs
    exact this
def eDp (f : Ev (List (DK × D))) : Ev (List (DK × D)) := bnd f fun ps => if ps.length ≤ 15 then ret (mergeD ps) else fun _ => none
theorem df_disp {r : Ev (List (DK × D))} (hd : DD cls X pos ks es r) (hall : ks.all (·.isSome) = true := by rfl) (hl : ks.length = es.length := by rfl) (h0 : ks ≠ [] := by exact List.cons_ne_nil _ _) (h15 : ks.length ≤ 15 := by decide) : DFK cls X (.Dict ks es pos) (eDp r) := by
  obtain ⟨trs, h1, h2⟩ := hd.ex
  refine imp (pe_disp h1 hall hl h0 h15) fun σ H Q ⟨c, F, μ, ρ, S, hc, R, z, ρ', S', e, k⟩ => ?_
  obtain ⟨ps, s1, e1, f1⟩ := bnd_some e
  split at f1
  · rename_i hlen
    obtain ⟨w1, w2⟩ := ret_some f1
    subst w1
    subst w2
    intro p hp
    refine h2 σ _ _ ⟨{ c with P := upd c.P p (.dK []) }, F, μ, (ρ, S), hc, R.hold hp, ps, (ρ', S'), e1, fun vs H1 F1 μ1 R1 m1 r1 => ?_⟩
    have hPr := R1.prot p _ upd_same
    refine ⟨hPr.1, vs, rfl, by have := r1.length; omega, ?_⟩
    have R2 := R1.holdW (o' := .dK (mergeK [] vs))
    exact k _ _ _ _ (R2.unhold (R.pnone hp) (.inr ⟨_, _, rfl, rfl, mergeD_rep .nil r1⟩)) m1
  · cases f1
/-- d[k] of an own dict -/
def eDGetL (i : Nat) (g : Ev D) : Ev D := fun s0 => match ownKOf s0 i with
  | none => none
  | some _ => (bnd g fun y => fun s => match ownKOf s i, asK y with
    | some kvs, some k => (kGet kvs k).map fun d => (d, s)
    | _, _ => none) s0
theorem de_dgetL (i : Nat) {x : Str} {pos' : Pos} (hu : X.A.units + 1 < cLine) (ho : PE X (.Name x pos') (tVar i)) (hi : DE cls X b g) (hs : NoSl b := by intro _ _; rfl) : DE cls X (.Subscript (.Name x pos') b pos) (eDGetL i g) := by
  refine imp (pe_dget hu ho hi hs) fun σ H Q ⟨c, F, μ, s, hc, R, z, s', e, k⟩ => ?_
  unfold eDGetL at e
  split at e
  · cases e
  rename_i kvs0 h0
  obtain ⟨y, s2, e2, f2⟩ := bnd_some e
  split at f2
  · rename_i kvs kk h1 h2
    rw [Option.map_eq_some_iff] at f2
    obtain ⟨d, e3, w⟩ := f2
    cases w
    obtain ⟨a0, vs0, es0, ha0, q0⟩ := ownKOf_rep R h0
    refine ⟨_, es0, c, F, μ, s, hc, R, y, s', e2, fun u H2 F2 μ2 R2 m2 r2 => ?_⟩
    obtain ⟨a, vs, es, ha, q⟩ := ownKOf_rep R2 h1
    rw [es0] at es; cases es
    obtain ⟨w, hw, rw'⟩ := (kGet_rep kk q).1 _ e3
    exact ⟨a0, w, rfl, .inl ⟨vs, mkK kk, .inl ha, asK_rep r2 h2, hw.symm⟩, k _ _ _ _ R2 m2 rw'⟩
  · cases f2
end
/-! ### a def, made -/
theorem fn_mk' {P : Program} {w : World} {K : PySem.W.Frag} {mg : Str → Option Value} {base : Heap} {cls : Nat → Addr} {x qual : Str} {st : Stmt} {N ps : List Str} {fa : Addr} {fd : FuncData} (m : Nat) {n k k' : Nat} {F : Fn} (u : Es) (a : Fun K x qual st fa fd) (S : FnScope N ps (defScope st)) (hk : k' = k + 1) (hn : ps.length = n) (hm : N.length = m) (hF : F = runF m u)
    (hbody : ∀ (f : Addr) (cdv : Value) (A : Around) (outer : List Env) (s : Shared) (H : Hp) (E : XK), Room k (A.deeper (envOfC qual (defScope st) s.heap.objs.size f cdv)) →
      DSs cls (cxOf CX0 P w K mg base N qual (defScope st) f cdv A outer s H E).nox (defBody st) u) : FnOk P w K mg base CX0 k' fa fd ps (spF K cls n F) := by
  subst hk hn hm hF
  exact fn_ok a S fun cdv A outer s H E hr => hbody fa cdv A outer s H E hr
theorem Cal.mk' {P : Program} {w : World} {K : PySem.W.Frag} {mg : Str → Option Value} {base : Heap} {cls : Nat → Addr} {x qual : Str} {st : Stmt} {N ps : List Str} (m : Nat) {n k k' : Nat} {F : Fn} (u : Es) (a : At K mg x qual st ps) (S : FnScope N ps (defScope st)) (hk : k' = k + 1) (hn : ps.length = n) (hm : N.length = m) (hF : F = runF m u)
    (hbody : ∀ (f : Addr) (cdv : Value) (A : Around) (outer : List Env) (s : Shared) (H : Hp) (E : XK), Room k (A.deeper (envOfC qual (defScope st) s.heap.objs.size f cdv)) →
      DSs cls (cxOf CX0 P w K mg base N qual (defScope st) f cdv A outer s H E).nox (defBody st) u) : Cal P w K mg base cls k' x n F :=
  Cal.of a fun fa fd F => fn_mk' m u F S hk hn hm hF hbody
theorem at_mk {K : PySem.W.Frag} {h : Heap} {mg : Str → Option Value} {x qual : Str} {st : Stmt} {ps : List Str} {f : Addr} {oc : Value} {od an : Option Addr} {osl : Array (Option Value)} {kV doc pm cdv ct : Value} (X : K.In h) (G : h.Ns mainGlobals mg)
    (hb : ∀ (kV doc pm : Value) (an : Option Addr) (cdv ct : Value) (us : List Value), us.length = ps.length → bindArgs (PySem.W.fnOf x qual (defArgs st) (defBody st) (defScope st) .none kV doc pm an cdv ct) ⟨us, []⟩ = pure (ps.zip us))
    (a : PySem.W.nsIn K mainGlobals x = some (some (.ref f))) (l : K.lookup f = some ⟨oc, od, .func (PySem.W.fnOf x qual (defArgs st) (defBody st) (defScope st) .none kV doc pm an cdv ct), osl⟩) (c : PySem.W.codeIn K cdv qual = true) (k : PySem.W.keepIn K (.ref f) = true) : At K mg x qual st ps :=
  ⟨f, _, fun_mk l c k, PySem.W.mg_of X G a, (fun_mk l c k).binds hb⟩
theorem Con.tup2 {K : PySem.W.Frag} {mg : Str → Option Value} {x : Str} {a : Addr} {od : Option Addr} {n : Nat} {sl : Array (Option Value)} {i j : Int} {t u : Tok} (h : mg x = some (.ref a)) (l : K.lookup a = some ⟨.type "tuple", od, .seq #[.int i t, .int j u] n, sl⟩) : Con K mg x (.tup [.int i, .int j]) :=
  .tup (vs := [.int i, .int j]) h l (by rw [sizeLine_eq]; exact Nat.le_of_ble_eq_true rfl) (.cons ⟨t, rfl⟩ (.cons ⟨u, rfl⟩ .nil)) fun _ _ => .cons (.int i) (.cons (.int j) .nil)
theorem walk_mk {l : PySem.W.OpenLaw} {q : Program} {loose : List Str} {XP : (Str → Option Value) → Heap → Prop} {YP : World → Heap → Prop} {d : DefRec} {K : Params → PySem.W.Frag} {F : Fn} (k : Nat) {st : Stmt} (hk : Room k callerA) (hn : l.most = some 63) (hdf : d.params.defaults = [])
    (hY : ∀ (w : World) (h : Heap), YP w h → (K w.params).In h) (hnm : d.name = "law")
    (hlaw : ∀ ns : List Int, ns.length ≤ 63 → ∃ S', F [.scr ns] [] = some (.bl true, S'))
    (hb : ∀ (K : PySem.W.Frag) (f : Addr) (fd : FuncData), Fun K "law" "law" st f fd → ∀ (s : Shared) (u : Value), BindsTo s fd ⟨[u], []⟩ [("script", u)])
    (G : ∀ (w : World) (mg : Str → Option Value) (h : Heap), (K w.params).In h → h.Ns mainGlobals mg → At (K w.params) mg "law" "law" st ["script"] ∧ ∀ (f : Addr) (fd : FuncData), Fun (K w.params) "law" "law" st f fd → ∀ base : Heap, FnOk l.prog w (K w.params) mg base CX0 k f fd ["script"] (spF (K w.params) (fun _ => 0) 1 F)) :
    PySem.W.WalkO q loose XP YP l.row.toRowW d [] (fun f vs => PySem.call f vs) := by
  refine L2.walk_of (n := 63) (k := k) (x := "script") (CX := fun _ => CX0) (sp := fun w => spF (K w.params) (fun _ => 0) 1 F) hn (by decide) hdf hk hY (fun w mg fa h KX GX e => ?_) (fun w H a ns hl _ hS => law_sp hlaw hl hS) fun _ _ _ _ _ z => z
  obtain ⟨a, g⟩ := G w mg h KX GX
  obtain ⟨f, fd, F1, e1, b⟩ := a.ex
  rw [hnm, e1] at e
  cases e
  exact ⟨fd, hb _ _ _ F1, fun base _ _ => g _ fd F1 base⟩
end DL

set_option Elab.async false
set_option linter.all false
set_option maxRecDepth 100000
namespace DL
open PySem PySem.Spec PyProof.Rows L2

/-! ### evaluators, step by step -/
section
variable {α β : Type} {s s1 s2 s3 s' : Sto} {ρ ρ' : List Sl} {S S' : List O} {d x y z : D} {f g h : Ev D} {p q : Ev Bool} {u v : Es} {i j : Nat} {k b : Bool} {op : D → D → Option D} {o : Option Out}
theorem v_bnd {f : Ev α} {g : α → Ev β} {a : α} {r : β × Sto} (h1 : f s = some (a, s1)) (h2 : g a s1 = some r) : bnd f g s = some r := by
  unfold bnd; rw [h1]; exact h2
theorem v_lft {a : Option α} {r : α} (h : a = some r) : lft a s = some (r, s) := by rw [h]; rfl
theorem v_bin (h1 : f s = some (x, s1)) (h2 : g s1 = some (y, s2)) (h3 : op x y = some z) : eBin op f g s = some (z, s2) := v_bnd h1 (v_bnd h2 (v_lft h3))
theorem v_binL (h0 : eRd i s = some (d, s)) (h2 : g s = some (y, s2)) (h1 : eRd i s2 = some (x, s2)) (h3 : op x y = some z) : eBinL op i g s = some (z, s2) := v_bnd h0 (v_bnd h2 (v_bnd h1 (v_lft h3)))
theorem v_binR (h1 : f s = some (x, s1)) (h2 : eRd i s1 = some (y, s1)) (h3 : op x y = some z) : eBinR op f i s = some (z, s1) := v_bnd h1 (v_bnd h2 (v_lft h3))
theorem v_un {op : D → Option D} (h1 : f s = some (x, s1)) (h3 : op x = some z) : eUn op f s = some (z, s1) := v_bnd h1 (v_lft h3)
theorem v_ret {a : α} : ret a s = some (a, s) := rfl
theorem v_var (h : s.1[i]? = some (.val d)) : eVar i s = some (d, s) := by unfold eVar; rw [h]
theorem v_outV (h : s.1[i]? = some (.val d)) : eOut i s = some (d, s) := by unfold eOut; rw [h]
theorem v_outO {ds : List D} (h : s.1[i]? = some (.own ds)) : eOut i s = some (.lst ds, (s.1.set i (.val (.lst ds)), s.2)) := by unfold eOut; rw [h]
theorem v_outK {ds : List (DK × D)} (h : s.1[i]? = some (.ownK ds)) : eOut i s = some (.dct ds, (s.1.set i (.val (.dct ds)), s.2)) := by unfold eOut; rw [h]
theorem v_rdV (h : s.1[i]? = some (.val d)) : eRd i s = some (d, s) := by unfold eRd; rw [h]
theorem v_rdO {ds : List D} (h : s.1[i]? = some (.own ds)) : eRd i s = some (.lst ds, s) := by unfold eRd; rw [h]
theorem v_nil : eNil s = some ([], s) := rfl
theorem v_cons {g : Ev (List D)} {xs : List D} (h1 : f s = some (x, s1)) (h2 : g s1 = some (xs, s2)) : eCons f g s = some (x :: xs, s2) := v_bnd h1 (v_bnd h2 rfl)
theorem v_few {n : Nat} {a : α} (h : n ≤ LIM) : few n a = some a := if_pos h
theorem v_tup {g : Ev (List D)} {xs : List D} (h1 : g s = some (xs, s1)) (h2 : xs.length ≤ LIM) : eTup g s = some (.tup xs, s1) := v_bnd h1 (v_lft (v_few h2))
theorem v_lst {g : Ev (List D)} {xs : List D} (h1 : g s = some (xs, s1)) (h2 : xs.length ≤ LIM) : eLst g s = some (xs, s1) := v_bnd h1 (v_lft (v_few h2))
theorem v_fz {g : Ev (List D)} {xs : List D} (h1 : g s = some (xs, s1)) : eFz g s = some (.lst xs, s1) := v_bnd h1 rfl
theorem v_call {F : Fn} {g : Ev (List D)} {xs : List D} (h1 : g s = some (xs, (ρ, S))) (h2 : F xs S = some (z, S')) : eCall F g s = some (z, (ρ, S')) := by
  unfold eCall; rw [h1]; show (match F xs S with | some (r, S') => some (r, (ρ, S')) | none => none) = _; rw [h2]
theorem v_cl {op : List D → Option D} {g : Ev (List D)} {xs : List D} (h1 : g s = some (xs, s1)) (h2 : op xs = some z) : eCl op g s = some (z, s1) := v_bnd h1 (v_lft h2)
theorem v_cl1 {op : List D → Option D} (h1 : eRd i s = some (x, s)) (h2 : op [x] = some z) : eCl1 op i s = some (z, s) := v_bnd h1 (v_lft h2)
theorem v_B (h1 : f s = some (.bl k, s1)) : eB f s = some (k, s1) := v_bnd h1 rfl
theorem v_Tr (h1 : f s = some (x, s1)) (h2 : truD x = some k) : eTr f s = some (k, s1) := v_bnd h1 (v_lft h2)
theorem v_TrL (h1 : eRd i s = some (x, s)) (h2 : truD x = some k) : eTrL i s = some (k, s) := v_bnd h1 (v_lft h2)
theorem v_notT (h1 : p s = some (k, s1)) : eNotT p s = some (!k, s1) := v_bnd h1 rfl
theorem v_nF (h1 : p s = some (true, s1)) : eNotT p s = some (false, s1) := v_bnd h1 rfl
theorem v_nT (h1 : p s = some (false, s1)) : eNotT p s = some (true, s1) := v_bnd h1 rfl
theorem v_not (h1 : f s = some (.bl k, s1)) : eNot f s = some (.bl (!k), s1) := v_bnd h1 rfl
theorem v_ifT (h1 : p s = some (true, s1)) (h2 : f s1 = some (x, s2)) : eIf p f g s = some (x, s2) := v_bnd h1 h2
theorem v_ifF (h1 : p s = some (false, s1)) (h2 : g s1 = some (x, s2)) : eIf p f g s = some (x, s2) := v_bnd h1 h2
/-- both values are asked: the right one where the left is as said -/
theorem v_andT (h1 : p s = some (true, s1)) (h2 : q s1 = some (k, s2)) : eAndT p q s = some (k, s2) := v_bnd h1 h2
theorem v_andTF (h1 : p s = some (false, s1)) : eAndT p q s = some (false, s1) := v_bnd h1 rfl
theorem v_orT (h1 : p s = some (false, s1)) (h2 : q s1 = some (k, s2)) : eOrT p q s = some (k, s2) := v_bnd h1 h2
theorem v_orTT (h1 : p s = some (true, s1)) : eOrT p q s = some (true, s1) := v_bnd h1 rfl
theorem v_and (h1 : f s = some (.bl true, s1)) (h2 : g s1 = some (x, s2)) : eAnd f g s = some (x, s2) := v_bnd h1 h2
theorem v_andF (h1 : f s = some (.bl false, s1)) : eAnd f g s = some (.bl false, s1) := v_bnd h1 rfl
theorem v_or (h1 : f s = some (.bl false, s1)) (h2 : g s1 = some (x, s2)) : eOr f g s = some (x, s2) := v_bnd h1 h2
theorem v_orF (h1 : f s = some (.bl true, s1)) : eOr f g s = some (.bl true, s1) := v_bnd h1 rfl
/-- where nothing changes the store, both sides are told at once -/
theorem v_andB {b : Bool} (h1 : p s = some (k, s)) (h2 : k = true → q s = some (b, s)) : eAndT p q s = some (k && b, s) := by
  cases k
  · exact v_andTF h1
  · exact v_andT h1 (h2 rfl)
theorem v_orB {b : Bool} (h1 : p s = some (k, s)) (h2 : k = false → q s = some (b, s)) : eOrT p q s = some (k || b, s) := by
  cases k
  · exact v_orT h1 (h2 rfl)
  · exact v_orTT h1
theorem v_ifB {c e : D} (h1 : p s = some (k, s1)) (h2 : k = true → f s1 = some (c, s2)) (h3 : k = false → g s1 = some (e, s2)) : eIf p f g s = some (if k = true then c else e, s2) := by
  cases k
  · exact v_ifF h1 (h3 rfl)
  · exact v_ifT h1 (h2 rfl)
theorem v_chain {o o' : D → D → Option D} (h1 : f s = some (x, s1)) (h2 : g s1 = some (y, s2)) (h3 : o x y = some (.bl true)) {w r : D} (h4 : h s2 = some (w, s3)) (h5 : o' y w = some r) : eChain o o' f g h s = some (r, s3) :=
  v_bnd h1 (v_bnd h2 (v_bnd (v_lft h3) (v_bnd (v_lft (a := asB (.bl true)) rfl) (v_bnd h4 (v_lft h5)))))
theorem v_chainF {o o' : D → D → Option D} (h1 : f s = some (x, s1)) (h2 : g s1 = some (y, s2)) (h3 : o x y = some (.bl false)) : eChain o o' f g h s = some (.bl false, s2) :=
  v_bnd h1 (v_bnd h2 (v_bnd (v_lft h3) (v_bnd (v_lft (a := asB (.bl false)) rfl) rfl)))
theorem v_items {xs : List D} (h1 : f s = some (x, s1)) (h2 : items x = some xs) : eItems f s = some (xs, s1) := v_bnd h1 (v_lft h2)
theorem v_range {op : List D → Option (List D)} {g : Ev (List D)} {xs ys : List D} (h1 : g s = some (xs, s1)) (h2 : op xs = some ys) : eRange op g s = some (ys, s1) := v_bnd h1 (v_lft h2)
theorem v_arg {op : List D → Option (List D)} {g : Ev (List D)} {xs ys : List D} (h1 : g s = some (xs, s1)) (h2 : op xs = some ys) : eArg op g s = some (ys, s1) := v_bnd h1 (v_lft h2)
theorem v_part {i : Int} (h1 : f s = some (.int i, s1)) : ePart f s = some (some i, s1) := v_bnd h1 rfl
theorem v_sl {l m : Ev (Option Int)} {lo hi : Option Int} (h1 : f s = some (x, s1)) (h2 : l s1 = some (lo, s2)) (h3 : m s2 = some (hi, s3)) (h4 : dSl x lo hi = some z) : eSl f l m s = some (z, s3) := v_bnd h1 (v_bnd h2 (v_bnd h3 (v_lft h4)))
theorem v_dget {kvs : List (DK × D)} {kk : DK} (h1 : f s = some (x, s1)) (h2 : g s1 = some (y, s2)) (h3 : dctOf s2.2 x = some kvs) (h4 : asK y = some kk) (h5 : kGet kvs kk = some z) : eDGet f g s = some (z, s2) := by
  refine v_bnd h1 (v_bnd h2 ?_)
  rw [h3, h4]; show (kGet kvs kk).map _ = _; rw [h5]; rfl
theorem v_dget2 {kvs0 kvs : List (DK × D)} {kk : DK} (h1 : f s = some (x, s1)) (h0 : dctOf s1.2 x = some kvs0) (h2 : g s1 = some (y, s2)) (h6 : h s2 = some (z, s3)) (h3 : dctOf s3.2 x = some kvs) (h4 : asK y = some kk) : eDGet2 f g h s = some ((kGet kvs kk).getD z, s3) := by
  refine v_bnd h1 ?_
  rw [h0]
  refine v_bnd h2 (v_bnd h6 ?_)
  rw [h3, h4]
theorem v_dget2L {kvs0 kvs : List (DK × D)} {kk : DK} (h0 : ownKOf s i = some kvs0) (h2 : g s = some (y, s2)) (h6 : h s2 = some (z, s3)) (h3 : ownKOf s3 i = some kvs) (h4 : asK y = some kk) : eDGet2L i g h s = some ((kGet kvs kk).getD z, s3) := by
  unfold eDGet2L
  rw [h0]
  refine v_bnd h2 (v_bnd h6 ?_)
  rw [h3, h4]
/-! statements -/
theorem v_seq (h1 : u s = some (.nx s1)) (h2 : v s1 = o) : sSeq u v s = o := by unfold sSeq; rw [h1]; exact h2
theorem v_seqR (h1 : u s = some (.rt d s1)) : sSeq u v s = some (.rt d s1) := by unfold sSeq; rw [h1]
theorem v_seqB (h1 : u s = some (.bk s1)) : sSeq u v s = some (.bk s1) := by unfold sSeq; rw [h1]
theorem v_sNil : sNil s = some (.nx s) := rfl
theorem v_set (h1 : f s = some (d, (ρ, S))) : sSet i f s = some (.nx (ρ.set i (.val d), S)) := by unfold sSet; rw [h1]
theorem v_own {f : Ev (List D)} {ds : List D} (h1 : f s = some (ds, (ρ, S))) : sOwn i f s = some (.nx (ρ.set i (.own ds), S)) := by unfold sOwn; rw [h1]
theorem v_ownK {f : Ev (List (DK × D))} {ds : List (DK × D)} (h1 : f s = some (ds, (ρ, S))) : sOwnK i f s = some (.nx (ρ.set i (.ownK ds), S)) := by unfold sOwnK; rw [h1]
theorem v_asg {t : D → Sto → Option Sto} (h1 : f s = some (d, s1)) (h2 : t d s1 = some s2) : sAsg t f s = some (.nx s2) := by unfold sAsg; rw [h1]; show (t d s1).map _ = _; rw [h2]; rfl
theorem v_asg2 {a b : D} (h1 : f s = some (.tup [a, b], (ρ, S))) : sAsg (tTp (tCs (tNm i) (tCs (tNm j) tNl))) f s = some (.nx ((ρ.set i (.val a)).set j (.val b), S)) := v_asg h1 rfl
theorem v_asg3 {l : Nat} {a b c : D} (h1 : f s = some (.tup [a, b, c], (ρ, S))) : sAsg (tTp (tCs (tNm i) (tCs (tNm j) (tCs (tNm l) tNl)))) f s = some (.nx (((ρ.set i (.val a)).set j (.val b)).set l (.val c), S)) := v_asg h1 rfl
theorem v_par {g : Ev (List D)} {a b : D} (h1 : g s = some ([a, b], (ρ, S))) : sPar i j g s = some (.nx ((ρ.set i (.val a)).set j (.val b), S)) := by unfold sPar; rw [h1]
theorem v_aug (h0 : s.1[i]? = some (.val x)) (h1 : f s = some (y, (ρ, S))) (h2 : op x y = some z) : sAug i op f s = some (.nx (ρ.set i (.val z), S)) := by
  unfold sAug; rw [h0]; show (match f s with | some (y, s') => _ | none => _) = _; rw [h1]; show (op x y).map _ = _; rw [h2]; rfl
theorem v_expr (h1 : f s = some (d, s1)) : sExpr f s = some (.nx s1) := by unfold sExpr; rw [h1]
theorem v_rt (h1 : f s = some (d, s1)) : sRet f s = some (.rt d s1) := by unfold sRet; rw [h1]
theorem v_sIfT (h1 : p s = some (true, s1)) (h2 : u s1 = o) : sIf p u v s = o := by unfold sIf; rw [h1]; exact h2
theorem v_sIfF (h1 : p s = some (false, s1)) (h2 : v s1 = o) : sIf p u v s = o := by unfold sIf; rw [h1]; exact h2
theorem v_for {f : Ev (List D)} {t : D → Sto → Option Sto} {xs : List D} (h1 : f s = some (xs, s1)) (h2 : forL t u xs s1 = o) : sFor f t u s = o := by unfold sFor; rw [h1]; exact h2
theorem v_run {N : Nat} {ds : List D} (h1 : u (ds.map .val ++ List.replicate (N - ds.length) .un, S) = some (.rt d (ρ, S'))) : runF N u ds S = some (d, S') := by unfold runF; rw [h1]
theorem v_runN {N : Nat} {ds : List D} (h1 : u (ds.map .val ++ List.replicate (N - ds.length) .un, S) = some (.nx (ρ, S'))) : runF N u ds S = some (.non, S') := by unfold runF; rw [h1]
theorem v_dputL {kvs0 kvs : List (DK × D)} {kk : DK} (h1 : h s = some (z, s1)) (h0 : ownKOf s1 i = some kvs0) (h2 : g s1 = some (y, s2)) (h3 : ownKOf s2 i = some kvs) (h4 : asK y = some kk) (h5 : kvs.length < LIM) : sDPutL i g h s = some (.nx (s2.1.set i (.ownK (kPut kvs kk z)), s2.2)) := by
  unfold sDPutL
  rw [h1]
  show (match ownKOf s1 i with | none => none | some _ => _) = _
  rw [h0]
  show (match g s1 with | some (y, s3) => _ | none => _) = _
  rw [h2]
  show (match ownKOf s2 i, asK y with | some kvs, some k => _ | _, _ => none) = _
  rw [h3, h4]
  exact if_pos h5
theorem v_dputO {kvs : List (DK × D)} {kk : DK} {n : Nat} (h1 : h s = some (z, s1)) (h2 : f s1 = some (.ptr n, s2)) (h3 : g s2 = some (y, s3)) (h4 : s3.2[n]? = some (.dct kvs)) (h5 : asK y = some kk) (h6 : kvs.length < LIM) : sDPutO f g h s = some (.nx (s3.1, s3.2.set n (.dct (kPut kvs kk z)))) := by
  unfold sDPutO
  rw [h1]
  show (match f s1 with | some (.ptr n, s2) => _ | _ => none) = _
  rw [h2]
  show (match g s2 with | some (y, s3) => _ | none => none) = _
  rw [h3]
  show (match s3.2[n]?, asK y with | some (.dct kvs), some k => _ | _, _ => none) = _
  rw [h4, h5]
  exact if_pos h6
theorem v_newO {g : Ev (List (DK × D))} {ds : List (DK × D)} (h1 : g s = some (ds, (ρ, S))) : eNewO g s = some (.ptr S.length, (ρ, S ++ [.dct ds])) := by
  unfold eNewO; rw [h1]
theorem v_disp {r : Ev (List (DK × D))} {kk : DK} {ps : List (DK × D)} (h1 : f s = some (x, s1)) (h2 : asK x = some kk) (h3 : g s1 = some (y, s2)) (h4 : r s2 = some (ps, s3)) : eDisp f g r s = some ((kk, y) :: ps, s3) := v_bnd h1 (v_bnd (v_lft h2) (v_bnd h3 (v_bnd h4 rfl)))
theorem v_dp {r : Ev (List (DK × D))} {ps : List (DK × D)} (h1 : r s = some (ps, s1)) (h2 : ps.length ≤ 15) : eDp r s = some (mergeD ps, s1) := by
  refine v_bnd h1 ?_
  rw [if_pos h2]; rfl
theorem v_mtL {op : List D → D → Option (D × List D)} {ds0 ds ds' : List D} (h0 : ownOf s i = some ds0) (h1 : f s = some (y, s1)) (h2 : ownOf s1 i = some ds) (h3 : op ds y = some (z, ds')) : eMtL i op f s = some (z, setOwn s1 i ds') := by
  unfold eMtL
  rw [h0]
  show (match f s with | none => none | some (y, s) => _) = _
  rw [h1]
  show (match ownOf s1 i with | none => none | some ds => _) = _
  rw [h2]
  show (match op ds y with | none => none | some (z, ds') => _) = _
  rw [h3]
/-! loops -/
theorem v_for_cons {t : D → Sto → Option Sto} {xs : List D} (h1 : t x s = some s1) (h2 : u s1 = some (.nx s2)) (h3 : forL t u xs s2 = o) : forL t u (x :: xs) s = o := by
  unfold forL
  rw [h1]
  show (match u s1 with | some (.nx s2) => forL t u xs s2 | some (.ct s2) => forL t u xs s2 | some (.bk s2) => some (.nx s2) | some (.rt r s2) => some (.rt r s2) | none => none) = _
  rw [h2]; exact h3
/-- a loop that keeps going: the items bring the store from state to state -/
theorem v_forL {t : D → Sto → Option Sto} {γ : Type} (st : γ → Sto) (nxt : γ → D → γ) : ∀ (xs : List D) (c : γ), (∀ pre x post, xs = pre ++ x :: post → ∃ s1, t x (st (pre.foldl nxt c)) = some s1 ∧ u s1 = some (.nx (st (nxt (pre.foldl nxt c) x)))) → forL t u xs (st c) = some (.nx (st (xs.foldl nxt c)))
  | [], c, _ => rfl
  | x :: xs, c, h => by
    obtain ⟨s1, e1, e2⟩ := h [] x xs rfl
    rw [List.foldl_nil] at e1 e2
    have ih := v_forL st nxt xs (nxt c x) fun pre y post e => h (x :: pre) y post (by rw [e]; rfl)
    unfold forL
    rw [e1]
    show (match u s1 with | some (.nx s2) => forL t u xs s2 | some (.ct s2) => forL t u xs s2 | some (.bk s2) => some (.nx s2) | some (.rt r s2) => some (.rt r s2) | none => none) = _
    rw [e2]
    exact ih
/-- a loop with a statement of what holds after each item -/
theorem v_forI {t : D → Sto → Option Sto} (I : List D → Sto → Prop) : ∀ (xs pre : List D) (s : Sto), I pre s → (∀ p x q s, pre ++ xs = p ++ x :: q → I p s → ∃ s1 s2, t x s = some s1 ∧ u s1 = some (.nx s2) ∧ I (p ++ [x]) s2) → ∃ s2, forL t u xs s = some (.nx s2) ∧ I (pre ++ xs) s2
  | [], pre, s, h0, _ => ⟨s, rfl, by rw [List.append_nil]; exact h0⟩
  | x :: xs, pre, s, h0, h => by
    obtain ⟨s1, s2, e1, e2, h2⟩ := h pre x xs s rfl h0
    obtain ⟨s3, e3, h3⟩ := v_forI I xs (pre ++ [x]) s2 h2 fun p y q s e hp => h p y q s (by rw [← e]; simp) hp
    refine ⟨s3, ?_, by simpa using h3⟩
    unfold forL
    rw [e1]
    show (match u s1 with | some (.nx s2) => forL t u xs s2 | some (.ct s2) => forL t u xs s2 | some (.bk s2) => some (.nx s2) | some (.rt r s2) => some (.rt r s2) | none => none) = _
    rw [e2]
    exact e3
theorem v_while_step {n : Nat} (h1 : p s = some (true, s1)) (h2 : u s1 = some (.nx s2)) (h3 : whileF p u n s2 = o) : whileF p u (n + 1) s = o := by
  unfold whileF; rw [h1]
  show (match u s1 with | some (.nx s2) => whileF p u n s2 | some (.ct s2) => whileF p u n s2 | some (.bk s2) => some (.nx s2) | some (.rt d s2) => some (.rt d s2) | none => none) = _
  rw [h2]; exact h3
theorem v_while_end {n : Nat} (h1 : p s = some (false, s1)) : whileF p u (n + 1) s = some (.nx s1) := by unfold whileF; rw [h1]
/-- the turns of a while are counted down by a measure -/
theorem v_while {γ : Type} (st : γ → Sto) (I : γ → Prop) (m : γ → Nat) (R : γ → γ → Prop) (hr : ∀ c, R c c) (ht : ∀ a b c, R a b → R b c → R a c)
    (h : ∀ c, I c → (p (st c) = some (false, st c)) ∨ ∃ c', p (st c) = some (true, st c) ∧ u (st c) = some (.nx (st c')) ∧ I c' ∧ m c' < m c ∧ R c c') : ∀ (n : Nat) (c : γ), I c → m c < n → ∃ c', whileF p u n (st c) = some (.nx (st c')) ∧ I c' ∧ p (st c') = some (false, st c') ∧ R c c'
  | 0, c, _, hm => absurd hm (Nat.not_lt_zero _)
  | n + 1, c, hi, hm => by
    rcases h c hi with h1 | ⟨c', h1, h2, h3, h4, h5⟩
    · exact ⟨c, v_while_end h1, hi, h1, hr c⟩
    · obtain ⟨c2, e, e2, e3, e4⟩ := v_while st I m R hr ht h n c' h3 (by omega)
      exact ⟨c2, v_while_step h1 h2 e, e2, e3, ht _ _ _ h5 e4⟩
/-! comprehensions -/
theorem wipeS_gt : ∀ (vs : List Nat) (ρ : List Sl) (i : Nat), (wipeS ρ vs)[i]? = if i ∈ vs ∧ i < ρ.length then some .un else ρ[i]?
  | [], ρ, i => by simp [wipeS]
  | v :: vs, ρ, i => by
    have ih := wipeS_gt vs ρ i
    have hl : (wipeS ρ vs).length = ρ.length := by
      clear ih
      induction vs with
      | nil => rfl
      | cons a t ih => show ((wipeS ρ t).set a .un).length = _; rw [List.length_set, ih]
    show ((wipeS ρ vs).set v .un)[i]? = _
    rw [List.getElem?_set]
    by_cases e : v = i
    · subst e
      simp only [if_true, List.mem_cons, true_or, true_and, hl]
      split
      · rfl
      · rename_i h
        rw [List.getElem?_eq_none (by omega)]
    · rw [if_neg e, ih]
      have : (i ∈ v :: vs) ↔ i ∈ vs := by simp [Ne.symm e]
      simp only [this]
theorem wipe_len : ∀ (vs : List Nat) (ρ : List Sl), (wipeS ρ vs).length = ρ.length
  | [], _ => rfl
  | v :: vs, ρ => by show ((wipeS ρ vs).set v .un).length = _; rw [List.length_set, wipe_len vs ρ]
theorem rest_len (ρ0 : List Sl) : ∀ (vs : List Nat) (ρ : List Sl), (restS ρ0 ρ vs).length = ρ.length
  | [], _ => rfl
  | v :: vs, ρ => by show ((restS ρ0 ρ vs).set v _).length = _; rw [List.length_set, rest_len ρ0 vs ρ]
theorem rest_get (ρ0 : List Sl) : ∀ (vs : List Nat) (ρ : List Sl) (i : Nat), (restS ρ0 ρ vs)[i]? = if i ∈ vs ∧ i < ρ.length then some (ρ0[i]?.getD .un) else ρ[i]?
  | [], ρ, i => by simp [restS]
  | v :: vs, ρ, i => by
    have ih := rest_get ρ0 vs ρ i
    have hl := rest_len ρ0 vs ρ
    show ((restS ρ0 ρ vs).set v (ρ0[v]?.getD .un))[i]? = _
    rw [List.getElem?_set]
    by_cases e : v = i
    · subst e
      simp only [if_true, List.mem_cons, true_or, true_and, hl]
      split
      · rfl
      · rename_i h
        rw [List.getElem?_eq_none (by omega)]
    · rw [if_neg e, ih]
      have : (i ∈ v :: vs) ↔ i ∈ vs := by simp [Ne.symm e]
      simp only [this]
theorem rest_wipe {vs : List Nat} (h : wipeS ρ' vs = wipeS ρ vs) : restS ρ ρ' vs = ρ := by
  have hl : ρ'.length = ρ.length := by rw [← wipe_len vs ρ', h, wipe_len]
  apply List.ext_getElem?
  intro i
  rw [rest_get]
  have e := congrArg (fun l => l[i]?) h
  simp only [wipeS_gt] at e
  by_cases hi : i ∈ vs ∧ i < ρ'.length
  · rw [if_pos hi]
    have : i < ρ.length := by omega
    rw [List.getElem?_eq_getElem this]; rfl
  · rw [if_neg hi] at e ⊢
    rw [hl] at hi
    rw [if_neg hi] at e
    exact e
theorem wipe_set {vs : List Nat} {x : Sl} (hi : i ∈ vs) : wipeS (ρ.set i x) vs = wipeS ρ vs := by
  apply List.ext_getElem?
  intro j
  rw [wipeS_gt, wipeS_gt, List.length_set]
  split
  · rfl
  · rename_i h
    rw [List.getElem?_set]
    split
    · rename_i e
      subst e
      split
      · exact (h ⟨hi, by assumption⟩).elim
      · rw [List.getElem?_eq_none (by omega)]
    · rfl
theorem wipe_wipe {vs : List Nat} : wipeS (wipeS ρ vs) vs = wipeS ρ vs := by
  apply List.ext_getElem?
  intro j
  rw [wipeS_gt, wipe_len]
  split
  · rename_i h; rw [wipeS_gt, if_pos h]
  · rfl
/-- a comprehension whose items do not touch the objects -/
theorem v_lc {vs : List Nat} {f : Ev (List D)} {t : D → Sto → Option Sto} {xs ys : List D} (hf : f s = some (xs, (ρ, S))) (ho : (vs.all fun v => !(ρ[v]?.getD .un).isOwn) = true) (hl : xs.length ≤ LIM)
    (he : ∀ ρ1, wipeS ρ1 vs = wipeS ρ vs → ∃ ρ2, lcL vs t p g xs (ρ1, S) = some (ys, (ρ2, S')) ∧ wipeS ρ2 vs = wipeS ρ vs) : eLc vs f t p g s = some (ys, (ρ, S')) := by
  obtain ⟨ρ2, e1, e2⟩ := he ρ rfl
  unfold eLc
  rw [hf]
  show (if ((vs.all fun v => !(ρ[v]?.getD .un).isOwn) && decide (xs.length ≤ LIM)) = true then _ else none) = _
  rw [ho, if_pos (by simpa using hl), e1]
  show some (ys, (restS ρ ρ2 vs, S')) = _
  rw [rest_wipe e2]
/-- one item after the other: what an item makes (some: kept, none: left out) -/
theorem lc_pure {vs : List Nat} {t : D → Sto → Option Sto} (hh : D → Option D) : ∀ (xs : List D), (∀ x ∈ xs, ∃ ρ2, t x (wipeS ρ vs, S) = some (ρ2, S) ∧ wipeS ρ2 vs = wipeS ρ vs ∧ ((hh x = none ∧ p (ρ2, S) = some (false, (ρ2, S))) ∨ ∃ y, hh x = some y ∧ p (ρ2, S) = some (true, (ρ2, S)) ∧ g (ρ2, S) = some (y, (ρ2, S)))) →
    ∀ ρ1, wipeS ρ1 vs = wipeS ρ vs → ∃ ρ2, lcL vs t p g xs (ρ1, S) = some (xs.filterMap hh, (ρ2, S)) ∧ wipeS ρ2 vs = wipeS ρ vs
  | [], _, ρ1, h1 => ⟨ρ1, rfl, h1⟩
  | x :: xs, h, ρ1, h1 => by
    obtain ⟨ρ2, e1, e2, e3⟩ := h x (by simp)
    rcases e3 with ⟨e3, e4⟩ | ⟨y, e3, e4, e5⟩
    · obtain ⟨ρ3, e6, e7⟩ := lc_pure hh xs (fun y hy => h y (by simp [hy])) ρ2 e2
      refine ⟨ρ3, ?_, e7⟩
      unfold lcL
      rw [h1, e1]
      show (match p (ρ2, S) with | none => none | some (false, s2) => lcL vs t p g xs s2 | some (true, s2) => _) = _
      rw [e4]
      show lcL vs t p g xs (ρ2, S) = _
      rw [e6, List.filterMap_cons, e3]
    · obtain ⟨ρ3, e6, e7⟩ := lc_pure hh xs (fun y hy => h y (by simp [hy])) ρ2 e2
      refine ⟨ρ3, ?_, e7⟩
      unfold lcL
      rw [h1, e1]
      show (match p (ρ2, S) with | none => none | some (false, s2) => _ | some (true, s2) => _) = _
      rw [e4]
      show (match g (ρ2, S) with | none => none | some (y, s3) => _) = _
      rw [e5]
      show (match lcL vs t p g xs (ρ2, S) with | none => none | some (ys, s4) => some (y :: ys, s4)) = _
      rw [e6, List.filterMap_cons, e3]
/-- [g for x in f], nothing left out -/
theorem v_map1 {vs : List Nat} {f : Ev (List D)} {xs : List D} (hh : D → D) (hf : f s = some (xs, (ρ, S))) (hi : i ∈ vs) (ho : (vs.all fun v => !(ρ[v]?.getD .un).isOwn) = true) (hl : xs.length ≤ LIM)
    (he : ∀ x ∈ xs, g ((wipeS ρ vs).set i (.val x), S) = some (hh x, ((wipeS ρ vs).set i (.val x), S))) : eLc vs f (tNm i) pYes g s = some (xs.map hh, (ρ, S)) := by
  have := v_lc (S' := S) hf ho hl (lc_pure (t := tNm i) (p := pYes) (g := g) (fun x => some (hh x)) xs fun x hx => ⟨_, rfl, by rw [wipe_set hi, wipe_wipe], .inr ⟨hh x, rfl, rfl, he x hx⟩⟩)
  rw [this]
  congr 2
  induction xs with
  | nil => rfl
  | cons a t ih => simp
/-- the same over items that are made of data a by e -/
theorem v_mapT {α : Type} {vs : List Nat} {f : Ev (List D)} (xs : List α) (e hh : α → D) (hf : f s = some (xs.map e, (ρ, S))) (hl : xs.length ≤ LIM)
    (he : ∀ a ∈ xs, g ((wipeS ρ vs).set i (.val (e a)), S) = some (hh a, ((wipeS ρ vs).set i (.val (e a)), S))) (hi : i ∈ vs := by decide) (ho : (vs.all fun v => !(ρ[v]?.getD .un).isOwn) = true := by rfl) : eLc vs f (tNm i) pYes g s = some (xs.map hh, (ρ, S)) := by
  have H := v_lc (S' := S) (vs := vs) (t := tNm i) (p := pYes) (g := g) (ys := xs.map hh) hf ho (by rw [List.length_map]; exact hl) (by
    clear hf hl
    induction xs with
    | nil => exact fun ρ1 h1 => ⟨ρ1, rfl, h1⟩
    | cons a t ih =>
      intro ρ1 h1
      have e1 := he a (by simp)
      obtain ⟨ρ3, e6, e7⟩ := ih (fun y hy => he y (by simp [hy])) ((wipeS ρ vs).set i (.val (e a))) (by rw [wipe_set hi, wipe_wipe])
      refine ⟨ρ3, ?_, e7⟩
      show lcL vs (tNm i) pYes g (e a :: t.map e) (ρ1, S) = _
      unfold lcL
      rw [show (wipeS ((ρ1, S) : Sto).1 vs, ((ρ1, S) : Sto).2) = (wipeS ρ vs, S) by rw [← h1]]
      show (match g ((wipeS ρ vs).set i (.val (e a)), S) with | none => none | some (y, s3) => _) = _
      rw [e1]
      show (match lcL vs (tNm i) pYes g (t.map e) _ with | none => none | some (ys, s4) => some (hh a :: ys, s4)) = _
      rw [e6]; rfl)
  exact H
theorem v_mapT2 {α : Type} {vs : List Nat} {f : Ev (List D)} (xs : List α) (e1 e2 hh : α → D) (hf : f s = some (xs.map (fun a => .tup [e1 a, e2 a]), (ρ, S))) (hl : xs.length ≤ LIM)
    (he : ∀ a ∈ xs, g (((wipeS ρ vs).set i (.val (e1 a))).set j (.val (e2 a)), S) = some (hh a, (((wipeS ρ vs).set i (.val (e1 a))).set j (.val (e2 a)), S))) (hi : i ∈ vs := by decide) (hj : j ∈ vs := by decide) (ho : (vs.all fun v => !(ρ[v]?.getD .un).isOwn) = true := by rfl) :
    eLc vs f (tTp (tCs (tNm i) (tCs (tNm j) tNl))) pYes g s = some (xs.map hh, (ρ, S)) := by
  have H := v_lc (S' := S) (vs := vs) (t := tTp (tCs (tNm i) (tCs (tNm j) tNl))) (p := pYes) (g := g) (ys := xs.map hh) hf ho (by rw [List.length_map]; exact hl) (by
    clear hf hl
    induction xs with
    | nil => exact fun ρ1 h1 => ⟨ρ1, rfl, h1⟩
    | cons a t ih =>
      intro ρ1 h1
      have h2 := he a (by simp)
      obtain ⟨ρ3, e6, e7⟩ := ih (fun y hy => he y (by simp [hy])) (((wipeS ρ vs).set i (.val (e1 a))).set j (.val (e2 a))) (by rw [wipe_set hj, wipe_set hi, wipe_wipe])
      refine ⟨ρ3, ?_, e7⟩
      show lcL vs (tTp (tCs (tNm i) (tCs (tNm j) tNl))) pYes g (.tup [e1 a, e2 a] :: t.map (fun a => .tup [e1 a, e2 a])) (ρ1, S) = _
      unfold lcL
      rw [show (wipeS ((ρ1, S) : Sto).1 vs, ((ρ1, S) : Sto).2) = (wipeS ρ vs, S) by rw [← h1]]
      show (match g (((wipeS ρ vs).set i (.val (e1 a))).set j (.val (e2 a)), S) with | none => none | some (y, s3) => _) = _
      rw [h2]
      show (match lcL vs (tTp (tCs (tNm i) (tCs (tNm j) tNl))) pYes g (t.map (fun a => .tup [e1 a, e2 a])) _ with | none => none | some (ys, s4) => some (hh a :: ys, s4)) = _
      rw [e6]; rfl)
  exact H
theorem v_filt1 {vs : List Nat} {f : Ev (List D)} {xs : List D} (hh : D → D) (c : D → Bool) (hf : f s = some (xs, (ρ, S))) (hi : i ∈ vs) (ho : (vs.all fun v => !(ρ[v]?.getD .un).isOwn) = true) (hl : xs.length ≤ LIM)
    (hp : ∀ x ∈ xs, p ((wipeS ρ vs).set i (.val x), S) = some (c x, ((wipeS ρ vs).set i (.val x), S)))
    (he : ∀ x ∈ xs, c x = true → g ((wipeS ρ vs).set i (.val x), S) = some (hh x, ((wipeS ρ vs).set i (.val x), S))) : eLc vs f (tNm i) p g s = some ((xs.filter c).map hh, (ρ, S)) := by
  have := v_lc (S' := S) hf ho hl (lc_pure (t := tNm i) (p := p) (g := g) (fun x => if c x = true then some (hh x) else none) xs fun x hx => ⟨_, rfl, by rw [wipe_set hi, wipe_wipe], by
    cases e : c x with
    | false => exact .inl ⟨rfl, by rw [hp x hx, e]⟩
    | true => exact .inr ⟨hh x, rfl, by rw [hp x hx, e], he x hx e⟩⟩)
  rw [this]
  congr 2
  clear this hf hl hp he
  induction xs with
  | nil => rfl
  | cons a t ih =>
    rw [List.filterMap_cons]
    cases e : c a <;> simp [e, ih]
theorem v_map2 {vs : List Nat} {f : Ev (List D)} {xs : List D} (hh : D → D) (hf : f s = some (xs, (ρ, S))) (hi : i ∈ vs) (hj : j ∈ vs) (ho : (vs.all fun v => !(ρ[v]?.getD .un).isOwn) = true) (hl : xs.length ≤ LIM)
    (he : ∀ x ∈ xs, ∃ a b, x = .tup [a, b] ∧ g (((wipeS ρ vs).set i (.val a)).set j (.val b), S) = some (hh x, (((wipeS ρ vs).set i (.val a)).set j (.val b), S))) : eLc vs f (tTp (tCs (tNm i) (tCs (tNm j) tNl))) pYes g s = some (xs.map hh, (ρ, S)) := by
  have := v_lc (S' := S) hf ho hl (lc_pure (t := tTp (tCs (tNm i) (tCs (tNm j) tNl))) (p := pYes) (g := g) (fun x => some (hh x)) xs fun x hx => by
    obtain ⟨a, b, rfl, e⟩ := he x hx
    exact ⟨_, rfl, by rw [wipe_set hj, wipe_set hi, wipe_wipe], .inr ⟨_, rfl, rfl, e⟩⟩)
  rw [this]
  congr 2
  induction xs with
  | nil => rfl
  | cons a t ih => simp
/-- items that change the objects: a state J of the objects goes along -/
theorem lc_st {vs : List Nat} {t : D → Sto → Option Sto} (J : Nat → List O → Prop) (V : D → Prop) (N : Nat) : ∀ (xs : List D) (n : Nat) (S : List O), n + xs.length ≤ N → J n S →
    (∀ x ∈ xs, ∀ n S, n < N → J n S → ∃ ρ2 y S', t x (wipeS ρ vs, S) = some (ρ2, S) ∧ wipeS ρ2 vs = wipeS ρ vs ∧ p (ρ2, S) = some (true, (ρ2, S)) ∧ g (ρ2, S) = some (y, (ρ2, S')) ∧ V y ∧ J (n + 1) S') →
    ∀ ρ1, wipeS ρ1 vs = wipeS ρ vs → ∃ ρ2 ys S', lcL vs t p g xs (ρ1, S) = some (ys, (ρ2, S')) ∧ wipeS ρ2 vs = wipeS ρ vs ∧ ys.length = xs.length ∧ (∀ y ∈ ys, V y) ∧ J (n + xs.length) S'
  | [], n, S, hn, hJ, _, ρ1, h1 => ⟨ρ1, [], S, rfl, h1, rfl, by simp, hJ⟩
  | x :: xs, n, S, hn, hJ, h, ρ1, h1 => by
    rw [List.length_cons] at hn
    obtain ⟨ρ2, y, S', e1, e2, e3, e4, e5, e6⟩ := h x (by simp) n S (by omega) hJ
    obtain ⟨ρ3, ys, S2, q1, q2, q3, q4, q5⟩ := lc_st J V N xs (n + 1) S' (by omega) e6 (fun y hy => h y (by simp [hy])) ρ2 e2
    refine ⟨ρ3, y :: ys, S2, ?_, q2, by simp [q3], by simpa using ⟨e5, q4⟩, by rw [List.length_cons, show n + (xs.length + 1) = n + 1 + xs.length by omega]; exact q5⟩
    unfold lcL
    rw [h1, e1]
    show (match p (ρ2, S) with | none => none | some (false, s2) => _ | some (true, s2) => _) = _
    rw [e3]
    show (match g (ρ2, S) with | none => none | some (y, s3) => _) = _
    rw [e4]
    show (match lcL vs t p g xs (ρ2, S') with | none => none | some (ys, s4) => some (y :: ys, s4)) = _
    rw [q1]
/-- [g for k in f], g draws -/
theorem v_draw1 {vs : List Nat} {f : Ev (List D)} {xs : List D} (J : Nat → List O → Prop) (V : D → Prop) {n : Nat} (hf : f s = some (xs, (ρ, S))) (hi : i ∈ vs) (ho : (vs.all fun v => !(ρ[v]?.getD .un).isOwn) = true) (hl : xs.length ≤ LIM) (hJ : J n S)
    (he : ∀ x ∈ xs, ∀ m S, m < n + xs.length → J m S → ∃ y S', g ((wipeS ρ vs).set i (.val x), S) = some (y, ((wipeS ρ vs).set i (.val x), S')) ∧ V y ∧ J (m + 1) S') : ∃ ys S', eLc vs f (tNm i) pYes g s = some (ys, (ρ, S')) ∧ ys.length = xs.length ∧ (∀ y ∈ ys, V y) ∧ J (n + xs.length) S' := by
  obtain ⟨ρ2, ys, S', e1, e2, e3, e4, e5⟩ := lc_st (ρ := ρ) (vs := vs) (t := tNm i) (p := pYes) (g := g) J V (n + xs.length) xs n S (Nat.le_refl _) hJ (fun x hx n S hn h => by
    obtain ⟨y, S', e, hv, hj⟩ := he x hx n S hn h
    exact ⟨_, y, S', rfl, by rw [wipe_set hi, wipe_wipe], rfl, e, hv, hj⟩) ρ rfl
  refine ⟨ys, S', ?_, e3, e4, e5⟩
  unfold eLc
  rw [hf]
  show (if ((vs.all fun v => !(ρ[v]?.getD .un).isOwn) && decide (xs.length ≤ LIM)) = true then _ else none) = _
  rw [ho, if_pos (by simpa using hl), e1]
  show some (ys, (restS ρ ρ2 vs, S')) = _
  rw [rest_wipe e2]
end
/-! ### where a proof splits -/
theorem v_orS {s : Sto} {p q : Ev Bool} (h1 : p s = some (false, s)) (h2 : q s = some (false, s)) : eOrT p q s = some (false, s) := v_orT h1 h2
theorem v_binS {s : Sto} {f g : Ev D} {op : D → D → Option D} {x y z : D} (h1 : f s = some (x, s)) (h2 : g s = some (y, s)) (h3 : op x y = some z) : eBin op f g s = some (z, s) := v_bin h1 h2 h3
theorem v_seqE {s s1 : Sto} {u v : Es} {d : D} {S' : List O} (h1 : u s = some (.nx s1)) (h2 : ∃ ρ, v s1 = some (.rt d (ρ, S'))) : ∃ ρ, sSeq u v s = some (.rt d (ρ, S')) := by
  obtain ⟨ρ, h⟩ := h2
  exact ⟨ρ, v_seq h1 h⟩
theorem v_runE {N : Nat} {u : Es} {d : D} {S S' : List O} {ds : List D} (h1 : ∃ ρ, u (ds.map .val ++ List.replicate (N - ds.length) .un, S) = some (.rt d (ρ, S'))) : runF N u ds S = some (d, S') := by
  obtain ⟨ρ, h⟩ := h1
  exact v_run h
/-! ### what operations make -/
theorem o_mul {a b : Int} (h : a.natAbs.log2 + b.natAbs.log2 < 1000000) : dMul (.int a) (.int b) = some (.int (a * b)) := by
  exact if_pos (by exact decide_eq_true h)
theorem o_mulI {a b : Int} (h : a.natAbs < 2 ^ 64 ∨ b.natAbs < 2 ^ 64) : dMulI (.int a) (.int b) = some (.int (a * b)) := by
  exact if_pos (by simpa using h)
theorem o_mod {a b : Int} (h : 0 < b) : dMod (.int a) (.int b) = some (.int (a % b)) := by
  exact if_pos (by exact decide_eq_true h)
theorem o_div {a b : Int} (h : 0 < b) (h2 : b.natAbs.log2 < 9000) : dDiv (.int a) (.int b) = some (.int (a / b)) := by
  exact if_pos (by simp [h, h2])
theorem o_divI {a b : Int} (h : 0 < b) (h2 : b.natAbs.log2 < 9000) : dDivI (.int a) (.int b) = some (.int (a / b)) := by
  exact if_pos (by simp [h, h2])
theorem o_shl {a b : Int} (h : 0 ≤ b) (h1 : b ≤ 1000000) (h2 : a.natAbs.log2 < 1000000) : dShl (.int a) (.int b) = some (.int (a * 2 ^ b.toNat)) := by
  exact if_pos (by simp [h, h1, h2])
theorem o_eq {x y : D} (h : flat 8 x = true) (h2 : flat 8 y = true) : dEq x y = some (.bl (eqv x y)) := by
  unfold dEq; rw [h, h2, Bool.and_self, Bool.or_true]; rfl
theorem o_ne {x y : D} (h : flat 8 x = true) (h2 : flat 8 y = true) : dNe x y = some (.bl (!eqv x y)) := by
  unfold dNe; rw [h, h2, Bool.and_self, Bool.or_true]; rfl
theorem o_eqI {a b : Int} : dEq (.int a) (.int b) = some (.bl (a == b)) := rfl
theorem o_neI {a b : Int} : dNe (.int a) (.int b) = some (.bl (!(a == b))) := rfl
theorem o_eqS {a b : List Nat} : dEq (.str a) (.str b) = some (.bl (a == b)) := rfl
theorem o_neS {a b : List Nat} : dNe (.str a) (.str b) = some (.bl (!(a == b))) := rfl
theorem lg {x k : Nat} (h : x < 2 ^ k) : x.log2 ≤ k := by
  by_cases hx : x = 0
  · subst hx; simp
  · have := (Nat.log2_lt hx).mpr h; omega
theorem lgI {x : Int} {k : Nat} (h : x.natAbs < 2 ^ k) : x.natAbs.log2 ≤ k := lg h
end DL

set_option Elab.async false
set_option linter.all false
set_option maxRecDepth 100000
set_option maxHeartbeats 1000000
namespace DL
open PySem PySem.Spec PyProof.Rows L2
open PySem.Froz (SD sObj addTx tailTx sing TxOk)

/-! ### sorted(set(text)) -/
def kS (v : Value) : Str := match v with | .str k _ => k | _ => Str.empty
/-- the payload holds the texts l, each once, and can be walked -/
structure Pay (P : Program) (w : World) (D : SD) (l : List Str) : Prop where
  tx : TxOk P w D l
  ris : Ris D.2.2.place.toList
  led : w.params.followText "set-order" = true ∨ D.2.2.led = true
  st : ∀ e ∈ D.1.toList, ∃ k t, e.2 = Value.str k t
  pm : (D.1.toList.map fun e => kS e.2).Perm l
section
variable {P : Program} {w : World} {A : Around} {E : Value → Shared → Prop} {s : Shared}
theorem led_if {t : SetTable} : (if t.plain = true then { t with plain := false } else t).led = t.led ∧ (if t.plain = true then { t with plain := false } else t).place = t.place := by
  split <;> exact ⟨rfl, rfl⟩
theorem Pay.add {D : SD} {l : List Str} {k : Str} (u : Tok) (F : Pay P w D l) : Pay P w (addTx (hashStr w k) (.str k u) D) (k :: l) := by
  obtain ⟨es, ep, t⟩ := D
  have hp := layNew_perm t es (hashStr w k) (.str k u)
  have hr := layNew_ris t es (hashStr w k) (.str k u) F.ris
  have hl := layNew_led t es (hashStr w k) (.str k u)
  have tx := PySem.Froz.add_ok (k := k) u F.tx
  have e1 : addTx (hashStr w k) (.str k u) (es, ep, t) = tailTx ep (layNew t es (hashStr w k) (.str k u)).1 (if (layNew t es (hashStr w k) (.str k u)).2.1.plain = true then { (layNew t es (hashStr w k) (.str k u)).2.1 with plain := false } else (layNew t es (hashStr w k) (.str k u)).2.1) (layNew t es (hashStr w k) (.str k u)).2.2.1 := rfl
  rw [e1] at tx ⊢
  generalize layNew t es (hashStr w k) (.str k u) = Z at *
  obtain ⟨es1, t1, wd, gv⟩ := Z
  dsimp only at *
  have hr1 : Ris (if t1.plain = true then { t1 with plain := false } else t1).place.toList := by rw [led_if.2]; exact hr
  have hl1 : w.params.followText "set-order" = true ∨ (if t1.plain = true then { t1 with plain := false } else t1).led = true := by
    rw [led_if.1, hl]; exact F.led
  generalize (if t1.plain = true then { t1 with plain := false } else t1) = t2 at *
  rw [Array.toList_push] at hp
  have pc : es1.toList.Perm ((hashStr w k, Value.str k u) :: es.toList) := hp.trans (List.perm_append_singleton _ _)
  have key : ∀ es2 : Array (Int × Value), es2.toList.Perm es1.toList → (∀ e ∈ es2.toList, ∃ k t, e.2 = Value.str k t) ∧ (es2.toList.map fun e => kS e.2).Perm (k :: l) := fun es2 p2 => by
    have p3 := p2.trans pc
    refine ⟨fun e he => ?_, (p3.map fun e : Int × Value => kS e.2).trans (F.pm.cons k)⟩
    rcases List.mem_cons.mp (p3.mem_iff.mp he) with z | z
    · rw [z]; exact ⟨k, u, rfl⟩
    · exact F.st e z
  unfold tailTx at tx ⊢
  by_cases c : (!wd && t2.tooFull) = true
  · rw [if_pos c] at tx ⊢
    obtain ⟨k1, k2⟩ := key _ (relayAll_perm t2 es1 (SetTable.grown es1.size))
    exact ⟨tx, relayAll_ris t2 es1 _, by dsimp only; rw [relayAll_led]; exact hl1, k1, k2⟩
  · rw [if_neg c] at tx ⊢
    obtain ⟨k1, k2⟩ := key es1 (List.Perm.refl _)
    exact ⟨tx, hr1, hl1, k1, k2⟩
/-- a text that is there -/
theorem hit_x {a : Addr} {T : String} {D : SD} {l : List Str} {k : Str} {u : Tok} {Q : Bool → Shared → Prop} (ho : s.heap.get? a = some (sObj T D)) (F : TxOk P w D l) (hk : k ∈ l) (hb : l.length < scanBound)
    (h : Q false s) : wpAny (model P w) A (setAddHashed a (.str k u) (hashStr w k)) Q E s := by
  obtain ⟨es, ep, t⟩ := D
  have hd : (sObj T (es, ep, t)).data = .set es ep t := rfl
  have hel : ElemsOf (strKind P w) es.toList := F.el
  have hz : es.size < scanBound := Nat.lt_of_le_of_lt (Nat.le_of_eq F.sz) hb
  have hke : (strKind P w).is k (.str k u) = true := PySem.Froz.is_str k u
  unfold setAddHashed setAddHashedIn
  refine wpAny_holding (wpAny_bind (wpAny_setState_of ho hd F.fit ?_)); dsimp only
  rw [byScan_of rfl hz hel]; simp only [↓reduceIte]
  unfold setAddByScan
  refine wpAny_bind (wpAny_bind (wpAny_rule (wpAny_bind (wpAny_setScan_of (knd := strKind P w) (k := k) hke ho hd F.fit hel ?_))))
  cases hr : List.findIdx? (fun e => (strKind P w).is k e.2) es.toList with
  | some j => dsimp only; exact wpAny_pure (wpAny_pure h)
  | none =>
    obtain ⟨e, he, q⟩ := (F.mem k).mp hk
    have c := List.findIdx?_eq_none_iff.mp hr e he
    rw [q] at c
    cases c
/-- the signs of a text go in -/
theorem upd_signs {I : Addr} {fp wr : List Addr} {G : Array GenState → Array GenState → Prop} {n : Nat} {x : Str} {St : Nat → Shared → Prop} {R : Result → Shared → Prop}
    (W : WalksS P w A.in1 I fp wr G n (SignAt x) St) (S : Addr) (hSf : S ∉ fp) (hn : n = x.cps.size) (hb : n + 1 < scanBound) :
    ∀ (k i : Nat) (s : Shared), n - i = k → i ≤ n → St i s → (∃ D l, s.heap.get? S = some (sObj "set" D) ∧ Pay P w D l ∧ l.Nodup ∧ l.length ≤ i ∧ ∀ y, y ∈ l ↔ ∃ c ∈ x.cps.toList.take i, y = sing c) →
      (∀ s' D l, Moved (S :: wr) G s s' → s'.heap.get? S = some (sObj "set" D) → Pay P w D l → l.Nodup → l.length ≤ n → (∀ y, y ∈ l ↔ ∃ c ∈ x.cps.toList, y = sing c) → R (.ok (.ret .none)) s') →
      codeAny (model P w) A (.builtin "set.update.loop" ⟨[.ref S, .ref I], []⟩) R s := by
  have hSw : S ∉ wr := fun h => hSf (W.sub _ h)
  have sub2 : ∀ b ∈ wr, b ∈ S :: wr := fun b hb => List.mem_cons_of_mem _ hb
  intro k
  induction k with
  | zero =>
    intro i s hk' hi hst ⟨D, l, ho, py, nd, hl, hm⟩ hR
    obtain rfl : i = n := by omega
    refine codeAny_builtin F.entry_set_update_loop ?_
    rw [Around.under_plainId F.plain_set_update_loop _]; show wpAny _ A.in1 (pyNext (.ref I) >>= _) _ _ s
    refine wpAny_bind (W.done s _ _ hst fun s' mv => wpAny_pure (hR s' D l (mv.mono sub2) (mv.heap S _ hSw ho) py nd hl fun y => ?_))
    rw [hm y, List.take_of_length_le (by rw [Array.length_toList]; omega)]
  | succ k ih =>
    intro i s hk' hi hst ⟨D, l, ho, py, nd, hl, hm⟩ hR
    have hlt : i < n := by omega
    refine codeAny_builtin F.entry_set_update_loop ?_
    rw [Around.under_plainId F.plain_set_update_loop _]; show wpAny _ A.in1 (pyNext (.ref I) >>= _) _ _ s
    refine wpAny_bind (W.item i s _ _ hlt hst fun v s' hP hst' mv => ?_)
    obtain ⟨c, t, hc, rfl⟩ := hP
    have ho' := mv.heap S _ hSw ho
    have hc' : x.cps.toList[i]? = some c := by rw [Array.getElem?_toList]; exact hc
    have htk : x.cps.toList.take (i + 1) = x.cps.toList.take i ++ [c] := by rw [List.take_add_one, hc']; rfl
    show wpAny _ A.in1 (holding [Value.str (sing c) t] (setAdd S (.str (sing c) t)) >>= _) _ _ s'
    refine wpAny_bind (wpAny_holding ?_)
    unfold setAdd
    refine wpAny_holding (wpAny_bind ((strKind P w).pyHash (k := sing c) (PySem.Froz.is_str _ _) ?_))
    by_cases hin : sing c ∈ l
    · refine hit_x (s := { s' with toks := s'.toks + 1 }) ho' py.tx hin (by omega) ?_
      refine wpAny_pure ⟨plainId_quiet F.plain_set_update_loop _, ih (i + 1) _ (by omega) hlt (W.frame _ s' _ _ hst' (Nat.le_succ _) fun b hb o e => e) ⟨D, l, ho', py, nd, by omega, fun y => ?_⟩ fun s2 D2 l2 m2 o2 p2 n2 h2 q2 => ?_⟩
      · rw [hm y, htk]
        constructor
        · rintro ⟨d, hd, e⟩; exact ⟨d, List.mem_append_left _ hd, e⟩
        · rintro ⟨d, hd, e⟩
          rcases List.mem_append.mp hd with hd | hd
          · exact ⟨d, hd, e⟩
          · rw [List.mem_singleton.mp hd] at e
            exact (hm y).mp (by rw [e]; exact hin)
      · exact hR s2 D2 l2 (Moved.trans W.gtrans ((mv.mono sub2).then_heap (Nat.le_succ _) fun b o hb e => e) m2) o2 p2 n2 h2 q2
    · refine PySem.Froz.add_x (l := l) (D := D) (s := { s' with toks := s'.toks + 1 }) ho' py.tx hin (by omega) ?_
      have hat := PySem.Froz.get_upd (sObj "set" (addTx (hashStr w (sing c)) (.str (sing c) t) D)) ho' rfl
      have oth : ∀ b o, b ≠ S → s'.heap.get? b = some o → (s'.heap.update S fun _ => sObj "set" (addTx (hashStr w (sing c)) (.str (sing c) t) D)).get? b = some o := fun b o hb e => PySem.Heap.get?_update_of_ne _ (Ne.symm hb) e
      refine wpAny_pure ⟨plainId_quiet F.plain_set_update_loop _, ih (i + 1) _ (by omega) hlt (W.frame _ s' _ _ hst' (Nat.le_succ _) fun b hb o e => oth b o (fun z => hSf (z ▸ hb)) e) ⟨_, sing c :: l, hat, py.add t, List.nodup_cons.mpr ⟨hin, nd⟩, by rw [List.length_cons]; omega, fun y => ?_⟩ fun s2 D2 l2 m2 o2 p2 n2 h2 q2 => ?_⟩
      · rw [htk, List.mem_cons, hm y]
        constructor
        · rintro (e | ⟨d, hd, e⟩)
          · exact ⟨c, List.mem_append_right _ (List.mem_singleton.mpr rfl), e⟩
          · exact ⟨d, List.mem_append_left _ hd, e⟩
        · rintro ⟨d, hd, e⟩
          rcases List.mem_append.mp hd with hd | hd
          · exact .inr ⟨d, hd, e⟩
          · rw [List.mem_singleton.mp hd] at e; exact .inl e
      · exact hR s2 D2 l2 (Moved.trans W.gtrans ((mv.mono sub2).then_heap (Nat.le_succ _) fun b o hb e => oth b o (fun z => hb (by rw [z]; exact List.mem_cons_self)) e) m2) o2 p2 n2 h2 q2
/-- set(text) -/
def newSet (w : World) : Obj := { cls := .type "set", dict := none, data := .set #[] 0 (.fresh 0 0 (!w.params.followText "set-order")) }
theorem pay_new : Pay P w (#[], 0, .fresh 0 0 (!w.params.followText "set-order")) [] :=
  ⟨TxOk.nil (by rfl), List.Pairwise.nil, by
    show _ ∨ (!w.params.followText "set-order") = true
    cases w.params.followText "set-order" <;> simp, fun e he => by simp at he, List.Perm.refl _⟩
set_option maxHeartbeats 3200000 in
theorem call_setT {x : Str} {t : Tok} {Q : Value → Shared → Prop} (hh : A.handled = none) (hb : x.cps.size + 1 < scanBound)
    (h : ∀ (h' : Heap) (tk : Nat) (D : SD) (l : List Str), h'.get? s.heap.objs.size = some (sObj "set" D) → Pay P w D l → l.Nodup → l.length ≤ x.cps.size → (∀ y, y ∈ l ↔ ∃ c ∈ x.cps.toList, y = sing c) →
      (∀ b o, s.heap.get? b = some o → h'.get? b = some o) → Q (.ref s.heap.objs.size) { s with heap := h', toks := tk }) :
    wpAny (model P w) A (call (.type "set") [.str x t]) Q E s := by
  obtain ⟨c, tl, hmro⟩ := PySem.F.called_set.mro
  have made := PySem.F.called_set.made
  have sub := PySem.F.called_set.sub
  refine wpAny_call (codeAny_of_tree ?_); show wpAny _ _ (callAny (.type "set") _) _ _ _
  refine wpAny_pure ⟨Code.quiet_builtin _ (by decide +kernel), codeAny_builtin PySem.F.entry_type_call ?_⟩
  rw [Around.under_plain (weight_type_call_type "set" [.str x t] []) rfl]
  have n1 := PySem.F.called_set.notType
  have n2 := PySem.F.called_set.canCreate
  have n3 := PySem.F.typeCall_set_1 (.str x t)
  repeat (any_goals (first | assumption | wp_step))
  refine codeAny_mono (code_set_led1 (.str x t) (E := E) (Q₁ := fun obj s₁ => obj = .ref s.heap.objs.size ∧ s₁ = { s with heap := s.heap.push (newSet w) }) ⟨rfl, rfl⟩) fun r s₁ hr => ?_
  cases r with
  | error e => exact hr
  | ok fl =>
    cases fl with
    | ret obj =>
      obtain ⟨rfl, rfl⟩ := hr
      have hS : (s.heap.push (newSet w)).get? s.heap.objs.size = some (newSet w) := Heap.get?_push_size _ rfl
      have hT : Shared.TypeIs { s with heap := s.heap.push (newSet w) } (.ref s.heap.objs.size) "set" := ⟨_, hS, rfl⟩
      have li := PySem.F.called_set.init.lookup
      have bi := PySem.F.called_set.init.bind (.ref s.heap.objs.size)
      repeat (any_goals (first | assumption | wp_step))
      refine codeAny_mono (codeAny_call_builtin (R := wants (fun r s₂ => r = .none ∧ ∃ h' tk D l, s₂ = { s with heap := h', toks := tk } ∧ h'.get? s.heap.objs.size = some (sObj "set" D) ∧ Pay P w D l ∧ l.Nodup ∧ l.length ≤ x.cps.size ∧ (∀ y, y ∈ l ↔ ∃ c ∈ x.cps.toList, y = sing c) ∧
          (∀ b o, s.heap.get? b = some o → h'.get? b = some o)) E) PySem.F.called_set.init.plain PySem.F.entry_set_init (check_set_init_1 hT ?_)) fun r₂ s₂ hr₂ => ?_
      · have q1 := PySem.F.sub_str_set
        have q2 := PySem.F.sub_str_frozenset
        have q3 : (Value.type "str" == Value.type "dict") = false := by decide
        unfold Builtin.«set.__init__» noKeywords Builtin.Frozenset.updateFrom
        generalize hPI : pyIter = PI
        wp_walk
        subst hPI
        refine wpAny_pyIter_str fun o St hW hSt => ?_
        refine wpAny_bind (wpAny_runValue ?_)
        have hh3 : A.in1.in1.in1.handled = none := by simp [hh]
        have hz : (s.heap.push (newSet w)).objs.size = s.heap.objs.size + 1 := Heap.size_push ..
        have hSf : s.heap.objs.size ∉ [(s.heap.push (newSet w)).objs.size] := by
          rw [hz]; simp
        refine upd_signs (hW _ hh3).toS s.heap.objs.size hSf rfl hb (x.cps.size - 0) 0 _ (by omega) (Nat.zero_le _) hSt
          ⟨(#[], 0, .fresh 0 0 (!w.params.followText "set-order")), [], Heap.get?_push_of_some _ hS, pay_new, List.nodup_nil, Nat.le_refl _, fun y => by simp⟩ fun s' D l mv ho py nd hl hm => ?_
        obtain ⟨h', g', d', tk', os'⟩ := s'
        have eg : g' = s.gens := mv.gens
        have ed : d' = s.drawn := mv.drawn
        have eo : os' = s.os := mv.os
        subst eg; subst ed; subst eo
        show wpAny _ _ _ _ _ _
        refine wpAny_pure ?_
        refine wpAny_pure ⟨rfl, h', tk', D, l, rfl, ho, py, nd, hl, hm, fun b o2 e => ?_⟩
        have b0 : b < s.heap.objs.size := Heap.lt_size e
        exact mv.heap b o2 (by
          have b1 : b ≠ s.heap.objs.size := Nat.ne_of_lt b0
          have b2 : b ≠ (s.heap.push (newSet w)).objs.size := by rw [hz]; exact Nat.ne_of_lt (Nat.lt_succ_of_lt b0)
          intro z
          rcases List.mem_cons.mp z with z | z
          · exact b1 z
          · exact b2 (List.mem_singleton.mp z)) (Heap.get?_push_of_some _ (Heap.get?_push_of_some _ e))
      · cases r₂ with
        | error e => exact hr₂
        | ok fl₂ =>
          cases fl₂ with
          | ret r =>
            obtain ⟨rfl, h', tk, D, l, rfl, k1, k2, k3, k4, k5, k6⟩ := hr₂
            repeat (any_goals (first | assumption | wp_step))
            exact h _ _ _ _ k1 k2 k3 k4 k5 k6
          | _ => exact hr₂.elim
    | _ => exact hr.elim
/-- sorted of it -/
theorem strs_of_pay : ∀ (vs : List Value), (∀ v ∈ vs, ∃ k t, v = Value.str k t) → StrsAre vs (vs.map kS)
  | [], _ => .nil
  | v :: vs, h => by
    obtain ⟨k, t, rfl⟩ := h v (by simp)
    exact .cons k t (strs_of_pay vs fun u hu => h u (by simp [hu]))
theorem sorted_setT {a : Addr} {D : SD} {l : List Str} {Q : Value → Shared → Prop} (hh : A.handled = none) (ho : s.heap.get? a = some (sObj "set" D)) (py : Pay P w D l) (hb : l.length < 64)
    (hQ : ∀ s' p (out : Array Value) (c : Nat) (ys : List Str), (∀ b o, s.heap.get? b = some o → s'.heap.get? b = some o) → s'.gens = s.gens → s'.os = s.os → s.heap.objs.size ≤ p → s'.heap.get? p = some (seqObj "list" out c) →
      StrsAre out.toList ys → ys.Perm l → sortedS ys = true → Q (.ref p) s') : wpAny (model P w) A (call (.builtin "sorted") [.ref a]) Q E s := by
  obtain ⟨es, ep, t⟩ := D
  have hsz : es.size = l.length := py.tx.sz
  refine Calls.call_function_entry kind_sorted plain_sorted entry_sorted (args_sorted1 _) ?_
  unfold Builtin.«sorted»
  refine wpAny_bind (m := checkCount "sorted" 1 1 _) (wpAny_pure (wpAny_bind (collect_set (A := A.in1) hh ⟨_, ho, rfl, rfl⟩ py.tx.fit (show es.size < scanBound by unfold scanBound; omega) py.ris py.led fun s1 vs k1 hz g1 o1 pm => ?_)))
  have hvl : vs.length = l.length := by rw [pm.length_eq, List.length_map, Array.length_toList]; exact hsz
  have hS : StrsAre vs (vs.map kS) := strs_of_pay vs fun v hv => by
    obtain ⟨e, he, q⟩ := List.mem_map.mp (pm.mem_iff.mp hv)
    obtain ⟨k, t, e2⟩ := py.st e he
    exact ⟨k, t, by rw [← q]; exact e2⟩
  have pk : (vs.map kS).Perm l := (pm.map kS).trans (by rw [List.map_map]; exact py.pm)
  have hL : vs.length ≤ sizeLine := by rw [hvl, sizeLine_eq]; omega
  refine wpAny_bind (wpAny_newList ?_ hL)
  have hoL : (s1.heap.push (seqObj "list" vs.toArray 0)).get? s1.heap.objs.size = some (seqObj "list" vs.toArray 0) := Heap.get?_push_size _ rfl
  refine wpAny_bind (wpAny_holding (wpAny_call_entry slot_list_sort ⟨_, hoL, rfl⟩ entry_list_sort (list_sort_treeK PyProof.Rows.strKind_oneLt hoL hS.keysOf (fun v₁ v₂ rest e => keyKind_strs (by rw [← e]; exact hS)) (by rw [hvl]; exact hb) fun st' hp hs => ⟨_, rfl, ?_⟩) (args_list_sort _)))
  obtain ⟨ys, c1, c2, c3⟩ := sorted_out_str hS hp hs
  obtain ⟨c, hc⟩ := sortedHeap_at (vs := vs) (out := (arrOf st').map (·.2)) hoL
  refine wpAny_pure ⟨_, rfl, hQ _ s1.heap.objs.size _ c ys (fun b u e => ?_) g1 o1 hz hc c1 (c2.trans pk) c3⟩
  have q := k1 b u e
  have hlt := Heap.lt_size q
  show (sortedHeap (s1.heap.push (seqObj "list" vs.toArray 0)) s1.heap.objs.size vs _).get? b = some u
  rw [sortedHeap_old (Nat.ne_of_lt hlt) (by rw [size_push']; exact Nat.lt_succ_of_lt hlt)]; exact Heap.get?_push_of_some _ q
end
section
variable {X : Cx}
/-- sorted(set(a)), a text -/
def tSoSe (ta : TE) : TE := fun σ H Q => ta σ H fun x H1 => ∃ z : Str, x = .str z ∧ z.cps.size ≤ 4000 ∧ (∀ l : List Str, l.Nodup → (∀ y, y ∈ l ↔ ∃ c ∈ z.cps.toList, y = sing c) → l.length < 64) ∧ ∀ (l ys : List Str) (p : Addr), l.Nodup → l.length ≤ z.cps.size → (∀ y, y ∈ l ↔ ∃ c ∈ z.cps.toList, y = sing c) → ys.Perm l → sortedS ys = true → H1 p = none → Q (.ref p) (upd H1 p (.lst (ys.map V.str)))
theorem pe_soSe {a : Expr} {ta : TE} {p p2 q pos : Pos} (hc : X.calm = true) (hg : Gl X "sorted") (hm : X.mg "sorted" = none) (hg2 : Gl X "set") (hm2 : X.mg "set" = none) (ha : PE X a ta)
    (na : starEach [a] X.env = (false, eval a X.env) :: starEach [] X.env := by rfl) : PE X (.Call (.Name "sorted" p) [.Call (.Name "set" p2) [a] [] q] [] pos) (tSoSe ta) := by
  refine ⟨fun pins s σ H Q I h => ?_⟩
  refine Call_ (ld_blt I hg hm boot_sorted (PyProof.Rows.callWith_builtin1 (PyProof.Rows.args_cons ?_ rfl) rfl rfl))
  refine Call_ (ld_blt I hg2 hm2 boot_set (PyProof.Rows.callWith_type1 (PyProof.Rows.args_cons (thn (ha.run pins s σ H _ I h) fun v s1 ⟨x, H1, I1, r1, q1⟩ => PyProof.Rows.args_nil ?_) na) na rfl))
  obtain ⟨z, rfl, hz, h64, q1⟩ := q1
  obtain ⟨t, rfl⟩ := r1
  refine call_setT (I1.ok.hd hc) (by unfold scanBound; omega) fun h' tk D l ho py nd hl hm kp => ?_
  have I2 : Inv X pins σ H1 { s1 with heap := h', toks := tk } := I1.kept kp
  refine PyProof.Rows.args_nil (sorted_setT (s := { s1 with heap := h', toks := tk }) (I2.ok.hd hc) ho py (h64 l nd hm) fun s' p out c ys k g o hp hg2 hi pm hs => ?_)
  have hlen : (ys.map V.str).length ≤ sizeLine := by rw [List.length_map, pm.length_eq, sizeLine_eq]; omega
  have hn : H1 p = none := I2.hok.fresh hp
  exact ⟨.ref p, _, I2.call' (ch := []) o (Un.laid k hp hn) (I2.hok.laid k hp (show ObjOk X.prog X.w _ _ p (.lst (ys.map V.str)) from ⟨hlen, out.toList, c, vals_of_strs hi, hg2⟩)) (by rw [g]; exact I2.bare) (fun _ z => nomatch z), rfl, q1 l ys p nd hl hm pm hs hn⟩
end
end DL

set_option Elab.async false
set_option linter.all false
set_option maxRecDepth 100000
set_option maxHeartbeats 1000000
namespace DL
open PySem PySem.Spec PyProof.Rows L2

/-! ### sum(lists, list) -/
theorem args_sum2 (a b : Value) : argsOk "sum" ⟨[a, b], []⟩ := by unfold argsOk; kernel_rfl
section
variable {P : Program} {w : World} {A : Around} {E : Value → Shared → Prop} {s : Shared}
def flatV' (val : Nat → List Value) : Nat → List Value
  | 0 => []
  | n + 1 => flatV' val n ++ val n
def lobj (xs : List Value) (c : Nat) : Obj := seqObj "list" xs.toArray c
theorem suml_loop {I : Addr} {fp wr : List Addr} {G : Array GenState → Array GenState → Prop} {n : Nat} {Pv : Nat → Value → Prop} {St : Nat → Shared → Prop} {R : Result → Shared → Prop}
    (W : WalksS P w A.in1 I fp wr G n Pv St) (S b0 : Addr) (h0 : Heap) (st0 : List Value) (val : Nat → List Value) (hS0 : S = h0.objs.size) (hfp : ∀ b ∈ fp, b < S) (hb0 : b0 < S)
    (hval : ∀ i v, Pv i v → ∃ a c, v = .ref a ∧ a ∉ wr ∧ h0.get? a = some (lobj (val i) c)) (hsz : ∀ i, i ≤ n → (st0 ++ flatV' val i).length ≤ sizeLine) :
    ∀ (k i : Nat) (s : Shared) (T : Addr) (c cS : Nat), n - i = k → i ≤ n → St i s → s.heap.get? S = some (seqObj "list" #[.ref T] cS) → s.heap.get? T = some (lobj (st0 ++ flatV' val i) c) → T ≠ S → (i = 0 ∧ T = b0 ∨ S < T) → T ∉ wr →
      (∀ b o, b ∉ wr → h0.get? b = some o → s.heap.get? b = some o) →
      (∀ s' T c, Moved (S :: wr) G s s' → s'.heap.get? T = some (lobj (st0 ++ flatV' val n) c) → (n = 0 ∧ T = b0 ∨ S < T) → R (.ok (.ret (.ref T))) s') →
      codeAny (model P w) A (.builtin "sum.loop" ⟨[.ref I, .ref S, rawInt 2, rawInt 0], []⟩) R s := by
  have hSf : S ∉ fp := fun h => Nat.lt_irrefl _ (hfp _ h)
  have hSw : S ∉ wr := fun h => hSf (W.sub _ h)
  have sub2 : ∀ b ∈ wr, b ∈ S :: wr := fun b hb => List.mem_cons_of_mem _ hb
  intro k
  induction k with
  | zero =>
    intro i s T c cS hk hi hst ho hT hTS hT0 hTf hk0 hR
    obtain rfl : i = n := by omega
    refine codeAny_builtin F.entry_sum_loop ?_
    rw [Around.under_plainId F.plain_sum_loop _]; show wpAny _ A.in1 (seqItems? (.ref S) >>= _) _ _ s
    refine wpAny_bind (wpAny_seqItems ho rfl ?_); show wpAny _ A.in1 (tryCatch (pyNext (.ref I)) _ >>= _) _ _ s
    refine wpAny_bind (wpAny_tryCatch (W.done s _ _ hst fun s' mv => wpAny_pure ?_))
    exact hR s' T c (mv.mono sub2) (mv.heap T _ hTf hT) hT0
  | succ k ih =>
    intro i s T c cS hk hi hst ho hT hTS hT0 hTf hk0 hR
    have hlt : i < n := by omega
    refine codeAny_builtin F.entry_sum_loop ?_
    rw [Around.under_plainId F.plain_sum_loop _]; show wpAny _ A.in1 (seqItems? (.ref S) >>= _) _ _ s
    refine wpAny_bind (wpAny_seqItems ho rfl ?_); show wpAny _ A.in1 (tryCatch (pyNext (.ref I)) _ >>= _) _ _ s
    refine wpAny_bind (wpAny_tryCatch (W.item i s _ _ hlt hst fun v s' hP hst' mv => ?_))
    obtain ⟨a, ca, rfl, haw, ha⟩ := hval i v hP
    have ho1 := mv.heap S _ hSw ho
    have hT1 := mv.heap T _ hTf hT
    have ha1 := mv.heap a _ haw (hk0 a _ haw ha)
    have hlen : (st0 ++ flatV' val i).length + (val i).length ≤ sizeLine := by
      have := hsz (i + 1) (by omega)
      rw [show flatV' val (i + 1) = flatV' val i ++ val i from rfl, ← List.append_assoc, List.length_append] at this
      exact this
    show wpAny _ A.in1 ((holding [Value.ref a] (binaryOp .Add (.ref T) (.ref a))).attempt >>= _) _ _ _
    refine wpAny_bind (wpAny_attempt (wpAny_holding (PySem.P.add_list hT1 ha1 ?_ (by rw [List.size_toArray, List.size_toArray]; exact hlen))))
    have ea : (st0 ++ flatV' val i).toArray ++ (val i).toArray = (st0 ++ flatV' val (i + 1)).toArray := by
      rw [show flatV' val (i + 1) = flatV' val i ++ val i from rfl]; simp
    rw [ea]
    have hSlt : S < s'.heap.objs.size := Heap.lt_size ho1
    have ho2 : (s'.heap.push { cls := .type "list", data := .seq (st0 ++ flatV' val (i + 1)).toArray }).get? S = some (seqObj "list" #[.ref T] cS) := Heap.get?_push_of_some _ ho1
    have hN : (s'.heap.push { cls := .type "list", data := .seq (st0 ++ flatV' val (i + 1)).toArray }).get? s'.heap.objs.size = some (lobj (st0 ++ flatV' val (i + 1)) 0) := Heap.get?_push_size _ rfl
    show wpAny _ A.in1 (updateSeq S (fun _ => #[.ref s'.heap.objs.size]) >>= _) _ _ _
    refine wpAny_bind (wpAny_updateSeq ho2 rfl ?_)
    have ho3 := Heap.get?_update_self (Obj.mapSeq fun _ => #[Value.ref s'.heap.objs.size]) ho2 rfl
    refine wpAny_bind (wpAny_letGo ?_)
    have oth : ∀ b o, b ≠ S → s'.heap.get? b = some o → (((s'.heap.push { cls := .type "list", data := .seq (st0 ++ flatV' val (i + 1)).toArray }).update S (Obj.mapSeq fun _ => #[Value.ref s'.heap.objs.size])).update S (Obj.mapSeq fun _ => #[Value.ref s'.heap.objs.size])).get? b = some o := fun b o hb e =>
      (Heap.get?_update_other _ _ (Ne.symm hb)).trans ((Heap.get?_update_other _ _ (Ne.symm hb)).trans (Heap.get?_push_of_some _ e))
    have hN2 : (((s'.heap.push { cls := .type "list", data := .seq (st0 ++ flatV' val (i + 1)).toArray }).update S (Obj.mapSeq fun _ => #[Value.ref s'.heap.objs.size])).update S (Obj.mapSeq fun _ => #[Value.ref s'.heap.objs.size])).get? s'.heap.objs.size = some (lobj (st0 ++ flatV' val (i + 1)) 0) :=
      (Heap.get?_update_other _ _ (Nat.ne_of_lt hSlt)).trans ((Heap.get?_update_other _ _ (Nat.ne_of_lt hSlt)).trans hN)
    refine wpAny_bind (wpAny_updateSeq ho3 rfl (wpAny_pure ⟨plainId_quiet F.plain_sum_loop _, ih (i + 1) _ s'.heap.objs.size 0 _ (by omega) hlt
      (W.frame _ s' _ _ hst' (Nat.le_refl _) fun b hb o e => oth b o (fun z => hSf (z ▸ hb)) e) (Heap.get?_update_self _ ho3 rfl) hN2 (Nat.ne_of_gt hSlt) (.inr hSlt) (fun z => Nat.lt_irrefl _ (Nat.lt_trans hSlt (hfp _ (W.sub _ z))))
      (fun b o hb e => oth b o (fun z => by
        have := Heap.lt_size e
        rw [z, hS0] at this
        exact Nat.lt_irrefl _ this) (mv.heap b o hb (hk0 b o hb e))) fun s2 T2 c2 m2 e2 g2 => ?_⟩))
    exact hR s2 T2 c2 (Moved.trans W.gtrans ((mv.mono sub2).then_heap (Nat.le_refl _) fun b o hb e => oth b o (fun z => hb (by rw [z]; exact List.mem_cons_self)) e) m2) e2 g2
theorem sum_lists {l b0 : Addr} {its st0 : List Value} {cb : Nat} {val : Nat → List Value} {Q : Value → Shared → Prop} (hh : A.handled = none) (hl : s.heap.IsList l its.toArray) (hb : s.heap.get? b0 = some (lobj st0 cb))
    (hval : ∀ (i : Nat) (v : Value), its[i]? = some v → ∃ a c, v = .ref a ∧ s.heap.get? a = some (lobj (val i) c)) (hsz : ∀ i, i ≤ its.length → (st0 ++ flatV' val i).length ≤ sizeLine)
    (hQ : ∀ s' T c, (∀ b o, s.heap.get? b = some o → s'.heap.get? b = some o) → s'.gens = s.gens → s'.os = s.os → s'.heap.get? T = some (lobj (st0 ++ flatV' val its.length) c) → (its.length = 0 ∧ T = b0 ∨ s.heap.objs.size ≤ T) → Q (.ref T) s') :
    wpAny (model P w) A (call (.builtin "sum") [.ref l, .ref b0]) Q E s := by
  have hh1 : A.in1.handled = none := hh
  refine call_function_tree F.kind_sum F.plain_sum F.entry_sum (args_sum2 _ _) ?_
  unfold Builtin.«sum»
  simp only [List.length_cons, List.length_nil]
  rw [if_neg (by decide)]
  refine wpAny_bind (wpAny_of_eq (show Builtin.Builtins.bindParams "sum" ["start"] 0 ⟨[.ref b0], []⟩ = pure [some (.ref b0)] from rfl) ?_)
  refine wpAny_bind (wpAny_pyIter_list hl ?_)
  have hz1 : (s.heap.push { cls := .type "list_iterator", data := .fields #[.ref l, .int 0 0] }).objs.size = s.heap.objs.size + 1 := Heap.size_push ..
  have hb1 : (s.heap.push { cls := .type "list_iterator", data := .fields #[.ref l, .int 0 0] }).get? b0 = some (lobj st0 cb) := Heap.get?_push_of_some _ hb
  refine wpAny_bind (wpAny_pure ?_)
  simp only [List.forIn_cons, List.forIn_nil]
  have tb : Shared.TypeIs { s with heap := s.heap.push { cls := .type "list_iterator", data := .fields #[.ref l, .int 0 0] } } (.ref b0) "list" := ⟨_, hb1, rfl⟩
  refine wpAny_bind (wpAny_bind (wpAny_bind (wpAny_isInstance (b := false) tb PySem.F.sub_list_str ?_)))
  simp only [Bool.false_eq_true, if_false]
  refine wpAny_pure (wpAny_bind (wpAny_bind (wpAny_isInstance (b := false) tb PySem.F.sub_list_bytes ?_)))
  simp only [Bool.false_eq_true, if_false]
  refine wpAny_pure (wpAny_bind (wpAny_bind (wpAny_isInstance (b := false) tb PySem.F.sub_list_bytearray ?_)))
  simp only [Bool.false_eq_true, if_false]
  refine wpAny_pure (wpAny_pure (wpAny_bind (wpAny_newObj_type ?_)))
  have ll : l < s.heap.objs.size := by obtain ⟨o, ho, _⟩ := hl; exact Heap.lt_size ho
  have lb : b0 < s.heap.objs.size := Heap.lt_size hb
  have hne : l ≠ s.heap.objs.size := Nat.ne_of_lt ll
  have push2 : ∀ b o, s.heap.get? b = some o → ((s.heap.push { cls := .type "list_iterator", data := .fields #[.ref l, .int 0 0] }).push { cls := .type "list", data := .seq [Value.ref b0].toArray }).get? b = some o := fun b o e => Heap.get?_push_of_some _ (Heap.get?_push_of_some _ e)
  have hl2 : ((s.heap.push { cls := .type "list_iterator", data := .fields #[.ref l, .int 0 0] }).push { cls := .type "list", data := .seq [Value.ref b0].toArray }).IsList l its.toArray := (hl.push _).push _
  refine wpAny_pure ⟨plainId_quiet F.plain_sum_loop _, suml_loop (Walks.list hh1 s.heap.objs.size l hne its.toArray).toS (s.heap.push { cls := .type "list_iterator", data := .fields #[.ref l, .int 0 0] }).objs.size b0 (s.heap.push { cls := .type "list_iterator", data := .fields #[.ref l, .int 0 0] }) st0 val rfl
    (fun b hb => ?_) (by rw [hz1]; exact Nat.lt_succ_of_lt lb) (fun i v hv => ?_) (fun i hi => hsz i (by rw [List.size_toArray] at hi; exact hi)) (its.toArray.size - 0) 0 _ b0 cb 0 (by omega) (Nat.zero_le _)
    ⟨⟨_, Heap.get?_push_of_some _ (Heap.get?_push_size _ rfl), rfl, rfl⟩, hl2⟩ (Heap.get?_push_size _ rfl) ?_ ?_ (.inl ⟨rfl, rfl⟩) ?_ (fun b o _ e => Heap.get?_push_of_some _ e) fun s' T c mv e g => ?_⟩
  · rw [hz1]
    rcases List.mem_cons.mp hb with rfl | hb
    · exact Nat.lt_succ_self _
    · rw [List.mem_singleton.mp hb]; exact Nat.lt_succ_of_lt ll
  · obtain ⟨a, c, rfl, ha⟩ := hval i v (by simpa using hv)
    refine ⟨a, c, rfl, fun z => ?_, Heap.get?_push_of_some _ ha⟩
    exact Nat.ne_of_lt (Heap.lt_size ha) (List.mem_singleton.mp z)
  · rw [show st0 ++ flatV' val 0 = st0 from List.append_nil _]
    exact push2 _ _ hb
  · rw [hz1]; exact Nat.ne_of_lt (Nat.lt_succ_of_lt lb)
  · exact fun z => Nat.ne_of_lt lb (List.mem_singleton.mp z)
  · refine hQ s' T c (fun b o e' => ?_) mv.gens mv.os (by rw [List.size_toArray] at e; exact e) ?_
    · have hb := Heap.lt_size e'
      refine mv.heap b o (fun z => ?_) (push2 b o e')
      rcases List.mem_cons.mp z with z | z
      · rw [hz1] at z; exact Nat.ne_of_lt (Nat.lt_succ_of_lt hb) z
      · exact Nat.ne_of_lt hb (List.mem_singleton.mp z)
    · rcases g with ⟨g1, g2⟩ | g
      · exact .inl ⟨by rw [List.size_toArray] at g1; exact g1, g2⟩
      · rw [hz1] at g
        exact .inr (Nat.le_of_lt (Nat.lt_trans (Nat.lt_succ_self _) g))
end
end DL

set_option Elab.async false
set_option linter.all false
set_option maxRecDepth 100000
set_option maxHeartbeats 1000000
namespace DL
open PySem PySem.Spec PyProof.Rows L2

/-! ### texts in order -/
def insS (x : List Nat) : List (List Nat) → List (List Nat)
  | [] => [x]
  | y :: r => if y < x then y :: insS x r else x :: y :: r
def sortS : List (List Nat) → List (List Nat)
  | [] => []
  | x :: r => insS x (sortS r)
theorem insS_perm (x : List Nat) : ∀ l, (insS x l).Perm (x :: l)
  | [] => List.Perm.refl _
  | y :: r => by
    unfold insS
    split
    · exact ((insS_perm x r).cons y).trans (List.Perm.swap x y r)
    · exact List.Perm.refl _
theorem sortS_perm : ∀ l, (sortS l).Perm l
  | [] => List.Perm.refl _
  | x :: r => (insS_perm x (sortS r)).trans ((sortS_perm r).cons x)
def Asc (l : List (List Nat)) : Prop := l.Pairwise fun a b => a ≤ b
theorem insS_asc (x : List Nat) : ∀ l, Asc l → Asc (insS x l)
  | [], _ => List.pairwise_singleton _ _
  | y :: r, h => by
    obtain ⟨h1, h2⟩ := List.pairwise_cons.mp h
    unfold insS
    split
    · rename_i hlt
      refine List.pairwise_cons.mpr ⟨fun z hz => ?_, insS_asc x r h2⟩
      rcases List.mem_cons.mp ((insS_perm x r).mem_iff.mp hz) with rfl | hz
      · exact (List.le_total y z).elim id fun q => absurd hlt (List.not_lt.mpr q)
      · exact h1 z hz
    · rename_i hn
      have hx : x ≤ y := List.not_lt.mp hn
      refine List.pairwise_cons.mpr ⟨fun z hz => ?_, h⟩
      rcases List.mem_cons.mp hz with rfl | hz
      · exact hx
      · exact List.le_trans hx (h1 z hz)
theorem sortS_asc : ∀ l, Asc (sortS l)
  | [] => List.Pairwise.nil
  | x :: r => insS_asc x _ (sortS_asc r)
theorem asc_eq {l m : List (List Nat)} (h1 : Asc l) (h2 : Asc m) (p : l.Perm m) : l = m := List.Perm.eq_of_pairwise (fun a b _ _ h h' => List.le_antisymm h h') h1 h2 p
theorem rising_asc : ∀ (l : List Str) (p : Str), risingS p l = true → Asc ((p :: l).map fun s => s.cps.toList)
  | [], p, _ => List.pairwise_singleton _ _
  | x :: r, p, h => by
    unfold risingS at h
    rw [Bool.and_eq_true, ltCps_eq] at h
    have ih := rising_asc r x h.2
    have hpx : p.cps.toList ≤ x.cps.toList := List.not_lt.mp (by simpa using h.1)
    rw [List.map_cons]
    refine List.pairwise_cons.mpr ⟨fun z hz => ?_, ih⟩
    rw [List.map_cons] at hz
    rcases List.mem_cons.mp hz with rfl | hz
    · exact hpx
    · exact List.le_trans hpx ((List.pairwise_cons.mp ih).1 z hz)
theorem sorted_asc : ∀ (l : List Str), sortedS l = true → Asc (l.map fun s => s.cps.toList)
  | [], _ => List.Pairwise.nil
  | x :: r, h => rising_asc r x h
theorem mkS_cps (s : Str) : mkS s.cps.toList = s := by
  show (⟨s.cps.toList.toArray⟩ : Str) = s
  rw [Array.toArray_toList]
/-- the sorted texts -/
theorem sorted_is {ys : List Str} {ss : List (List Nat)} (hs : sortedS ys = true) (p : ys.Perm (ss.map mkS)) : ys = (sortS ss).map mkS := by
  have e1 := sorted_asc ys hs
  have p1 : (ys.map fun s => s.cps.toList).Perm ss := by
    have := p.map fun s => s.cps.toList
    rw [List.map_map] at this
    have e : (ss.map ((fun s : Str => s.cps.toList) ∘ mkS)) = ss := by
      rw [show ((fun s : Str => s.cps.toList) ∘ mkS) = id from by funext s; rfl, List.map_id]
    rw [e] at this
    exact this
  have e2 := asc_eq e1 (sortS_asc ss) (p1.trans (sortS_perm ss).symm)
  rw [← e2, List.map_map]
  have : (mkS ∘ fun s : Str => s.cps.toList) = id := by funext s; exact mkS_cps s
  rw [this, List.map_id]
section
variable {X : Cx}
theorem reps_strs {K : PySem.W.Frag} {F : Hp} {μ : List Addr} : ∀ ss : List (List Nat), Reps K F μ (ss.map .str) ((ss.map mkS).map V.str)
  | [] => .nil
  | s :: ss => .cons (.str s) (reps_strs ss)
def dSorted : List D → Option D
  | [.lst xs] => (asSs xs).bind fun ss => guard' (decide (ss.length < 64)) (.lst ((sortS ss).map .str))
  | _ => none
theorem ch_sorted : ClH X (.builtin "sorted") dSorted := by
  refine ⟨_, cr_sortedS, ?_⟩
  intro c F μ σ H s xs ds z Q R r h k
  match ds, h, r with
  | [.lst t], h, r =>
    simp only [dSorted] at h
    rw [Option.bind_eq_some_iff] at h
    obtain ⟨ss, e, h⟩ := h
    obtain ⟨hl, rfl⟩ := guard_some h
    obtain ⟨y, rfl, r1⟩ := p1 r
    obtain ⟨a, vs, rfl, e1, q1⟩ := r1.lst_inv R.sub
    have := asSs_rep q1 e
    subst this
    refine ⟨a, ss.map mkS, rfl, SqL.of e1, by rw [List.length_map]; exact of_decide_eq_true hl, fun ys p pm hs hp => ?_⟩
    rw [sorted_is hs pm]
    exact newLst R (reps_strs _) k p hp
/-! ### sorted(set(text)) -/
def dd : List Nat → List Nat
  | [] => []
  | c :: r => if c ∈ dd r then dd r else c :: dd r
theorem dd_mem : ∀ {l : List Nat} {c : Nat}, c ∈ dd l ↔ c ∈ l
  | [], c => Iff.rfl
  | x :: r, c => by
    unfold dd
    split
    · rename_i h
      rw [dd_mem, List.mem_cons]
      exact ⟨.inr, fun q => q.elim (fun e => by rw [e]; exact dd_mem.mp h) id⟩
    · rw [List.mem_cons, List.mem_cons, dd_mem]
theorem dd_nodup : ∀ l : List Nat, (dd l).Nodup
  | [] => List.nodup_nil
  | x :: r => by
    unfold dd
    split
    · exact dd_nodup r
    · rename_i h; exact List.nodup_cons.mpr ⟨h, dd_nodup r⟩
def dSoSe : D → Option D
  | .str z => guard' (decide (z.length ≤ 4000) && decide ((dd z).length < 64)) (.lst ((sortS ((dd z).map fun c => [c])).map .str))
  | _ => none
theorem soSe_perm {z : List Nat} {l : List Str} (nd : l.Nodup) (hm : ∀ y, y ∈ l ↔ ∃ c ∈ (mkS z).cps.toList, y = PySem.Froz.sing c) : l.Perm (((dd z).map fun c => [c]).map mkS) := by
  have nd2 : (((dd z).map fun c => [c]).map mkS).Nodup := by
    rw [List.map_map]
    refine List.pairwise_map.mpr ((dd_nodup z).imp fun {a b} hne h => hne ?_)
    have h2 : (mkS [a]).cps.toList = (mkS [b]).cps.toList := congrArg (fun s : Str => s.cps.toList) h
    injection h2
  refine (List.perm_ext_iff_of_nodup nd nd2).mpr fun y => ?_
  rw [hm y, List.map_map, List.mem_map]
  constructor
  · rintro ⟨c, hc, rfl⟩; exact ⟨c, dd_mem.mpr hc, rfl⟩
  · rintro ⟨c, hc, rfl⟩; exact ⟨c, dd_mem.mp hc, rfl⟩
variable {cls : Nat → Addr} {a b e : Expr} {f g h : Ev D} {pos : Pos}
theorem de_soSe {p p2 q : Pos} (hc : X.calm = true) (hg : Gl X "sorted") (hm : X.mg "sorted" = none) (hg2 : Gl X "set") (hm2 : X.mg "set" = none) (ha : DE cls X a f) (na : starEach [a] X.env = (false, eval a X.env) :: starEach [] X.env := by rfl) :
    DE cls X (.Call (.Name "sorted" p) [.Call (.Name "set" p2) [a] [] q] [] pos) (eUn dSoSe f) := by
  refine imp (pe_soSe hc hg hm hg2 hm2 ha na) fun σ H Q ⟨c, F, μ, s, hc, R, z, s', e, k⟩ => ?_
  obtain ⟨x, s1, e1, f1⟩ := bnd_some e
  obtain ⟨e3, w3⟩ := lft_some f1
  subst w3
  refine ⟨c, F, μ, s, hc, R, x, s', e1, fun u H1 F1 μ1 R1 m1 r1 => ?_⟩
  cases x <;> simp only [dSoSe] at e3 <;> try (cases e3; done)
  rename_i t
  obtain ⟨hl, rfl⟩ := guard_some e3
  simp only [Bool.and_eq_true, decide_eq_true_eq] at hl
  refine ⟨mkS t, r1.str_inv, by show t.toArray.size ≤ _; rw [List.size_toArray]; exact hl.1, fun l nd hm => ?_, fun l ys p nd _ hm pm hs hp => ?_⟩
  · rw [(soSe_perm nd hm).length_eq, List.length_map, List.length_map]; exact hl.2
  · rw [sorted_is hs (pm.trans (soSe_perm nd hm))]
    exact newLst R1 (reps_strs _) (fun v H' F' μ' R' m' r' => k v H' F' μ' R' (m1.trans m') r') p hp
/-! ### places in a text -/
def posL (c : Nat) : List Nat → Nat → List Nat
  | [], _ => []
  | x :: r, k => if x = c then k :: posL c r (k + 1) else posL c r (k + 1)
theorem posL_cons (c x : Nat) (r : List Nat) (k : Nat) : posL c (x :: r) k = if x = c then k :: posL c r (k + 1) else posL c r (k + 1) := rfl
theorem pos_filter (c : Nat) : ∀ (a : List Nat) (k : Nat), (List.range' k (a.length + 1)).filter (fun i => decide (a[i - k]? = some c)) = posL c a k
  | [], k => by simp [posL]
  | x :: r, k => by
    have ih := pos_filter c r (k + 1)
    rw [List.length_cons, List.range'_succ, List.filter_cons]
    have e : (List.range' (k + 1) (r.length + 1)).filter (fun i => decide ((x :: r)[i - k]? = some c)) = posL c r (k + 1) := by
      rw [← ih]
      apply List.filter_congr
      intro i hi
      have h1 : k + 1 ≤ i := (List.mem_range'_1.mp hi).1
      rw [show i - k = (i - (k + 1)) + 1 by omega, List.getElem?_cons_succ]
    rw [e, Nat.sub_self, List.getElem?_cons_zero]
    rw [posL_cons]
    by_cases h : x = c
    · rw [if_pos h, if_pos (by rw [h]; simp)]
    · rw [if_neg h, if_neg (by simpa using h)]
theorem pos_len (c : Nat) : ∀ (a : List Nat) (k : Nat), (posL c a k).length = a.count c
  | [], _ => rfl
  | x :: r, k => by
    rw [posL_cons]
    rw [List.count_cons]
    by_cases h : x = c
    · rw [if_pos h, List.length_cons, pos_len c r, if_pos (by rw [h]; simp)]
    · rw [if_neg h, pos_len c r, if_neg (by simpa using h)]; rfl
theorem pos_head (c : Nat) : ∀ (a : List Nat) (k : Nat), c ∈ a → (posL c a k).head? = some (k + a.idxOf c)
  | [], _, h => by simp at h
  | x :: r, k, h => by
    rw [posL_cons]
    rw [List.idxOf_cons]
    by_cases hx : x = c
    · rw [if_pos hx, hx]; simp
    · rw [if_neg hx]
      have hr : c ∈ r := (List.mem_cons.mp h).resolve_left fun e => hx e.symm
      rw [pos_head c r (k + 1) hr]
      have : (x == c) = false := by simpa using hx
      rw [this]
      simp only [cond_false]
      congr 1
      omega
theorem occ_go (a : List Nat) (c limit : Nat) : ∀ (m k free : Nat) (found : Array Nat), free ≤ k →
    (forIn (List.range' k m) (found, free) (StrLaws.occBody (mkS a) ⟨#[c]⟩ (mkS a).length limit)).run.fst.toList = found.toList ++ ((List.range' k m).filter fun i => decide (a[i]? = some c)).take (limit - found.size)
  | 0, k, free, found, h => by simp
  | m + 1, k, free, found, h => by
    rw [List.range'_succ, List.forIn_cons, List.filter_cons]
    have one := StrLaws.subAt_one (mkS a) c k
    have ea : (mkS a).cps.toList[k]? = a[k]? := rfl
    rw [ea] at one
    unfold StrLaws.occBody
    by_cases hk : a[k]? = some c
    · rw [if_pos (c := decide (a[k]? = some c) = true) (by rw [hk]; simp)]
      by_cases hlim : found.size < limit
      · rw [if_pos ⟨⟨⟨hlim, h⟩, (one.mpr hk).1⟩, (one.mpr hk).2⟩]
        have ih := occ_go a c limit m (k + 1) (k + 1) (found.push k) (Nat.le_refl _)
        refine Eq.trans ih ?_
        rw [Array.toList_push, Array.size_push, List.append_assoc, show limit - found.size = (limit - (found.size + 1)) + 1 by omega, List.take_succ_cons]; rfl
      · rw [if_neg fun z => hlim z.1.1.1]
        have ih := occ_go a c limit m (k + 1) free found (by omega)
        refine Eq.trans ih ?_
        rw [show limit - found.size = 0 by omega, List.take_zero, List.take_zero]
    · rw [if_neg (c := decide (a[k]? = some c) = true) (by simpa using hk), if_neg fun z => hk (one.mp ⟨z.1.2, z.2⟩)]
      exact occ_go a c limit m (k + 1) free found (by omega)
theorem occ_is (a : List Nat) (c limit : Nat) : Builtin.Str.occurrences (mkS a) (mkS [c]) 0 (mkS a).length limit = (posL c a 0).take limit := by
  have e := StrLaws.occ_eq (mkS a) ⟨#[c]⟩ 0 (mkS a).length limit
  have e2 := occ_go a c limit ((mkS a).length + 1 - 0) 0 0 #[] (Nat.le_refl _)
  refine Eq.trans e (Eq.trans e2 ?_)
  have hl : (mkS a).length + 1 - 0 = a.length + 1 := by rw [mkS_len]; rfl
  rw [hl, ← pos_filter c a 0]
  simp
theorem mt_indexF : MtR X "str.index" (fun x xs H Q => ∃ (a b : Str) (k : Nat), x = .str a ∧ xs = [.str b] ∧ (∃ rest, Builtin.Str.occurrences a b 0 a.length 1 = k :: rest) ∧ Q (.int (k : Nat)) H) := by
  intro pins s σ H x xs v us Q I rx rs h
  obtain ⟨a, b, k, rfl, rfl, ⟨rest, ho⟩, q⟩ := h
  obtain ⟨t, rfl⟩ := rx
  cases rs with
  | cons r1 rs =>
    cases rs
    obtain ⟨u, rfl⟩ := r1
    exact PySem.SC.index ho ⟨.int (k : Nat), H, I.tok _, ⟨_, rfl⟩, q⟩
def dIdx : D → D → Option D
  | .str a, .str [c] => guard' (decide (c ∈ a)) (.int (a.idxOf c : Nat))
  | _, _ => none
def dCnt : D → D → Option D
  | .str a, .str [c] => some (.int (a.count c : Nat))
  | _, _ => none
theorem dIdx_some {x y z : D} (h : dIdx x y = some z) : ∃ t c, x = .str t ∧ y = .str [c] ∧ c ∈ t ∧ z = .int (t.idxOf c : Nat) := by
  unfold dIdx at h
  split at h
  · obtain ⟨q1, q2⟩ := guard_some h; exact ⟨_, _, rfl, rfl, of_decide_eq_true q1, q2⟩
  · cases h
theorem dCnt_some {x y z : D} (h : dCnt x y = some z) : ∃ t c, x = .str t ∧ y = .str [c] ∧ z = .int (t.count c : Nat) := by
  unfold dCnt at h
  split at h
  · cases h; exact ⟨_, _, rfl, rfl, rfl⟩
  · cases h
theorem de_index {apos : Pos} (ho : DE cls X a f) (he : DE cls X e g) (hs : starEach [e] X.env = [(false, eval e X.env)] := by rfl) (hbase : attributeBase a "index" X.env (eval a X.env) = eval a X.env := by rfl) (hline : (apos.endLine == pos.line) = true := by rfl) :
    DE cls X (.Call (.Attribute a "index" apos) [e] [] pos) (eBin dIdx f g) := by
  refine imp (pe_m1 PySem.F.slot_str_index PySem.F.type_str_index mt_indexF ho he hs hbase hline) fun σ H Q ⟨c, F, μ, s, hc, R, z, s', e, k⟩ => ?_
  obtain ⟨x, s1, e1, f1⟩ := bnd_some e
  obtain ⟨y, s2, e2, f2⟩ := bnd_some f1
  obtain ⟨e3, w3⟩ := lft_some f2
  subst w3
  have hx := dIdx_some e3
  obtain ⟨t, d, rfl, rfl, hd, rfl⟩ := hx
  refine ⟨c, F, μ, s, hc, R, _, s1, e1, fun v H1 F1 μ1 R1 m1 r1 => ⟨⟨_, r1.str_inv⟩, c, F1, μ1, s1, hc, R1, _, s', e2, fun u H2 F2 μ2 R2 m2 r2 => ?_⟩⟩
  refine ⟨mkS t, mkS [d], t.idxOf d, r1.str_inv, by rw [r2.str_inv], ?_, atom R2 (.int _) fun v' H' F' μ' R' m' r' => k v' H' F' μ' R' (m1.trans (m2.trans m')) r'⟩
  rw [occ_is]
  have hh := pos_head d t 0 hd
  rw [Nat.zero_add] at hh
  cases hp : posL d t 0 with
  | nil => rw [hp] at hh; cases hh
  | cons q r =>
    rw [hp] at hh
    cases hh
    exact ⟨[], rfl⟩
theorem de_count {apos : Pos} (ho : DE cls X a f) (he : DE cls X e g) (hs : starEach [e] X.env = [(false, eval e X.env)] := by rfl) (hbase : attributeBase a "count" X.env (eval a X.env) = eval a X.env := by rfl) (hline : (apos.endLine == pos.line) = true := by rfl) :
    DE cls X (.Call (.Attribute a "count" apos) [e] [] pos) (eBin dCnt f g) := by
  refine imp (pe_m1 PySem.F.slot_str_count PySem.F.type_str_count mt_count ho he hs hbase hline) fun σ H Q ⟨c, F, μ, s, hc, R, z, s', e, k⟩ => ?_
  obtain ⟨x, s1, e1, f1⟩ := bnd_some e
  obtain ⟨y, s2, e2, f2⟩ := bnd_some f1
  obtain ⟨e3, w3⟩ := lft_some f2
  subst w3
  have hx := dCnt_some e3
  obtain ⟨t, d, rfl, rfl, rfl⟩ := hx
  refine ⟨c, F, μ, s, hc, R, _, s1, e1, fun v H1 F1 μ1 R1 m1 r1 => ⟨⟨_, r1.str_inv⟩, c, F1, μ1, s1, hc, R1, _, s', e2, fun u H2 F2 μ2 R2 m2 r2 => ?_⟩⟩
  refine ⟨mkS t, mkS [d], r1.str_inv, by rw [r2.str_inv], ?_⟩
  have hn : Txt.count (mkS t) (mkS [d]) = ((t.count d : Nat) : Int) := by
    unfold Txt.count
    rw [occ_is, List.take_of_length_le, pos_len]
    rw [pos_len, mkS_len]
    have := List.count_le_length (a := d) (l := t)
    omega
  rw [hn]
  exact atom R2 (.int _) fun v' H' F' μ' R' m' r' => k v' H' F' μ' R' (m1.trans (m2.trans m')) r'
/-! ### list(text), a new list -/
theorem cr_listT (hc : X.calm = true) : CallR X (.type "list") (fun xs H Q => ∃ a : Str, xs = [.str a] ∧ a.cps.size ≤ LIM ∧ ∀ p, H p = none → Q (.ref p) (upd H p (.lst (a.cps.toList.map fun c => V.str ⟨#[c]⟩)))) := by
  intro pins s σ H xs us Q I r ⟨a, e, hz, q⟩
  subst e
  obtain ⟨u, rfl, ru⟩ := vals1 r
  obtain ⟨t, rfl⟩ := ru
  refine call_list_str (I.ok.hd hc) a t (hn := lim_le hz) fun h' tk acc c hk hS hacc => ?_
  have hv : Vals (a.cps.toList.map fun c => V.str ⟨#[c]⟩) acc.toList := by
    refine vals_of_idx _ _ (by rw [List.length_map, Array.length_toList, Array.length_toList]; exact hacc.1) fun j u hj => ?_
    obtain ⟨c, t', hc, rfl⟩ := hacc.2 j u (by rw [← Array.getElem?_toList]; exact hj)
    exact ⟨.str ⟨#[c]⟩, by rw [List.getElem?_map, Array.getElem?_toList, hc]; rfl, ⟨_, rfl⟩⟩
  refine ⟨.ref s.heap.objs.size, upd H s.heap.objs.size (.lst (a.cps.toList.map fun c => V.str ⟨#[c]⟩)), I.laid (t' := tk) hk (Nat.le_refl _) (show ObjOk X.prog X.w _ _ _ (.lst (a.cps.toList.map fun c => V.str ⟨#[c]⟩)) from ⟨?_, acc.toList, c, hv, by rw [Array.toArray_toList]; exact hS⟩), rfl, q _ (I.hok.fresh (Nat.le_refl _))⟩
  rw [List.length_map, Array.length_toList]; exact lim_le hz
def lettersD : D → Option (List D)
  | .str z => guard' (decide (z.length ≤ LIM)) (z.map fun c => .str [c])
  | _ => none
def eLetters (f : Ev D) : Ev (List D) := bnd f fun d => lft (lettersD d)
theorem reps_letters {K : PySem.W.Frag} {F : Hp} {μ : List Addr} : ∀ z : List Nat, Reps K F μ (z.map fun c => .str [c]) (z.map fun c => V.str ⟨#[c]⟩)
  | [] => .nil
  | c :: z => .cons (.str [c]) (reps_letters z)
theorem df_letters {pp : Pos} (hc : X.calm = true) (hg : Gl X "list") (hm : X.mg "list" = none) (he : DE cls X e f) (hs : starEach [e] X.env = (false, eval e X.env) :: starEach [] X.env := by rfl) : DF cls X (.Call (.Name "list" pp) [e] [] pos) (eLetters f) := by
  refine imp (pe_callTy (cr_listT hc) hg hm (by decide +kernel) (pa_cons he pa_nil hs) (he := hs)) fun σ H Q ⟨c, F, μ, ρ, S, hc, R, z, ρ', S', e, k⟩ => ?_
  obtain ⟨x, s1, e1, f1⟩ := bnd_some e
  obtain ⟨e3, w3⟩ := lft_some f1
  subst w3
  refine ⟨c, F, μ, _, hc, R, x, _, e1, fun u H1 F1 μ1 R1 m1 r1 => ?_⟩
  cases x <;> simp only [lettersD] at e3 <;> try (cases e3; done)
  rename_i t
  obtain ⟨hl, rfl⟩ := guard_some e3
  refine ⟨mkS t, by rw [r1.str_inv], by show t.toArray.size ≤ _; rw [List.size_toArray]; exact of_decide_eq_true hl, fun p hp => ?_⟩
  exact k _ _ _ _ (R1.pushL hp (reps_letters t)) m1
end
end DL

set_option Elab.async false
set_option linter.all false
set_option maxRecDepth 100000
set_option maxHeartbeats 1000000
namespace DL
open PySem PySem.Spec PyProof.Rows L2

/-! ### sum(lists, list) -/
section
variable {X : Cx}
theorem flat_take (vls : List (List Value)) : ∀ n, n ≤ vls.length → flatV' (fun i => vls.getD i []) n = (vls.take n).flatten
  | 0, _ => by simp [flatV']
  | n + 1, h => by
    show flatV' _ n ++ vls.getD n [] = _
    rw [flat_take vls n (by omega), List.take_add_one, List.flatten_append, List.getD_eq_getElem?_getD, List.getElem?_eq_getElem (by omega)]
    simp
theorem lists_at {pins : List (Addr × Obj)} {σ : L2.St} {H : Hp} {s : Shared} (I : L2.Inv X pins σ H s) : ∀ ps : List (Addr × List V), (∀ p ∈ ps, H p.1 = some (.lst p.2)) → ∃ vls : List (List Value), vls.length = ps.length ∧ Vals (ps.map (·.2)).flatten vls.flatten ∧
    (∀ (i : Nat) p, ps[i]? = some p → ∃ c, s.heap.get? p.1 = some (lobj (vls.getD i []) c)) ∧ vls.map List.length = ps.map fun p => p.2.length
  | [], _ => ⟨[], rfl, .nil, fun i p h => by simp at h, rfl⟩
  | p :: ps, h => by
    obtain ⟨vls, h1, h2, h3, h4⟩ := lists_at I ps fun q hq => h q (by simp [hq])
    obtain ⟨z, its, n, r, hl, e⟩ := I.lstM (h p (by simp))
    refine ⟨its :: vls, by rw [List.length_cons, List.length_cons, h1], Vals.append r h2, fun i q hq => ?_, by rw [List.map_cons, List.map_cons, h4, hl]⟩
    cases i with
    | zero =>
      cases hq
      exact ⟨n, e⟩
    | succ i =>
      obtain ⟨c, hc⟩ := h3 i q (by simpa using hq)
      exact ⟨c, by simpa using hc⟩
theorem cr_sum2 (hc : X.calm = true) : CallR X (.builtin "sum") (fun vs H Q => ∃ (a b : Addr) (ps : List (Addr × List V)) (st : List V), vs = [V.ref a, V.ref b] ∧ H a = some (.lst (ps.map fun p => V.ref p.1)) ∧ (∀ p ∈ ps, H p.1 = some (.lst p.2)) ∧ H b = some (.lst st) ∧
    st.length + (ps.map fun p => p.2.length).sum ≤ LIM ∧ (ps = [] → Q (.ref b) H) ∧ ∀ p, H p = none → Q (.ref p) (upd H p (.lst (st ++ (ps.map (·.2)).flatten)))) := by
  intro pins s σ H vs us Q I r ⟨a, b, ps, st, e, ha, hp, hb, hz, q0, q⟩
  subst e
  have hus : us = [Value.ref a, Value.ref b] := by
    cases r with
    | cons r1 rr =>
      cases rr with
      | cons r2 rr =>
        cases rr
        cases r1
        cases r2
        rfl
  subst hus
  obtain ⟨z1, its, n1, rv, hl1, e1⟩ := I.lstM ha
  obtain ⟨z2, st0, n2, r2, hl2, e2⟩ := I.lstM hb
  obtain ⟨vls, w1, w2, w3, w4⟩ := lists_at I ps hp
  rw [List.length_map] at hl1
  have hfl : ∀ i, i ≤ its.length → (st0 ++ flatV' (fun i => vls.getD i []) i).length ≤ LIM := fun i hi => by
    rw [List.length_append, ← hl2, flat_take vls i (by omega), List.length_flatten]
    have h2 : ((vls.take i).map List.length).sum ≤ (vls.map List.length).sum := by
      conv => rhs; rw [← List.take_append_drop i vls, List.map_append, List.sum_append]
      omega
    rw [w4] at h2
    omega
  have hv : ∀ (i : Nat) (v : Value), its[i]? = some v → ∃ a c, v = .ref a ∧ s.heap.get? a = some (lobj (vls.getD i []) c) := fun i v hv => by
    have hi : i < ps.length := by have := (List.getElem?_eq_some_iff.mp hv).1; omega
    obtain ⟨c, hc⟩ := w3 i ps[i] (List.getElem?_eq_getElem hi)
    obtain ⟨u, hu, ru⟩ := rv.get (i := i) (x := V.ref ps[i].1) (by rw [List.getElem?_map, List.getElem?_eq_getElem hi]; rfl)
    rw [hv] at hu
    cases hu
    cases ru
    exact ⟨_, c, rfl, hc⟩
  refine sum_lists (its := its) (st0 := st0) (cb := n2) (val := fun i => vls.getD i []) (I.ok.hd hc) ⟨_, e1, rfl, n1, rfl⟩ e2 hv (fun i hi => lim_le (hfl i hi)) fun s' T c kp g o eT hT => ?_
  rw [flat_take vls its.length (by omega), show its.length = vls.length by omega, List.take_length] at eT
  have hvals : Vals (st ++ (ps.map (·.2)).flatten) (st0 ++ vls.flatten) := Vals.append r2 w2
  rcases hT with ⟨h0, rfl⟩ | hT
  · have hps : ps = [] := List.length_eq_zero_iff.mp (by omega)
    exact ⟨.ref T, H, I.call' (ch := []) o (Un.kept kp) (I.hok.kept kp) (by rw [g]; exact I.bare) (fun _ z => nomatch z), rfl, q0 hps⟩
  · have hn : H T = none := I.hok.fresh hT
    have hlen : (st ++ (ps.map (·.2)).flatten).length ≤ sizeLine := by
      rw [hvals.length, List.length_append, ← hl2, List.length_flatten, w4]; exact lim_le hz
    exact ⟨.ref T, _, I.call' (ch := []) o (Un.laid kp hT hn) (I.hok.laid kp hT (show ObjOk X.prog X.w _ _ T (.lst (st ++ (ps.map (·.2)).flatten)) from ⟨hlen, st0 ++ vls.flatten, c, hvals, eT⟩)) (by rw [g]; exact I.bare) (fun _ z => nomatch z), rfl, q T hn⟩
def asLs : List D → Option (List (List D))
  | [] => some []
  | .lst b :: r => (asLs r).map (b :: ·)
  | _ :: _ => none
theorem asLs_rep {K : PySem.W.Frag} {F : Hp} {μ : List Addr} : ∀ {ds : List D} {vs : List V} {bs : List (List D)}, Reps K F μ ds vs → asLs ds = some bs → ∃ ps : List (Addr × List V), vs = ps.map (fun p => V.ref p.1) ∧ (∀ p ∈ ps, F p.1 = some (.lst p.2)) ∧ Reps K F μ bs.flatten (ps.map (·.2)).flatten ∧ (ps.map fun p => p.2.length) = bs.map List.length
  | [], _, bs, .nil, h => by simp [asLs] at h; subst h; exact ⟨[], rfl, by simp, .nil, rfl⟩
  | .lst b :: r, _, bs, .cons h1 h2, h => by
    simp only [asLs, Option.map_eq_some_iff] at h
    obtain ⟨t, e, rfl⟩ := h
    obtain ⟨ps, g1, g2, g3, g4⟩ := asLs_rep h2 e
    cases h1 with
    | lst hf hr =>
      rename_i a vs
      refine ⟨(a, vs) :: ps, by rw [g1]; rfl, fun p hp => ?_, hr.append g3, by rw [List.map_cons, List.map_cons, g4, hr.length]⟩
      rcases List.mem_cons.mp hp with rfl | hp
      · exact hf
      · exact g2 p hp
def dSum2 : List D → Option D
  | [.lst xs, .lst st] => (asLs xs).bind fun ls => guard' (decide (st.length + (ls.map List.length).sum ≤ LIM)) (.lst (st ++ ls.flatten))
  | _ => none
theorem de_sum2 {cls : Nat → Addr} {e e' : Expr} {g : Ev (List D)} {pos pp : Pos} (hc : X.calm = true) (hg : Gl X "sum") (hm : X.mg "sum" = none) (hv : bootBuiltins "sum" = some (.builtin "sum")) (ha : DA cls X [e, e'] g)
    (he : starEach [e, e'] X.env = (false, eval e X.env) :: starEach [e'] X.env := by rfl) (hpl : (backTo pos (starEach [e'] X.env)).any (·.1) = false := by rfl) : DE cls X (.Call (.Name "sum" pp) [e, e'] [] pos) (eCl dSum2 g) := by
  refine imp (pe_callB (cr_sum2 hc) hg hm hv ha (by decide) (by decide) he hpl) fun σ H Q ⟨c, F, μ, s, hcl, R, z, s', e, k⟩ => ?_
  obtain ⟨x, s1, e1, f1⟩ := bnd_some e
  obtain ⟨e3, w3⟩ := lft_some f1
  subst w3
  refine ⟨c, F, μ, s, hcl, R, x, s', e1, fun u H1 F1 μ1 R1 m1 r1 => ?_⟩
  have k' : ∀ v H' F' μ', Rel X.K c F' μ' σ H' s' → Mono F1 μ1 F' μ' → Rep X.K F' μ' z v → Q v H' := fun v' H' F' μ' R' m' r' => k v' H' F' μ' R' (m1.trans m') r'
  match x, e3, r1 with
  | [.lst t, .lst u], h, .cons ra (.cons rb .nil) =>
    simp only [dSum2] at h
    rw [Option.bind_eq_some_iff] at h
    obtain ⟨ls, eL, h⟩ := h
    obtain ⟨hl, rfl⟩ := guard_some h
    have hl' := of_decide_eq_true hl
    have rb0 := rb
    cases ra with
    | lst ea qa =>
      cases rb with
      | lst eb qb =>
        obtain ⟨ps, g1, g2, g3, g4⟩ := asLs_rep qa eL
        subst g1
        refine ⟨_, _, ps, _, rfl, R1.sub _ _ ea, fun p hp => R1.sub _ _ (g2 p hp), R1.sub _ _ eb, by rw [← qb.length, g4]; exact hl', fun h0 => ?_, newLst R1 (qb.append g3) k'⟩
        subst h0
        have hb : ls.flatten = [] := by
          cases hls : ls.flatten with
          | nil => rfl
          | cons x y => rw [hls] at g3; cases g3
        rw [hb, List.append_nil] at k'
        exact atom R1 rb0 k'
/-! ### a, b = e1, a new list: b is changed later -/
def sAsgVO (i j : Nat) (f : Ev D) (g : Ev (List D)) : Es := fun s => match f s with
  | some (x, s1) => match g s1 with
    | some (ds, s2) => some (.nx ((s2.1.set j (.own ds)).set i (.val x), s2.2))
    | none => none
  | none => none
theorem ds_asgVO {cls : Nat → Addr} {a b : Expr} {x y : Str} {f : Ev D} {g : Ev (List D)} {pos px py pt pt2 : Pos} {kt k2} (i j : Nat) (hc : X.calm = true) (hN : X.N.Nodup) (ha : DE cls X a f) (hb : DF cls X b g) (hi : X.N[i]? = some x := by rfl) (hj : X.N[j]? = some y := by rfl) (hij : i ≠ j := by decide)
    (hx : Loc X.env.scope x := by first | exact Or.inl rfl | exact Or.inr rfl) (hfx : X.fn x = true ∨ X.env.scope.names.lookup x = some .local := by first | exact .inl rfl | exact .inr rfl | assumption)
    (hy : Loc X.env.scope y := by first | exact Or.inl rfl | exact Or.inr rfl) (hfy : X.fn y = true ∨ X.env.scope.names.lookup y = some .local := by first | exact .inl rfl | exact .inr rfl | assumption)
    (hs : swapsWithSole [.Tuple [.Name x px, .Name y py] kt pt] (.Tuple [a, b] k2 pt2) pos.line X.env = pure false := by rfl) (hw : swappedStores [.Tuple [.Name x px, .Name y py] kt pt] (.Tuple [a, b] k2 pt2) X.env = pure none := by rfl)
    (h1 : (assignEach [.Tuple [.Name x px, .Name y py] kt pt] X.env).map (·.2) = [assign (.Tuple [.Name x px, .Name y py] kt pt) X.env] := by rfl)
    (hn : (assignEach [.Name x px, .Name y py] X.env).length = 2 := by rfl) (hst : (assignEach [.Name x px, .Name y py] X.env).findIdx? (·.1) = none := by rfl)
    (hg1 : (assignEach [.Name x px, .Name y py] X.env).map (·.2) = assign (.Name x px) X.env :: (assignEach [.Name y py] X.env).map (·.2) := by rfl) (hg2 : (assignEach [.Name y py] X.env).map (·.2) = assign (.Name y py) X.env :: (assignEach [] X.env).map (·.2) := by rfl)
    (h2 : starEach [a, b] X.env = (false, eval a X.env) :: starEach [b] X.env := by rfl) (h3 : starEach [b] X.env = (false, eval b X.env) :: starEach [] X.env := by rfl) :
    DS cls X (.Assign [.Tuple [.Name x px, .Name y py] kt pt] (.Tuple [a, b] k2 pt2) pos) (sAsgVO i j f g) := by
  refine impS (ps_asg (pe_tup (pa_cons ha (pa_cons hb pa_nil h3) h2)) (pg_tup hc (pgs_cons (pg_name hN hi hx hfx) (pgs_cons (pg_name hN hj hy hfy) pgs_nil hg2) hg1) hn hst) hs hw h1) fun D σ H ⟨c, F, μ, s, hcl, R, o, e, k⟩ => ?_
  unfold sAsgVO at e
  split at e
  · rename_i d s1 e1
    split at e
    · rename_i ds s2 e2
      cases e
      refine ⟨c, F, μ, s, hcl, R, d, s1, e1, fun v H1 F1 μ1 R1 m1 r1 => ⟨c, F1, μ1, s1.1, s1.2, hcl, R1, ds, s2.1, s2.2, e2, fun u H2 F2 μ2 R2 m2 => ?_⟩⟩
      refine ⟨by rw [sizeLine_eq]; show 2 ≤ _; omega, fun p hp => ⟨p, [v, u], rfl, SqT.of upd_same, rfl, v, [u], rfl, u, [], rfl, rfl, ?_⟩⟩
      have R3 := (R2.alloc (o := .tup [v, u]) hp).move (i := j)
      have m3 : Mono F2 μ2 (upd F2 p (.tup [v, u])) μ2 := Mono.new (R2.fnone hp)
      have R4 := R3.setVal (i := i) ((r1.mono m2).mono m3)
      have e3 : (List.set σ i (some v)).set j (some u) = (List.set σ j (some u)).set i (some v) := List.set_comm _ _ hij
      show D.nx ((List.set σ i (some v)).set j (some u)) _
      rw [e3]
      exact k _ _ _ _ R4 (m1.trans (m2.trans m3))
    · cases e
  · cases e
end
end DL

set_option Elab.async false
set_option linter.all false
set_option maxRecDepth 100000
namespace LW
open PySem PySem.Spec PyProof.Rows L2 DL
def B_check_text : Es :=
  (sIf (eOrT (eB (eBin dGt (eCl dLen (eCons (eVar 0) eNil)) (ret (.int 2000)))) (eNotT (eB (eCl dAll (eCons (eFz (eLc [1] (eItems (eVar 0)) (tNm 1) pYes (eBin (inD false) (eVar 1) (ret (.str [97, 98, 99, 100, 101, 102, 103, 104, 105, 106, 107, 108, 109, 110, 111, 112, 113, 114, 115, 116, 117, 118, 119, 120, 121, 122]))))) eNil))))) sNever sNil)
def F_check_text : Fn := runF 2 B_check_text
def B_check_alphabet : Es :=
  (sSeq (sExpr (eCall F_check_text (eCons (eVar 0) eNil))) (sIf (eOrT (eNotT (eTr (eVar 0))) (eNotT (eB (eCl dAll (eCons (eFz (eLc [1, 2] (eArg dZip (eCons (eSl (eVar 0) (ret none) (ePart (eUn dNeg (ret (.int 1))))) (eCons (eSl (eVar 0) (ePart (ret (.int 1))) (ret none)) eNil))) (tTp (tCs (tNm 1) (tCs (tNm 2) tNl))) pYes (eBin dLt (eVar 1) (eVar 2)))) eNil))))) sNever sNil))
def F_check_alphabet : Fn := runF 3 B_check_alphabet
def B_check_over : Es :=
  (sSeq (sExpr (eCall F_check_alphabet (eCons (eVar 0) eNil))) (sSeq (sExpr (eCall F_check_text (eCons (eVar 1) eNil))) (sIf (eNotT (eB (eCl dAll (eCons (eFz (eLc [2] (eItems (eVar 1)) (tNm 2) pYes (eBin (inD false) (eVar 2) (eVar 0)))) eNil)))) sNever sNil)))
def F_check_over : Fn := runF 3 B_check_over
def B_letters_of : Es :=
  (sSeq (sExpr (eCall F_check_text (eCons (eVar 0) eNil))) (sRet (eBin dJoin (ret (.str [])) (eUn dSoSe (eVar 0)))))
def F_letters_of : Fn := runF 1 B_letters_of
def B_counts_of : Es :=
  (sSeq (sExpr (eCall F_check_over (eCons (eVar 0) (eCons (eVar 1) eNil)))) (sRet (eCl dTuple (eCons (eFz (eLc [2] (eItems (eVar 0)) (tNm 2) pYes (eBin dCnt (eVar 1) (eVar 2)))) eNil))))
def F_counts_of : Fn := runF 3 B_counts_of
def B_check_counts : Es :=
  (sIf (eOrT (eNotT (eB (eChain dLe dLe (ret (.int 1)) (eCl dLen (eCons (eVar 0) eNil)) (ret (.int 26))))) (eNotT (eB (eCl dAll (eCons (eFz (eLc [1] (eItems (eVar 0)) (tNm 1) pYes (eChain dLe dLe (ret (.int 0)) (eVar 1) (eBin dPow (ret (.int 10)) (ret (.int 6)))))) eNil))))) sNever sNil)
def F_check_counts : Fn := runF 2 B_check_counts
def B_power : Es :=
  (sSeq (sSet 2 (ret (.int 1))) (sSeq (sWhile (eB (eBin dGt (eVar 1) (ret (.int 0)))) (sSeq (sIf (eB (eBin dEq (eBin dMod (eVar 1) (ret (.int 2))) (ret (.int 1)))) (sSet 2 (eBin dMul (eVar 2) (eVar 0))) sNil) (sSeq (sSet 0 (eBin dMul (eVar 0) (eVar 0))) (sAug 1 dDivI (ret (.int 2)))))) (sRet (eVar 2))))
def F_power : Fn := runF 3 B_power
def B_power_product : Es :=
  (sSeq (sSet 1 (ret (.int 1))) (sSeq (sFor (eItems (eVar 0)) (tNm 2) (sSet 1 (eBin dMul (eVar 1) (eCall F_power (eCons (eVar 2) (eCons (eVar 2) eNil)))))) (sRet (eVar 1))))
def F_power_product : Fn := runF 3 B_power_product
def B_is_enough : Es :=
  (sSeq (sExpr (eCall F_check_counts (eCons (eVar 0) eNil))) (sSeq (sIf (eB (eBin dGt (eCl dSum (eCons (eVar 0) eNil)) (ret (.int 3000)))) sNever sNil) (sSeq (sSet 2 (eCl dSum (eCons (eVar 0) eNil))) (sRet (eAnd (eBin dGe (eVar 1) (ret (.int 0))) (eBin dGe (eBin dShl (eCall F_power_product (eCons (eVar 0) eNil)) (eVar 1)) (eCall F_power (eCons (eVar 2) (eCons (eVar 2) eNil)))))))))
def F_is_enough : Fn := runF 3 B_is_enough
def B_floor_bits : Es :=
  (sSeq (sAsg (tTp (tCs (tNm 1) (tCs (tNm 2) tNl))) (eTup (eCons (ret (.int 0)) (eCons (ret (.int 1)) eNil)))) (sSeq (sWhile (eNotT (eB (eCall F_is_enough (eCons (eVar 0) (eCons (eVar 2) eNil))))) (sAug 2 dMulI (ret (.int 2)))) (sSeq (sWhile (eB (eBin dLt (eVar 1) (eVar 2))) (sSeq (sSet 3 (eBin dDiv (eBin dAdd (eVar 1) (eVar 2)) (ret (.int 2)))) (sIf (eB (eCall F_is_enough (eCons (eVar 0) (eCons (eVar 3) eNil)))) (sSet 2 (eVar 3)) (sSet 1 (eBin dAdd (eVar 3) (ret (.int 1))))))) (sRet (eVar 1)))))
def F_floor_bits : Fn := runF 4 B_floor_bits
def B_runs_of : Es :=
  (sSeq (sExpr (eCall F_check_text (eCons (eVar 0) eNil))) (sSeq (sOwn 1 (eLst eNil)) (sSeq (sFor (eItems (eVar 0)) (tNm 2) (sIf (eAndT (eTrL 1) (eB (eBin dEq (eBin dIx (eBinL dIx 1 (eUn dNeg (ret (.int 1)))) (ret (.int 0))) (eVar 2)))) (sSetL 1 (eUn dNeg (ret (.int 1))) (eTup (eCons (eVar 2) (eCons (eBin dAdd (eBin dIx (eBinL dIx 1 (eUn dNeg (ret (.int 1)))) (ret (.int 1))) (ret (.int 1))) eNil)))) (sExpr (eMtL 1 mAppend (eTup (eCons (eVar 2) (eCons (ret (.int 1)) eNil))))))) (sRet (eCl1 dTuple 1)))))
def F_runs_of : Fn := runF 3 B_runs_of
def B_text_of_runs : Es :=
  (sSeq (sFor (eItems (eVar 0)) (tTp (tCs (tNm 1) (tCs (tNm 2) tNl))) (sIf (eOrT (eB (eBin (inD true) (eVar 1) (ret (.str [97, 98, 99, 100, 101, 102, 103, 104, 105, 106, 107, 108, 109, 110, 111, 112, 113, 114, 115, 116, 117, 118, 119, 120, 121, 122])))) (eOrT (eB (eBin dNe (eCl dLen (eCons (eVar 1) eNil)) (ret (.int 1)))) (eB (eBin dLt (eVar 2) (ret (.int 1)))))) sNever sNil)) (sSeq (sIf (eB (eCl dAny (eCons (eFz (eLc [3, 4] (eArg dZip (eCons (eSl (eVar 0) (ret none) (ePart (eUn dNeg (ret (.int 1))))) (eCons (eSl (eVar 0) (ePart (ret (.int 1))) (ret none)) eNil))) (tTp (tCs (tNm 3) (tCs (tNm 4) tNl))) pYes (eBin dEq (eBin dIx (eVar 3) (ret (.int 0))) (eBin dIx (eVar 4) (ret (.int 0)))))) eNil))) sNever sNil) (sRet (eBin dJoin (ret (.str [])) (eFz (eLc [1, 2] (eItems (eVar 0)) (tTp (tCs (tNm 1) (tCs (tNm 2) tNl))) pYes (eBin dMul (eVar 1) (eVar 2))))))))
def F_text_of_runs : Fn := runF 5 B_text_of_runs
def B_moved_front : Es :=
  (sSeq (sExpr (eCall F_check_over (eCons (eVar 0) (eCons (eVar 1) eNil)))) (sSeq (sSet 2 (eVar 0)) (sSeq (sOwn 3 (eLst eNil)) (sSeq (sFor (eItems (eVar 1)) (tNm 4) (sSeq (sSet 5 (eBin dIdx (eVar 2) (eVar 4))) (sSeq (sExpr (eMtL 3 mAppend (eVar 5))) (sSet 2 (eBin dAdd (eBin dAdd (eVar 4) (eSl (eVar 2) (ret none) (ePart (eVar 5)))) (eSl (eVar 2) (ePart (eBin dAdd (eVar 5) (ret (.int 1)))) (ret none))))))) (sRet (eCl1 dTuple 3))))))
def F_moved_front : Fn := runF 6 B_moved_front
def B_from_front : Es :=
  (sSeq (sExpr (eCall F_check_alphabet (eCons (eVar 0) eNil))) (sSeq (sIf (eNotT (eB (eCl dAll (eCons (eFz (eLc [4] (eItems (eVar 1)) (tNm 4) pYes (eChain dLe dLt (ret (.int 0)) (eVar 4) (eCl dLen (eCons (eVar 0) eNil))))) eNil)))) sNever sNil) (sSeq (sSet 2 (eVar 0)) (sSeq (sSet 3 (ret (.str []))) (sSeq (sFor (eItems (eVar 1)) (tNm 4) (sSeq (sSet 5 (eBin dIx (eVar 2) (eVar 4))) (sSeq (sSet 3 (eBin dAdd (eVar 3) (eVar 5))) (sSet 2 (eBin dAdd (eBin dAdd (eVar 5) (eSl (eVar 2) (ret none) (ePart (eVar 4)))) (eSl (eVar 2) (ePart (eBin dAdd (eVar 4) (ret (.int 1)))) (ret none))))))) (sRet (eVar 3)))))))
def F_from_front : Fn := runF 6 B_from_front
def B_context_counts : Es :=
  (sSeq (sExpr (eCall F_check_over (eCons (eVar 0) (eCons (eVar 1) eNil)))) (sSeq (sIf (eNotT (eB (eChain dLe dLe (ret (.int 0)) (eVar 2) (ret (.int 4))))) sNever sNil) (sSeq (sOwnK 3 (ret [])) (sSeq (sFor (eRange dRange2 (eCons (eVar 2) (eCons (eCl dLen (eCons (eVar 1) eNil)) eNil))) (tNm 4) (sSeq (sSet 5 (eSl (eVar 1) (ePart (eBin dSub (eVar 4) (eVar 2))) (ePart (eVar 4)))) (sSeq (sSet 6 (eDGet2L 3 (eVar 5) (eBin dMul (eTup (eCons (ret (.int 0)) eNil)) (eCl dLen (eCons (eVar 0) eNil))))) (sSeq (sSet 7 (eBin dIdx (eVar 0) (eBin dIx (eVar 1) (eVar 4)))) (sDPutL 3 (eVar 5) (eBin dAdd (eBin dAdd (eSl (eVar 6) (ret none) (ePart (eVar 7))) (eTup (eCons (eBin dAdd (eBin dIx (eVar 6) (eVar 7)) (ret (.int 1))) eNil))) (eSl (eVar 6) (ePart (eBin dAdd (eVar 7) (ret (.int 1)))) (ret none)))))))) (sRet (eOut 3))))))
def F_context_counts : Fn := runF 8 B_context_counts
def B_context_floor : Es :=
  (sRet (eCl dSum (eCons (eFz (eLc [3] (eVals (eCall F_context_counts (eCons (eVar 0) (eCons (eVar 1) (eCons (eVar 2) eNil))))) (tNm 3) pYes (eCall F_floor_bits (eCons (eVar 3) eNil)))) eNil)))
def F_context_floor : Fn := runF 4 B_context_floor
def B__law_tape : Es :=
  (sSeq (sSet 1 (eFz (eLc [3] (eItems (eVar 0)) (tNm 3) pYes (eCl dAbs (eCons (eCl dInt (eCons (eVar 3) eNil)) eNil))))) (sSeq (sSet 2 (ret (.int 7))) (sSeq (sFor (eItems (eVar 1)) (tNm 3) (sSet 2 (eBin dMod (eCl dInt (eCons (eBin dAdd (eBin dMul (eVar 2) (ret (.int 31))) (eVar 3)) eNil)) (ret (.int 2147483647))))) (sRet (eNewO (eDp (eDisp (ret (.str [99, 101, 108, 108, 115])) (eVar 1) (eDisp (ret (.str [97, 116])) (ret (.int 0)) (eDisp (ret (.str [108, 101, 102, 116])) (ret (.int 0)) (eDisp (ret (.str [115, 101, 101, 100])) (eVar 2) (eDisp (ret (.str [115, 97, 108, 116])) (ret (.int 0)) (ret []))))))))))))
def F__law_tape : Fn := runF 4 B__law_tape
def B__law_take : Es :=
  (sSeq (sIf (eAndT (eB (eBin dEq (eDGet (eVar 0) (ret (.str [108, 101, 102, 116]))) (ret (.int 0)))) (eB (eBin dLt (eDGet (eVar 0) (ret (.str [97, 116]))) (eCl dLen (eCons (eDGet (eVar 0) (ret (.str [99, 101, 108, 108, 115]))) eNil))))) (sSeq (sDPutO (eVar 0) (ret (.str [108, 101, 102, 116])) (eBin dIx (eDGet (eVar 0) (ret (.str [99, 101, 108, 108, 115]))) (eDGet (eVar 0) (ret (.str [97, 116]))))) (sDPutO (eVar 0) (ret (.str [97, 116])) (eBin dAdd (eDGet (eVar 0) (ret (.str [97, 116]))) (ret (.int 1))))) sNil) (sSeq (sIf (eB (eBin dGt (eDGet (eVar 0) (ret (.str [108, 101, 102, 116]))) (ret (.int 0)))) (sSeq (sSet 2 (eBin dMod (eCl dInt (eCons (eDGet (eVar 0) (ret (.str [108, 101, 102, 116]))) eNil)) (eVar 1))) (sSeq (sDPutO (eVar 0) (ret (.str [108, 101, 102, 116])) (eBin dDiv (eDGet (eVar 0) (ret (.str [108, 101, 102, 116]))) (eVar 1))) (sRet (eVar 2)))) sNil) (sSeq (sDPutO (eVar 0) (ret (.str [115, 97, 108, 116])) (eBin dAdd (eDGet (eVar 0) (ret (.str [115, 97, 108, 116]))) (ret (.int 1)))) (sSeq (sSet 3 (eBin dMod (eCl dInt (eCons (eBin dAdd (eBin dMul (eDGet (eVar 0) (ret (.str [115, 101, 101, 100]))) (ret (.int 48271))) (eBin dMul (eDGet (eVar 0) (ret (.str [115, 97, 108, 116]))) (ret (.int 69621)))) eNil)) (ret (.int 2147483647)))) (sSeq (sSet 3 (eBin dMod (eCl dInt (eCons (eBin dAdd (eBin dAdd (eBin dMul (eVar 3) (eVar 3)) (eBin dMul (eDGet (eVar 0) (ret (.str [115, 97, 108, 116]))) (ret (.int 40692)))) (ret (.int 12345))) eNil)) (ret (.int 2147483399)))) (sRet (eBin dMod (eCl dInt (eCons (eVar 3) eNil)) (eVar 1))))))))
def F__law_take : Fn := runF 4 B__law_take
def B__law_text : Es :=
  (sRet (eBin dJoin (ret (.str [])) (eFz (eLc [3] (eRange dRange1 (eCons (eCall F__law_take (eCons (eVar 0) (eCons (eBin dAdd (eVar 2) (ret (.int 1))) eNil))) eNil)) (tNm 3) pYes (eBin dIx (eVar 1) (eCall F__law_take (eCons (eVar 0) (eCons (eCl dLen (eCons (eVar 1) eNil)) eNil))))))))
def F__law_text : Fn := runF 4 B__law_text
def B__law_counts : Es :=
  (sRet (eCl dTuple (eCons (eFz (eLc [2] (eRange dRange1 (eCons (eVar 1) eNil)) (tNm 2) pYes (eIf (eB (eBin dGt (eCall F__law_take (eCons (eVar 0) (eCons (ret (.int 5)) eNil))) (ret (.int 0)))) (eCall F__law_take (eCons (eVar 0) (eCons (ret (.int 30)) eNil))) (ret (.int 0))))) eNil)))
def F__law_counts : Fn := runF 3 B__law_counts
def B__law_digits : Es :=
  (sSeq (sSet 1 (ret (.str []))) (sSeq (sFor (eRange dRange1 (eCons (ret (.int 30)) eNil)) (tNm 2) (sSeq (sIf (eB (eBin dEq (eVar 0) (ret (.int 0)))) sBreak sNil) (sPar 1 0 (eCons (eBin dAdd (eCl dStr (eCons (eBin dMod (eCl dInt (eCons (eVar 0) eNil)) (ret (.int 2))) eNil)) (eVar 1)) (eCons (eBin dDiv (eVar 0) (ret (.int 2))) eNil))))) (sRet (eVar 1))))
def F__law_digits : Fn := runF 3 B__law_digits
def B_law : Es :=
  (sSeq (sSet 1 (eCall F__law_tape (eCons (eVar 0) eNil))) (sSeq (sSet 2 (eBin dAdd (ret (.int 1)) (eCall F__law_take (eCons (eVar 1) (eCons (ret (.int 6)) eNil))))) (sSeq (sAsg (tTp (tCs (tNm 3) (tCs (tNm 4) tNl))) (eTup (eCons (eCall F__law_counts (eCons (eVar 1) (eCons (eVar 2) eNil))) (eCons (eCall F__law_counts (eCons (eVar 1) (eCons (eVar 2) eNil))) eNil)))) (sSeq (sPar 5 6 (eCons (eCall F_floor_bits (eCons (eVar 3) eNil)) (eCons (eCall F_floor_bits (eCons (eVar 4) eNil)) eNil))) (sSeq (sSet 7 (eCall F__law_take (eCons (eVar 1) (eCons (eBin dAdd (eVar 2) (ret (.int 1))) eNil)))) (sSeq (sIf (eOrT (eB (eBin dNe (eCall F_floor_bits (eCons (eUn dRev (eVar 3)) eNil)) (eVar 5))) (eOrT (eB (eBin dNe (eCall F_floor_bits (eCons (eBin dAdd (eBin dAdd (eSl (eVar 3) (ret none) (ePart (eVar 7))) (eTup (eCons (ret (.int 0)) eNil))) (eSl (eVar 3) (ePart (eVar 7)) (ret none))) eNil)) (eVar 5))) (eOrT (eB (eBin dIsNot (eCall F_is_enough (eCons (eVar 3) (eCons (eVar 5) eNil))) (ret (.bl true)))) (eB (eBin dIsNot (eCall F_is_enough (eCons (eVar 3) (eCons (eBin dAdd (eVar 5) (ret (.int 7))) eNil))) (ret (.bl true))))))) (sRet (ret (.bl false))) sNil) (sSeq (sIf (eOrT (eAndT (eB (eBin dGt (eVar 5) (ret (.int 0)))) (eB (eCall F_is_enough (eCons (eVar 3) (eCons (eBin dSub (eVar 5) (ret (.int 1))) eNil))))) (eOrT (eB (eBin dNe (eBin dEq (eVar 5) (ret (.int 0))) (eBin dLt (eCl dLen (eCons (eFz (eLc [33] (eItems (eVar 3)) (tNm 33) (eB (eBin dGt (eVar 33) (ret (.int 0)))) (eVar 33))) eNil)) (ret (.int 2))))) (eB (eCall F_is_enough (eCons (eVar 3) (eCons (eBin dSub (ret (.int 0)) (ret (.int 1))) eNil)))))) (sRet (ret (.bl false))) sNil) (sSeq (sSet 8 (eCall F_floor_bits (eCons (eCl dTuple (eCons (eFz (eLc [33] (eItems (eVar 3)) (tNm 33) pYes (eBin dMul (ret (.int 2)) (eVar 33)))) eNil)) eNil))) (sSeq (sSet 9 (eCall F_floor_bits (eCons (eCl dTuple (eCons (eFz (eLc [33] (eItems (eVar 3)) (tNm 33) pYes (eBin dMul (ret (.int 3)) (eVar 33)))) eNil)) eNil))) (sSeq (sIf (eOrT (eAndT (eNotT (eB (eChain dLe dLe (eBin dSub (eBin dMul (ret (.int 2)) (eVar 5)) (ret (.int 1))) (eVar 8) (eBin dMul (ret (.int 2)) (eVar 5))))) (eB (eBin dGt (eVar 5) (ret (.int 0))))) (eAndT (eNotT (eB (eChain dLe dLe (eBin dSub (eBin dMul (ret (.int 3)) (eVar 5)) (ret (.int 2))) (eVar 9) (eBin dMul (ret (.int 3)) (eVar 5))))) (eB (eBin dGt (eVar 5) (ret (.int 0)))))) (sRet (ret (.bl false))) sNil) (sSeq (sSet 10 (eCall F_floor_bits (eCons (eCl dTuple (eCons (eFz (eLc [22] (eRange dRange1 (eCons (eVar 2) eNil)) (tNm 22) pYes (eBin dAdd (eBin dIx (eVar 3) (eVar 22)) (eBin dIx (eVar 4) (eVar 22))))) eNil)) eNil))) (sSeq (sIf (eOrT (eB (eBin dLt (eVar 10) (eBin dSub (eBin dAdd (eVar 5) (eVar 6)) (ret (.int 1))))) (eB (eBin dGt (eVar 10) (eCall F_floor_bits (eCons (eBin dAdd (eVar 3) (eVar 4)) eNil))))) (sRet (ret (.bl false))) sNil) (sSeq (sSet 11 (eCall F_floor_bits (eCons (eBin dAdd (eVar 3) (eVar 4)) eNil))) (sSeq (sSet 12 (eCall F_floor_bits (eCons (eTup (eCons (eCl dSum (eCons (eVar 3) eNil)) (eCons (eCl dSum (eCons (eVar 4) eNil)) eNil))) eNil))) (sSeq (sIf (eNotT (eB (eChain dLe dLe (eBin dSub (eBin dAdd (eBin dAdd (eVar 5) (eVar 6)) (eVar 12)) (ret (.int 2))) (eVar 11) (eBin dAdd (eBin dAdd (eVar 5) (eVar 6)) (eVar 12))))) (sRet (ret (.bl false))) sNil) (sSeq (sIf (eB (eBin dGt (eVar 2) (ret (.int 1)))) (sSeq (sSet 13 (eBin dAdd (eTup (eCons (eBin dAdd (eBin dIx (eVar 3) (ret (.int 0))) (eBin dIx (eVar 3) (ret (.int 1)))) eNil)) (eSl (eVar 3) (ePart (ret (.int 2))) (ret none)))) (sSeq (sAsg (tTp (tCs (tNm 14) (tCs (tNm 15) tNl))) (eTup (eCons (eCall F_floor_bits (eCons (eVar 13) eNil)) (eCons (eCall F_floor_bits (eCons (eSl (eVar 3) (ret none) (ePart (ret (.int 2)))) eNil)) eNil)))) (sIf (eOrT (eB (eBin dGt (eVar 14) (eVar 5))) (eNotT (eB (eChain dLe dLe (eBin dSub (eBin dAdd (eVar 14) (eVar 15)) (ret (.int 1))) (eVar 5) (eBin dAdd (eVar 14) (eVar 15)))))) (sRet (ret (.bl false))) sNil))) sNil) (sSeq (sSet 16 (eBin dAdd (eSl (eVar 3) (ret none) (ePart (eBin dSub (eVar 2) (ret (.int 1))))) (eTup (eCons (eBin dAdd (eBin dIx (eVar 3) (eBin dSub (eVar 2) (ret (.int 1)))) (ret (.int 1))) eNil)))) (sSeq (sIf (eOrT (eB (eBin dGt (eCall F_floor_bits (eCons (eVar 16) eNil)) (eBin dAdd (eBin dAdd (eVar 5) (eCl dLen (eCons (eCall F__law_digits (eCons (eBin dAdd (eCl dSum (eCons (eVar 3) eNil)) (ret (.int 1))) eNil)) eNil))) (ret (.int 2))))) (eAndT (eB (eBin dGt (eCl dSum (eCons (eVar 3) eNil)) (ret (.int 0)))) (eB (eBin dGt (eVar 5) (eBin dMul (eCl dSum (eCons (eVar 3) eNil)) (eCl dLen (eCons (eCall F__law_digits (eCons (eBin dSub (eVar 2) (ret (.int 1))) eNil)) eNil))))))) (sRet (ret (.bl false))) sNil) (sSeq (sSet 17 (eSl (ret (.str [97, 98, 99, 100, 101])) (ret none) (ePart (eBin dAdd (ret (.int 1)) (eCall F__law_take (eCons (eVar 1) (eCons (ret (.int 5)) eNil))))))) (sSeq (sPar 18 19 (eCons (eCall F__law_text (eCons (eVar 1) (eCons (eVar 17) (eCons (ret (.int 25)) eNil)))) (eCons (eCall F__law_take (eCons (eVar 1) (eCons (ret (.int 4)) eNil))) eNil))) (sSeq (sAsgVO 20 21 (ret (.str [])) (eLetters (eVar 17))) (sSeq (sFor (eRange dRange1 (eCons (eCl dLen (eCons (eVar 17) eNil)) eNil)) (tNm 22) (sSet 20 (eBin dAdd (eVar 20) (eMtL 21 mPopAt (eCall F__law_take (eCons (eVar 1) (eCons (eCl1 dLen 21) eNil))))))) (sSeq (sSet 23 (eBin dJoin (ret (.str [])) (eFz (eLc [32] (eItems (eVar 18)) (tNm 32) pYes (eBin dIx (eVar 20) (eBin dIdx (eVar 17) (eVar 32))))))) (sSeq (sAsg (tTp (tCs (tNm 14) (tCs (tNm 24) tNl))) (eTup (eCons (eCall F_context_counts (eCons (eVar 17) (eCons (eVar 18) (eCons (eVar 19) eNil)))) (eCons (eCall F_context_counts (eCons (eVar 17) (eCons (eVar 23) (eCons (eVar 19) eNil)))) eNil)))) (sSeq (sIf (eOrT (eB (eBin dNe (eCl dLen (eCons (eVar 14) eNil)) (eCl dLen (eCons (eVar 24) eNil)))) (eB (eBin dNe (eCall F_context_floor (eCons (eVar 17) (eCons (eVar 23) (eCons (eVar 19) eNil)))) (eCall F_context_floor (eCons (eVar 17) (eCons (eVar 18) (eCons (eVar 19) eNil))))))) (sRet (ret (.bl false))) sNil) (sSeq (sFor (eItems (eVar 14)) (tNm 25) (sSeq (sSet 26 (eDGet (eVar 24) (eBin dJoin (ret (.str [])) (eFz (eLc [32] (eItems (eVar 25)) (tNm 32) pYes (eBin dIx (eVar 20) (eBin dIdx (eVar 17) (eVar 32)))))))) (sIf (eB (eCl dAny (eCons (eFz (eLc [22] (eRange dRange1 (eCons (eCl dLen (eCons (eVar 17) eNil)) eNil)) (tNm 22) pYes (eBin dNe (eBin dIx (eVar 26) (eBin dIdx (eVar 17) (eBin dIx (eVar 20) (eVar 22)))) (eBin dIx (eDGet (eVar 14) (eVar 25)) (eVar 22))))) eNil))) (sRet (ret (.bl false))) sNil))) (sSeq (sIf (eAndT (eB (eBin dEq (eVar 19) (ret (.int 0)))) (eAndT (eB (eBin dGt (eCl dLen (eCons (eVar 18) eNil)) (ret (.int 0)))) (eB (eBin dNe (eCall F_context_floor (eCons (eVar 17) (eCons (eVar 18) (eCons (ret (.int 0)) eNil)))) (eCall F_floor_bits (eCons (eCall F_counts_of (eCons (eVar 17) (eCons (eVar 18) eNil))) eNil)))))) (sRet (ret (.bl false))) sNil) (sSeq (sSet 27 (eCall F_context_counts (eCons (eVar 17) (eCons (eUn dRev (eVar 18)) (eCons (eVar 19) eNil))))) (sSeq (sIf (eB (eBin dNe (eCl dSum (eCons (eFz (eLc [25] (eItems (eVar 27)) (tNm 25) pYes (eCl dSum (eCons (eDGet (eVar 27) (eVar 25)) eNil)))) eNil)) (eCl dMax2 (eCons (ret (.int 0)) (eCons (eBin dSub (eCl dLen (eCons (eVar 18) eNil)) (eVar 19)) eNil))))) (sRet (ret (.bl false))) sNil) (sSeq (sSet 28 (eCall F_runs_of (eCons (eVar 18) eNil))) (sSeq (sIf (eOrT (eB (eBin dNe (eCall F_runs_of (eCons (eUn dRev (eVar 18)) eNil)) (eUn dRev (eVar 28)))) (eOrT (eB (eBin dNe (eCall F_text_of_runs (eCons (eVar 28) eNil)) (eVar 18))) (eB (eBin dNe (eCall F_runs_of (eCons (eVar 23) eNil)) (eCl dTuple (eCons (eFz (eLc [34, 35] (eItems (eVar 28)) (tTp (tCs (tNm 34) (tCs (tNm 35) tNl))) pYes (eTup (eCons (eBin dIx (eVar 20) (eBin dIdx (eVar 17) (eVar 34))) (eCons (eVar 35) eNil))))) eNil)))))) (sRet (ret (.bl false))) sNil) (sSeq (sSet 29 (eBin dJoin (ret (.str [])) (eFz (eLc [32] (eItems (eVar 18)) (tNm 32) pYes (eBin dAdd (eVar 32) (eVar 32)))))) (sSeq (sIf (eB (eBin dNe (eCall F_runs_of (eCons (eVar 29) eNil)) (eCl dTuple (eCons (eFz (eLc [34, 35] (eItems (eVar 28)) (tTp (tCs (tNm 34) (tCs (tNm 35) tNl))) pYes (eTup (eCons (eVar 34) (eCons (eBin dMul (ret (.int 2)) (eVar 35)) eNil))))) eNil)))) (sRet (ret (.bl false))) sNil) (sSeq (sSet 30 (eCall F_moved_front (eCons (eVar 17) (eCons (eVar 18) eNil)))) (sSeq (sIf (eOrT (eB (eBin dNe (eCall F_from_front (eCons (eVar 17) (eCons (eVar 30) eNil))) (eVar 18))) (eB (eBin dNe (eCl dLen (eCons (eFz (eLc [36] (eItems (eSl (eVar 30) (ePart (ret (.int 1))) (ret none))) (tNm 36) (eB (eBin dEq (eVar 36) (ret (.int 0)))) (eVar 36))) eNil)) (eCl dMax2 (eCons (ret (.int 0)) (eCons (eBin dSub (eCl dLen (eCons (eVar 18) eNil)) (eCl dLen (eCons (eVar 28) eNil))) eNil)))))) (sRet (ret (.bl false))) sNil) (sSeq (sSet 31 (eCall F_moved_front (eCons (eVar 17) (eCons (eVar 29) eNil)))) (sRet (eAnd (eBin dEq (eVar 31) (eCl dTuple (eCons (eCl dSum2 (eCons (eFz (eLc [36] (eItems (eVar 30)) (tNm 36) pYes (eFz (eLst (eCons (eVar 36) (eCons (ret (.int 0)) eNil)))))) (eCons (eFz (eLst eNil)) eNil))) eNil))) (eBin dEq (eCall F_letters_of (eCons (eVar 23) eNil)) (eBin dJoin (ret (.str [])) (eCl dSorted (eCons (eFz (eLc [32] (eItems (eCall F_letters_of (eCons (eVar 18) eNil))) (tNm 32) pYes (eBin dIx (eVar 20) (eBin dIdx (eVar 17) (eVar 32))))) eNil))))))))))))))))))))))))))))))))))))))))))
def F_law : Fn := runF 37 B_law
end LW

set_option Elab.async false
set_option linter.all false
set_option maxRecDepth 100000
set_option exponentiation.threshold 100000
namespace LW
open PySem PySem.Spec PyProof.Rows L2 DL

/-! ### the tape -/
def tpk (cells : List Nat) (a l se sa : Nat) : List (DK × D) :=
  [(.inr [99, 101, 108, 108, 115], .lst (cells.map fun c => .int (c : Nat))), (.inr [97, 116], .int a), (.inr [108, 101, 102, 116], .int l), (.inr [115, 101, 101, 100], .int se), (.inr [115, 97, 108, 116], .int sa)]
def tp (cells : List Nat) (a l se sa : Nat) : O := .dct (tpk cells a l se sa)
/-- a tape that has made at most n numbers of its own -/
def Tp (n : Nat) (S : List O) : Prop := ∃ cells a l se sa, S = [tp cells a l se sa] ∧ se < 2147483647 ∧ sa ≤ n ∧ cells.length < 1000
theorem tp_left (cells : List Nat) (a l se sa l' : Nat) : kPut (tpk cells a l se sa) (.inr [108, 101, 102, 116]) (.int l') = tpk cells a l' se sa := rfl
theorem tp_at (cells : List Nat) (a l se sa l' : Nat) : kPut (tpk cells a l se sa) (.inr [97, 116]) (.int l') = tpk cells l' l se sa := rfl
theorem tp_salt (cells : List Nat) (a l se sa l' : Nat) : kPut (tpk cells a l se sa) (.inr [115, 97, 108, 116]) (.int l') = tpk cells a l se l' := rfl
theorem tp_lim (cells : List Nat) (a l se sa : Nat) : (tpk cells a l se sa).length < LIM := by show 5 < LIM; decide
theorem get_left {cells : List Nat} {a l se sa : Nat} {ρ : List Sl} (h : ρ[0]? = some (.val (.ptr 0))) : eDGet (eVar 0) (ret (.str [108, 101, 102, 116])) (ρ, [tp cells a l se sa]) = some (.int l, (ρ, [tp cells a l se sa])) := v_dget (v_var h) v_ret rfl rfl rfl
theorem get_at {cells : List Nat} {a l se sa : Nat} {ρ : List Sl} (h : ρ[0]? = some (.val (.ptr 0))) : eDGet (eVar 0) (ret (.str [97, 116])) (ρ, [tp cells a l se sa]) = some (.int a, (ρ, [tp cells a l se sa])) := v_dget (v_var h) v_ret rfl rfl rfl
theorem get_cells {cells : List Nat} {a l se sa : Nat} {ρ : List Sl} (h : ρ[0]? = some (.val (.ptr 0))) : eDGet (eVar 0) (ret (.str [99, 101, 108, 108, 115])) (ρ, [tp cells a l se sa]) = some (.lst (cells.map fun c => .int (c : Nat)), (ρ, [tp cells a l se sa])) := v_dget (v_var h) v_ret rfl rfl rfl
theorem get_seed {cells : List Nat} {a l se sa : Nat} {ρ : List Sl} (h : ρ[0]? = some (.val (.ptr 0))) : eDGet (eVar 0) (ret (.str [115, 101, 101, 100])) (ρ, [tp cells a l se sa]) = some (.int se, (ρ, [tp cells a l se sa])) := v_dget (v_var h) v_ret rfl rfl rfl
theorem get_salt {cells : List Nat} {a l se sa : Nat} {ρ : List Sl} (h : ρ[0]? = some (.val (.ptr 0))) : eDGet (eVar 0) (ret (.str [115, 97, 108, 116])) (ρ, [tp cells a l se sa]) = some (.int sa, (ρ, [tp cells a l se sa])) := v_dget (v_var h) v_ret rfl rfl rfl
theorem put_left {cells : List Nat} {a l se sa l' : Nat} {ρ : List Sl} {f : Ev D} (h : ρ[0]? = some (.val (.ptr 0))) (hf : f (ρ, [tp cells a l se sa]) = some (.int l', (ρ, [tp cells a l se sa]))) : sDPutO (eVar 0) (ret (.str [108, 101, 102, 116])) f (ρ, [tp cells a l se sa]) = some (.nx (ρ, [tp cells a l' se sa])) :=
  v_dputO (y := .str [108, 101, 102, 116]) (kk := .inr [108, 101, 102, 116]) hf (v_var h) v_ret rfl rfl (tp_lim _ _ _ _ _)
theorem put_at {cells : List Nat} {a l se sa l' : Nat} {ρ : List Sl} {f : Ev D} (h : ρ[0]? = some (.val (.ptr 0))) (hf : f (ρ, [tp cells a l se sa]) = some (.int l', (ρ, [tp cells a l se sa]))) : sDPutO (eVar 0) (ret (.str [97, 116])) f (ρ, [tp cells a l se sa]) = some (.nx (ρ, [tp cells l' l se sa])) :=
  v_dputO (y := .str [97, 116]) (kk := .inr [97, 116]) hf (v_var h) v_ret rfl rfl (tp_lim _ _ _ _ _)
theorem put_salt {cells : List Nat} {a l se sa l' : Nat} {ρ : List Sl} {f : Ev D} (h : ρ[0]? = some (.val (.ptr 0))) (hf : f (ρ, [tp cells a l se sa]) = some (.int l', (ρ, [tp cells a l se sa]))) : sDPutO (eVar 0) (ret (.str [115, 97, 108, 116])) f (ρ, [tp cells a l se sa]) = some (.nx (ρ, [tp cells a l se l'])) :=
  v_dputO (y := .str [115, 97, 108, 116]) (kk := .inr [115, 97, 108, 116]) hf (v_var h) v_ret rfl rfl (tp_lim _ _ _ _ _)
theorem o_modN {a b : Nat} (h : 0 < b) : dMod (.int (a : Nat)) (.int (b : Nat)) = some (.int ((a % b : Nat) : Int)) := by rw [o_mod (by omega)]; simp
theorem o_divN {a b : Nat} (h : 0 < b) (h2 : b.log2 < 9000) : dDiv (.int (a : Nat)) (.int (b : Nat)) = some (.int ((a / b : Nat) : Int)) := by rw [o_div (by omega) (by simpa using h2)]; simp
theorem o_mulN {a b : Nat} (h : a.log2 + b.log2 < 1000000) : dMul (.int (a : Nat)) (.int (b : Nat)) = some (.int ((a * b : Nat) : Int)) := by rw [o_mul (by simpa using h)]; simp
theorem o_addN {a b : Nat} : dAdd (.int (a : Nat)) (.int (b : Nat)) = some (.int ((a + b : Nat) : Int)) := by show some (D.int _) = _; simp
theorem o_int {a : Int} : dInt [.int a] = some (.int a) := rfl
theorem lgs {a k : Nat} (h : a < 2 ^ k) (hk : k ≤ 1000) : a.log2 ≤ 1000 := Nat.le_trans (lg h) hk
theorem take_ev {m n : Nat} {S : List O} (hm : 0 < m) (hm2 : m < 2 ^ 100) (h : Tp n S) (hn : n < 2 ^ 100) : ∃ r S', F__law_take [.ptr 0, .int m] S = some (.int (r : Nat), S') ∧ r < m ∧ Tp (n + 1) S' := by
  obtain ⟨cells, a, l, se, sa, rfl, hse, hsa, hcl⟩ := h
  -- the first if: another cell, perhaps
  have h1 : ∃ a' l', sIf (eAndT (eB (eBin dEq (eDGet (eVar 0) (ret (.str [108, 101, 102, 116]))) (ret (.int 0)))) (eB (eBin dLt (eDGet (eVar 0) (ret (.str [97, 116]))) (eCl dLen (eCons (eDGet (eVar 0) (ret (.str [99, 101, 108, 108, 115]))) eNil))))) (sSeq (sDPutO (eVar 0) (ret (.str [108, 101, 102, 116])) (eBin dIx (eDGet (eVar 0) (ret (.str [99, 101, 108, 108, 115]))) (eDGet (eVar 0) (ret (.str [97, 116]))))) (sDPutO (eVar 0) (ret (.str [97, 116])) (eBin dAdd (eDGet (eVar 0) (ret (.str [97, 116]))) (ret (.int 1))))) sNil
      ([.val (.ptr 0), .val (.int m), .un, .un], [tp cells a l se sa]) = some (.nx ([.val (.ptr 0), .val (.int m), .un, .un], [tp cells a' l' se sa])) := by
    by_cases hl : l = 0
    · by_cases ha : a < cells.length
      · refine ⟨a + 1, cells[a], v_sIfT (v_andT (v_B (v_bin (get_left rfl) v_ret ?_)) (v_B (v_bin (get_at rfl) (v_cl (v_cons (get_cells rfl) v_nil) rfl) ?_))) (v_seq (put_left rfl (v_bin (get_cells rfl) (get_at rfl) ?_)) (put_at rfl (v_bin (get_at rfl) v_ret ?_)))⟩
        · rw [o_eqI, hl]; rfl
        · show some (D.bl (decide ((a : Int) < ((cells.map _).length : Nat)))) = _
          rw [List.length_map, decide_eq_true (by omega)]
        · show atI (cells.map fun c => D.int (c : Nat)) (a : Int) = _
          unfold atI ixN
          simp [ha]
        · exact o_addN (b := 1)
      · refine ⟨a, l, v_sIfF (v_andT (v_B (v_bin (get_left rfl) v_ret ?_)) (v_B (v_bin (get_at rfl) (v_cl (v_cons (get_cells rfl) v_nil) rfl) ?_))) rfl⟩
        · rw [o_eqI, hl]; rfl
        · show some (D.bl (decide ((a : Int) < ((cells.map _).length : Nat)))) = _
          rw [List.length_map, decide_eq_false (by omega)]
    · refine ⟨a, l, v_sIfF (v_andTF (v_B (v_bin (get_left rfl) v_ret ?_))) rfl⟩
      rw [o_eqI]
      congr 2
      simp; omega
  obtain ⟨a', l', h1⟩ := h1
  by_cases hl : 0 < l'
  · refine ⟨l' % m, [tp cells a' (l' / m) se sa], ?_, Nat.mod_lt _ hm, cells, a', l' / m, se, sa, rfl, hse, by omega, hcl⟩
    unfold F__law_take
    apply v_run
    unfold B__law_take
    refine v_seq h1 (v_seqR (v_sIfT (v_B (v_bin (get_left rfl) v_ret ?_)) (v_seq (v_set (v_bin (v_cl (v_cons (get_left rfl) v_nil) o_int) (v_var rfl) (o_modN hm))) (v_seq (put_left rfl (v_bin (get_left rfl) (v_var rfl) (o_divN hm ?_))) (v_rt (v_var rfl))))))
    · show some (D.bl (decide ((0 : Int) < (l' : Nat)))) = _
      rw [decide_eq_true (by omega)]
    · have := lg hm2; omega
  · let x1 := (se * 48271 + (sa + 1) * 69621) % 2147483647
    let x2 := (x1 * x1 + (sa + 1) * 40692 + 12345) % 2147483399
    have hx1 : x1 < 2 ^ 31 := Nat.lt_of_lt_of_le (Nat.mod_lt _ (by decide)) (by decide)
    refine ⟨x2 % m, [tp cells a' l' se (sa + 1)], ?_, Nat.mod_lt _ hm, cells, a', l', se, sa + 1, rfl, hse, by omega, hcl⟩
    have g1 : (sa + 1).log2 ≤ 101 := lg (k := 101) (by rw [Nat.pow_succ]; omega)
    have g2 : se.log2 ≤ 31 := lg (by omega)
    have g3 : x1.log2 ≤ 31 := lg hx1
    unfold F__law_take
    apply v_run
    unfold B__law_take
    refine v_seq h1 (v_seq (v_sIfF (v_B (v_bin (get_left rfl) v_ret ?_)) rfl) (v_seq (put_salt rfl (v_bin (get_salt rfl) v_ret (o_addN (b := 1)))) (v_seq (v_set (v_bin (v_cl (v_cons (v_bin (v_bin (get_seed rfl) v_ret (o_mulN (b := 48271) ?_)) (v_bin (get_salt rfl) v_ret (o_mulN (b := 69621) ?_)) o_addN) v_nil) o_int) v_ret (o_modN (b := 2147483647) (by decide))))
      (v_seq (v_set (v_bin (v_cl (v_cons (v_bin (v_bin (v_bin (v_var rfl) (v_var rfl) (o_mulN ?_)) (v_bin (get_salt rfl) v_ret (o_mulN (b := 40692) ?_)) o_addN) v_ret (o_addN (b := 12345))) v_nil) o_int) v_ret (o_modN (b := 2147483399) (by decide))))
      (v_rt (v_bin (v_cl (v_cons (v_var rfl) v_nil) o_int) (v_var rfl) (o_modN hm)))))))
    · show some (D.bl (decide ((0 : Int) < (l' : Nat)))) = _
      rw [decide_eq_false (by omega)]
    · have : (48271 : Nat).log2 ≤ 100 := by decide +kernel
      omega
    · have : (69621 : Nat).log2 ≤ 100 := by decide +kernel
      omega
    · show x1.log2 + x1.log2 < 1000000
      omega
    · have : (40692 : Nat).log2 ≤ 100 := by decide +kernel
      omega
def absD : D → D
  | .int a => .int (a.natAbs : Nat)
  | d => d
theorem tape_ev (ns : List Int) (h : ns.length ≤ 63) : ∃ S, F__law_tape [.scr ns] [] = some (.ptr 0, S) ∧ Tp 0 S := by
  have ec : (ns.map D.int).map absD = (ns.map Int.natAbs).map fun c => D.int (c : Nat) := by
    rw [List.map_map, List.map_map]; rfl
  have H := v_forI (t := tNm 3) (u := sSet 2 (eBin dMod (eCl dInt (eCons (eBin dAdd (eBin dMul (eVar 2) (ret (.int 31))) (eVar 3)) eNil)) (ret (.int 2147483647))))
    (fun _ s => ∃ (se : Nat) (l : Sl), s = ([.val (.scr ns), .val (.lst ((ns.map Int.natAbs).map fun c => D.int (c : Nat))), .val (.int se), l], []) ∧ se < 2147483647) ((ns.map Int.natAbs).map fun c => D.int (c : Nat)) [] ([.val (.scr ns), .val (.lst ((ns.map Int.natAbs).map fun c => D.int (c : Nat))), .val (.int (7 : Nat)), .un], []) ⟨7, .un, rfl, by decide⟩
  obtain ⟨s2, e2, se, l, rfl, hse⟩ := H (by
    rintro p x q s hx ⟨se, l, rfl, hse⟩
    have hm : x ∈ (ns.map Int.natAbs).map fun c => D.int (c : Nat) := by rw [List.nil_append] at hx; rw [hx]; simp
    obtain ⟨c, _, rfl⟩ := List.mem_map.mp hm
    refine ⟨_, _, rfl, v_set (v_bin (v_cl (v_cons (v_bin (v_bin (v_var rfl) v_ret (o_mulN (b := 31) ?_)) (v_var rfl) o_addN) v_nil) o_int) v_ret (o_modN (b := 2147483647) (by decide))), (se * 31 + c) % 2147483647, .val (.int c), rfl, Nat.mod_lt _ (by decide)⟩
    have := lg (x := se) (k := 31) (by omega)
    have : (31 : Nat).log2 ≤ 100 := by decide +kernel
    omega)
  refine ⟨[tp (ns.map Int.natAbs) 0 0 se 0], ?_, ns.map Int.natAbs, 0, 0, se, 0, rfl, hse, Nat.le_refl _, by rw [List.length_map]; omega⟩
  unfold F__law_tape
  apply v_run
  unfold B__law_tape
  refine v_seq (v_set (v_fz (v_map1 absD (v_items (v_var rfl) rfl) (by decide) rfl ?_ ?_))) ?_
  · rw [List.length_map]; show _ ≤ 16777216; omega
  · intro x hx
    obtain ⟨i, _, rfl⟩ := List.mem_map.mp hx
    refine v_cl (v_cons (v_cl (v_cons (v_var rfl) v_nil) o_int) v_nil) ?_
    show some (D.int (if i < 0 then -i else i)) = some (D.int (i.natAbs : Nat))
    congr 2
    split <;> omega
  · rw [ec]
    refine v_seq (v_set v_ret) (v_seq (v_for (v_items (v_var rfl) rfl) e2) ?_)
    apply v_rt
    apply Eq.trans
    · apply v_newO
      apply v_dp
      · (repeat' (first | (with_reducible exact v_ret) | (with_reducible exact v_nil) | (with_reducible apply v_var; exact rfl) | (with_reducible apply v_bin) | (with_reducible apply v_cons) | (with_reducible apply v_call) | (with_reducible apply v_tup) | (with_reducible apply v_lst) | (with_reducible apply v_fz) | (with_reducible apply v_un) | (with_reducible apply v_cl) | (with_reducible apply v_cl1) | (with_reducible apply v_B) | (with_reducible apply v_items) | (with_reducible apply v_range) | (with_reducible apply v_arg) | (with_reducible apply v_part) | (with_reducible apply v_sl) | (with_reducible apply v_rt) | (with_reducible apply v_set) | (with_reducible apply v_own) | (with_reducible apply v_ownK) | (with_reducible apply v_par) | (with_reducible apply v_expr) | (with_reducible apply v_notT) | (with_reducible apply v_not) | (with_reducible apply v_for) | (with_reducible apply v_asg2) | (with_reducible apply o_mul) | (with_reducible apply o_mod) | (with_reducible apply o_div) | (with_reducible apply o_shl) | (with_reducible apply v_binL) | (with_reducible apply v_dget) | (with_reducible apply v_dputO) | (with_reducible apply v_newO) | (with_reducible apply v_disp) | (with_reducible apply v_dp) | exact rfl))
      · show 5 ≤ 15; decide
    · exact rfl
end LW

set_option Elab.async false
set_option linter.all false
set_option maxRecDepth 100000
set_option exponentiation.threshold 100000
set_option maxHeartbeats 1000000
namespace LW
open PySem PySem.Spec PyProof.Rows L2 DL

def lim {n : Nat} (h : n ≤ 1000) : n ≤ LIM := Nat.le_trans h (by decide)
theorem l2 : 2 ≤ LIM := by decide
theorem asBs_map {α : Type} (p : α → Bool) : ∀ l : List α, asBs (l.map fun x => D.bl (p x)) = some (l.map p)
  | [] => rfl
  | x :: l => by show (asBs (l.map fun x => D.bl (p x))).map (p x :: ·) = _; rw [asBs_map p l]; rfl
theorem all_bl {α : Type} (p : α → Bool) (l : List α) : dAll [.lst (l.map fun x => D.bl (p x))] = some (.bl (l.all p)) := by
  show (asBs (l.map fun x => D.bl (p x))).map (fun bs => D.bl (bs.all id)) = _
  rw [asBs_map]
  show some (D.bl ((l.map p).all id)) = _
  rw [List.all_map]; rfl
theorem any_bl {α : Type} (p : α → Bool) (l : List α) : dAny [.lst (l.map fun x => D.bl (p x))] = some (.bl (l.any p)) := by
  show (asBs (l.map fun x => D.bl (p x))).map (fun bs => D.bl (bs.any id)) = _
  rw [asBs_map]
  show some (D.bl ((l.map p).any id)) = _
  rw [List.any_map]; rfl
/-! ### counts -/
def iD (n : Nat) : D := .int (n : Nat)
def cD (cs : List Nat) : D := .tup (cs.map iD)
theorem asIs_cs : ∀ cs : List Nat, asIs (cs.map iD) = some (cs.map fun c => ((c : Nat) : Int))
  | [] => rfl
  | c :: cs => by show (asIs (cs.map iD)).map (((c : Nat) : Int) :: ·) = _; rw [asIs_cs cs]; rfl
theorem sum_cast : ∀ cs : List Nat, (cs.map fun c => ((c : Nat) : Int)).sum = ((cs.sum : Nat) : Int)
  | [] => rfl
  | c :: cs => by rw [List.map_cons, List.sum_cons, List.sum_cons, sum_cast cs]; push_cast; rfl
theorem sum_ev (cs : List Nat) : dSum [cD cs] = some (.int (cs.sum : Nat)) := by
  show (asIs (cs.map iD)).map (fun bs => D.int bs.sum) = _
  rw [asIs_cs]
  show some (D.int _) = _
  rw [sum_cast]
/-- counts that the program takes -/
structure Cs (cs : List Nat) : Prop where
  n1 : 1 ≤ cs.length
  n2 : cs.length ≤ 26
  le : ∀ c ∈ cs, c ≤ 1000
  su : cs.sum ≤ 3000
theorem check_counts_ev {cs : List Nat} (h : Cs cs) (S : List O) : F_check_counts [cD cs] S = some (.non, S) := by
  have h1 := h.n1
  have h2 := h.n2
  unfold F_check_counts
  apply v_runN
  unfold B_check_counts
  have el : dLen [cD cs] = some (.int (cs.length : Nat)) := by show some (D.int ((cs.map iD).length : Nat)) = _; rw [List.length_map]
  refine v_sIfF (v_orT (v_nF (v_B (v_chain v_ret (v_cl (v_cons (v_var rfl) v_nil) el) (?_ : dLe (.int 1) _ = some (.bl true)) v_ret (?_ : dLe _ (.int 26) = some (.bl true))))) (v_nF (v_B (v_cl (v_cons (v_fz (v_mapT cs iD (fun c => .bl true) (v_items (v_var rfl) rfl) (lim (by omega)) fun c hc => ?_)) v_nil) (z := .bl true) ?_)))) v_sNil
  · show some (D.bl (decide ((1 : Int) ≤ (cs.length : Nat)))) = _
    rw [decide_eq_true (by omega)]
  · show some (D.bl (decide (((cs.length : Nat) : Int) ≤ 26))) = _
    rw [decide_eq_true (by omega)]
  · have := h.le c hc
    refine v_chain v_ret (v_var rfl) (?_ : dLe (.int 0) (iD c) = some (.bl true)) (v_bin v_ret v_ret rfl) ?_
    · show some (D.bl (decide ((0 : Int) ≤ (c : Nat)))) = _
      rw [decide_eq_true (by omega)]
    · show some (D.bl (decide (((c : Nat) : Int) ≤ 10 ^ 6))) = _
      rw [decide_eq_true (by omega)]
  · rw [all_bl (fun _ => true)]; simp
/-! ### power -/
theorem pow_step (b t : Nat) : (if t % 2 = 1 then b else 1) * (b * b) ^ (t / 2) = b ^ t := by
  have h : t = 2 * (t / 2) + t % 2 := by omega
  have e : (b * b) ^ (t / 2) = b ^ (2 * (t / 2)) := by rw [Nat.pow_mul, Nat.pow_two]
  rw [e]
  conv => rhs; rw [h]
  rw [Nat.pow_add]
  have : t % 2 = 0 ∨ t % 2 = 1 := by omega
  rcases this with h | h
  · rw [h]; simp
  · rw [h]; simp [Nat.mul_comm]
theorem lg_pow {b k : Nat} (h : b < 2 ^ 12) (j : Nat) (hj : b ^ j < 2 ^ (12 * j + 1)) : (b ^ j).log2 ≤ 12 * j + 1 := lg hj
theorem pow_bd {b : Nat} (h : b < 2 ^ 12) (j : Nat) : b ^ j < 2 ^ (12 * j + 1) := by
  have h1 : b ^ j ≤ (2 ^ 12) ^ j := Nat.pow_le_pow_left (by omega) j
  rw [← Nat.pow_mul] at h1
  exact Nat.lt_of_le_of_lt h1 (Nat.pow_lt_pow_right (by decide) (by omega))
end LW

set_option Elab.async false
set_option linter.all false
set_option maxRecDepth 100000
set_option exponentiation.threshold 100000
set_option maxHeartbeats 1000000
namespace LW
open PySem PySem.Spec PyProof.Rows L2 DL
theorem pw_log {b : Nat} (h : b < 2 ^ 12) (j : Nat) (hj : j ≤ 10000) : (b ^ j).log2 ≤ 120001 := Nat.le_trans (lg (pow_bd h j)) (by omega)
theorem power_ev {b t : Nat} (hb : b < 2 ^ 12) (ht : t ≤ 4000) (S : List O) : F_power [.int (b : Nat), .int (t : Nat)] S = some (.int ((b ^ t : Nat) : Int), S) := by
  have H := v_while (p := eB (eBin dGt (eVar 1) (ret (.int 0)))) (u := (sSeq (sIf (eB (eBin dEq (eBin dMod (eVar 1) (ret (.int 2))) (ret (.int 1)))) (sSet 2 (eBin dMul (eVar 2) (eVar 0))) sNil) (sSeq (sSet 0 (eBin dMul (eVar 0) (eVar 0))) (sAug 1 dDivI (ret (.int 2))))))
    (st := fun c : Nat × Nat × Nat => ([.val (.int ((b ^ c.1 : Nat) : Int)), .val (.int (c.2.1 : Nat)), .val (.int ((b ^ c.2.2 : Nat) : Int))], S)) (I := fun c => c.2.2 + c.1 * c.2.1 = t) (m := fun c => c.2.1) (R := fun _ _ => True) (fun _ => trivial) (fun _ _ _ _ _ => trivial) ?_ FUEL (1, t, 0) (by show 0 + 1 * t = t; omega) (Nat.lt_of_le_of_lt (show t ≤ 4000 from ht) (by decide))
  · obtain ⟨⟨e, t', f⟩, e1, hI, e2, _⟩ := H
    have e3 : eB (eBin dGt (eVar 1) (ret (.int 0))) (([.val (.int ((b ^ e : Nat) : Int)), .val (.int (t' : Nat)), .val (.int ((b ^ f : Nat) : Int))], S) : Sto) = some (decide ((0 : Int) < (t' : Nat)), ([.val (.int ((b ^ e : Nat) : Int)), .val (.int (t' : Nat)), .val (.int ((b ^ f : Nat) : Int))], S)) := rfl
    have e2' := e3.symm.trans e2
    simp at e2'
    subst e2'
    have hf : f = t := by
      have hI : f + e * 0 = t := hI
      omega
    subst hf
    unfold F_power
    apply v_runE
    unfold B_power
    refine v_seqE (v_set v_ret) (v_seqE (s1 := ([.val (.int ((b ^ e : Nat) : Int)), .val (.int ((0 : Nat) : Int)), .val (.int ((b ^ f : Nat) : Int))], S)) ?_ ⟨_, v_rt (v_var rfl)⟩)
    refine Eq.trans ?_ e1
    show sWhile _ _ ([.val (.int (b : Nat)), .val (.int (f : Nat)), .val (.int 1)], S) = whileF _ _ FUEL ([.val (.int ((b ^ 1 : Nat) : Int)), .val (.int (f : Nat)), .val (.int ((b ^ 0 : Nat) : Int))], S)
    rw [Nat.pow_one, Nat.pow_zero]; rfl
  · rintro ⟨e, t', f⟩ hI
    have hI : f + e * t' = t := hI
    by_cases h0 : t' = 0
    · subst h0; exact .inl rfl
    · refine .inr ⟨(2 * e, t' / 2, if t' % 2 = 1 then f + e else f), ?_, ?_, ?_, ?_, trivial⟩
      · show some (decide ((0 : Int) < (t' : Nat)), _) = _
        rw [decide_eq_true (by omega)]
      · have he : e ≤ 4000 := by
          have : e * 1 ≤ e * t' := Nat.mul_le_mul_left e (by omega)
          omega
        have g1 := pw_log hb e (by omega)
        have g2 := pw_log hb f (by omega)
        have q1 : ((b ^ e * b ^ e : Nat)) = b ^ (2 * e) := by rw [← Nat.pow_add]; congr 1; omega
        have q2 : (b ^ f * b ^ e : Nat) = b ^ (f + e) := by rw [← Nat.pow_add]
        have m2 := o_mulN (a := b ^ e) (b := b ^ e) (by omega)
        have m1 := o_mulN (a := b ^ f) (b := b ^ e) (by omega)
        rw [q1] at m2
        rw [q2] at m1
        have hd : dDivI (.int (t' : Nat)) (.int 2) = some (.int ((t' / 2 : Nat) : Int)) := by rw [o_divI (by decide) (by decide)]; simp
        have hm : dMod (.int (t' : Nat)) (.int 2) = some (.int ((t' % 2 : Nat) : Int)) := by rw [o_mod (by decide)]; simp
        by_cases hp : t' % 2 = 1
        · rw [if_pos hp]
          rw [hp] at hm
          exact v_seq (v_sIfT (v_B (v_bin (v_bin (v_var rfl) v_ret hm) v_ret rfl)) (v_set (v_bin (v_var rfl) (v_var rfl) m1))) (v_seq (v_set (v_bin (v_var rfl) (v_var rfl) m2)) (Eq.trans (v_aug rfl v_ret hd) rfl))
        · have hp0 : t' % 2 = 0 := by omega
          rw [if_neg hp]
          rw [hp0] at hm
          exact v_seq (v_sIfF (v_B (v_bin (v_bin (v_var rfl) v_ret hm) v_ret rfl)) v_sNil) (v_seq (v_set (v_bin (v_var rfl) (v_var rfl) m2)) (Eq.trans (v_aug rfl v_ret hd) rfl))
      · show (if t' % 2 = 1 then f + e else f) + 2 * e * (t' / 2) = t
        have hq : t' = 2 * (t' / 2) + t' % 2 := by omega
        have h2 : e * t' = 2 * e * (t' / 2) + e * (t' % 2) := by
          conv => lhs; rw [hq]
          rw [Nat.mul_add, ← Nat.mul_assoc, Nat.mul_comm e 2]
        split
        · rename_i hp; rw [hp] at h2; omega
        · rename_i hp
          have hp0 : t' % 2 = 0 := by omega
          rw [hp0] at h2; omega
      · show t' / 2 < t'
        omega
end LW

set_option Elab.async false
set_option linter.all false
set_option maxRecDepth 100000
set_option exponentiation.threshold 100000
set_option maxHeartbeats 1000000
namespace LW
open PySem PySem.Spec PyProof.Rows L2 DL
def gl : List Nat → Nat
  | [] => 1
  | c :: cs => c ^ c * gl cs
theorem gl_pos : ∀ cs, 0 < gl cs
  | [] => by decide
  | c :: cs => Nat.mul_pos (Nat.pos_of_ne_zero fun h => by
      have := Nat.pow_eq_zero.mp h
      omega) (gl_pos cs)
theorem pow_mul_lt {x y i j : Nat} (h1 : x < 2 ^ i) (h2 : y < 2 ^ j) : x * y < 2 ^ (i + j) := by
  rw [Nat.pow_add]; exact Nat.mul_lt_mul'' h1 h2
theorem gl_bd : ∀ cs : List Nat, (∀ c ∈ cs, c ≤ 1000) → gl cs < 2 ^ (12 * cs.sum + cs.length + 1)
  | [], _ => by decide
  | c :: cs, h => by
    have := pow_mul_lt (pow_bd (b := c) (by have := h c (by simp); omega) c) (gl_bd cs fun x hx => h x (by simp [hx]))
    refine Nat.lt_of_lt_of_le this (Nat.pow_le_pow_right (by decide) ?_)
    rw [List.sum_cons, List.length_cons]; omega
theorem pp_loop (X : D) (S : List O) : ∀ (cs : List Nat) (f k : Nat) (l : Sl), f < 2 ^ k → (∀ c ∈ cs, c ≤ 1000) → k + 13 * cs.sum + cs.length ≤ 200000 →
    ∃ l', forL (tNm 2) (sSet 1 (eBin dMul (eVar 1) (eCall F_power (eCons (eVar 2) (eCons (eVar 2) eNil))))) (cs.map iD) ([.val X, .val (.int (f : Nat)), l], S) = some (.nx ([.val X, .val (.int ((f * gl cs : Nat) : Int)), l'], S))
  | [], f, k, l, _, _, _ => ⟨l, by rw [show f * gl [] = f from Nat.mul_one f]; rfl⟩
  | c :: cs, f, k, l, hf, hc, hk => by
    have hc0 := hc c (by simp)
    rw [List.sum_cons, List.length_cons] at hk
    have hb := pow_bd (b := c) (by omega) c
    obtain ⟨l', e⟩ := pp_loop X S cs (f * c ^ c) (k + (12 * c + 1)) (.val (iD c)) (pow_mul_lt hf hb) (fun x hx => hc x (by simp [hx])) (by omega)
    refine ⟨l', ?_⟩
    rw [show f * gl (c :: cs) = f * c ^ c * gl cs from (Nat.mul_assoc _ _ _).symm]
    have g1 := lg hf
    have g2 := lg hb
    exact v_for_cons rfl (Eq.trans (v_set (v_bin (v_var rfl) (v_call (v_cons (v_var rfl) (v_cons (v_var rfl) v_nil)) (power_ev (b := c) (t := c) (by omega) (by omega) S)) (o_mulN (by omega)))) rfl) e
theorem pp_ev {cs : List Nat} (h : Cs cs) (S : List O) : F_power_product [cD cs] S = some (.int (gl cs : Nat), S) := by
  have h2 := h.n2
  have h3 := h.su
  obtain ⟨l', e⟩ := pp_loop (cD cs) S cs 1 1 .un (by decide) h.le (by omega)
  rw [Nat.one_mul] at e
  unfold F_power_product
  apply v_run
  unfold B_power_product
  exact v_seq (v_set v_ret) (v_seq (v_for (v_items (v_var rfl) rfl) e) (v_rt (v_var rfl)))
def En (cs : List Nat) (b : Nat) : Prop := cs.sum ^ cs.sum ≤ gl cs * 2 ^ b
instance (cs : List Nat) (b : Nat) : Decidable (En cs b) := inferInstanceAs (Decidable (_ ≤ _))
theorem enough_ev {cs : List Nat} (h : Cs cs) {b : Nat} (hb : b ≤ 100000) (S : List O) : F_is_enough [cD cs, .int (b : Nat)] S = some (.bl (decide (En cs b)), S) := by
  have h2 := h.n2
  have h3 := h.su
  have g1 := lg (gl_bd cs h.le)
  have e1 := check_counts_ev h S
  have e2 := pp_ev h S
  have e3 := power_ev (b := cs.sum) (t := cs.sum) (by omega) (by omega) S
  unfold F_is_enough
  apply v_run
  unfold B_is_enough
  refine v_seq (v_expr (v_call (v_cons (v_var rfl) v_nil) e1)) (v_seq (v_sIfF (v_B (v_bin (v_cl (v_cons (v_var rfl) v_nil) (sum_ev cs)) v_ret (z := .bl false) ?_)) v_sNil) (v_seq (v_set (v_cl (v_cons (v_var rfl) v_nil) (sum_ev cs))) (v_rt (v_and (v_bin (v_var rfl) v_ret (z := .bl true) ?_) (v_bin (v_bin (v_call (v_cons (v_var rfl) v_nil) e2) (v_var rfl) (o_shl ?_ ?_ ?_)) (v_call (v_cons (v_var rfl) (v_cons (v_var rfl) v_nil)) e3) ?_)))))
  · show some (D.bl (decide ((3000 : Int) < (cs.sum : Nat)))) = _
    rw [decide_eq_false (by omega)]
  · show some (D.bl (decide ((0 : Int) ≤ (b : Nat)))) = _
    rw [decide_eq_true (by omega)]
  · omega
  · omega
  · rw [Int.natAbs_natCast]; omega
  · show some (D.bl (decide (((cs.sum ^ cs.sum : Nat) : Int) ≤ ((gl cs : Nat) : Int) * 2 ^ ((b : Nat) : Int).toNat))) = _
    congr 2
    apply decide_eq_decide.mpr
    unfold En
    rw [Int.toNat_natCast]
    rw [show ((gl cs : Nat) : Int) * 2 ^ b = ((gl cs * 2 ^ b : Nat) : Int) by push_cast; rfl]
    exact Int.ofNat_le
theorem enough_neg {cs : List Nat} (h : Cs cs) {b : Int} (hb : b < 0) (S : List O) : F_is_enough [cD cs, .int b] S = some (.bl false, S) := by
  have h3 := h.su
  have e1 := check_counts_ev h S
  unfold F_is_enough
  apply v_run
  unfold B_is_enough
  refine v_seq (v_expr (v_call (v_cons (v_var rfl) v_nil) e1)) (v_seq (v_sIfF (v_B (v_bin (v_cl (v_cons (v_var rfl) v_nil) (sum_ev cs)) v_ret (z := .bl false) ?_)) v_sNil) (v_seq (v_set (v_cl (v_cons (v_var rfl) v_nil) (sum_ev cs))) (v_rt (v_andF (v_bin (v_var rfl) v_ret (z := .bl false) ?_)))))
  · show some (D.bl (decide ((3000 : Int) < (cs.sum : Nat)))) = _
    rw [decide_eq_false (by omega)]
  · show some (D.bl (decide ((0 : Int) ≤ b))) = _
    rw [decide_eq_false (by omega)]
/-! ### the fewest bits -/
def clog (x : Nat) : Nat := if x ≤ 1 then 0 else (x - 1).log2 + 1
theorem clog_le {x b : Nat} : clog x ≤ b ↔ x ≤ 2 ^ b := by
  unfold clog
  have hp := Nat.two_pow_pos b
  split
  · constructor
    · intro _; omega
    · intro _; omega
  · rename_i h
    rw [show (x - 1).log2 + 1 ≤ b ↔ (x - 1).log2 < b from Iff.rfl, Nat.log2_lt (by omega)]
    omega
@[irreducible] def fl (cs : List Nat) : Nat := clog ((cs.sum ^ cs.sum + gl cs - 1) / gl cs)
theorem fl_le {cs : List Nat} {b : Nat} : fl cs ≤ b ↔ En cs b := by
  unfold fl En
  have hg := gl_pos cs
  rw [clog_le, ← Nat.lt_add_one_iff, Nat.div_lt_iff_lt_mul hg, Nat.add_mul, Nat.one_mul, Nat.mul_comm (2 ^ b)]
  omega
theorem En_top {cs : List Nat} (h : Cs cs) : En cs 65536 := by
  unfold En
  have h3 := h.su
  have hg := gl_pos cs
  have h1 := pow_bd (b := cs.sum) (by omega) cs.sum
  have h2 : 2 ^ (12 * cs.sum + 1) ≤ 2 ^ 65536 := Nat.pow_le_pow_right (by decide) (by omega)
  have h4 : 1 * 2 ^ 65536 ≤ gl cs * 2 ^ 65536 := Nat.mul_le_mul_right _ hg
  generalize 2 ^ 65536 = Z at *
  omega
theorem fl_top {cs : List Nat} (h : Cs cs) : fl cs ≤ 65536 := fl_le.mpr (En_top h)
theorem floor_ev {cs : List Nat} (h : Cs cs) (S : List O) : F_floor_bits [cD cs] S = some (.int (fl cs : Nat), S) := by
  have H1 := v_while (p := eNotT (eB (eCall F_is_enough (eCons (eVar 0) (eCons (eVar 2) eNil))))) (u := sAug 2 dMulI (ret (.int 2))) (st := fun k : Nat => ([.val (cD cs), .val (.int 0), .val (.int ((2 ^ k : Nat) : Int)), .un], S)) (I := fun k => k ≤ 16) (m := fun k => 16 - k) (R := fun _ _ => True) (fun _ => trivial) (fun _ _ _ _ _ => trivial)
    (fun k hk => by
      have hp : 2 ^ k ≤ 2 ^ 16 := Nat.pow_le_pow_right (by decide) hk
      have e := enough_ev h (b := 2 ^ k) (by omega) S
      by_cases hE : En cs (2 ^ k)
      · rw [decide_eq_true hE] at e
        exact .inl (v_nF (v_B (v_call (v_cons (v_var rfl) (v_cons (v_var rfl) v_nil)) e)))
      · rw [decide_eq_false hE] at e
        have hk16 : k ≠ 16 := fun z => by subst z; exact hE (En_top h)
        refine .inr ⟨k + 1, v_nT (v_B (v_call (v_cons (v_var rfl) (v_cons (v_var rfl) v_nil)) e)), Eq.trans (v_aug rfl v_ret (z := .int ((2 ^ (k + 1) : Nat) : Int)) ?_) rfl, by show k + 1 ≤ 16; omega, by show 16 - (k + 1) < 16 - k; omega, trivial⟩
        rw [o_mulI (.inr (by decide))]
        rw [Nat.pow_succ]; push_cast; rfl) FUEL 0 (by decide) (by decide)
  obtain ⟨k, e1, hk, e2, _⟩ := H1
  have hp : 2 ^ k ≤ 2 ^ 16 := Nat.pow_le_pow_right (by decide) hk
  have hEk : fl cs ≤ 2 ^ k := by
    have e := enough_ev h (b := 2 ^ k) (by omega) S
    have e' : eNotT (eB (eCall F_is_enough (eCons (eVar 0) (eCons (eVar 2) eNil)))) (([.val (cD cs), .val (.int 0), .val (.int ((2 ^ k : Nat) : Int)), .un], S) : Sto) = some (!decide (En cs (2 ^ k)), ([.val (cD cs), .val (.int 0), .val (.int ((2 ^ k : Nat) : Int)), .un], S)) := v_notT (v_B (v_call (v_cons (v_var rfl) (v_cons (v_var rfl) v_nil)) e))
    have := e'.symm.trans e2
    simp at this
    exact fl_le.mpr this
  have H2 := v_while (p := eB (eBin dLt (eVar 1) (eVar 2))) (u := (sSeq (sSet 3 (eBin dDiv (eBin dAdd (eVar 1) (eVar 2)) (ret (.int 2)))) (sIf (eB (eCall F_is_enough (eCons (eVar 0) (eCons (eVar 3) eNil)))) (sSet 2 (eVar 3)) (sSet 1 (eBin dAdd (eVar 3) (ret (.int 1)))))))
    (st := fun c : Nat × Nat × Sl => ([.val (cD cs), .val (.int (c.1 : Nat)), .val (.int (c.2.1 : Nat)), c.2.2], S)) (I := fun c => c.1 ≤ fl cs ∧ fl cs ≤ c.2.1 ∧ c.2.1 ≤ 65536) (m := fun c => c.2.1 - c.1) (R := fun _ _ => True) (fun _ => trivial) (fun _ _ _ _ _ => trivial)
    (by
      rintro ⟨lo, hi, l⟩ ⟨h1, h2, h3⟩
      dsimp only at h1 h2 h3
      by_cases hlt : lo < hi
      · refine .inr ?_
        have hd : dDiv (.int ((lo + hi : Nat) : Int)) (.int 2) = some (.int (((lo + hi) / 2 : Nat) : Int)) := by rw [o_div (by decide) (by decide)]; simp
        have e := enough_ev h (b := (lo + hi) / 2) (by omega) S
        have hp : eB (eBin dLt (eVar 1) (eVar 2)) (([.val (cD cs), .val (.int (lo : Nat)), .val (.int (hi : Nat)), l], S) : Sto) = some (true, ([.val (cD cs), .val (.int (lo : Nat)), .val (.int (hi : Nat)), l], S)) := v_B (v_bin (v_var rfl) (v_var rfl) (by
          show some (D.bl (decide (((lo : Nat) : Int) < (hi : Nat)))) = _
          rw [decide_eq_true (by omega)]))
        by_cases hE : En cs ((lo + hi) / 2)
        · rw [decide_eq_true hE] at e
          have := fl_le.mpr hE
          exact ⟨(lo, (lo + hi) / 2, .val (.int (((lo + hi) / 2 : Nat) : Int))), hp, Eq.trans (v_seq (v_set (v_bin (v_bin (v_var rfl) (v_var rfl) o_addN) v_ret hd)) (v_sIfT (v_B (v_call (v_cons (v_var rfl) (v_cons (v_var rfl) v_nil)) e)) (v_set (v_var rfl)))) rfl, ⟨h1, this, by show (lo + hi) / 2 ≤ 65536; omega⟩, by show (lo + hi) / 2 - lo < hi - lo; omega, trivial⟩
        · rw [decide_eq_false hE] at e
          have : ¬ fl cs ≤ (lo + hi) / 2 := fun z => hE (fl_le.mp z)
          exact ⟨((lo + hi) / 2 + 1, hi, .val (.int (((lo + hi) / 2 : Nat) : Int))), hp, Eq.trans (v_seq (v_set (v_bin (v_bin (v_var rfl) (v_var rfl) o_addN) v_ret hd)) (v_sIfF (v_B (v_call (v_cons (v_var rfl) (v_cons (v_var rfl) v_nil)) e)) (v_set (v_bin (v_var rfl) v_ret (o_addN (b := 1)))))) rfl, ⟨by show (lo + hi) / 2 + 1 ≤ fl cs; omega, h2, h3⟩, by show hi - ((lo + hi) / 2 + 1) < hi - lo; omega, trivial⟩
      · refine .inl (v_B (v_bin (v_var rfl) (v_var rfl) ?_))
        show some (D.bl (decide (((lo : Nat) : Int) < (hi : Nat)))) = _
        rw [decide_eq_false (by omega)]) FUEL (0, 2 ^ k, .un) ⟨Nat.zero_le _, hEk, by show 2 ^ k ≤ 65536; omega⟩ (Nat.lt_of_le_of_lt (show 2 ^ k - 0 ≤ 65536 by omega) (by decide))
  obtain ⟨⟨lo, hi, l⟩, e3, ⟨h1, h2, h3⟩, e4, _⟩ := H2
  dsimp only at h1 h2 h3 e3 e4
  have hlo : lo = fl cs := by
    have hp : eB (eBin dLt (eVar 1) (eVar 2)) (([.val (cD cs), .val (.int (lo : Nat)), .val (.int (hi : Nat)), l], S) : Sto) = some (decide (((lo : Nat) : Int) < (hi : Nat)), ([.val (cD cs), .val (.int (lo : Nat)), .val (.int (hi : Nat)), l], S)) := rfl
    have := hp.symm.trans e4
    simp at this
    omega
  subst hlo
  unfold F_floor_bits
  apply v_runE
  unfold B_floor_bits
  exact v_seqE (v_asg2 (v_tup (v_cons v_ret (v_cons v_ret v_nil)) l2)) (v_seqE (s1 := ([.val (cD cs), .val (.int 0), .val (.int ((2 ^ k : Nat) : Int)), .un], S)) e1 (v_seqE (s1 := ([.val (cD cs), .val (.int (fl cs : Nat)), .val (.int (hi : Nat)), l], S)) e3 ⟨_, v_rt (v_var rfl)⟩))
end LW

set_option Elab.async false
set_option linter.all false
set_option maxRecDepth 100000
set_option exponentiation.threshold 100000
set_option maxHeartbeats 1000000
namespace LW
open PySem PySem.Spec PyProof.Rows L2 DL
/-! ### means -/
theorem two_mul_sq (p q : Nat) : 2 * (p * q) ≤ p * p + q * q := by
  rcases Nat.le_total p q with h | h
  · obtain ⟨d, rfl⟩ := Nat.exists_eq_add_of_le h
    have : p * p + (p + d) * (p + d) = 2 * (p * (p + d)) + d * d := by grind
    omega
  · obtain ⟨d, rfl⟩ := Nat.exists_eq_add_of_le h
    have : (q + d) * (q + d) + q * q = 2 * ((q + d) * q) + d * d := by grind
    omega
theorem bern (p q : Nat) : ∀ m : Nat, (m + 1) * (p * q ^ m) ≤ m * q ^ (m + 1) + p ^ (m + 1)
  | 0 => by simp
  | m + 1 => by
    have ih := Nat.mul_le_mul_left p (bern p q m)
    have sq := Nat.mul_le_mul_left ((m + 1) * q ^ m) (two_mul_sq p q)
    have e1 : p * ((m + 1) * (p * q ^ m)) = (m + 1) * q ^ m * (p * p) := by grind
    have e2 : p * (m * q ^ (m + 1) + p ^ (m + 1)) = m * (p * q ^ (m + 1)) + p ^ (m + 2) := by grind
    have e3 : (m + 1) * q ^ m * (2 * (p * q)) = 2 * (m * (p * q ^ (m + 1))) + 2 * (p * q ^ (m + 1)) := by grind
    have e4 : (m + 1) * q ^ m * (p * p + q * q) = (m + 1) * q ^ m * (p * p) + (m + 1) * q ^ (m + 2) := by grind
    have e5 : (m + 1 + 1) * (p * q ^ (m + 1)) = m * (p * q ^ (m + 1)) + 2 * (p * q ^ (m + 1)) := by grind
    rw [e1, e2] at ih
    rw [e3, e4] at sq
    rw [e5]
    generalize m * (p * q ^ (m + 1)) = Y at *
    generalize p * q ^ (m + 1) = X at *
    generalize (m + 1) * q ^ m * (p * p) = A at *
    show Y + 2 * X ≤ (m + 1) * q ^ (m + 2) + p ^ (m + 2)
    generalize (m + 1) * q ^ (m + 2) = C at *
    generalize p ^ (m + 2) = B at *
    omega
theorem mean1 (x s : Nat) : ∀ m : Nat, (m + 1) ^ (m + 1) * (x * s ^ m) ≤ (s + x) ^ (m + 1) * m ^ m
  | 0 => by simp
  | m + 1 => by
    have h := bern ((m + 1) * (s + x)) ((m + 2) * s) (m + 1)
    have e1 : (m + 1 + 1) * ((m + 1) * (s + x) * ((m + 2) * s) ^ (m + 1)) = (m + 1) * ((m + 2) * s * ((m + 2) * s) ^ (m + 1)) + (m + 1) * ((m + 2) * x * ((m + 2) * s) ^ (m + 1)) := by grind
    have e2 : (m + 1) * ((m + 2) * s) ^ (m + 1 + 1) = (m + 1) * ((m + 2) * s * ((m + 2) * s) ^ (m + 1)) := by rw [Nat.pow_succ ((m + 2) * s)]; grind
    have e3 : ((m + 1) * (s + x)) ^ (m + 1 + 1) = (m + 1) * ((s + x) ^ (m + 1 + 1) * (m + 1) ^ (m + 1)) := by rw [Nat.mul_pow, Nat.pow_succ (m + 1) (m + 1)]; grind
    rw [e1, e2, e3] at h
    have h2 := Nat.le_of_add_le_add_left h
    have h3 := Nat.le_of_mul_le_mul_left h2 (by omega)
    have e4 : (m + 1 + 1) ^ (m + 1 + 1) * (x * s ^ (m + 1)) = (m + 2) * x * ((m + 2) * s) ^ (m + 1) := by rw [Nat.mul_pow, Nat.pow_succ (m + 1 + 1)]; grind
    rw [e4]
    exact h3
def pl : List Nat → Nat
  | [] => 1
  | x :: l => x * pl l
theorem self_pos (n : Nat) : 0 < n ^ n := Nat.pos_of_ne_zero fun h => by
  have := Nat.pow_eq_zero.mp h
  omega
theorem mean : ∀ l : List Nat, l.length ^ l.length * pl l ≤ l.sum ^ l.length
  | [] => by decide
  | x :: l => by
    have ih := mean l
    have h1 := mean1 x l.sum l.length
    rw [List.length_cons, List.sum_cons, Nat.add_comm x]
    have hp := self_pos l.length
    show (l.length + 1) ^ (l.length + 1) * (x * pl l) ≤ (l.sum + x) ^ (l.length + 1)
    refine Nat.le_of_mul_le_mul_right (c := l.length ^ l.length) (Nat.le_trans ?_ h1) hp
    have h2 := Nat.mul_le_mul_left ((l.length + 1) ^ (l.length + 1) * x) ih
    refine Nat.le_trans (Nat.le_of_eq ?_) (Nat.le_trans h2 (Nat.le_of_eq ?_)) <;> grind
theorem pl_app : ∀ a b : List Nat, pl (a ++ b) = pl a * pl b
  | [], b => (Nat.one_mul _).symm
  | x :: a, b => by show x * pl (a ++ b) = x * pl a * pl b; rw [pl_app a b, Nat.mul_assoc]
theorem pl_rep (x : Nat) : ∀ n, pl (List.replicate n x) = x ^ n
  | 0 => rfl
  | n + 1 => by rw [List.replicate_succ]; show x * pl (List.replicate n x) = _; rw [pl_rep x n, Nat.pow_succ, Nat.mul_comm]
/-- two weighed -/
theorem gibbs (x y a b : Nat) : x ^ a * y ^ b * (a + b) ^ (a + b) ≤ (x + y) ^ (a + b) * (a ^ a * b ^ b) := by
  by_cases ha : a = 0
  · subst ha
    rw [Nat.pow_zero, Nat.one_mul, Nat.zero_add, Nat.pow_zero, Nat.one_mul]
    exact Nat.mul_le_mul_right _ (Nat.pow_le_pow_left (by omega) b)
  · by_cases hb : b = 0
    · subst hb
      rw [Nat.pow_zero, Nat.mul_one, Nat.add_zero, Nat.pow_zero, Nat.mul_one]
      exact Nat.mul_le_mul_right _ (Nat.pow_le_pow_left (by omega) a)
    · have h := mean (List.replicate a (x * b) ++ List.replicate b (y * a))
      rw [List.length_append, List.length_replicate, List.length_replicate, pl_app, pl_rep, pl_rep, List.sum_append, List.sum_replicate_nat, List.sum_replicate_nat] at h
      have e1 : a * (x * b) + b * (y * a) = a * b * (x + y) := by grind
      rw [e1, Nat.mul_pow (x) b, Nat.mul_pow y a, Nat.mul_pow (a * b), Nat.mul_pow a b] at h
      have hc : 0 < b ^ a * a ^ b := Nat.mul_pos (Nat.pow_pos (by omega)) (Nat.pow_pos (by omega))
      refine Nat.le_of_mul_le_mul_right (c := b ^ a * a ^ b) ?_ hc
      refine Nat.le_trans (Nat.le_of_eq ?_) (Nat.le_trans h (Nat.le_of_eq ?_))
      · grind
      · rw [Nat.pow_add a, Nat.pow_add b]; grind
theorem gibbs_list : ∀ cs : List Nat, cs.sum ^ cs.sum ≤ cs.length ^ cs.sum * gl cs
  | [] => by decide
  | a :: cs => by
    have ih := gibbs_list cs
    have h := gibbs 1 cs.length a cs.sum
    rw [List.sum_cons, List.length_cons]
    show (a + cs.sum) ^ (a + cs.sum) ≤ (cs.length + 1) ^ (a + cs.sum) * (a ^ a * gl cs)
    have hp : 0 < cs.length ^ cs.sum := by
      cases cs with
      | nil => decide
      | cons x y => exact Nat.pow_pos (by simp)
    rw [Nat.one_pow, Nat.one_mul, Nat.add_comm 1] at h
    refine Nat.le_of_mul_le_mul_left (c := cs.length ^ cs.sum) (Nat.le_trans h ?_) hp
    have h2 := Nat.mul_le_mul_left ((cs.length + 1) ^ (a + cs.sum) * a ^ a) ih
    refine Nat.le_trans (Nat.le_of_eq ?_) (Nat.le_trans h2 (Nat.le_of_eq ?_)) <;> grind
def zip2 : List Nat → List Nat → List Nat
  | a :: c, b :: d => (a + b) :: zip2 c d
  | _, _ => []
theorem zip2_sum : ∀ c d : List Nat, c.length = d.length → (zip2 c d).sum = c.sum + d.sum
  | [], [], _ => rfl
  | a :: c, b :: d, h => by
    have := zip2_sum c d (by simpa using h)
    show (a + b) + (zip2 c d).sum = a + c.sum + (b + d.sum)
    omega
theorem more_both : ∀ c d : List Nat, c.length = d.length → c.sum ^ c.sum * d.sum ^ d.sum * gl (zip2 c d) ≤ (c.sum + d.sum) ^ (c.sum + d.sum) * (gl c * gl d)
  | [], [], _ => by decide
  | a :: c, b :: d, h => by
    have ih := more_both c d (by simpa using h)
    have h1 := gibbs (a + b) (c.sum + d.sum) a c.sum
    have h2 := gibbs (a + b) (c.sum + d.sum) b d.sum
    show (a + c.sum) ^ (a + c.sum) * (b + d.sum) ^ (b + d.sum) * ((a + b) ^ (a + b) * gl (zip2 c d)) ≤ (a + c.sum + (b + d.sum)) ^ (a + c.sum + (b + d.sum)) * (a ^ a * gl c * (b ^ b * gl d))
    have h12 := Nat.mul_le_mul h1 h2
    have hp := self_pos (c.sum + d.sum)
    have ea : (a + b) ^ (a + b) = (a + b) ^ a * (a + b) ^ b := Nat.pow_add _ _ _
    have eb : (c.sum + d.sum) ^ (c.sum + d.sum) = (c.sum + d.sum) ^ c.sum * (c.sum + d.sum) ^ d.sum := Nat.pow_add _ _ _
    have ec : (a + c.sum + (b + d.sum)) ^ (a + c.sum + (b + d.sum)) = (a + b + (c.sum + d.sum)) ^ (a + c.sum) * (a + b + (c.sum + d.sum)) ^ (b + d.sum) := by
      rw [← Nat.pow_add]; congr 1 <;> omega
    rw [ec]
    refine Nat.le_of_mul_le_mul_right (c := (c.sum + d.sum) ^ (c.sum + d.sum)) ?_ hp
    have h3 := Nat.mul_le_mul_right (gl (zip2 c d)) h12
    have h4 := Nat.mul_le_mul_left ((a + b + (c.sum + d.sum)) ^ (a + c.sum) * (a + b + (c.sum + d.sum)) ^ (b + d.sum) * (a ^ a * b ^ b)) ih
    refine Nat.le_trans (Nat.le_of_eq ?_) (Nat.le_trans h3 (Nat.le_trans (Nat.le_of_eq ?_) (Nat.le_trans h4 (Nat.le_of_eq ?_))))
    · rw [ea, eb]; ac_rfl
    · ac_rfl
    · ac_rfl
end LW

set_option Elab.async false
set_option linter.all false
set_option maxRecDepth 100000
set_option exponentiation.threshold 100000
set_option maxHeartbeats 1000000
namespace LW
open PySem PySem.Spec PyProof.Rows L2 DL
/-! ### laws of floors -/
def Fb (P G f : Nat) : Prop := ∀ b, f ≤ b ↔ P ≤ G * 2 ^ b
theorem fl_fb (cs : List Nat) : Fb (cs.sum ^ cs.sum) (gl cs) (fl cs) := fun b => fl_le
theorem Fb.lt {P G f : Nat} (h : Fb P G f) (h0 : 0 < f) : G * 2 ^ (f - 1) < P := Nat.lt_of_not_le fun z => by
  have := (h (f - 1)).mpr z
  omega
theorem Fb.two {P1 G1 f P2 G2 s b : Nat} (h1 : Fb P1 G1 f) (h2 : Fb P2 G2 s) (g1 : G1 ≤ P1) (g2 : G2 ≤ P2) (q1 : 0 < G1) (q2 : 0 < G2) (h : P1 * P2 ≤ G1 * G2 * 2 ^ b) : f + s ≤ b + 1 := by
  by_cases hf : f = 0
  · have : G1 * P2 ≤ G1 * (G2 * 2 ^ b) := Nat.le_trans (Nat.mul_le_mul_right _ g1) (by rw [← Nat.mul_assoc]; exact h)
    have := (h2 b).mpr (Nat.le_of_mul_le_mul_left this q1)
    omega
  · by_cases hs : s = 0
    · have : P1 * G2 ≤ (G1 * 2 ^ b) * G2 := Nat.le_trans (Nat.mul_le_mul_left _ g2) (Nat.le_trans h (Nat.le_of_eq (by ac_rfl)))
      have := (h1 b).mpr (Nat.le_of_mul_le_mul_right this q2)
      omega
    · have l1 := h1.lt (by omega)
      have l2 := h2.lt (by omega)
      have l3 := Nat.lt_of_lt_of_le (Nat.mul_lt_mul'' l1 l2) h
      have e : G1 * 2 ^ (f - 1) * (G2 * 2 ^ (s - 1)) = G1 * G2 * 2 ^ (f - 1 + (s - 1)) := by rw [Nat.pow_add]; ac_rfl
      rw [e] at l3
      have l4 := Nat.lt_of_mul_lt_mul_left l3
      have := (Nat.pow_lt_pow_iff_right (by decide)).mp l4
      omega
theorem self_add (a b : Nat) : a ^ a * b ^ b ≤ (a + b) ^ (a + b) := by
  rw [Nat.pow_add]
  exact Nat.mul_le_mul (Nat.pow_le_pow_left (by omega) a) (Nat.pow_le_pow_left (by omega) b)
theorem gl_le : ∀ cs : List Nat, gl cs ≤ cs.sum ^ cs.sum
  | [] => by decide
  | c :: cs => by
    rw [List.sum_cons]
    exact Nat.le_trans (Nat.mul_le_mul_left _ (gl_le cs)) (self_add c cs.sum)
theorem gl_app : ∀ a b : List Nat, gl (a ++ b) = gl a * gl b
  | [], b => (Nat.one_mul _).symm
  | x :: a, b => by show x ^ x * gl (a ++ b) = x ^ x * gl a * gl b; rw [gl_app a b, Nat.mul_assoc]
theorem gl_perm {a b : List Nat} (h : a.Perm b) : gl a = gl b := by
  induction h with
  | nil => rfl
  | cons x _ ih => show x ^ x * _ = x ^ x * _; rw [ih]
  | swap x y l => show y ^ y * (x ^ x * gl l) = x ^ x * (y ^ y * gl l); ac_rfl
  | trans _ _ h1 h2 => exact h1.trans h2
theorem sum_perm {a b : List Nat} (h : a.Perm b) : a.sum = b.sum := by
  induction h with
  | nil => rfl
  | cons x _ ih => rw [List.sum_cons, List.sum_cons, ih]
  | swap x y l => simp only [List.sum_cons]; omega
  | trans _ _ h1 h2 => exact h1.trans h2
theorem fl_perm {a b : List Nat} (h : a.Perm b) : fl a = fl b := by unfold fl; rw [gl_perm h, sum_perm h]
theorem fl_zero (cs : List Nat) : fl (0 :: cs) = fl cs := by
  have e : gl (0 :: cs) = gl cs := Nat.one_mul _
  unfold fl
  rw [e, List.sum_cons, Nat.zero_add]
theorem fl_put (cs : List Nat) (k : Nat) : fl (cs.take k ++ 0 :: cs.drop k) = fl cs := by
  rw [← fl_zero cs]
  refine fl_perm ?_
  have : (cs.take k ++ 0 :: cs.drop k).Perm (0 :: (cs.take k ++ cs.drop k)) := List.perm_middle
  rw [List.take_append_drop] at this
  exact this
/-- none is needed where one letter stands alone -/
def npos (cs : List Nat) : Nat := (cs.filter fun c => decide (0 < c)).length
theorem npos_cons (c : Nat) (cs : List Nat) : npos (c :: cs) = (if 0 < c then 1 else 0) + npos cs := by
  unfold npos
  rw [List.filter_cons]
  by_cases h : 0 < c
  · rw [if_pos (by simpa using h), if_pos h, List.length_cons]; omega
  · rw [if_neg (by simpa using h), if_neg h]; omega
theorem npos0 : ∀ cs : List Nat, npos cs = 0 → cs.sum = 0 ∧ gl cs = 1
  | [], _ => ⟨rfl, rfl⟩
  | c :: cs, h => by
    rw [npos_cons] at h
    by_cases hc : 0 < c
    · rw [if_pos hc] at h; omega
    · obtain ⟨h1, h2⟩ := npos0 cs (by omega)
      have : c = 0 := by omega
      subst this
      exact ⟨by rw [List.sum_cons, h1], by show 1 * gl cs = 1; rw [h2]⟩
theorem npos1 : ∀ cs : List Nat, 1 ≤ npos cs → 0 < cs.sum
  | [], h => by simp [npos] at h
  | c :: cs, h => by
    rw [npos_cons] at h
    rw [List.sum_cons]
    by_cases hc : 0 < c
    · omega
    · rw [if_neg hc] at h
      have := npos1 cs (by omega)
      omega
theorem alone : ∀ cs : List Nat, (npos cs < 2 → gl cs = cs.sum ^ cs.sum) ∧ (2 ≤ npos cs → gl cs < cs.sum ^ cs.sum)
  | [] => ⟨fun _ => rfl, fun h => by simp [npos] at h⟩
  | c :: cs => by
    obtain ⟨h1, h2⟩ := alone cs
    rw [npos_cons, List.sum_cons]
    by_cases hc : 0 < c
    · rw [if_pos hc]
      refine ⟨fun h => ?_, fun h => ?_⟩
      · obtain ⟨e1, e2⟩ := npos0 cs (by omega)
        show c ^ c * gl cs = _
        rw [e1, e2]; simp
      · have hs := npos1 cs (by omega)
        have hg := gl_le cs
        show c ^ c * gl cs < _
        have l1 : c ^ c < (c + cs.sum) ^ c := Nat.pow_lt_pow_left (by omega) (by omega)
        have l2 : gl cs ≤ (c + cs.sum) ^ cs.sum := Nat.le_trans hg (Nat.pow_le_pow_left (by omega) _)
        rw [Nat.pow_add]
        exact Nat.lt_of_lt_of_le ((Nat.mul_lt_mul_right (gl_pos cs)).mpr l1) (Nat.mul_le_mul_left _ l2)
    · have : c = 0 := by omega
      subst this
      rw [if_neg (by decide), Nat.zero_add, Nat.zero_add]
      have e : gl (0 :: cs) = gl cs := Nat.one_mul _
      rw [e]
      exact ⟨h1, h2⟩
theorem fl_alone (cs : List Nat) : fl cs = 0 ↔ npos cs < 2 := by
  have e : fl cs = 0 ↔ cs.sum ^ cs.sum ≤ gl cs * 2 ^ 0 := ⟨fun h => fl_le.mp (by omega), fun h => by have := fl_le.mpr h; omega⟩
  rw [e, Nat.pow_zero, Nat.mul_one]
  obtain ⟨h1, h2⟩ := alone cs
  constructor
  · intro h
    by_cases hn : npos cs < 2
    · exact hn
    · have := h2 (by omega); omega
  · intro h; rw [h1 h]; exact Nat.le_refl _
/-! multiplied -/
theorem gl_mul (k : Nat) : ∀ cs : List Nat, gl (cs.map (k * ·)) = k ^ (k * cs.sum) * gl cs ^ k
  | [] => by show 1 = k ^ (k * 0) * 1 ^ k; rw [Nat.mul_zero, Nat.one_pow]; rfl
  | c :: cs => by
    show (k * c) ^ (k * c) * gl (cs.map (k * ·)) = k ^ (k * (c :: cs).sum) * (c ^ c * gl cs) ^ k
    have e : (k * c) ^ (k * c) = k ^ (k * c) * (c ^ c) ^ k := by rw [Nat.mul_pow, Nat.mul_comm k c, Nat.pow_mul c c k]
    rw [e, gl_mul k cs, List.sum_cons, Nat.mul_add, Nat.pow_add, Nat.mul_pow (c ^ c)]
    ac_rfl
theorem sum_mul (k : Nat) : ∀ cs : List Nat, (cs.map (k * ·)).sum = k * cs.sum
  | [] => rfl
  | c :: cs => by rw [List.map_cons, List.sum_cons, sum_mul k cs, List.sum_cons, Nat.mul_add]
theorem En_mul {k : Nat} (hk : 0 < k) (cs : List Nat) (b : Nat) : En (cs.map (k * ·)) b ↔ (cs.sum ^ cs.sum) ^ k ≤ gl cs ^ k * 2 ^ b := by
  unfold En
  rw [gl_mul, sum_mul]
  have e : (k * cs.sum) ^ (k * cs.sum) = k ^ (k * cs.sum) * (cs.sum ^ cs.sum) ^ k := by rw [Nat.mul_pow, Nat.mul_comm k cs.sum, Nat.pow_mul cs.sum cs.sum k]
  rw [e, Nat.mul_assoc]
  exact ⟨fun h => Nat.le_of_mul_le_mul_left h (Nat.pow_pos hk), fun h => Nat.mul_le_mul_left _ h⟩
theorem fl_mul_le {k : Nat} (hk : 0 < k) (cs : List Nat) : fl (cs.map (k * ·)) ≤ k * fl cs := by
  rw [fl_le, En_mul hk]
  have h : cs.sum ^ cs.sum ≤ gl cs * 2 ^ fl cs := fl_le.mp (Nat.le_refl _)
  have h2 := Nat.pow_le_pow_left h k
  rw [Nat.mul_pow (gl cs), ← Nat.pow_mul 2, Nat.mul_comm (fl cs) k] at h2
  exact h2
theorem fl_mul_ge {k : Nat} (hk : 0 < k) (cs : List Nat) (h0 : 0 < fl cs) : k * (fl cs - 1) < fl (cs.map (k * ·)) := by
  refine Nat.lt_of_not_le fun z => ?_
  rw [fl_le, En_mul hk] at z
  rw [Nat.mul_comm k, Nat.pow_mul, ← Nat.mul_pow] at z
  have := (Nat.pow_le_pow_iff_left (by omega)).mp z
  have h2 := fl_le.mpr (show En cs (fl cs - 1) from this)
  omega
/-! put together -/
theorem fl_both_ge {c d : List Nat} (h : c.length = d.length) : fl c + fl d ≤ fl (zip2 c d) + 1 := by
  refine Fb.two (fl_fb c) (fl_fb d) (gl_le c) (gl_le d) (gl_pos c) (gl_pos d) ?_
  have h1 := more_both c d h
  have h2 : (zip2 c d).sum ^ (zip2 c d).sum ≤ gl (zip2 c d) * 2 ^ fl (zip2 c d) := fl_le.mp (Nat.le_refl _)
  rw [zip2_sum c d h] at h2
  have hp := gl_pos (zip2 c d)
  refine Nat.le_of_mul_le_mul_right (c := gl (zip2 c d)) (Nat.le_trans h1 (Nat.le_trans (Nat.mul_le_mul_right _ h2) (Nat.le_of_eq ?_))) hp
  ac_rfl
theorem gl_zip : ∀ c d : List Nat, c.length = d.length → gl c * gl d ≤ gl (zip2 c d)
  | [], [], _ => Nat.le_refl _
  | a :: c, b :: d, h => by
    have ih := gl_zip c d (by simpa using h)
    show a ^ a * gl c * (b ^ b * gl d) ≤ (a + b) ^ (a + b) * gl (zip2 c d)
    refine Nat.le_trans (Nat.le_of_eq ?_) (Nat.mul_le_mul (self_add a b) ih)
    ac_rfl
theorem fl_both_le {c d : List Nat} (h : c.length = d.length) : fl (zip2 c d) ≤ fl (c ++ d) := by
  rw [fl_le]
  have h2 : (c ++ d).sum ^ (c ++ d).sum ≤ gl (c ++ d) * 2 ^ fl (c ++ d) := fl_le.mp (Nat.le_refl _)
  unfold En
  rw [zip2_sum c d h]
  rw [List.sum_append, gl_app] at h2
  exact Nat.le_trans h2 (Nat.mul_le_mul_right _ (gl_zip c d h))
theorem gl_two (a b : Nat) : gl [a, b] = a ^ a * b ^ b := by show a ^ a * (b ^ b * 1) = _; rw [Nat.mul_one]
theorem sum_two (a b : Nat) : [a, b].sum = a + b := by simp
theorem fl_beside_le (c d : List Nat) : fl (c ++ d) ≤ fl c + fl d + fl [c.sum, d.sum] := by
  rw [fl_le]
  have h1 : c.sum ^ c.sum ≤ gl c * 2 ^ fl c := fl_le.mp (Nat.le_refl _)
  have h2 : d.sum ^ d.sum ≤ gl d * 2 ^ fl d := fl_le.mp (Nat.le_refl _)
  have h3 : [c.sum, d.sum].sum ^ [c.sum, d.sum].sum ≤ gl [c.sum, d.sum] * 2 ^ fl [c.sum, d.sum] := fl_le.mp (Nat.le_refl _)
  rw [sum_two, gl_two] at h3
  unfold En
  rw [List.sum_append, gl_app]
  refine Nat.le_trans h3 (Nat.le_trans (Nat.mul_le_mul_right _ (Nat.mul_le_mul h1 h2)) (Nat.le_of_eq ?_))
  rw [Nat.pow_add, Nat.pow_add]; ac_rfl
theorem fl_beside_ge (c d : List Nat) : fl c + fl d + fl [c.sum, d.sum] ≤ fl (c ++ d) + 2 := by
  have hb : (c ++ d).sum ^ (c ++ d).sum ≤ gl (c ++ d) * 2 ^ fl (c ++ d) := fl_le.mp (Nat.le_refl _)
  rw [List.sum_append, gl_app] at hb
  have f3 := fl_fb [c.sum, d.sum]
  rw [sum_two, gl_two] at f3
  have g3 : c.sum ^ c.sum * d.sum ^ d.sum ≤ (c.sum + d.sum) ^ (c.sum + d.sum) := self_add _ _
  have two := fun b => Fb.two (b := b) (fl_fb c) (fl_fb d) (gl_le c) (gl_le d) (gl_pos c) (gl_pos d)
  generalize fl [c.sum, d.sum] = k at *
  generalize fl (c ++ d) = b at *
  by_cases h0 : k = 0
  · have := two b (Nat.le_trans g3 hb)
    omega
  · have l := f3.lt (by omega)
    have l2 := Nat.lt_of_lt_of_le l hb
    have hg : gl c * gl d ≤ c.sum ^ c.sum * d.sum ^ d.sum := Nat.mul_le_mul (gl_le c) (gl_le d)
    by_cases hk : k - 1 ≤ b
    · have e : gl c * gl d * 2 ^ b = gl c * gl d * 2 ^ (b - (k - 1)) * 2 ^ (k - 1) := by rw [Nat.mul_assoc (gl c * gl d) (2 ^ (b - (k - 1))), ← Nat.pow_add]; congr 2; omega
      rw [e] at l2
      have := two (b - (k - 1)) (Nat.le_of_lt (Nat.lt_of_mul_lt_mul_right l2))
      omega
    · have h1 : gl c * gl d * 2 ^ b ≤ c.sum ^ c.sum * d.sum ^ d.sum * 2 ^ (k - 1) := Nat.mul_le_mul hg (Nat.pow_le_pow_right (by decide) (by omega))
      omega
/-! two letters made one -/
theorem fl_one_le (a b : Nat) (cs : List Nat) : fl ((a + b) :: cs) ≤ fl (a :: b :: cs) := by
  rw [fl_le]
  have h : (a :: b :: cs).sum ^ (a :: b :: cs).sum ≤ gl (a :: b :: cs) * 2 ^ fl (a :: b :: cs) := fl_le.mp (Nat.le_refl _)
  have e : ((a + b) :: cs).sum = (a :: b :: cs).sum := by simp only [List.sum_cons]; omega
  unfold En
  rw [e]
  refine Nat.le_trans h (Nat.mul_le_mul_right _ ?_)
  show a ^ a * (b ^ b * gl cs) ≤ (a + b) ^ (a + b) * gl cs
  rw [← Nat.mul_assoc]
  exact Nat.mul_le_mul_right _ (self_add a b)
theorem fl_apart_le (a b : Nat) (cs : List Nat) : fl (a :: b :: cs) ≤ fl ((a + b) :: cs) + fl [a, b] := by
  rw [fl_le]
  have h1 : ((a + b) :: cs).sum ^ ((a + b) :: cs).sum ≤ gl ((a + b) :: cs) * 2 ^ fl ((a + b) :: cs) := fl_le.mp (Nat.le_refl _)
  have h2 : [a, b].sum ^ [a, b].sum ≤ gl [a, b] * 2 ^ fl [a, b] := fl_le.mp (Nat.le_refl _)
  rw [sum_two, gl_two] at h2
  have e : ((a + b) :: cs).sum = (a :: b :: cs).sum := by simp only [List.sum_cons]; omega
  unfold En
  rw [← e]
  refine Nat.le_trans h1 ?_
  show (a + b) ^ (a + b) * gl cs * 2 ^ fl ((a + b) :: cs) ≤ a ^ a * (b ^ b * gl cs) * 2 ^ (fl ((a + b) :: cs) + fl [a, b])
  refine Nat.le_trans (Nat.mul_le_mul_right _ (Nat.mul_le_mul_right _ h2)) (Nat.le_of_eq ?_)
  rw [Nat.pow_add]; ac_rfl
theorem fl_apart_ge (a b : Nat) (cs : List Nat) : fl ((a + b) :: cs) + fl [a, b] ≤ fl (a :: b :: cs) + 1 := by
  have h : (a :: b :: cs).sum ^ (a :: b :: cs).sum ≤ gl (a :: b :: cs) * 2 ^ fl (a :: b :: cs) := fl_le.mp (Nat.le_refl _)
  refine Fb.two (fl_fb _) (fl_fb _) (gl_le _) (gl_le _) (gl_pos _) (gl_pos _) ?_
  rw [sum_two, gl_two]
  have e : ((a + b) :: cs).sum = (a :: b :: cs).sum := by simp only [List.sum_cons]; omega
  rw [e]
  refine Nat.le_trans (Nat.mul_le_mul_right _ h) (Nat.le_of_eq ?_)
  show a ^ a * (b ^ b * gl cs) * _ * _ = (a + b) ^ (a + b) * gl cs * (a ^ a * b ^ b) * _
  ac_rfl
/-! one more -/
theorem near : ∀ n : Fin 400, (n.val + 1) ^ n.val ≤ 4 * n.val ^ n.val := by decide +kernel
theorem gl_more (a : List Nat) (x : Nat) : gl (a ++ [x]) ≤ gl (a ++ [x + 1]) := by
  rw [gl_app, gl_app]
  refine Nat.mul_le_mul_left _ ?_
  show x ^ x * 1 ≤ (x + 1) ^ (x + 1) * 1
  rw [Nat.mul_one, Nat.mul_one, Nat.pow_succ]
  exact Nat.le_trans (Nat.pow_le_pow_left (by omega) x) (Nat.le_mul_of_pos_right _ (by omega))
theorem fl_more (a : List Nat) (x l : Nat) (hN : (a ++ [x]).sum < 400) (hl : (a ++ [x]).sum + 1 < 2 ^ l) : fl (a ++ [x + 1]) ≤ fl (a ++ [x]) + l + 2 := by
  rw [fl_le]
  have h : (a ++ [x]).sum ^ (a ++ [x]).sum ≤ gl (a ++ [x]) * 2 ^ fl (a ++ [x]) := fl_le.mp (Nat.le_refl _)
  have e : (a ++ [x + 1]).sum = (a ++ [x]).sum + 1 := by simp only [List.sum_append, List.sum_singleton]; omega
  have hn := near ⟨(a ++ [x]).sum, hN⟩
  have hg := gl_more a x
  unfold En
  rw [e]
  dsimp only at hn
  generalize (a ++ [x]).sum = N at *
  generalize fl (a ++ [x]) = f at *
  have h1 : (N + 1) ^ (N + 1) ≤ 4 * N ^ N * 2 ^ l := by
    rw [Nat.pow_succ]
    exact Nat.mul_le_mul hn (Nat.le_of_lt hl)
  have h2 : 4 * N ^ N * 2 ^ l ≤ 4 * (gl (a ++ [x + 1]) * 2 ^ f) * 2 ^ l := Nat.mul_le_mul_right _ (Nat.mul_le_mul_left _ (Nat.le_trans h (Nat.mul_le_mul_right _ hg)))
  refine Nat.le_trans h1 (Nat.le_trans h2 (Nat.le_of_eq ?_))
  rw [Nat.pow_add, Nat.pow_add]
  show 4 * _ * _ = _ * (_ * _ * 4)
  ac_rfl
theorem fl_few (cs : List Nat) (l : Nat) (hl : cs.length ≤ 2 ^ l) : fl cs ≤ cs.sum * l := by
  rw [fl_le]
  have h := gibbs_list cs
  unfold En
  have h2 : cs.length ^ cs.sum ≤ (2 ^ l) ^ cs.sum := Nat.pow_le_pow_left hl _
  rw [← Nat.pow_mul, Nat.mul_comm l] at h2
  refine Nat.le_trans h (Nat.le_trans (Nat.mul_le_mul_right _ h2) (Nat.le_of_eq (Nat.mul_comm _ _)))
end LW

set_option Elab.async false
set_option linter.all false
set_option maxRecDepth 100000
set_option exponentiation.threshold 100000
set_option maxHeartbeats 1000000
namespace LW
open PySem PySem.Spec PyProof.Rows L2 DL
theorem v_for_brk {t : D → Sto → Option Sto} {u : Es} {x : D} {xs : List D} {s s1 s2 : Sto} (h1 : t x s = some s1) (h2 : u s1 = some (.bk s2)) : forL t u (x :: xs) s = some (.nx s2) := by
  unfold forL
  rw [h1]
  show (match u s1 with | some (.nx s2) => forL t u xs s2 | some (.ct s2) => forL t u xs s2 | some (.bk s2) => some (.nx s2) | some (.rt r s2) => some (.rt r s2) | none => none) = _
  rw [h2]
theorem add_str {a b : List Nat} (h : a.length + b.length ≤ 5000) : dAdd (.str a) (.str b) = some (.str (a ++ b)) := by
  show guard' _ _ = _
  unfold guard'
  rw [if_pos (by exact decide_eq_true (Nat.le_trans h (by decide)))]
theorem len_str {l : List Nat} (h : l.length ≤ 5000) : dLen [.str l] = some (.int (l.length : Nat)) := by
  show guard' _ _ = _
  unfold guard'
  rw [if_pos (by exact decide_eq_true (Nat.le_trans h (by decide)))]
theorem codes0 : intCodes 0 = [48] := by decide +kernel
theorem codes1 : intCodes 1 = [49] := by decide +kernel
theorem range_eq (n : Nat) : rangeL 0 1 n = (List.range n).map fun i => D.int (i : Nat) := by
  unfold rangeL
  apply List.map_congr_left
  intro i _
  congr 1
  omega
theorem range1 {n : Nat} (h : n ≤ 5000) : dRange1 [.int (n : Nat)] = some ((List.range n).map fun i => D.int (i : Nat)) := by
  show guard' (inB62 _) (rangeL 0 1 _) = _
  unfold guard' inB62
  rw [if_pos (by simp only [Bool.and_eq_true, decide_eq_true_eq]; omega), show ((n : Nat) : Int).toNat = n by omega, range_eq]
/-! ### digits -/
theorem dig_loop (S : List O) : ∀ (ds : List D) (n : Nat) (f : List Nat) (l : Sl), f.length + ds.length ≤ 900 →
    ∃ n' f' l', forL (tNm 2) (sSeq (sIf (eB (eBin dEq (eVar 0) (ret (.int 0)))) sBreak sNil) (sPar 1 0 (eCons (eBin dAdd (eCl dStr (eCons (eBin dMod (eCl dInt (eCons (eVar 0) eNil)) (ret (.int 2))) eNil)) (eVar 1)) (eCons (eBin dDiv (eVar 0) (ret (.int 2))) eNil)))) ds ([.val (.int (n : Nat)), .val (.str f), l], S)
      = some (.nx ([.val (.int (n' : Nat)), .val (.str f'), l'], S)) ∧ (n < 2 ^ ds.length → n < 2 ^ (f'.length - f.length)) ∧ f.length ≤ f'.length ∧ f'.length ≤ f.length + ds.length
  | [], n, f, l, _ => ⟨n, f, l, rfl, by simp, Nat.le_refl _, Nat.le_refl _⟩
  | d :: ds, n, f, l, h => by
    rw [List.length_cons] at h
    by_cases hn : n = 0
    · subst hn
      exact ⟨0, f, .val d, v_for_brk rfl (v_seqB (v_sIfT (v_B (v_bin (v_var rfl) v_ret (z := .bl true) rfl)) rfl)), fun _ => Nat.two_pow_pos _, Nat.le_refl _, by omega⟩
    · obtain ⟨c, hc, hm⟩ : ∃ c : Nat, dStr [.int ((n % 2 : Nat) : Int)] = some (.str [c]) ∧ True := by
        have : n % 2 = 0 ∨ n % 2 = 1 := by omega
        rcases this with e | e
        · rw [e]; exact ⟨48, by show guard' _ (D.str (intCodes 0)) = _; rw [codes0]; rfl, trivial⟩
        · rw [e]; exact ⟨49, by show guard' _ (D.str (intCodes 1)) = _; rw [codes1]; rfl, trivial⟩
      obtain ⟨n', f', l', e, h1, h2, h3⟩ := dig_loop S ds (n / 2) (c :: f) (.val d) (by rw [List.length_cons]; omega)
      rw [List.length_cons] at h1 h2 h3
      refine ⟨n', f', l', v_for_cons rfl (v_seq (v_sIfF (v_B (v_bin (v_var rfl) v_ret (z := .bl false) ?_)) v_sNil) (Eq.trans (v_par (v_cons (v_bin (v_cl (v_cons (v_bin (v_cl (v_cons (v_var rfl) v_nil) o_int) v_ret (o_modN (b := 2) (by decide))) v_nil) hc) (v_var rfl) (add_str (a := [c]) (b := f) (by show 1 + _ ≤ _; omega))) (v_cons (v_bin (v_var rfl) v_ret (o_divN (b := 2) (by decide) (by decide +kernel))) v_nil))) rfl)) e, fun hlt => ?_, by omega, by rw [List.length_cons]; omega⟩
      · rw [o_eqI]
        have : (((n : Nat) : Int) == 0) = false := by rw [beq_eq_false_iff_ne]; omega
        rw [this]
      · rw [List.length_cons, Nat.pow_succ] at hlt
        have h4 := h1 (by omega)
        have e2 : f'.length - f.length = f'.length - (f.length + 1) + 1 := by omega
        rw [e2, Nat.pow_succ]
        omega
theorem digits_ev {n : Nat} (h : n < 2 ^ 30) (S : List O) : ∃ l : List Nat, F__law_digits [.int (n : Nat)] S = some (.str l, S) ∧ n < 2 ^ l.length ∧ l.length ≤ 30 := by
  obtain ⟨n', f', l', e, h1, h2, h3⟩ := dig_loop S ((List.range 30).map fun i => D.int (i : Nat)) n [] .un (by simp)
  rw [List.length_map, List.length_range] at h1 h3
  refine ⟨f', ?_, by simpa using h1 h, by simpa using h3⟩
  unfold F__law_digits
  apply v_runE
  unfold B__law_digits
  exact v_seqE (v_set v_ret) (v_seqE (v_for (v_range (v_cons v_ret v_nil) (range1 (n := 30) (by decide))) e) ⟨_, v_rt (v_var rfl)⟩)
/-! ### counts drawn -/
theorem list_ex {α : Type} (e : α → D) (P : α → Prop) : ∀ ys : List D, (∀ y ∈ ys, ∃ a, y = e a ∧ P a) → ∃ as : List α, ys = as.map e ∧ (∀ a ∈ as, P a) ∧ as.length = ys.length
  | [], _ => ⟨[], rfl, by simp, rfl⟩
  | y :: ys, h => by
    obtain ⟨a, rfl, ha⟩ := h y (by simp)
    obtain ⟨as, rfl, has, hl⟩ := list_ex e P ys fun z hz => h z (by simp [hz])
    refine ⟨a :: as, rfl, fun b hb => ?_, by simp⟩
    rcases List.mem_cons.mp hb with rfl | hb
    · exact ha
    · exact has b hb
theorem Tp.mono {n m : Nat} {S : List O} (h : Tp n S) (hm : n ≤ m) : Tp m S := by
  obtain ⟨cells, a, l, se, sa, h1, h2, h3, h4⟩ := h
  exact ⟨cells, a, l, se, sa, h1, h2, by omega, h4⟩
theorem counts_ev {k n : Nat} {S : List O} (hk : k ≤ 500) (h : Tp n S) (hn : n < 2 ^ 90) : ∃ cs S', F__law_counts [.ptr 0, .int (k : Nat)] S = some (cD cs, S') ∧ cs.length = k ∧ (∀ c ∈ cs, c ≤ 29) ∧ Tp (n + 2 * k) S' := by
  obtain ⟨ys, S', e, hl, hv, hT⟩ := v_draw1 (ρ := [.val (.ptr 0), .val (.int (k : Nat)), .un]) (S := S) (vs := [2]) (i := 2) (f := eRange dRange1 (eCons (eVar 1) eNil)) (g := eIf (eB (eBin dGt (eCall F__law_take (eCons (eVar 0) (eCons (ret (.int 5)) eNil))) (ret (.int 0)))) (eCall F__law_take (eCons (eVar 0) (eCons (ret (.int 30)) eNil))) (ret (.int 0)))
    (fun m S => Tp (n + 2 * m) S) (fun y => ∃ a : Nat, y = iD a ∧ a ≤ 29) (n := 0) (v_range (v_cons (v_var rfl) v_nil) (range1 (by omega))) (by decide) rfl (by rw [List.length_map, List.length_range]; exact lim (by omega)) h (fun x hx m S hm hT => by
      rw [List.length_map, List.length_range] at hm
      obtain ⟨r, S1, e1, hr, T1⟩ := take_ev (m := 5) (by decide) (by decide) hT (by omega)
      by_cases h0 : 0 < r
      · obtain ⟨q, S2, e2, hq, T2⟩ := take_ev (m := 30) (by decide) (by decide) T1 (by omega)
        refine ⟨iD q, S2, v_ifT (v_B (v_bin (v_call (v_cons (v_var rfl) (v_cons v_ret v_nil)) e1) v_ret (z := .bl true) ?_)) (v_call (v_cons (v_var rfl) (v_cons v_ret v_nil)) e2), ⟨q, rfl, by omega⟩, T2.mono (by omega)⟩
        show some (D.bl (decide ((0 : Int) < (r : Nat)))) = _
        rw [decide_eq_true (by omega)]
      · refine ⟨iD 0, S1, v_ifF (v_B (v_bin (v_call (v_cons (v_var rfl) (v_cons v_ret v_nil)) e1) v_ret (z := .bl false) ?_)) v_ret, ⟨0, rfl, by omega⟩, T1.mono (by omega)⟩
        show some (D.bl (decide ((0 : Int) < (r : Nat)))) = _
        rw [decide_eq_false (by omega)])
  rw [List.length_map, List.length_range] at hl hT
  obtain ⟨cs, rfl, hc, hcl⟩ := list_ex iD (fun a => a ≤ 29) ys hv
  refine ⟨cs, S', ?_, by rw [hcl, hl], hc, by rw [Nat.zero_add] at hT; exact hT⟩
  unfold F__law_counts
  apply v_run
  unfold B__law_counts
  exact v_rt (v_cl (v_cons (v_fz e) v_nil) rfl)
theorem sum_bd : ∀ (cs : List Nat) (k : Nat), (∀ c ∈ cs, c ≤ k) → cs.sum ≤ k * cs.length
  | [], k, _ => by simp
  | c :: cs, k, h => by
    have := sum_bd cs k fun x hx => h x (by simp [hx])
    have := h c (by simp)
    rw [List.sum_cons, List.length_cons, Nat.mul_succ]
    omega
end LW

set_option Elab.async false
set_option linter.all false
set_option maxRecDepth 100000
set_option exponentiation.threshold 100000
set_option maxHeartbeats 4000000
namespace LW
open PySem PySem.Spec PyProof.Rows L2 DL
theorem v_seqP {s s1 : Sto} {u v : Es} {d : D} {P : List O → Prop} (h1 : u s = some (.nx s1)) (h2 : ∃ ρ S', v s1 = some (.rt d (ρ, S')) ∧ P S') : ∃ ρ S', sSeq u v s = some (.rt d (ρ, S')) ∧ P S' := by
  obtain ⟨ρ, S', h, hp⟩ := h2
  exact ⟨ρ, S', v_seq h1 h, hp⟩
theorem v_runP {N : Nat} {u : Es} {d : D} {S : List O} {ds : List D} {P : List O → Prop} (h1 : ∃ ρ S', u (ds.map .val ++ List.replicate (N - ds.length) .un, S) = some (.rt d (ρ, S')) ∧ P S') : ∃ S', runF N u ds S = some (d, S') ∧ P S' := by
  obtain ⟨ρ, S', h, hp⟩ := h1
  exact ⟨S', v_run h, hp⟩
theorem ne_nat (a : Nat) : dNe (.int (a : Nat)) (.int (a : Nat)) = some (.bl false) := by rw [o_neI]; simp
theorem rev_cs (cs : List Nat) : dRev (cD cs) = some (cD cs.reverse) := by
  show some (D.tup (cs.map iD).reverse) = some (D.tup (cs.reverse.map iD))
  rw [List.map_reverse]
theorem cut_take {α : Type} {xs : List α} {f : Nat} (h : f ≤ xs.length) : cutG xs none (some (f : Nat)) = xs.take f := by
  have hn : ¬ ((f : Nat) : Int) < 0 := by omega
  unfold cutG HT.sIx
  simp [h, hn]
  try omega
theorem cut_drop {α : Type} {xs : List α} {f : Nat} (h : f ≤ xs.length) : cutG xs (some (f : Nat)) none = xs.drop f := by
  have hn : ¬ ((f : Nat) : Int) < 0 := by omega
  unfold cutG HT.sIx
  simp [h, hn]
  exact List.take_of_length_le (by rw [List.length_drop]; omega)
theorem map_take {cs : List Nat} {f : Nat} : (cs.map iD).take f = (cs.take f).map iD := by rw [List.map_take]
theorem sl_cs {cs : List Nat} {f : Nat} (h : f ≤ cs.length) : dSl (cD cs) none (some (f : Nat)) = some (cD (cs.take f)) := by
  show some (D.tup (cutG (cs.map iD) none (some (f : Nat)))) = _
  rw [cut_take (by rw [List.length_map]; exact h), ← List.map_take]; rfl
theorem sl_cs2 {cs : List Nat} {f : Nat} (h : f ≤ cs.length) : dSl (cD cs) (some (f : Nat)) none = some (cD (cs.drop f)) := by
  show some (D.tup (cutG (cs.map iD) (some (f : Nat)) none)) = _
  rw [cut_drop (by rw [List.length_map]; exact h), ← List.map_drop]; rfl
theorem add_cs {a b : List Nat} (h : a.length + b.length ≤ 1000) : dAdd (cD a) (cD b) = some (cD (a ++ b)) := by
  show guard' _ (D.tup (a.map iD ++ b.map iD)) = _
  unfold guard'
  rw [if_pos (by rw [List.length_map, List.length_map]; exact decide_eq_true (lim h)), ← List.map_append]; rfl
theorem ix_cs {cs : List Nat} {i : Nat} (h : i < cs.length) : dIx (cD cs) (.int (i : Nat)) = some (iD (cs.getD i 0)) := by
  show atI (cs.map iD) (i : Int) = _
  unfold atI ixN
  simp [h, List.getD_eq_getElem?_getD]
theorem len_cD {cs : List Nat} : dLen [cD cs] = some (.int (cs.length : Nat)) := by show some (D.int ((cs.map iD).length : Nat)) = _; rw [List.length_map]
theorem zip2_range : ∀ c d : List Nat, c.length = d.length → zip2 c d = (List.range c.length).map fun i => c.getD i 0 + d.getD i 0
  | [], [], _ => rfl
  | a :: c, b :: d, h => by
    rw [List.length_cons, List.range_succ_eq_map, List.map_cons, List.map_map]
    show (a + b) :: zip2 c d = _
    rw [zip2_range c d (by simpa using h)]; rfl
theorem zip2_le {k j : Nat} : ∀ c d : List Nat, (∀ x ∈ c, x ≤ k) → (∀ x ∈ d, x ≤ j) → ∀ x ∈ zip2 c d, x ≤ k + j
  | [], _, _, _, x, h => by simp [zip2] at h
  | _ :: _, [], _, _, x, h => by simp [zip2] at h
  | a :: c, b :: d, h1, h2, x, h => by
    rcases List.mem_cons.mp h with rfl | h
    · exact Nat.add_le_add (h1 a (by simp)) (h2 b (by simp))
    · exact zip2_le c d (fun y hy => h1 y (by simp [hy])) (fun y hy => h2 y (by simp [hy])) x h
theorem zip2_len : ∀ c d : List Nat, c.length = d.length → (zip2 c d).length = c.length
  | [], [], _ => rfl
  | a :: c, b :: d, h => by show (zip2 c d).length + 1 = _; rw [zip2_len c d (by simpa using h)]; rfl
theorem Cs.of {cs : List Nat} {k n : Nat} (h1 : 1 ≤ cs.length) (h2 : cs.length ≤ n) (hn : n ≤ 26) (hk : ∀ c ∈ cs, c ≤ k) (hk2 : k ≤ 1000) (hs : k * n ≤ 3000) : Cs cs :=
  ⟨h1, by omega, fun c hc => Nat.le_trans (hk c hc) hk2, Nat.le_trans (sum_bd cs k hk) (Nat.le_trans (Nat.mul_le_mul_left k h2) hs)⟩
theorem gtT {a b : Nat} (h : b < a) : dGt (.int (a : Nat)) (.int (b : Nat)) = some (.bl true) := by
  show some (D.bl (decide (((b : Nat) : Int) < (a : Nat)))) = _
  rw [decide_eq_true (by omega)]
theorem gtF {a b : Nat} (h : ¬ b < a) : dGt (.int (a : Nat)) (.int (b : Nat)) = some (.bl false) := by
  show some (D.bl (decide (((b : Nat) : Int) < (a : Nat)))) = _
  rw [decide_eq_false (by omega)]
theorem ltF {a b : Int} (h : ¬ a < b) : dLt (.int a) (.int b) = some (.bl false) := by
  show some (D.bl (decide (a < b))) = _
  rw [decide_eq_false h]
theorem leT {a b : Int} (h : a ≤ b) : dLe (.int a) (.int b) = some (.bl true) := by
  show some (D.bl (decide (a ≤ b))) = _
  rw [decide_eq_true h]
theorem subN {a b : Nat} (h : b ≤ a) : dSub (.int (a : Nat)) (.int (b : Nat)) = some (.int ((a - b : Nat) : Int)) := by
  show some (D.int _) = _
  congr 2; omega
theorem subR (r : Nat) : dSub (.int ((1 + r : Nat) : Int)) (.int 1) = some (.int (r : Nat)) := by
  show some (D.int _) = _
  congr 2; omega
theorem eq0 (n : Nat) : dEq (.int (n : Nat)) (.int 0) = some (.bl (decide (n = 0))) := by
  rw [o_eqI]
  congr 2
  rw [Bool.eq_iff_iff, beq_iff_eq, decide_eq_true_eq]
  omega
theorem lt2 (n : Nat) : dLt (.int (n : Nat)) (.int 2) = some (.bl (decide (n < 2))) := by
  show some (D.bl (decide (((n : Nat) : Int) < 2))) = _
  congr 2
  exact decide_eq_decide.mpr (by omega)
theorem ne_bl (b : Bool) : dNe (.bl b) (.bl b) = some (.bl false) := by
  rw [o_ne rfl rfl]
  show some (D.bl (!(b == b))) = _
  simp
theorem npos_len (cs : List Nat) : dLen [.lst (((cs.map iD).filter fun d => match d with | .int z => decide (0 < z) | _ => false).map fun d => d)] = some (.int (npos cs : Nat)) := by
  have e : (((cs.map iD).filter fun d => match d with | .int z => decide (0 < z) | _ => false).map fun d => d).length = npos cs := by
    rw [List.length_map, List.filter_map, List.length_map]
    unfold npos
    congr 2
    funext c
    show decide ((0 : Int) < ((c : Nat) : Int)) = decide (0 < c)
    exact decide_eq_decide.mpr (by omega)
  show some (D.int ((((cs.map iD).filter fun d => match d with | .int z => decide (0 < z) | _ => false).map fun d => d).length : Nat)) = _
  rw [e]
theorem mul_iD {k c : Nat} (hk : k ≤ 3) (hc : c ≤ 29) : dMul (.int (k : Nat)) (iD c) = some (iD (k * c)) := by
  have h1 : k.log2 ≤ 17 := lg (by omega)
  have h2 : c.log2 ≤ 17 := lg (by omega)
  exact o_mulN (by omega)
theorem lgsm {x : Nat} (h : x ≤ 100000) : x.log2 ≤ 17 := lg (by omega)
theorem tup_cs (f : Nat → Nat) (cs : List Nat) : dTuple [.lst (cs.map fun c => iD (f c))] = some (cD (cs.map f)) := by
  show some (D.tup _) = some (D.tup ((cs.map f).map iD))
  rw [List.map_map]; rfl
theorem cons2 : ∀ cs : List Nat, 2 ≤ cs.length → cs = cs.getD 0 0 :: cs.getD 1 0 :: cs.drop 2
  | _ :: _ :: _, _ => rfl
theorem last1 : ∀ (cs : List Nat) (r : Nat), cs.length = r + 1 → cs = cs.take r ++ [cs.getD r 0]
  | [c], 0, _ => rfl
  | c :: d :: cs, r + 1, h => by
    show c :: d :: cs = c :: ((d :: cs).take r ++ [(d :: cs).getD r 0])
    rw [← last1 (d :: cs) r (by simpa using h)]
end LW

set_option Elab.async false
set_option linter.all false
set_option maxRecDepth 100000
set_option exponentiation.threshold 100000
set_option maxHeartbeats 4000000
namespace LW
open PySem PySem.Spec PyProof.Rows L2 DL
/-- the part with texts -/
def B_txt : Es :=
  (sSeq (sSet 17 (eSl (ret (.str [97, 98, 99, 100, 101])) (ret none) (ePart (eBin dAdd (ret (.int 1)) (eCall F__law_take (eCons (eVar 1) (eCons (ret (.int 5)) eNil))))))) (sSeq (sPar 18 19 (eCons (eCall F__law_text (eCons (eVar 1) (eCons (eVar 17) (eCons (ret (.int 25)) eNil)))) (eCons (eCall F__law_take (eCons (eVar 1) (eCons (ret (.int 4)) eNil))) eNil))) (sSeq (sAsgVO 20 21 (ret (.str [])) (eLetters (eVar 17))) (sSeq (sFor (eRange dRange1 (eCons (eCl dLen (eCons (eVar 17) eNil)) eNil)) (tNm 22) (sSet 20 (eBin dAdd (eVar 20) (eMtL 21 mPopAt (eCall F__law_take (eCons (eVar 1) (eCons (eCl1 dLen 21) eNil))))))) (sSeq (sSet 23 (eBin dJoin (ret (.str [])) (eFz (eLc [32] (eItems (eVar 18)) (tNm 32) pYes (eBin dIx (eVar 20) (eBin dIdx (eVar 17) (eVar 32))))))) (sSeq (sAsg (tTp (tCs (tNm 14) (tCs (tNm 24) tNl))) (eTup (eCons (eCall F_context_counts (eCons (eVar 17) (eCons (eVar 18) (eCons (eVar 19) eNil)))) (eCons (eCall F_context_counts (eCons (eVar 17) (eCons (eVar 23) (eCons (eVar 19) eNil)))) eNil)))) (sSeq (sIf (eOrT (eB (eBin dNe (eCl dLen (eCons (eVar 14) eNil)) (eCl dLen (eCons (eVar 24) eNil)))) (eB (eBin dNe (eCall F_context_floor (eCons (eVar 17) (eCons (eVar 23) (eCons (eVar 19) eNil)))) (eCall F_context_floor (eCons (eVar 17) (eCons (eVar 18) (eCons (eVar 19) eNil))))))) (sRet (ret (.bl false))) sNil) (sSeq (sFor (eItems (eVar 14)) (tNm 25) (sSeq (sSet 26 (eDGet (eVar 24) (eBin dJoin (ret (.str [])) (eFz (eLc [32] (eItems (eVar 25)) (tNm 32) pYes (eBin dIx (eVar 20) (eBin dIdx (eVar 17) (eVar 32)))))))) (sIf (eB (eCl dAny (eCons (eFz (eLc [22] (eRange dRange1 (eCons (eCl dLen (eCons (eVar 17) eNil)) eNil)) (tNm 22) pYes (eBin dNe (eBin dIx (eVar 26) (eBin dIdx (eVar 17) (eBin dIx (eVar 20) (eVar 22)))) (eBin dIx (eDGet (eVar 14) (eVar 25)) (eVar 22))))) eNil))) (sRet (ret (.bl false))) sNil))) (sSeq (sIf (eAndT (eB (eBin dEq (eVar 19) (ret (.int 0)))) (eAndT (eB (eBin dGt (eCl dLen (eCons (eVar 18) eNil)) (ret (.int 0)))) (eB (eBin dNe (eCall F_context_floor (eCons (eVar 17) (eCons (eVar 18) (eCons (ret (.int 0)) eNil)))) (eCall F_floor_bits (eCons (eCall F_counts_of (eCons (eVar 17) (eCons (eVar 18) eNil))) eNil)))))) (sRet (ret (.bl false))) sNil) (sSeq (sSet 27 (eCall F_context_counts (eCons (eVar 17) (eCons (eUn dRev (eVar 18)) (eCons (eVar 19) eNil))))) (sSeq (sIf (eB (eBin dNe (eCl dSum (eCons (eFz (eLc [25] (eItems (eVar 27)) (tNm 25) pYes (eCl dSum (eCons (eDGet (eVar 27) (eVar 25)) eNil)))) eNil)) (eCl dMax2 (eCons (ret (.int 0)) (eCons (eBin dSub (eCl dLen (eCons (eVar 18) eNil)) (eVar 19)) eNil))))) (sRet (ret (.bl false))) sNil) (sSeq (sSet 28 (eCall F_runs_of (eCons (eVar 18) eNil))) (sSeq (sIf (eOrT (eB (eBin dNe (eCall F_runs_of (eCons (eUn dRev (eVar 18)) eNil)) (eUn dRev (eVar 28)))) (eOrT (eB (eBin dNe (eCall F_text_of_runs (eCons (eVar 28) eNil)) (eVar 18))) (eB (eBin dNe (eCall F_runs_of (eCons (eVar 23) eNil)) (eCl dTuple (eCons (eFz (eLc [34, 35] (eItems (eVar 28)) (tTp (tCs (tNm 34) (tCs (tNm 35) tNl))) pYes (eTup (eCons (eBin dIx (eVar 20) (eBin dIdx (eVar 17) (eVar 34))) (eCons (eVar 35) eNil))))) eNil)))))) (sRet (ret (.bl false))) sNil) (sSeq (sSet 29 (eBin dJoin (ret (.str [])) (eFz (eLc [32] (eItems (eVar 18)) (tNm 32) pYes (eBin dAdd (eVar 32) (eVar 32)))))) (sSeq (sIf (eB (eBin dNe (eCall F_runs_of (eCons (eVar 29) eNil)) (eCl dTuple (eCons (eFz (eLc [34, 35] (eItems (eVar 28)) (tTp (tCs (tNm 34) (tCs (tNm 35) tNl))) pYes (eTup (eCons (eVar 34) (eCons (eBin dMul (ret (.int 2)) (eVar 35)) eNil))))) eNil)))) (sRet (ret (.bl false))) sNil) (sSeq (sSet 30 (eCall F_moved_front (eCons (eVar 17) (eCons (eVar 18) eNil)))) (sSeq (sIf (eOrT (eB (eBin dNe (eCall F_from_front (eCons (eVar 17) (eCons (eVar 30) eNil))) (eVar 18))) (eB (eBin dNe (eCl dLen (eCons (eFz (eLc [36] (eItems (eSl (eVar 30) (ePart (ret (.int 1))) (ret none))) (tNm 36) (eB (eBin dEq (eVar 36) (ret (.int 0)))) (eVar 36))) eNil)) (eCl dMax2 (eCons (ret (.int 0)) (eCons (eBin dSub (eCl dLen (eCons (eVar 18) eNil)) (eCl dLen (eCons (eVar 28) eNil))) eNil)))))) (sRet (ret (.bl false))) sNil) (sSeq (sSet 31 (eCall F_moved_front (eCons (eVar 17) (eCons (eVar 29) eNil)))) (sRet (eAnd (eBin dEq (eVar 31) (eCl dTuple (eCons (eCl dSum2 (eCons (eFz (eLc [36] (eItems (eVar 30)) (tNm 36) pYes (eFz (eLst (eCons (eVar 36) (eCons (ret (.int 0)) eNil)))))) (eCons (eFz (eLst eNil)) eNil))) eNil))) (eBin dEq (eCall F_letters_of (eCons (eVar 23) eNil)) (eBin dJoin (ret (.str [])) (eCl dSorted (eCons (eFz (eLc [32] (eItems (eCall F_letters_of (eCons (eVar 18) eNil))) (tNm 32) pYes (eBin dIx (eVar 20) (eBin dIdx (eVar 17) (eVar 32))))) eNil))))))))))))))))))))))))

def TxtOk : Prop := ∀ (m : Nat) (S : List O), Tp m S → m < 2 ^ 40 → ∀ x0 x2 x3 x4 x5 x6 x7 x8 x9 x10 x11 x12 x13 x14 x15 x16 : Sl, ∃ ρ S', B_txt ([x0, .val (.ptr 0), x2, x3, x4, x5, x6, x7, x8, x9, x10, x11, x12, x13, x14, x15, x16, .un, .un, .un, .un, .un, .un, .un, .un, .un, .un, .un, .un, .un, .un, .un, .un, .un, .un, .un, .un], S) = some (.rt (.bl true) (ρ, S')) ∧ True
def B_mid : Es :=
  (sSeq (sSet 16 (eBin dAdd (eSl (eVar 3) (ret none) (ePart (eBin dSub (eVar 2) (ret (.int 1))))) (eTup (eCons (eBin dAdd (eBin dIx (eVar 3) (eBin dSub (eVar 2) (ret (.int 1)))) (ret (.int 1))) eNil)))) (sSeq (sIf (eOrT (eB (eBin dGt (eCall F_floor_bits (eCons (eVar 16) eNil)) (eBin dAdd (eBin dAdd (eVar 5) (eCl dLen (eCons (eCall F__law_digits (eCons (eBin dAdd (eCl dSum (eCons (eVar 3) eNil)) (ret (.int 1))) eNil)) eNil))) (ret (.int 2))))) (eAndT (eB (eBin dGt (eCl dSum (eCons (eVar 3) eNil)) (ret (.int 0)))) (eB (eBin dGt (eVar 5) (eBin dMul (eCl dSum (eCons (eVar 3) eNil)) (eCl dLen (eCons (eCall F__law_digits (eCons (eBin dSub (eVar 2) (ret (.int 1))) eNil)) eNil))))))) (sRet (ret (.bl false))) sNil) (sSeq (sSet 17 (eSl (ret (.str [97, 98, 99, 100, 101])) (ret none) (ePart (eBin dAdd (ret (.int 1)) (eCall F__law_take (eCons (eVar 1) (eCons (ret (.int 5)) eNil))))))) (sSeq (sPar 18 19 (eCons (eCall F__law_text (eCons (eVar 1) (eCons (eVar 17) (eCons (ret (.int 25)) eNil)))) (eCons (eCall F__law_take (eCons (eVar 1) (eCons (ret (.int 4)) eNil))) eNil))) (sSeq (sAsgVO 20 21 (ret (.str [])) (eLetters (eVar 17))) (sSeq (sFor (eRange dRange1 (eCons (eCl dLen (eCons (eVar 17) eNil)) eNil)) (tNm 22) (sSet 20 (eBin dAdd (eVar 20) (eMtL 21 mPopAt (eCall F__law_take (eCons (eVar 1) (eCons (eCl1 dLen 21) eNil))))))) (sSeq (sSet 23 (eBin dJoin (ret (.str [])) (eFz (eLc [32] (eItems (eVar 18)) (tNm 32) pYes (eBin dIx (eVar 20) (eBin dIdx (eVar 17) (eVar 32))))))) (sSeq (sAsg (tTp (tCs (tNm 14) (tCs (tNm 24) tNl))) (eTup (eCons (eCall F_context_counts (eCons (eVar 17) (eCons (eVar 18) (eCons (eVar 19) eNil)))) (eCons (eCall F_context_counts (eCons (eVar 17) (eCons (eVar 23) (eCons (eVar 19) eNil)))) eNil)))) (sSeq (sIf (eOrT (eB (eBin dNe (eCl dLen (eCons (eVar 14) eNil)) (eCl dLen (eCons (eVar 24) eNil)))) (eB (eBin dNe (eCall F_context_floor (eCons (eVar 17) (eCons (eVar 23) (eCons (eVar 19) eNil)))) (eCall F_context_floor (eCons (eVar 17) (eCons (eVar 18) (eCons (eVar 19) eNil))))))) (sRet (ret (.bl false))) sNil) (sSeq (sFor (eItems (eVar 14)) (tNm 25) (sSeq (sSet 26 (eDGet (eVar 24) (eBin dJoin (ret (.str [])) (eFz (eLc [32] (eItems (eVar 25)) (tNm 32) pYes (eBin dIx (eVar 20) (eBin dIdx (eVar 17) (eVar 32)))))))) (sIf (eB (eCl dAny (eCons (eFz (eLc [22] (eRange dRange1 (eCons (eCl dLen (eCons (eVar 17) eNil)) eNil)) (tNm 22) pYes (eBin dNe (eBin dIx (eVar 26) (eBin dIdx (eVar 17) (eBin dIx (eVar 20) (eVar 22)))) (eBin dIx (eDGet (eVar 14) (eVar 25)) (eVar 22))))) eNil))) (sRet (ret (.bl false))) sNil))) (sSeq (sIf (eAndT (eB (eBin dEq (eVar 19) (ret (.int 0)))) (eAndT (eB (eBin dGt (eCl dLen (eCons (eVar 18) eNil)) (ret (.int 0)))) (eB (eBin dNe (eCall F_context_floor (eCons (eVar 17) (eCons (eVar 18) (eCons (ret (.int 0)) eNil)))) (eCall F_floor_bits (eCons (eCall F_counts_of (eCons (eVar 17) (eCons (eVar 18) eNil))) eNil)))))) (sRet (ret (.bl false))) sNil) (sSeq (sSet 27 (eCall F_context_counts (eCons (eVar 17) (eCons (eUn dRev (eVar 18)) (eCons (eVar 19) eNil))))) (sSeq (sIf (eB (eBin dNe (eCl dSum (eCons (eFz (eLc [25] (eItems (eVar 27)) (tNm 25) pYes (eCl dSum (eCons (eDGet (eVar 27) (eVar 25)) eNil)))) eNil)) (eCl dMax2 (eCons (ret (.int 0)) (eCons (eBin dSub (eCl dLen (eCons (eVar 18) eNil)) (eVar 19)) eNil))))) (sRet (ret (.bl false))) sNil) (sSeq (sSet 28 (eCall F_runs_of (eCons (eVar 18) eNil))) (sSeq (sIf (eOrT (eB (eBin dNe (eCall F_runs_of (eCons (eUn dRev (eVar 18)) eNil)) (eUn dRev (eVar 28)))) (eOrT (eB (eBin dNe (eCall F_text_of_runs (eCons (eVar 28) eNil)) (eVar 18))) (eB (eBin dNe (eCall F_runs_of (eCons (eVar 23) eNil)) (eCl dTuple (eCons (eFz (eLc [34, 35] (eItems (eVar 28)) (tTp (tCs (tNm 34) (tCs (tNm 35) tNl))) pYes (eTup (eCons (eBin dIx (eVar 20) (eBin dIdx (eVar 17) (eVar 34))) (eCons (eVar 35) eNil))))) eNil)))))) (sRet (ret (.bl false))) sNil) (sSeq (sSet 29 (eBin dJoin (ret (.str [])) (eFz (eLc [32] (eItems (eVar 18)) (tNm 32) pYes (eBin dAdd (eVar 32) (eVar 32)))))) (sSeq (sIf (eB (eBin dNe (eCall F_runs_of (eCons (eVar 29) eNil)) (eCl dTuple (eCons (eFz (eLc [34, 35] (eItems (eVar 28)) (tTp (tCs (tNm 34) (tCs (tNm 35) tNl))) pYes (eTup (eCons (eVar 34) (eCons (eBin dMul (ret (.int 2)) (eVar 35)) eNil))))) eNil)))) (sRet (ret (.bl false))) sNil) (sSeq (sSet 30 (eCall F_moved_front (eCons (eVar 17) (eCons (eVar 18) eNil)))) (sSeq (sIf (eOrT (eB (eBin dNe (eCall F_from_front (eCons (eVar 17) (eCons (eVar 30) eNil))) (eVar 18))) (eB (eBin dNe (eCl dLen (eCons (eFz (eLc [36] (eItems (eSl (eVar 30) (ePart (ret (.int 1))) (ret none))) (tNm 36) (eB (eBin dEq (eVar 36) (ret (.int 0)))) (eVar 36))) eNil)) (eCl dMax2 (eCons (ret (.int 0)) (eCons (eBin dSub (eCl dLen (eCons (eVar 18) eNil)) (eCl dLen (eCons (eVar 28) eNil))) eNil)))))) (sRet (ret (.bl false))) sNil) (sSeq (sSet 31 (eCall F_moved_front (eCons (eVar 17) (eCons (eVar 29) eNil)))) (sRet (eAnd (eBin dEq (eVar 31) (eCl dTuple (eCons (eCl dSum2 (eCons (eFz (eLc [36] (eItems (eVar 30)) (tNm 36) pYes (eFz (eLst (eCons (eVar 36) (eCons (ret (.int 0)) eNil)))))) (eCons (eFz (eLst eNil)) eNil))) eNil))) (eBin dEq (eCall F_letters_of (eCons (eVar 23) eNil)) (eBin dJoin (ret (.str [])) (eCl dSorted (eCons (eFz (eLc [32] (eItems (eCall F_letters_of (eCons (eVar 18) eNil))) (tNm 32) pYes (eBin dIx (eVar 20) (eBin dIdx (eVar 17) (eVar 32))))) eNil))))))))))))))))))))))))))
theorem mid_ev (hT : TxtOk) {cs : List Nat} {r m : Nat} {S : List O} (T : Tp m S) (hm : m < 2 ^ 40) (hcl : cs.length = 1 + r) (hr : r < 6) (hc : ∀ c ∈ cs, c ≤ 29) (x0 x4 x6 x7 x8 x9 x10 x11 x12 x13 x14 x15 x16 : Sl) :
    ∃ ρ S', B_mid ([x0, .val (.ptr 0), .val (.int ((1 + r : Nat) : Int)), .val (cD cs), x4, .val (.int (fl cs : Nat)), x6, x7, x8, x9, x10, x11, x12, x13, x14, x15, x16, .un, .un, .un, .un, .un, .un, .un, .un, .un, .un, .un, .un, .un, .un, .un, .un, .un, .un, .un, .un], S) = some (.rt (.bl true) (ρ, S')) ∧ True := by
  have hs1 : cs.sum ≤ 174 := Nat.le_trans (sum_bd cs 29 hc) (by omega)
  have C1 : Cs cs := Cs.of (n := 6) (k := 29) (by omega) (by omega) (by decide) hc (by decide) (by decide)
  have t1 := fl_top C1
  have hx := last1 cs r (by omega)
  have hg : cs.getD r 0 ≤ 29 := by
    rw [List.getD_eq_getElem?_getD, List.getElem?_eq_getElem (by omega)]
    exact hc _ (List.getElem_mem _)
  obtain ⟨dg, d1, d2, d3⟩ := digits_ev (n := cs.sum + 1) (by omega) S
  obtain ⟨dh, d4, d5, d6⟩ := digits_ev (n := r) (by omega) S
  have Cm : Cs (cs.take r ++ [cs.getD r 0 + 1]) := Cs.of (n := 6) (k := 30) (by rw [List.length_append, List.length_singleton]; omega) (by rw [List.length_append, List.length_singleton, List.length_take]; omega) (by decide) (fun c h => by
    rcases List.mem_append.mp h with h | h
    · have := hc c (List.mem_of_mem_take h); omega
    · rw [List.mem_singleton.mp h]; omega) (by decide) (by decide)
  have f1 := floor_ev Cm S
  have w1 := fl_more (cs.take r) (cs.getD r 0) dg.length (by rw [← hx]; omega) (by rw [← hx]; exact d2)
  rw [← hx] at w1
  have w2 := fl_few cs dh.length (by omega)
  have g1 := lgsm (x := cs.sum) (by omega)
  have g2 := lgsm (x := dh.length) (by omega)
  unfold B_mid
  refine v_seqP (v_set (v_bin (v_sl (v_var rfl) v_ret (v_part (v_bin (v_var rfl) v_ret (z := .int (r : Nat)) ?_)) (sl_cs (f := r) (by omega))) (v_tup (v_cons (v_bin (v_bin (v_var rfl) (v_bin (v_var rfl) v_ret (z := .int (r : Nat)) ?_) (ix_cs (i := r) (by omega))) v_ret (o_addN (b := 1))) v_nil) (by show 1 ≤ LIM; decide)) (add_cs (a := cs.take r) (b := [cs.getD r 0 + 1]) (by rw [List.length_take]; show _ + 1 ≤ _; omega)))) ?_
  · exact subR r
  · exact subR r
  refine v_seqP (v_sIfF (v_orS (v_B (v_bin (v_call (v_cons (v_var rfl) v_nil) f1) (v_bin (v_bin (v_var rfl) (v_cl (v_cons (v_call (v_cons (v_bin (v_cl (v_cons (v_var rfl) v_nil) (sum_ev cs)) v_ret (o_addN (b := 1))) v_nil) d1) v_nil) (len_str (by omega))) o_addN) v_ret (o_addN (b := 2))) (gtF (by omega)))) ?_) v_sNil) (hT m S T hm _ _ _ _ _ _ _ _ _ _ _ _ _ _ _ _)
  by_cases h0 : 0 < cs.sum
  · refine v_andT (v_B (v_bin (v_cl (v_cons (v_var rfl) v_nil) (sum_ev cs)) v_ret (gtT (b := 0) h0))) (v_B (v_bin (v_var rfl) (v_bin (v_cl (v_cons (v_var rfl) v_nil) (sum_ev cs)) (v_cl (v_cons (v_call (v_cons (v_bin (v_var rfl) v_ret (z := .int (r : Nat)) ?_) v_nil) d4) v_nil) (len_str (by omega))) (o_mulN (by omega))) (gtF (by omega))))
    exact subR r
  · exact v_andTF (v_B (v_bin (v_cl (v_cons (v_var rfl) v_nil) (sum_ev cs)) v_ret (gtF (b := 0) h0)))
def B_blk : Es :=
  (sSeq (sSet 13 (eBin dAdd (eTup (eCons (eBin dAdd (eBin dIx (eVar 3) (ret (.int 0))) (eBin dIx (eVar 3) (ret (.int 1)))) eNil)) (eSl (eVar 3) (ePart (ret (.int 2))) (ret none)))) (sSeq (sAsg (tTp (tCs (tNm 14) (tCs (tNm 15) tNl))) (eTup (eCons (eCall F_floor_bits (eCons (eVar 13) eNil)) (eCons (eCall F_floor_bits (eCons (eSl (eVar 3) (ret none) (ePart (ret (.int 2)))) eNil)) eNil)))) (sIf (eOrT (eB (eBin dGt (eVar 14) (eVar 5))) (eNotT (eB (eChain dLe dLe (eBin dSub (eBin dAdd (eVar 14) (eVar 15)) (ret (.int 1))) (eVar 5) (eBin dAdd (eVar 14) (eVar 15)))))) (sRet (ret (.bl false))) sNil)))
theorem blk_ev {cs : List Nat} {r : Nat} (S : List O) (hl2 : 2 ≤ cs.length) (hcl : cs.length ≤ 6) (hc : ∀ c ∈ cs, c ≤ 29) (x0 x4 x6 x7 x8 x9 x10 x11 x12 x13 x14 x15 x16 : Sl) :
    ∃ y13 y14 y15 : Sl, B_blk ([x0, .val (.ptr 0), .val (.int ((1 + r : Nat) : Int)), .val (cD cs), x4, .val (.int (fl cs : Nat)), x6, x7, x8, x9, x10, x11, x12, x13, x14, x15, x16, .un, .un, .un, .un, .un, .un, .un, .un, .un, .un, .un, .un, .un, .un, .un, .un, .un, .un, .un, .un], S) = some (.nx ([x0, .val (.ptr 0), .val (.int ((1 + r : Nat) : Int)), .val (cD cs), x4, .val (.int (fl cs : Nat)), x6, x7, x8, x9, x10, x11, x12, y13, y14, y15, x16, .un, .un, .un, .un, .un, .un, .un, .un, .un, .un, .un, .un, .un, .un, .un, .un, .un, .un, .un, .un], S)) := by
  have hcs := cons2 cs hl2
  have hA : cs.getD 0 0 ≤ 29 ∧ cs.getD 1 0 ≤ 29 := by
    constructor
    · rw [List.getD_eq_getElem?_getD, List.getElem?_eq_getElem (by omega)]; exact hc _ (List.getElem_mem _)
    · rw [List.getD_eq_getElem?_getD, List.getElem?_eq_getElem (by omega)]; exact hc _ (List.getElem_mem _)
  have Cl : Cs ([cs.getD 0 0 + cs.getD 1 0] ++ cs.drop 2) := Cs.of (n := 6) (k := 58) (by rw [List.length_append]; show 1 ≤ 1 + _; omega) (by rw [List.length_append, List.length_drop]; show 1 + _ ≤ _; omega) (by decide) (fun c h => by
    rcases List.mem_append.mp h with h | h
    · rw [List.mem_singleton.mp h]; omega
    · have := hc c (List.mem_of_mem_drop h); omega) (by decide) (by decide)
  have Ct : Cs (cs.take 2) := Cs.of (n := 6) (k := 29) (by rw [List.length_take]; omega) (by rw [List.length_take]; omega) (by decide) (fun c h => hc c (List.mem_of_mem_take h)) (by decide) (by decide)
  have k1 := floor_ev Cl S
  have k2 := floor_ev Ct S
  have ht2 : cs.take 2 = [cs.getD 0 0, cs.getD 1 0] := by
    conv => lhs; rw [hcs]
    rfl
  have u1 := fl_one_le (cs.getD 0 0) (cs.getD 1 0) (cs.drop 2)
  have u2 := fl_apart_le (cs.getD 0 0) (cs.getD 1 0) (cs.drop 2)
  have u3 := fl_apart_ge (cs.getD 0 0) (cs.getD 1 0) (cs.drop 2)
  rw [← hcs] at u1 u2 u3
  rw [← ht2] at u2 u3
  change fl ([cs.getD 0 0 + cs.getD 1 0] ++ cs.drop 2) ≤ fl cs at u1
  change fl cs ≤ fl ([cs.getD 0 0 + cs.getD 1 0] ++ cs.drop 2) + _ at u2
  change fl ([cs.getD 0 0 + cs.getD 1 0] ++ cs.drop 2) + _ ≤ _ at u3
  have a1 : dSl (cD cs) none (some 2) = some (cD (cs.take 2)) := sl_cs (f := 2) hl2
  have a2 : dSl (cD cs) (some 2) none = some (cD (cs.drop 2)) := sl_cs2 (f := 2) hl2
  have a3 : dIx (cD cs) (.int 0) = some (iD (cs.getD 0 0)) := ix_cs (i := 0) (by omega)
  have a4 : dIx (cD cs) (.int 1) = some (iD (cs.getD 1 0)) := ix_cs (i := 1) (by omega)
  have a5 : dAdd (iD (cs.getD 0 0)) (iD (cs.getD 1 0)) = some (iD (cs.getD 0 0 + cs.getD 1 0)) := o_addN
  have a6 : dAdd (.tup [iD (cs.getD 0 0 + cs.getD 1 0)]) (cD (cs.drop 2)) = some (cD ([cs.getD 0 0 + cs.getD 1 0] ++ cs.drop 2)) := add_cs (a := [cs.getD 0 0 + cs.getD 1 0]) (b := cs.drop 2) (by rw [List.length_drop]; show 1 + _ ≤ _; omega)
  generalize fl (cs.take 2) = F2 at *
  generalize fl ([cs.getD 0 0 + cs.getD 1 0] ++ cs.drop 2) = F1 at *
  generalize fl cs = F0 at *
  generalize cD ([cs.getD 0 0 + cs.getD 1 0] ++ cs.drop 2) = Q1 at *
  generalize cD (cs.take 2) = Q2 at *
  generalize cD (cs.drop 2) = Q3 at *
  generalize cD cs = Q0 at *
  refine ⟨.val Q1, .val (.int (F1 : Nat)), .val (.int (F2 : Nat)), ?_⟩
  unfold B_blk
  refine v_seq (v_set (v_bin (v_tup (v_cons (v_bin (v_bin (v_var rfl) v_ret a3) (v_bin (v_var rfl) v_ret a4) a5) v_nil) (by show 1 ≤ LIM; decide)) (v_sl (v_var rfl) (v_part v_ret) v_ret a2) a6)) ?_
  show sSeq _ _ ([x0, .val (.ptr 0), .val (.int ((1 + r : Nat) : Int)), .val Q0, x4, .val (.int (F0 : Nat)), x6, x7, x8, x9, x10, x11, x12, .val Q1, x14, x15, x16, .un, .un, .un, .un, .un, .un, .un, .un, .un, .un, .un, .un, .un, .un, .un, .un, .un, .un, .un, .un], S) = _
  refine v_seq (v_asg2 (v_tup (v_cons (v_call (v_cons (v_var rfl) v_nil) k1) (v_cons (v_call (v_cons (v_sl (v_var rfl) v_ret (v_part v_ret) a1) v_nil) k2) v_nil)) l2)) ?_
  show sIf _ _ _ ([x0, .val (.ptr 0), .val (.int ((1 + r : Nat) : Int)), .val Q0, x4, .val (.int (F0 : Nat)), x6, x7, x8, x9, x10, x11, x12, .val Q1, .val (.int (F1 : Nat)), .val (.int (F2 : Nat)), x16, .un, .un, .un, .un, .un, .un, .un, .un, .un, .un, .un, .un, .un, .un, .un, .un, .un, .un, .un, .un], S) = _
  exact v_sIfF (v_orT (v_B (v_bin (v_var rfl) (v_var rfl) (gtF (by omega)))) (v_nF (v_B (v_chain (v_bin (v_bin (v_var rfl) (v_var rfl) o_addN) v_ret rfl) (v_var rfl) (leT (by push_cast; omega)) (v_bin (v_var rfl) (v_var rfl) o_addN) (leT (by push_cast; omega)))))) v_sNil
theorem law_counts (hT : TxtOk) (ns : List Int) (hns : ns.length ≤ 63) : ∃ S', F_law [.scr ns] [] = some (.bl true, S') ∧ True := by
  obtain ⟨S0, e0, T0⟩ := tape_ev ns hns
  obtain ⟨r, S1, e1, hr, T1⟩ := take_ev (m := 6) (by decide) (by decide) T0 (by decide)
  obtain ⟨cs, S2, e2, hcl, hc, T2⟩ := counts_ev (k := 1 + r) (by omega) T1 (by omega)
  obtain ⟨ds, S3, e3, hdl, hd, T3⟩ := counts_ev (k := 1 + r) (by omega) T2 (by omega)
  obtain ⟨sp, S4, e4, hsp, T4⟩ := take_ev (m := 1 + r + 1) (by omega) (Nat.lt_of_le_of_lt (show _ ≤ 7 by omega) (by decide)) T3 (by omega)
  have C1 : Cs cs := Cs.of (n := 6) (k := 29) (by omega) (by omega) (by decide) hc (by decide) (by decide)
  have C2 : Cs ds := Cs.of (n := 6) (k := 29) (by omega) (by omega) (by decide) hd (by decide) (by decide)
  have hs1 : cs.sum ≤ 174 := Nat.le_trans (sum_bd cs 29 hc) (by omega)
  have hs2 : ds.sum ≤ 174 := Nat.le_trans (sum_bd ds 29 hd) (by omega)
  have t1 := fl_top C1
  have t2 := fl_top C2
  have f1 := fun S => floor_ev C1 S
  have f2 := fun S => floor_ev C2 S
  have Cr : Cs cs.reverse := Cs.of (n := 6) (k := 29) (by rw [List.length_reverse]; omega) (by rw [List.length_reverse]; omega) (by decide) (fun c h => hc c (by simpa using h)) (by decide) (by decide)
  have f3 := fun S => floor_ev Cr S
  rw [fl_perm (List.reverse_perm cs)] at f3
  have hpl : (cs.take sp ++ 0 :: cs.drop sp).length = cs.length + 1 := by
    rw [List.length_append, List.length_cons, List.length_take, List.length_drop]; omega
  have Cp : Cs (cs.take sp ++ [0] ++ cs.drop sp) := Cs.of (n := 7) (k := 29) (by rw [List.append_assoc]; show 1 ≤ (cs.take sp ++ 0 :: cs.drop sp).length; omega) (by rw [List.append_assoc]; show (cs.take sp ++ 0 :: cs.drop sp).length ≤ 7; omega) (by decide) (fun c h => by
    rw [List.append_assoc] at h
    rcases List.mem_append.mp h with h | h
    · exact hc c (List.mem_of_mem_take h)
    · rcases List.mem_cons.mp h with rfl | h
      · omega
      · exact hc c (List.mem_of_mem_drop h)) (by decide) (by decide)
  have f4 := fun S => floor_ev Cp S
  rw [show fl (cs.take sp ++ [0] ++ cs.drop sp) = fl cs by rw [List.append_assoc]; exact fl_put cs sp] at f4
  have n1 := fun S => enough_ev C1 (b := fl cs) (by omega) S
  rw [decide_eq_true (fl_le.mp (Nat.le_refl (fl cs)))] at n1
  have n2 := fun S => enough_ev C1 (b := fl cs + 7) (by omega) S
  rw [decide_eq_true (fl_le.mp (Nat.le_add_right (fl cs) 7))] at n2
  have n3 := fun S => enough_neg C1 (b := -1) (by decide) S
  have q1 : dIsNot (.bl true) (.bl true) = some (.bl false) := rfl
  -- doubled
  have Cm : ∀ k, 1 ≤ k → k ≤ 3 → Cs (cs.map (k * ·)) := fun k h1 h3 => Cs.of (n := 6) (k := 87) (by rw [List.length_map]; omega) (by rw [List.length_map]; omega) (by decide) (fun c h => by
    obtain ⟨x, hx, rfl⟩ := List.mem_map.mp h
    have := hc x hx
    exact Nat.le_trans (Nat.mul_le_mul h3 this) (by decide)) (by decide) (by decide)
  have f5 := fun S => floor_ev (Cm 2 (by decide) (by decide)) S
  have f6 := fun S => floor_ev (Cm 3 (by decide) (by decide)) S
  have w5 := fl_mul_le (k := 2) (by decide) cs
  have w6 := fl_mul_le (k := 3) (by decide) cs
  have v5 : 2 * fl cs ≤ fl (cs.map (2 * ·)) + 1 := by
    by_cases h : 0 < fl cs
    · have := fl_mul_ge (k := 2) (by decide) cs h; omega
    · omega
  have v6 : 3 * fl cs ≤ fl (cs.map (3 * ·)) + 2 := by
    by_cases h : 0 < fl cs
    · have := fl_mul_ge (k := 3) (by decide) cs h; omega
    · omega
  -- both
  have hcd : cs.length = ds.length := by omega
  have Cz : Cs (zip2 cs ds) := Cs.of (n := 6) (k := 58) (by rw [zip2_len _ _ hcd]; omega) (by rw [zip2_len _ _ hcd]; omega) (by decide) (zip2_le cs ds hc hd) (by decide) (by decide)
  have f7 := fun S => floor_ev Cz S
  have w7 := fl_both_ge hcd
  have v7 := fl_both_le hcd
  have Ca : Cs (cs ++ ds) := Cs.of (n := 12) (k := 29) (by rw [List.length_append]; omega) (by rw [List.length_append]; omega) (by decide) (fun c h => (List.mem_append.mp h).elim (hc c) (hd c)) (by decide) (by decide)
  have f8 := fun S => floor_ev Ca S
  have Ck : Cs [cs.sum, ds.sum] := Cs.of (n := 2) (k := 174) (by show 1 ≤ 2; decide) (by show 2 ≤ 2; decide) (by decide) (fun c h => by
    rcases List.mem_cons.mp h with rfl | h
    · exact hs1
    · rw [List.mem_singleton.mp h]; exact hs2) (by decide) (by decide)
  have f9 := fun S => floor_ev Ck S
  have w9 := fl_beside_le cs ds
  have v9 := fl_beside_ge cs ds
  have ga : dAdd (cD cs) (cD ds) = some (cD (cs ++ ds)) := add_cs (by omega)
  have mid := mid_ev hT T4 (by omega) hcl hr hc
  have g5 := lgsm (x := fl cs) (by omega)
  unfold F_law
  apply v_runP
  unfold B_law
  refine v_seqP (v_set (v_call (v_cons (v_var rfl) v_nil) e0)) ?_
  refine v_seqP (v_set (v_bin v_ret (v_call (v_cons (v_var rfl) (v_cons v_ret v_nil)) e1) (o_addN (a := 1)))) ?_
  refine v_seqP (v_asg2 (v_tup (v_cons (v_call (v_cons (v_var rfl) (v_cons (v_var rfl) v_nil)) e2) (v_cons (v_call (v_cons (v_var rfl) (v_cons (v_var rfl) v_nil)) e3) v_nil)) l2)) ?_
  refine v_seqP (v_par (v_cons (v_call (v_cons (v_var rfl) v_nil) (f1 _)) (v_cons (v_call (v_cons (v_var rfl) v_nil) (f2 _)) v_nil))) ?_
  refine v_seqP (v_set (v_call (v_cons (v_var rfl) (v_cons (v_bin (v_var rfl) v_ret (o_addN (b := 1))) v_nil)) e4)) ?_
  refine v_seqP (v_sIfF (v_orT (v_B (v_bin (v_call (v_cons (v_un (v_var rfl) (rev_cs cs)) v_nil) (f3 _)) (v_var rfl) (ne_nat _))) (v_orT (v_B (v_bin (v_call (v_cons (v_bin (v_bin (v_sl (v_var rfl) v_ret (v_part (v_var rfl)) (sl_cs (f := sp) (by omega))) (v_tup (v_cons v_ret v_nil) (by show 1 ≤ LIM; decide)) (add_cs (a := cs.take sp) (b := [0]) (by rw [List.length_take]; show _ + 1 ≤ _; omega))) (v_sl (v_var rfl) (v_part (v_var rfl)) v_ret (sl_cs2 (f := sp) (by omega))) (add_cs (a := cs.take sp ++ [0]) (b := cs.drop sp) (by rw [List.length_append, List.length_take, List.length_drop]; show _ + 1 + _ ≤ _; omega))) v_nil) (f4 _)) (v_var rfl) (ne_nat _)))
    (v_orT (v_B (v_bin (v_call (v_cons (v_var rfl) (v_cons (v_var rfl) v_nil)) (n1 _)) v_ret q1)) (v_B (v_bin (v_call (v_cons (v_var rfl) (v_cons (v_bin (v_var rfl) v_ret (o_addN (b := 7))) v_nil)) (n2 _)) v_ret q1))))) v_sNil) ?_
  refine v_seqP (v_sIfF (v_orS ?_ (v_orS ?_ (v_B (v_call (v_cons (v_var rfl) (v_cons (v_bin v_ret v_ret (z := .int (-1)) rfl) v_nil)) (n3 _))))) v_sNil) ?_
  · by_cases h : 0 < fl cs
    · have n4 := enough_ev C1 (b := fl cs - 1) (by omega) S4
      rw [decide_eq_false (fun z => by have := fl_le.mpr z; omega)] at n4
      exact v_andT (v_B (v_bin (v_var rfl) v_ret (gtT (b := 0) h))) (v_B (v_call (v_cons (v_var rfl) (v_cons (v_bin (v_var rfl) v_ret (subN (b := 1) h)) v_nil)) n4))
    · exact v_andTF (v_B (v_bin (v_var rfl) v_ret (gtF (b := 0) h)))
  · refine v_B (v_bin (v_bin (v_var rfl) v_ret (z := .bl (decide (npos cs < 2))) ((eq0 _).trans (by rw [decide_eq_decide.mpr (fl_alone cs)]))) (v_bin (v_cl (v_cons (v_fz (v_filt1 (xs := cs.map iD) (fun d => d) (fun d => match d with | .int z => decide (0 < z) | _ => false) (v_items (v_var rfl) rfl) (by decide) rfl (by rw [List.length_map]; exact lim (by omega)) (fun x hx => ?_) (fun x hx _ => v_var rfl))) v_nil) (npos_len cs)) v_ret (lt2 _)) (ne_bl _))
    obtain ⟨c, hc, rfl⟩ := List.mem_map.mp hx
    exact v_B (v_bin (v_var rfl) v_ret rfl)
  refine v_seqP (v_set (v_call (v_cons (v_cl (v_cons (v_fz (v_mapT cs iD (fun c => iD (2 * c)) (v_items (v_var rfl) rfl) (lim (by omega)) fun c hc' => v_bin v_ret (v_var rfl) (mul_iD (k := 2) (by decide) (hc c hc')))) v_nil) (tup_cs (2 * ·) cs)) v_nil) (f5 _))) ?_
  refine v_seqP (v_set (v_call (v_cons (v_cl (v_cons (v_fz (v_mapT cs iD (fun c => iD (3 * c)) (v_items (v_var rfl) rfl) (lim (by omega)) fun c hc' => v_bin v_ret (v_var rfl) (mul_iD (k := 3) (by decide) (hc c hc')))) v_nil) (tup_cs (3 * ·) cs)) v_nil) (f6 _))) ?_
  have l2' : (2 : Nat).log2 ≤ 2 := by decide +kernel
  have l3' : (3 : Nat).log2 ≤ 2 := by decide +kernel
  refine v_seqP (v_sIfF (v_orT (v_andTF (v_nF (v_B (v_chain (v_bin (v_bin v_ret (v_var rfl) (o_mulN (a := 2) (by omega))) v_ret rfl) (v_var rfl) (leT (by push_cast; omega)) (v_bin v_ret (v_var rfl) (o_mulN (a := 2) (by omega))) (leT (by omega)))))) (v_andTF (v_nF (v_B (v_chain (v_bin (v_bin v_ret (v_var rfl) (o_mulN (a := 3) (by omega))) v_ret rfl) (v_var rfl) (leT (by push_cast; omega)) (v_bin v_ret (v_var rfl) (o_mulN (a := 3) (by omega))) (leT (by omega))))))) v_sNil) ?_
  refine v_seqP (v_set (v_call (v_cons (v_cl (v_cons (v_fz (v_mapT (List.range (1 + r)) (fun i => .int (i : Nat)) (fun i => iD (cs.getD i 0 + ds.getD i 0)) (v_range (v_cons (v_var rfl) v_nil) (range1 (by omega))) (lim (by rw [List.length_range]; omega)) fun i hi => v_bin (v_bin (v_var rfl) (v_var rfl) (ix_cs (by rw [hcl]; exact List.mem_range.mp hi))) (v_bin (v_var rfl) (v_var rfl) (ix_cs (by rw [hdl]; exact List.mem_range.mp hi))) o_addN)) v_nil) (z := cD (zip2 cs ds)) ?_) v_nil) (f7 _))) ?_
  · rw [zip2_range cs ds hcd, hcl]
    show some (D.tup _) = some (D.tup (((List.range (1 + r)).map fun i => cs.getD i 0 + ds.getD i 0).map iD))
    rw [List.map_map]; rfl
  refine v_seqP (v_sIfF (v_orT (v_B (v_bin (v_var rfl) (v_bin (v_bin (v_var rfl) (v_var rfl) o_addN) v_ret rfl) (ltF (by push_cast; omega)))) (v_B (v_bin (v_var rfl) (v_call (v_cons (v_bin (v_var rfl) (v_var rfl) ga) v_nil) (f8 _)) (gtF (by omega))))) v_sNil) ?_
  refine v_seqP (v_set (v_call (v_cons (v_bin (v_var rfl) (v_var rfl) ga) v_nil) (f8 _))) ?_
  refine v_seqP (v_set (v_call (v_cons (v_tup (v_cons (v_cl (v_cons (v_var rfl) v_nil) (sum_ev cs)) (v_cons (v_cl (v_cons (v_var rfl) v_nil) (sum_ev ds)) v_nil)) l2) v_nil) (f9 _))) ?_
  refine v_seqP (v_sIfF (v_nF (v_B (v_chain (v_bin (v_bin (v_bin (v_var rfl) (v_var rfl) o_addN) (v_var rfl) o_addN) v_ret rfl) (v_var rfl) (leT (by push_cast; omega)) (v_bin (v_bin (v_var rfl) (v_var rfl) o_addN) (v_var rfl) o_addN) (leT (by push_cast; omega))))) v_sNil) ?_
  by_cases h1 : 1 < 1 + r
  · obtain ⟨y13, y14, y15, eb⟩ := blk_ev (r := r) S4 (show 2 ≤ cs.length by omega) (by omega) hc (.val (.scr ns)) (.val (cD ds)) (.val (.int (fl ds : Nat))) (.val (.int (sp : Nat))) (.val (.int (fl (cs.map (2 * ·)) : Nat))) (.val (.int (fl (cs.map (3 * ·)) : Nat))) (.val (.int (fl (zip2 cs ds) : Nat))) (.val (.int (fl (cs ++ ds) : Nat))) (.val (.int (fl [cs.sum, ds.sum] : Nat))) .un .un .un .un
    exact v_seqP (v_sIfT (v_B (v_bin (v_var rfl) v_ret (gtT (b := 1) h1))) eb) (mid _ _ _ _ _ _ _ _ _ _ _ _ _)
  · exact v_seqP (v_sIfF (v_B (v_bin (v_var rfl) v_ret (gtF (b := 1) h1))) v_sNil) (mid _ _ _ _ _ _ _ _ _ _ _ _ _)
end LW

set_option Elab.async false
set_option linter.all false
set_option maxRecDepth 100000
set_option exponentiation.threshold 100000
set_option maxHeartbeats 1000000
namespace LW
open PySem PySem.Spec PyProof.Rows L2 DL
/-! ### letters -/
abbrev LOW : List Nat := [97, 98, 99, 100, 101, 102, 103, 104, 105, 106, 107, 108, 109, 110, 111, 112, 113, 114, 115, 116, 117, 118, 119, 120, 121, 122]
/-- the first letters -/
def Al (n : Nat) : List Nat := [97, 98, 99, 100, 101].take n
theorem Al_len {n : Nat} (h : n ≤ 5) : (Al n).length = n := by unfold Al; rw [List.length_take]; exact Nat.min_eq_left h
theorem Al_nd (n : Nat) : (Al n).Nodup := List.Sublist.nodup (List.take_sublist _ _) (by decide)
theorem Al_low {n c : Nat} (h : c ∈ Al n) : c ∈ LOW := by
  have := List.mem_of_mem_take h
  revert this
  simp
  rintro (rfl | rfl | rfl | rfl | rfl) <;> decide
def Over (L T : List Nat) : Prop := ∀ c ∈ T, c ∈ L
theorem in_ev {c : Nat} {l : List Nat} : inD false (.str [c]) (.str l) = some (.bl (decide (c ∈ l))) := by
  show some (D.bl (false ^^ decide (c ∈ l))) = _
  rw [Bool.false_xor]
theorem check_text_ev {l : List Nat} (h : ∀ c ∈ l, c ∈ LOW) (hl : l.length ≤ 900) (S : List O) : F_check_text [.str l] S = some (.non, S) := by
  unfold F_check_text
  apply v_runN
  unfold B_check_text
  refine v_sIfF (v_orT (v_B (v_bin (v_cl (v_cons (v_var rfl) v_nil) (len_str (by omega))) v_ret (gtF (b := 2000) (by omega)))) (v_nF (v_B (v_cl (v_cons (v_fz (v_mapT l (fun c => .str [c]) (fun c => .bl (decide (c ∈ LOW))) (v_items (v_var rfl) rfl) (lim (by omega)) fun c hc => v_bin (v_var rfl) v_ret in_ev)) v_nil) ?_)))) v_sNil
  rw [all_bl]
  congr 2
  rw [List.all_eq_true]
  exact fun c hc => decide_eq_true (h c hc)
theorem alphabet1 (S : List O) : F_check_alphabet [.str (Al 1)] S = some (.non, S) := by kernel_rfl
theorem alphabet2 (S : List O) : F_check_alphabet [.str (Al 2)] S = some (.non, S) := by kernel_rfl
theorem alphabet3 (S : List O) : F_check_alphabet [.str (Al 3)] S = some (.non, S) := by kernel_rfl
theorem alphabet4 (S : List O) : F_check_alphabet [.str (Al 4)] S = some (.non, S) := by kernel_rfl
theorem alphabet5 (S : List O) : F_check_alphabet [.str (Al 5)] S = some (.non, S) := by kernel_rfl
theorem alphabet_ev {n : Nat} (h1 : 1 ≤ n) (h5 : n ≤ 5) (S : List O) : F_check_alphabet [.str (Al n)] S = some (.non, S) := by
  have : n = 1 ∨ n = 2 ∨ n = 3 ∨ n = 4 ∨ n = 5 := by omega
  rcases this with rfl | rfl | rfl | rfl | rfl
  · exact alphabet1 S
  · exact alphabet2 S
  · exact alphabet3 S
  · exact alphabet4 S
  · exact alphabet5 S
theorem check_over_ev {n : Nat} {T : List Nat} (h1 : 1 ≤ n) (h5 : n ≤ 5) (hT : Over (Al n) T) (hl : T.length ≤ 900) (S : List O) : F_check_over [.str (Al n), .str T] S = some (.non, S) := by
  unfold F_check_over
  apply v_runN
  unfold B_check_over
  refine v_seq (v_expr (v_call (v_cons (v_var rfl) v_nil) (alphabet_ev h1 h5 S))) (v_seq (v_expr (v_call (v_cons (v_var rfl) v_nil) (check_text_ev (fun c hc => Al_low (hT c hc)) hl S))) (v_sIfF (v_nF (v_B (v_cl (v_cons (v_fz (v_mapT T (fun c => .str [c]) (fun c => .bl (decide (c ∈ Al n))) (v_items (v_var rfl) rfl) (lim (by omega)) fun c hc => v_bin (v_var rfl) (v_var rfl) in_ev)) v_nil) ?_))) v_sNil))
  rw [all_bl]
  congr 2
  rw [List.all_eq_true]
  exact fun c hc => decide_eq_true (hT c hc)
/-! joined -/
theorem asSs_map : ∀ ss : List (List Nat), asSs (ss.map D.str) = some ss
  | [] => rfl
  | s :: ss => by show (asSs (ss.map D.str)).map (s :: ·) = _; rw [asSs_map ss]; rfl
theorem joinL_flat : ∀ ss : List (List Nat), TL.joinL [] ss = ss.flatten
  | [] => rfl
  | [s] => by simp [TL.joinL]
  | s :: t :: ss => by
    have := joinL_flat (t :: ss)
    show s ++ ([] ++ TL.joinL [] (t :: ss)) = _
    rw [this]; simp
theorem join_flat {ss : List (List Nat)} (h : (ss.map List.length).sum ≤ 5000) : dJoin (.str []) (.lst (ss.map D.str)) = some (.str ss.flatten) := by
  show (asSs (ss.map D.str)).bind (fun ss => if (ss.map List.length).sum + ss.length * ([] : List Nat).length ≤ LIM then some (D.str (TL.joinL [] ss)) else none) = _
  rw [asSs_map]
  show (if _ then some (D.str (TL.joinL [] ss)) else none) = _
  rw [joinL_flat, if_pos]
  rw [List.length_nil, Nat.mul_zero, Nat.add_zero]
  exact Nat.le_trans h (by decide)
theorem flat_one : ∀ l : List Nat, (l.map fun c => [c]).flatten = l
  | [] => rfl
  | c :: l => by rw [List.map_cons, List.flatten_cons, flat_one l]; rfl
theorem len_one : ∀ l : List Nat, ((l.map fun c => [c]).map List.length).sum = l.length
  | [] => rfl
  | c :: l => by
    rw [List.map_cons, List.map_cons, List.sum_cons, len_one l]
    show 1 + l.length = l.length + 1
    omega
theorem join_one {l : List Nat} (h : l.length ≤ 5000) : dJoin (.str []) (.lst (l.map fun c => D.str [c])) = some (.str l) := by
  have := join_flat (ss := l.map fun c => [c]) (by rw [len_one]; exact h)
  rw [flat_one, List.map_map] at this
  exact this
/-! letters of a text -/
theorem dd_len : ∀ l : List Nat, (dd l).length ≤ l.length
  | [] => Nat.le_refl _
  | c :: l => by
    have := dd_len l
    unfold dd
    split
    · rw [List.length_cons]; omega
    · rw [List.length_cons, List.length_cons]; omega
def srt (T : List Nat) : List Nat := (sortS ((dd T).map fun c => [c])).flatten
theorem sum_len_perm {a b : List (List Nat)} (h : a.Perm b) : (a.map List.length).sum = (b.map List.length).sum := sum_perm' (h.map _)
  where sum_perm' {a b : List Nat} (h : a.Perm b) : a.sum = b.sum := sum_perm h
theorem letters_ev {T : List Nat} (h : ∀ c ∈ T, c ∈ LOW) (hl : T.length ≤ 60) (S : List O) : F_letters_of [.str T] S = some (.str (srt T), S) := by
  have hd := dd_len T
  unfold F_letters_of
  apply v_run
  unfold B_letters_of
  refine v_seq (v_expr (v_call (v_cons (v_var rfl) v_nil) (check_text_ev h (by omega) S))) (v_rt (v_bin v_ret (v_un (v_var rfl) (z := .lst ((sortS ((dd T).map fun c => [c])).map .str)) ?_) (join_flat ?_)))
  · show guard' _ _ = _
    unfold guard'
    rw [if_pos]
    rw [Bool.and_eq_true, decide_eq_true_eq, decide_eq_true_eq]; omega
  · rw [sum_len_perm (sortS_perm _), len_one]; omega
theorem counts_of_ev {n : Nat} {T : List Nat} (h1 : 1 ≤ n) (h5 : n ≤ 5) (hT : Over (Al n) T) (hl : T.length ≤ 900) (S : List O) : F_counts_of [.str (Al n), .str T] S = some (cD ((Al n).map fun c => T.count c), S) := by
  unfold F_counts_of
  apply v_run
  unfold B_counts_of
  refine v_seq (v_expr (v_call (v_cons (v_var rfl) (v_cons (v_var rfl) v_nil)) (check_over_ev h1 h5 hT hl S))) (v_rt (v_cl (v_cons (v_fz (v_mapT (Al n) (fun c => .str [c]) (fun c => iD (T.count c)) (v_items (v_var rfl) rfl) (lim (by rw [Al_len h5]; omega)) fun c hc => v_bin (v_var rfl) (v_var rfl) rfl)) v_nil) ?_))
  show some (D.tup _) = some (D.tup (((Al n).map fun c => T.count c).map iD))
  rw [List.map_map]; rfl
/-! a text drawn -/
theorem ix_str {l : List Nat} {i : Nat} (h : i < l.length) (hl : l.length ≤ 5000) : dIx (.str l) (.int (i : Nat)) = some (.str [l.getD i 0]) := by
  have hL : l.length ≤ LIM := Nat.le_trans hl (by decide)
  show (if l.length ≤ LIM then ixStr l (i : Int) else none) = _
  rw [if_pos hL]
  unfold ixStr atI ixN
  simp [h, List.getD_eq_getElem?_getD]
theorem getD_mem {l : List Nat} {i : Nat} (h : i < l.length) : l.getD i 0 ∈ l := by
  rw [List.getD_eq_getElem?_getD, List.getElem?_eq_getElem h]
  exact List.getElem_mem _
theorem text_ev {L : List Nat} {n : Nat} {S : List O} (h0 : 1 ≤ L.length) (h5 : L.length ≤ 5) (h : Tp n S) (hn : n < 2 ^ 80) : ∃ T S', F__law_text [.ptr 0, .str L, .int 25] S = some (.str T, S') ∧ Over L T ∧ T.length ≤ 25 ∧ Tp (n + 26) S' := by
  obtain ⟨r, S1, e1, hr, T1⟩ := take_ev (m := 26) (by decide) (by decide) h (by omega)
  obtain ⟨ys, S', e, hl, hv, hT⟩ := v_draw1 (s := ([.val (.ptr 0), .val (.str L), .val (.int 25), .un], S)) (ρ := [.val (.ptr 0), .val (.str L), .val (.int 25), .un]) (S := S1) (vs := [3]) (i := 3) (f := eRange dRange1 (eCons (eCall F__law_take (eCons (eVar 0) (eCons (eBin dAdd (eVar 2) (ret (.int 1))) eNil))) eNil)) (g := eBin dIx (eVar 1) (eCall F__law_take (eCons (eVar 0) (eCons (eCl dLen (eCons (eVar 1) eNil)) eNil))))
    (fun m S => Tp (n + 1 + m) S) (fun y => ∃ c : Nat, y = D.str [c] ∧ c ∈ L) (n := 0) (v_range (v_cons (v_call (v_cons (v_var rfl) (v_cons (v_bin (v_var rfl) v_ret (z := .int ((26 : Nat) : Int)) rfl) v_nil)) e1) v_nil) (range1 (n := r) (by omega))) (by decide) rfl (by rw [List.length_map, List.length_range]; exact lim (by omega)) T1 (fun x hx m S hm hT => by
      rw [List.length_map, List.length_range] at hm
      obtain ⟨q, S2, e2, hq, T2⟩ := take_ev (m := L.length) (by omega) (Nat.lt_of_le_of_lt h5 (by decide)) hT (by omega)
      exact ⟨.str [L.getD q 0], S2, v_bin (v_var rfl) (v_call (v_cons (v_var rfl) (v_cons (v_cl (v_cons (v_var rfl) v_nil) (len_str (by omega))) v_nil)) e2) (ix_str hq (by omega)), ⟨_, rfl, getD_mem hq⟩, T2⟩)
  rw [List.length_map, List.length_range] at hl hT
  obtain ⟨T, rfl, hc, hcl⟩ := list_ex (fun c : Nat => D.str [c]) (fun c => c ∈ L) ys hv
  refine ⟨T, S', ?_, hc, by omega, hT.mono (by omega)⟩
  unfold F__law_text
  apply v_run
  unfold B__law_text
  exact v_rt (v_bin v_ret (v_fz e) (join_one (by omega)))
end LW

set_option Elab.async false
set_option linter.all false
set_option maxRecDepth 100000
set_option exponentiation.threshold 100000
set_option maxHeartbeats 1000000
namespace LW
open PySem PySem.Spec PyProof.Rows L2 DL
theorem v_setL {s s1 s2 : Sto} {g h : Ev D} {i j : Nat} {k : Int} {z : D} {ds0 ds : List D} (h1 : h s = some (z, s1)) (h0 : ownOf s1 i = some ds0) (h2 : g s1 = some (.int k, s2)) (h3 : ownOf s2 i = some ds) (h4 : ixN ds.length k = some j) : sSetL i g h s = some (.nx (setOwn s2 i (ds.set j z))) := by
  unfold sSetL
  rw [h1]
  show (match ownOf s1 i with | none => none | some _ => _) = _
  rw [h0]
  show (match g s1 with | none => none | some (y, s2) => _) = _
  rw [h2]
  show (match ownOf s2 i, D.int k with | some ds, .int k => _ | _, _ => none) = _
  rw [h3]
  show (match ixN ds.length k with | some j => _ | none => none) = _
  rw [h4]
/-! ### runs -/
abbrev Rn := List (Nat × Nat)
def rD (p : Nat × Nat) : D := .tup [.str [p.1], .int (p.2 : Nat)]
def rc (c : Nat) : Rn → Rn
  | (d, k) :: r => if d = c then (d, k + 1) :: r else (c, 1) :: (d, k) :: r
  | [] => [(c, 1)]
theorem rc_cons (c d k : Nat) (r : Rn) : rc c ((d, k) :: r) = if d = c then (d, k + 1) :: r else (c, 1) :: (d, k) :: r := rfl
theorem rc_nil (c : Nat) : rc c [] = [(c, 1)] := rfl
def rn : List Nat → Rn
  | [] => []
  | c :: l => rc c (rn l)
def rst (acc : Rn) (c : Nat) : Rn := (rc c acc.reverse).reverse
theorem rst_snoc (a : Rn) (d k c : Nat) : rst (a ++ [(d, k)]) c = if d = c then a ++ [(d, k + 1)] else a ++ [(d, k)] ++ [(c, 1)] := by
  unfold rst
  rw [List.reverse_append]
  show (rc c ((d, k) :: a.reverse)).reverse = _
  simp only [rc_cons, rc_nil]
  split <;> simp
theorem rc_rst (b c : Nat) (acc : Rn) : rc b (rst acc c) = rst (rc b acc) c := by
  rcases List.eq_nil_or_concat acc with rfl | ⟨a, ⟨d, k⟩, rfl⟩
  · show rc b [(c, 1)] = rst ([] ++ [(b, 1)]) c
    rw [rst_snoc]
    simp only [rc_cons, rc_nil]
    by_cases h : c = b
    · subst h; simp
    · rw [if_neg h, if_neg (Ne.symm h)]; rfl
  · cases a with
    | nil =>
      rw [List.concat_eq_append, rst_snoc]
      by_cases h1 : d = c
      · rw [if_pos h1]
        by_cases h2 : d = b
        · show rc b [(d, k + 1)] = rst (rc b [(d, k)]) c
          simp only [rc_cons, rc_nil]
          rw [if_pos h2, if_pos h2]
          have := rst_snoc [] d (k + 1) c
          rw [if_pos h1] at this
          exact this.symm
        · show rc b [(d, k + 1)] = rst (rc b [(d, k)]) c
          simp only [rc_cons, rc_nil]
          rw [if_neg h2, if_neg h2]
          have := rst_snoc [(b, 1)] d k c
          rw [if_pos h1] at this
          exact this.symm
      · rw [if_neg h1]
        by_cases h2 : d = b
        · show rc b [(d, k), (c, 1)] = rst (rc b [(d, k)]) c
          simp only [rc_cons, rc_nil]
          rw [if_pos h2, if_pos h2]
          have := rst_snoc [] d (k + 1) c
          rw [if_neg h1] at this
          exact this.symm
        · show rc b [(d, k), (c, 1)] = rst (rc b [(d, k)]) c
          simp only [rc_cons, rc_nil]
          rw [if_neg h2, if_neg h2]
          have := rst_snoc [(b, 1)] d k c
          rw [if_neg h1] at this
          exact this.symm
    | cons x a =>
      obtain ⟨e, j⟩ := x
      rw [List.concat_eq_append]
      have e1 := rst_snoc ((e, j) :: a) d k c
      by_cases h2 : e = b
      · have e2 : rc b ((e, j) :: a ++ [(d, k)]) = (e, j + 1) :: a ++ [(d, k)] := by
          show (if e = b then _ else _) = _
          rw [if_pos h2]; rfl
        rw [e1, e2, rst_snoc]
        by_cases h1 : d = c
        · rw [if_pos h1, if_pos h1]
          show (if e = b then _ else _) = _
          rw [if_pos h2]; rfl
        · rw [if_neg h1, if_neg h1]
          show (if e = b then _ else _) = _
          rw [if_pos h2]; rfl
      · have e2 : rc b ((e, j) :: a ++ [(d, k)]) = (b, 1) :: (e, j) :: a ++ [(d, k)] := by
          show (if e = b then _ else _) = _
          rw [if_neg h2]; rfl
        rw [e1, e2, rst_snoc]
        by_cases h1 : d = c
        · rw [if_pos h1, if_pos h1]
          show (if e = b then _ else _) = _
          rw [if_neg h2]; rfl
        · rw [if_neg h1, if_neg h1]
          show (if e = b then _ else _) = _
          rw [if_neg h2]; rfl
theorem rn_snoc (c : Nat) : ∀ l : List Nat, rn (l ++ [c]) = rst (rn l) c
  | [] => rfl
  | b :: l => by
    show rc b (rn (l ++ [c])) = rst (rc b (rn l)) c
    rw [rn_snoc c l, rc_rst]
theorem rn_rev : ∀ l : List Nat, rn l.reverse = (rn l).reverse
  | [] => rfl
  | c :: l => by
    rw [List.reverse_cons, rn_snoc, rn_rev l]
    show (rc c (rn l).reverse.reverse).reverse = (rc c (rn l)).reverse
    rw [List.reverse_reverse]
theorem rn_mem : ∀ (l : List Nat) (p : Nat × Nat), p ∈ rn l → p.1 ∈ l ∧ 1 ≤ p.2
  | [], p, h => by simp [rn] at h
  | c :: l, p, h => by
    have ih := rn_mem l
    have h : p ∈ rc c (rn l) := h
    generalize rn l = R at ih h
    cases R with
    | nil =>
      have : p = (c, 1) := by simpa [rc] using h
      subst this; exact ⟨by simp, by simp⟩
    | cons x r =>
      obtain ⟨d, k⟩ := x
      rw [rc_cons] at h
      split at h
      · rename_i e
        rcases List.mem_cons.mp h with rfl | h
        · exact ⟨by simp [e], by simp⟩
        · obtain ⟨h1, h2⟩ := ih p (by simp [h]); exact ⟨by simp [h1], h2⟩
      · rcases List.mem_cons.mp h with rfl | h
        · exact ⟨by simp, by simp⟩
        · obtain ⟨h1, h2⟩ := ih p h; exact ⟨by simp [h1], h2⟩
theorem rn_text : ∀ l : List Nat, ((rn l).map fun p => List.replicate p.2 p.1).flatten = l
  | [] => rfl
  | c :: l => by
    have ih := rn_text l
    show ((rc c (rn l)).map fun p => List.replicate p.2 p.1).flatten = _
    generalize rn l = R at ih
    cases R with
    | nil => rw [← ih]; rfl
    | cons x r =>
      obtain ⟨d, k⟩ := x
      simp only [rc_cons, rc_nil]
      split
      · rename_i e
        subst e
        rw [← ih, List.map_cons, List.map_cons, List.flatten_cons, List.flatten_cons]; rfl
      · rw [← ih, List.map_cons, List.flatten_cons]; rfl
/-- neighbours differ -/
def Df : Rn → Prop
  | p :: q :: r => p.1 ≠ q.1 ∧ Df (q :: r)
  | _ => True
theorem rn_df : ∀ l : List Nat, Df (rn l)
  | [] => trivial
  | c :: l => by
    have ih := rn_df l
    show Df (rc c (rn l))
    generalize rn l = R at ih
    cases R with
    | nil => trivial
    | cons x r =>
      obtain ⟨d, k⟩ := x
      simp only [rc_cons, rc_nil]
      split
      · cases r with
        | nil => trivial
        | cons y r => exact ih
      · rename_i e; exact ⟨fun z => e z.symm, ih⟩
theorem rn_len : ∀ l : List Nat, (rn l).length ≤ l.length
  | [] => Nat.le_refl _
  | c :: l => by
    have ih := rn_len l
    show (rc c (rn l)).length ≤ l.length + 1
    generalize rn l = R at ih
    cases R with
    | nil => show 1 ≤ _; omega
    | cons x r =>
      obtain ⟨d, k⟩ := x
      simp only [rc_cons, rc_nil]
      split
      · rw [List.length_cons] at ih ⊢; omega
      · rw [List.length_cons, List.length_cons] at *; omega
theorem rn_map (f : Nat → Nat) : ∀ l : List Nat, (∀ a ∈ l, ∀ b ∈ l, f a = f b → a = b) → rn (l.map f) = (rn l).map fun p => (f p.1, p.2)
  | [], _ => rfl
  | c :: l, h => by
    have ih := rn_map f l fun a ha b hb => h a (by simp [ha]) b (by simp [hb])
    have hm := rn_mem l
    show rc (f c) (rn (l.map f)) = (rc c (rn l)).map fun p => (f p.1, p.2)
    rw [ih]
    generalize rn l = R at hm
    cases R with
    | nil => rfl
    | cons x r =>
      obtain ⟨d, k⟩ := x
      have hd : d ∈ l := (hm (d, k) (by simp)).1
      simp only [rc_cons, rc_nil]
      by_cases e : d = c
      · rw [if_pos e]
        show (if f d = f c then _ else _) = _
        rw [if_pos (by rw [e])]; rfl
      · rw [if_neg e]
        show (if f d = f c then _ else _) = _
        rw [if_neg fun z => e (h d (by simp [hd]) c (by simp) z)]; rfl
def thick : List Nat → List Nat
  | [] => []
  | c :: l => c :: c :: thick l
theorem rn_thick : ∀ l : List Nat, rn (thick l) = (rn l).map fun p => (p.1, 2 * p.2)
  | [] => rfl
  | c :: l => by
    show rc c (rc c (rn (thick l))) = (rc c (rn l)).map fun p => (p.1, 2 * p.2)
    rw [rn_thick l]
    generalize rn l = R
    cases R with
    | nil => show rc c [(c, 1)] = _; rw [rc_cons, if_pos rfl]; rfl
    | cons x r =>
      obtain ⟨d, k⟩ := x
      simp only [rc_cons, rc_nil]
      by_cases e : d = c
      · rw [if_pos e]
        show rc c (if d = c then _ else _) = _
        rw [if_pos e]
        show (if d = c then _ else _) = _
        rw [if_pos e]
        show (d, 2 * k + 1 + 1) :: _ = (d, 2 * (k + 1)) :: _
        rw [show 2 * k + 1 + 1 = 2 * (k + 1) by omega]
      · rw [if_neg e]
        show rc c (if d = c then _ else _) = _
        rw [if_neg e]
        show (if c = c then _ else _) = _
        rw [if_pos rfl]; rfl
end LW

set_option Elab.async false
set_option linter.all false
set_option maxRecDepth 100000
set_option exponentiation.threshold 100000
set_option maxHeartbeats 1000000
namespace LW
open PySem PySem.Spec PyProof.Rows L2 DL
theorem ixm1 {n : Nat} (h : 0 < n) : ixN n (-1) = some (n - 1) := by
  unfold ixN
  simp
  omega
theorem runs_loop (X : D) (S : List O) : ∀ (T : List Nat) (acc : Rn) (l : Sl), acc.length + T.length ≤ 900 →
    ∃ l', forL (tNm 2) (sIf (eAndT (eTrL 1) (eB (eBin dEq (eBin dIx (eBinL dIx 1 (eUn dNeg (ret (.int 1)))) (ret (.int 0))) (eVar 2)))) (sSetL 1 (eUn dNeg (ret (.int 1))) (eTup (eCons (eVar 2) (eCons (eBin dAdd (eBin dIx (eBinL dIx 1 (eUn dNeg (ret (.int 1)))) (ret (.int 1))) (ret (.int 1))) eNil)))) (sExpr (eMtL 1 mAppend (eTup (eCons (eVar 2) (eCons (ret (.int 1)) eNil)))))) (T.map fun c => .str [c]) ([.val X, .own (acc.map rD), l], S)
      = some (.nx ([.val X, .own ((T.foldl rst acc).map rD), l'], S))
  | [], acc, l, _ => ⟨l, rfl⟩
  | c :: T, acc, l, h => by
    rw [List.length_cons] at h
    have happ : ∀ acc : Rn, acc.length ≤ 900 → mAppend (acc.map rD) (.tup [.str [c], .int 1]) = some (.non, (acc ++ [(c, 1)]).map rD) := fun acc h => by
      unfold mAppend
      rw [if_pos (Nat.lt_of_le_of_lt (by rw [List.length_map]; exact h) (by decide)), List.map_append]; rfl
    rcases List.eq_nil_or_concat acc with rfl | ⟨a, ⟨d, k⟩, rfl⟩
    · obtain ⟨l', e⟩ := runs_loop X S T [(c, 1)] (.val (.str [c])) (by rw [List.length_singleton]; rw [List.length_nil] at h; omega)
      refine ⟨l', v_for_cons rfl ?_ e⟩
      exact v_sIfF (v_andTF (v_bnd (v_rdO rfl) (v_lft (r := false) rfl))) (v_expr (v_mtL rfl (v_tup (v_cons (v_var rfl) (v_cons v_ret v_nil)) l2) rfl (happ [] (by decide))))
    · rw [List.concat_eq_append] at *
      have hlen : (a ++ [(d, k)]).length = a.length + 1 := by simp
      rw [hlen] at h
      have hix : dIx (.lst ((a ++ [(d, k)]).map rD)) (.int (-1)) = some (rD (d, k)) := by
        show atI ((a ++ [(d, k)]).map rD) (-1) = _
        unfold atI
        rw [ixm1 (by rw [List.length_map, hlen]; omega), List.length_map, hlen]
        simp
      have hne : truD (.lst ((a ++ [(d, k)]).map rD)) = some true := by
        show some (!((a ++ [(d, k)]).map rD).isEmpty) = _
        simp
      have hs := rst_snoc a d k c
      by_cases hdc : d = c
      · rw [if_pos hdc] at hs
        obtain ⟨l', e⟩ := runs_loop X S T (a ++ [(d, k + 1)]) (.val (.str [c])) (by simp; omega)
        refine ⟨l', v_for_cons rfl ?_ (by rw [List.foldl_cons, hs]; exact e)⟩
        have hj : ixN ((a ++ [(d, k)]).map rD).length (-1) = some a.length := by
          rw [ixm1 (by rw [List.length_map, hlen]; omega), List.length_map, hlen]; rfl
        have hset : ((a ++ [(d, k)]).map rD).set a.length (.tup [.str [c], .int ((k + 1 : Nat) : Int)]) = (a ++ [(d, k + 1)]).map rD := by
          rw [List.map_append, List.map_append, List.set_append_right _ _ (by rw [List.length_map]; exact Nat.le_refl _), List.length_map, Nat.sub_self, hdc]; rfl
        refine v_sIfT (v_andT (v_bnd (v_rdO rfl) (v_lft hne)) (v_B (v_bin (v_bin (v_binL (v_rdO rfl) (v_un v_ret rfl) (v_rdO rfl) hix) v_ret rfl) (v_var rfl) (z := .bl true) ?_))) ?_
        · show some (D.bl ([d] == [c])) = _
          rw [hdc]; simp
        · refine Eq.trans (v_setL (v_tup (v_cons (v_var rfl) (v_cons (v_bin (v_bin (v_binL (v_rdO rfl) (v_un v_ret rfl) (v_rdO rfl) hix) v_ret rfl) v_ret (o_addN (a := k) (b := 1))) v_nil)) l2) rfl (v_un v_ret rfl) rfl hj) ?_
          rw [hset]; rfl
      · rw [if_neg hdc] at hs
        obtain ⟨l', e⟩ := runs_loop X S T (a ++ [(d, k)] ++ [(c, 1)]) (.val (.str [c])) (by simp; omega)
        refine ⟨l', v_for_cons rfl ?_ (by rw [List.foldl_cons, hs]; exact e)⟩
        refine v_sIfF (v_andT (v_bnd (v_rdO rfl) (v_lft hne)) (v_B (v_bin (v_bin (v_binL (v_rdO rfl) (v_un v_ret rfl) (v_rdO rfl) hix) v_ret rfl) (v_var rfl) (z := .bl false) ?_))) (v_expr (v_mtL rfl (v_tup (v_cons (v_var rfl) (v_cons v_ret v_nil)) l2) rfl (happ _ (by rw [hlen]; omega))))
        show some (D.bl ([d] == [c])) = _
        congr 2
        simpa using hdc
theorem rn_fold : ∀ (T U : List Nat), T.foldl rst (rn U) = rn (U ++ T)
  | [], U => by rw [List.append_nil]; rfl
  | c :: T, U => by
    rw [List.foldl_cons, ← rn_snoc, rn_fold T (U ++ [c]), List.append_assoc]; rfl
def rnD (R : Rn) : D := .tup (R.map rD)
theorem runs_ev {T : List Nat} (h : ∀ c ∈ T, c ∈ LOW) (hl : T.length ≤ 800) (S : List O) : F_runs_of [.str T] S = some (rnD (rn T), S) := by
  obtain ⟨l', e⟩ := runs_loop (.str T) S T [] .un (by rw [List.length_nil]; omega)
  have hf := rn_fold T []
  rw [List.nil_append] at hf
  rw [show T.foldl rst [] = rn T from hf] at e
  unfold F_runs_of
  apply v_runE
  unfold B_runs_of
  exact v_seqE (v_expr (v_call (v_cons (v_var rfl) v_nil) (check_text_ev h (by omega) S))) (v_seqE (v_own (v_lst v_nil (by decide))) (v_seqE (s1 := ([.val (.str T), .own ((rn T).map rD), l'], S)) (v_for (v_items (v_var rfl) rfl) e) ⟨_, v_rt (v_cl1 (v_rdO rfl) rfl)⟩))
/-! the text of runs -/
theorem pairL_zip {α : Type} (f : α → D) : ∀ a b : List α, pairL (a.map f) (b.map f) = (a.zip b).map fun p => .tup [f p.1, f p.2]
  | [], _ => by simp [pairL]
  | _ :: _, [] => by simp [pairL]
  | x :: a, y :: b => by
    show D.tup [f x, f y] :: pairL (a.map f) (b.map f) = _
    rw [pairL_zip f a b]; rfl
theorem df_zip : ∀ (R : Rn), Df R → ∀ p ∈ (R.take (R.length - 1)).zip (R.drop 1), p.1.1 ≠ p.2.1
  | [], _, p, h => by simp at h
  | [_], _, p, h => by simp at h
  | x :: y :: r, hd, p, h => by
    have ih := df_zip (y :: r) hd.2
    have e1 : (x :: y :: r).take ((x :: y :: r).length - 1) = x :: (y :: r).take ((y :: r).length - 1) := rfl
    rw [e1] at h
    rcases List.mem_cons.mp h with rfl | h
    · exact hd.1
    · exact ih p h
theorem cut_m1 {α : Type} (xs : List α) : cutG xs none (some (-1)) = xs.take (xs.length - 1) := by
  unfold cutG HT.sIx
  simp
  try omega
theorem cut_1 {α : Type} (xs : List α) : cutG xs (some 1) none = xs.drop 1 := by
  cases xs with
  | nil => rfl
  | cons x r =>
    unfold cutG HT.sIx
    simp
end LW

set_option Elab.async false
set_option linter.all false
set_option maxRecDepth 100000
set_option exponentiation.threshold 100000
set_option maxHeartbeats 1000000
namespace LW
open PySem PySem.Spec PyProof.Rows L2 DL
theorem notin_ev {c : Nat} {l : List Nat} (h : c ∈ l) : inD true (.str [c]) (.str l) = some (.bl false) := by
  show some (D.bl (true ^^ decide (c ∈ l))) = _
  rw [decide_eq_true h]; rfl
theorem tr_loop (X : D) (S : List O) : ∀ (R : Rn) (l1 l2 l3 l4 : Sl), (∀ p ∈ R, p.1 ∈ LOW ∧ 1 ≤ p.2) → l1.isOwn = false → l2.isOwn = false →
    ∃ l1' l2', l1'.isOwn = false ∧ l2'.isOwn = false ∧ forL (tTp (tCs (tNm 1) (tCs (tNm 2) tNl))) (sIf (eOrT (eB (eBin (inD true) (eVar 1) (ret (.str [97, 98, 99, 100, 101, 102, 103, 104, 105, 106, 107, 108, 109, 110, 111, 112, 113, 114, 115, 116, 117, 118, 119, 120, 121, 122])))) (eOrT (eB (eBin dNe (eCl dLen (eCons (eVar 1) eNil)) (ret (.int 1)))) (eB (eBin dLt (eVar 2) (ret (.int 1)))))) sNever sNil) (R.map rD) ([.val X, l1, l2, l3, l4], S) = some (.nx ([.val X, l1', l2', l3, l4], S))
  | [], l1, l2, l3, l4, _, h1, h2 => ⟨l1, l2, h1, h2, rfl⟩
  | p :: R, l1, l2, l3, l4, h, _, _ => by
    obtain ⟨l1', l2', i1, i2, e⟩ := tr_loop X S R (.val (.str [p.1])) (.val (.int (p.2 : Nat))) l3 l4 (fun q hq => h q (by simp [hq])) rfl rfl
    obtain ⟨h1, h2⟩ := h p (by simp)
    refine ⟨l1', l2', i1, i2, v_for_cons rfl (v_sIfF (v_orT (v_B (v_bin (v_var rfl) v_ret (notin_ev h1))) (v_orT (v_B (v_bin (v_cl (v_cons (v_var rfl) v_nil) (len_str (l := [p.1]) (by simp))) v_ret (z := .bl false) rfl)) (v_B (v_bin (v_var rfl) v_ret (ltF (by omega)))))) v_sNil) e⟩
theorem rep_one (c : Nat) : ∀ k : Nat, (List.replicate k [c]).flatten = List.replicate k c
  | 0 => rfl
  | k + 1 => by rw [List.replicate_succ, List.flatten_cons, rep_one c k]; rfl
theorem mul_str {c k : Nat} (hk : k ≤ 5000) : dMul (.str [c]) (.int (k : Nat)) = some (.str (List.replicate k c)) := by
  show guard' (decide (-(2 ^ 62) < ((k : Nat) : Int)) && decide (((k : Nat) : Int) < 2 ^ 62) && decide (([c] : List Nat).length * ((k : Nat) : Int).toNat ≤ LIM)) (D.str (List.replicate ((k : Nat) : Int).toNat [c]).flatten) = _
  unfold guard'
  rw [Int.toNat_natCast, rep_one, if_pos]
  rw [Bool.and_eq_true, Bool.and_eq_true, decide_eq_true_eq, decide_eq_true_eq, decide_eq_true_eq]
  have : 5000 ≤ LIM := by decide
  refine ⟨⟨by omega, by omega⟩, ?_⟩
  show 1 * k ≤ LIM
  omega
theorem rn_sum : ∀ T : List Nat, ((rn T).map fun p => p.2).sum = T.length := fun T => by
  have h := congrArg List.length (rn_text T)
  rw [List.length_flatten, List.map_map] at h
  have e : (List.length ∘ fun p : Nat × Nat => List.replicate p.2 p.1) = fun p => p.2 := by funext p; exact List.length_replicate ..
  rw [e] at h
  exact h
theorem le_sum : ∀ (l : List Nat) (x : Nat), x ∈ l → x ≤ l.sum
  | [], x, h => by simp at h
  | y :: l, x, h => by
    rw [List.sum_cons]
    rcases List.mem_cons.mp h with rfl | h
    · omega
    · have := le_sum l x h; omega
theorem text_runs_ev {T : List Nat} (h : ∀ c ∈ T, c ∈ LOW) (hl : T.length ≤ 800) (S : List O) : F_text_of_runs [rnD (rn T)] S = some (.str T, S) := by
  have hm := rn_mem T
  have hn := rn_len T
  obtain ⟨l1', l2', i1, i2, e⟩ := tr_loop (rnD (rn T)) S (rn T) .un .un .un .un (fun p hp => ⟨h _ (hm p hp).1, (hm p hp).2⟩) rfl rfl
  have hz : ((rn T).take ((rn T).length - 1)).length ≤ 800 := by rw [List.length_take]; omega
  have s1 : dSl (rnD (rn T)) none (some (-1)) = some (.tup (((rn T).take ((rn T).length - 1)).map rD)) := by
    show some (D.tup (cutG ((rn T).map rD) none (some (-1)))) = _
    rw [cut_m1, List.length_map, List.map_take]
  have s2 : dSl (rnD (rn T)) (some 1) none = some (.tup (((rn T).drop 1).map rD)) := by
    show some (D.tup (cutG ((rn T).map rD) (some 1) none)) = _
    rw [cut_1, List.map_drop]
  have e2 := v_mapT2 (vs := [3, 4]) (i := 3) (j := 4) (ρ := [.val (rnD (rn T)), l1', l2', .un, .un]) (S := S) (s := ([.val (rnD (rn T)), l1', l2', .un, .un], S)) (f := eArg dZip (eCons (eSl (eVar 0) (ret none) (ePart (eUn dNeg (ret (.int 1))))) (eCons (eSl (eVar 0) (ePart (ret (.int 1))) (ret none)) eNil))) (g := eBin dEq (eBin dIx (eVar 3) (ret (.int 0))) (eBin dIx (eVar 4) (ret (.int 0))))
    (((rn T).take ((rn T).length - 1)).zip ((rn T).drop 1)) (fun p => rD p.1) (fun p => rD p.2) (fun _ => .bl false) (v_arg (v_cons (v_sl (v_var rfl) v_ret (v_part (v_un v_ret rfl)) s1) (v_cons (v_sl (v_var rfl) (v_part v_ret) v_ret s2) v_nil)) (by
      show (items0 (.tup _)).bind (fun ds => (items0 (.tup _)).map fun es => pairL ds es) = _
      show some (pairL _ _) = _
      rw [pairL_zip])) (lim (by rw [List.length_zip]; omega)) (fun p hp => v_bin (v_bin (v_var rfl) v_ret rfl) (v_bin (v_var rfl) v_ret rfl) (by
        show some (D.bl ([p.1.1] == [p.2.1])) = _
        congr 2
        have := df_zip (rn T) (rn_df T) p hp
        simpa using this))
  have e3 := v_mapT2 (vs := [1, 2]) (i := 1) (j := 2) (ρ := [.val (rnD (rn T)), l1', l2', .un, .un]) (S := S) (s := ([.val (rnD (rn T)), l1', l2', .un, .un], S)) (f := eItems (eVar 0)) (g := eBin dMul (eVar 1) (eVar 2)) (rn T) (fun p => .str [p.1]) (fun p => .int (p.2 : Nat)) (fun p => .str (List.replicate p.2 p.1)) (v_items (v_var rfl) rfl) (lim (by omega)) (fun p hp => v_bin (v_var rfl) (v_var rfl) (mul_str (by
        have := le_sum ((rn T).map fun p => p.2) p.2 (List.mem_map.mpr ⟨p, hp, rfl⟩)
        rw [rn_sum] at this
        omega))) (by decide) (by decide) (by
      show (!l1'.isOwn && (!l2'.isOwn && true)) = true
      rw [i1, i2]; rfl)
  have e4 : dAny [.lst ((((rn T).take ((rn T).length - 1)).zip ((rn T).drop 1)).map fun _ => D.bl false)] = some (.bl false) := by
    rw [any_bl (fun _ => false)]; simp
  unfold F_text_of_runs
  apply v_runE
  unfold B_text_of_runs
  refine v_seqE (s1 := ([.val (rnD (rn T)), l1', l2', .un, .un], S)) (v_for (v_items (v_var rfl) rfl) e) (v_seqE (v_sIfF (v_B (v_cl (v_cons (v_fz e2) v_nil) e4)) v_sNil) ⟨_, v_rt (v_bin v_ret (v_fz e3) ?_)⟩)
  have hj := join_flat (ss := (rn T).map fun p => List.replicate p.2 p.1) (by
    rw [← List.length_flatten, rn_text]; omega)
  rw [rn_text, List.map_map] at hj
  exact hj
end LW

set_option Elab.async false
set_option linter.all false
set_option maxRecDepth 100000
set_option exponentiation.threshold 100000
set_option maxHeartbeats 1000000
namespace LW
open PySem PySem.Spec PyProof.Rows L2 DL
/-! ### letters moved to the front -/
theorem sl_st {l : List Nat} {f : Nat} (h : f ≤ l.length) (hl : l.length ≤ 1000) : dSl (.str l) none (some (f : Nat)) = some (.str (l.take f)) := by
  show (if l.length ≤ LIM then some (D.str (cutG l none (some (f : Nat)))) else none) = _
  rw [if_pos (lim hl), cut_take h]
theorem sl_st2 {l : List Nat} {f : Nat} (h : f ≤ l.length) (hl : l.length ≤ 1000) : dSl (.str l) (some (f : Nat)) none = some (.str (l.drop f)) := by
  show (if l.length ≤ LIM then some (D.str (cutG l (some (f : Nat)) none)) else none) = _
  rw [if_pos (lim hl), cut_drop h]
theorem idx_ev {t : List Nat} {c : Nat} (h : c ∈ t) : dIdx (.str t) (.str [c]) = some (iD (t.idxOf c)) := by
  show guard' (decide (c ∈ t)) _ = _
  unfold guard'
  rw [if_pos (decide_eq_true h)]; rfl
theorem idx_ne {x c : Nat} (t : List Nat) (h : x ≠ c) : (x :: t).idxOf c = t.idxOf c + 1 := by
  have e : (x == c) = false := by simpa using h
  rw [List.idxOf_cons, e]; rfl
theorem er_cut : ∀ {t : List Nat} {c : Nat}, c ∈ t → t.take (t.idxOf c) ++ t.drop (t.idxOf c + 1) = t.erase c
  | x :: t, c, h => by
    by_cases e : x = c
    · subst e
      rw [List.idxOf_cons_self, List.erase_cons_head]; rfl
    · have hc : c ∈ t := by
        rcases List.mem_cons.mp h with rfl | h
        · exact absurd rfl e
        · exact h
      have ih := er_cut hc
      rw [idx_ne _ e, List.erase_cons_tail (by simpa using e), ← ih]
      rfl
theorem get_idx : ∀ {t : List Nat} {c : Nat}, c ∈ t → t.getD (t.idxOf c) 0 = c
  | x :: t, c, h => by
    by_cases e : x = c
    · subst e
      rw [List.idxOf_cons_self]; rfl
    · have hc : c ∈ t := by
        rcases List.mem_cons.mp h with rfl | h
        · exact absurd rfl e
        · exact h
      rw [idx_ne _ e]
      exact get_idx hc
theorem idx_lt {t : List Nat} {c : Nat} (h : c ∈ t) : t.idxOf c < t.length := List.idxOf_lt_length_iff.mpr h
def mtf : List Nat → List Nat → List Nat
  | _, [] => []
  | row, c :: T => row.idxOf c :: mtf (c :: row.erase c) T
def mrow : List Nat → List Nat → List Nat
  | row, [] => row
  | row, c :: T => mrow (c :: row.erase c) T
theorem mtf_len : ∀ (T row : List Nat), (mtf row T).length = T.length
  | [], _ => rfl
  | c :: T, row => by show (mtf _ T).length + 1 = _; rw [mtf_len T]; rfl
theorem er_mem {row : List Nat} {c d : Nat} (hc : c ∈ row) (hd : d ∈ row) : d ∈ c :: row.erase c := (List.perm_cons_erase hc).mem_iff.mp hd
theorem er_len {row : List Nat} {c : Nat} (hc : c ∈ row) : (c :: row.erase c).length = row.length := (List.perm_cons_erase hc).length_eq.symm
theorem step_ev {row : List Nat} {c : Nat} (hc : c ∈ row) (hl : row.length ≤ 30) : ([c] ++ row.take (row.idxOf c)) ++ row.drop (row.idxOf c + 1) = c :: row.erase c := by
  rw [List.append_assoc, er_cut hc]; rfl
theorem mf_loop (X Y : D) (S : List O) : ∀ (T row acc : List Nat) (l1 l2 : Sl), (∀ c ∈ T, c ∈ row) → row.length ≤ 30 → acc.length + T.length ≤ 900 →
    ∃ R l1' l2', forL (tNm 4) (sSeq (sSet 5 (eBin dIdx (eVar 2) (eVar 4))) (sSeq (sExpr (eMtL 3 mAppend (eVar 5))) (sSet 2 (eBin dAdd (eBin dAdd (eVar 4) (eSl (eVar 2) (ret none) (ePart (eVar 5)))) (eSl (eVar 2) (ePart (eBin dAdd (eVar 5) (ret (.int 1)))) (ret none)))))) (T.map fun c => .str [c]) ([.val X, .val Y, .val (.str row), .own (acc.map iD), l1, l2], S)
      = some (.nx ([.val X, .val Y, .val (.str R), .own ((acc ++ mtf row T).map iD), l1', l2'], S))
  | [], row, acc, l1, l2, _, _, _ => ⟨row, l1, l2, by rw [show mtf row [] = [] by rw [mtf], List.append_nil]; rfl⟩
  | c :: T, row, acc, l1, l2, h, hl, ha => by
    have hc := h c (by simp)
    have hi := idx_lt hc
    rw [List.length_cons] at ha
    obtain ⟨R, l1', l2', e⟩ := mf_loop X Y S T (c :: row.erase c) (acc ++ [row.idxOf c]) (.val (.str [c])) (.val (iD (row.idxOf c))) (fun d hd => er_mem hc (h d (by simp [hd]))) (by rw [er_len hc]; exact hl) (by simp; omega)
    refine ⟨R, l1', l2', v_for_cons rfl ?_ (by rw [List.append_assoc] at e; exact e)⟩
    refine v_seq (v_set (v_bin (v_var rfl) (v_var rfl) (idx_ev hc))) (v_seq (v_expr (v_mtL rfl (v_var rfl) rfl (z := .non) (ds' := (acc ++ [row.idxOf c]).map iD) ?_)) ?_)
    · unfold mAppend
      rw [if_pos (Nat.lt_of_le_of_lt (by rw [List.length_map]; omega) (show 900 < LIM by decide)), List.map_append]; rfl
    · have s1 := sl_st (l := row) (f := row.idxOf c) (by omega) (by omega)
      have s2 := sl_st2 (l := row) (f := row.idxOf c + 1) (by omega) (by omega)
      have a1 : dAdd (.str [c]) (.str (row.take (row.idxOf c))) = _ := add_str (by rw [List.length_take]; simp; omega)
      have a2 : dAdd (.str ([c] ++ row.take (row.idxOf c))) (.str (row.drop (row.idxOf c + 1))) = _ := add_str (by rw [List.length_append, List.length_take, List.length_drop]; simp; omega)
      rw [step_ev hc hl] at a2
      exact v_set (v_bin (v_bin (v_var rfl) (v_sl (v_var rfl) v_ret (v_part (v_var rfl)) s1) a1) (v_sl (v_var rfl) (v_part (v_bin (v_var rfl) v_ret (o_addN (b := 1)))) v_ret s2) a2)
theorem moved_ev {n : Nat} {T : List Nat} (h1 : 1 ≤ n) (h5 : n ≤ 5) (hT : Over (Al n) T) (hl : T.length ≤ 800) (S : List O) : F_moved_front [.str (Al n), .str T] S = some (cD (mtf (Al n) T), S) := by
  have hal := Al_len h5
  obtain ⟨R, l1, l2, e⟩ := mf_loop (.str (Al n)) (.str T) S T (Al n) [] .un .un hT (by omega) (by rw [List.length_nil]; omega)
  rw [List.nil_append] at e
  unfold F_moved_front
  apply v_runE
  unfold B_moved_front
  exact v_seqE (v_expr (v_call (v_cons (v_var rfl) (v_cons (v_var rfl) v_nil)) (check_over_ev h1 h5 hT (by omega) S))) (v_seqE (v_set (v_var rfl)) (v_seqE (v_own (v_lst v_nil (by decide))) (v_seqE (s1 := ([.val (.str (Al n)), .val (.str T), .val (.str R), .own ((mtf (Al n) T).map iD), l1, l2], S)) (v_for (v_items (v_var rfl) rfl) e) ⟨_, v_rt (v_cl1 (v_rdO rfl) rfl)⟩)))
theorem mtf_lt : ∀ (T row : List Nat), (∀ c ∈ T, c ∈ row) → ∀ p ∈ mtf row T, p < row.length
  | [], _, _, p, hp => by simp [mtf] at hp
  | c :: T, row, h, p, hp => by
    have hc := h c (by simp)
    rw [mtf] at hp
    rcases List.mem_cons.mp hp with rfl | hp
    · exact idx_lt hc
    · have := mtf_lt T (c :: row.erase c) (fun d hd => er_mem hc (h d (by simp [hd]))) p hp
      rwa [er_len hc] at this
theorem ff_loop (X Y : D) (S : List O) : ∀ (T row acc : List Nat) (l1 l2 : Sl), (∀ c ∈ T, c ∈ row) → row.length ≤ 30 → acc.length + T.length ≤ 900 →
    ∃ R l1' l2', forL (tNm 4) (sSeq (sSet 5 (eBin dIx (eVar 2) (eVar 4))) (sSeq (sSet 3 (eBin dAdd (eVar 3) (eVar 5))) (sSet 2 (eBin dAdd (eBin dAdd (eVar 5) (eSl (eVar 2) (ret none) (ePart (eVar 4)))) (eSl (eVar 2) (ePart (eBin dAdd (eVar 4) (ret (.int 1)))) (ret none)))))) ((mtf row T).map iD) ([.val X, .val Y, .val (.str row), .val (.str acc), l1, l2], S)
      = some (.nx ([.val X, .val Y, .val (.str R), .val (.str (acc ++ T)), l1', l2'], S))
  | [], row, acc, l1, l2, _, _, _ => ⟨row, l1, l2, by rw [List.append_nil]; rfl⟩
  | c :: T, row, acc, l1, l2, h, hl, ha => by
    have hc := h c (by simp)
    have hi := idx_lt hc
    rw [List.length_cons] at ha
    obtain ⟨R, l1', l2', e⟩ := ff_loop X Y S T (c :: row.erase c) (acc ++ [c]) (.val (iD (row.idxOf c))) (.val (.str [c])) (fun d hd => er_mem hc (h d (by simp [hd]))) (by rw [er_len hc]; exact hl) (by simp; omega)
    refine ⟨R, l1', l2', ?_⟩
    rw [mtf, List.map_cons]
    refine v_for_cons rfl ?_ (by rw [List.append_assoc] at e; exact e)
    have hx : dIx (.str row) (iD (row.idxOf c)) = some (.str [c]) := by
      have := ix_str hi (by omega : row.length ≤ 5000)
      rw [get_idx hc] at this
      exact this
    have s1 := sl_st (l := row) (f := row.idxOf c) (by omega) (by omega)
    have s2 := sl_st2 (l := row) (f := row.idxOf c + 1) (by omega) (by omega)
    have a0 : dAdd (.str acc) (.str [c]) = _ := add_str (by simp; omega)
    have a1 : dAdd (.str [c]) (.str (row.take (row.idxOf c))) = _ := add_str (by rw [List.length_take]; simp; omega)
    have a2 : dAdd (.str ([c] ++ row.take (row.idxOf c))) (.str (row.drop (row.idxOf c + 1))) = _ := add_str (by rw [List.length_append, List.length_take, List.length_drop]; simp; omega)
    rw [step_ev hc hl] at a2
    exact v_seq (v_set (v_bin (v_var rfl) (v_var rfl) hx)) (v_seq (v_set (v_bin (v_var rfl) (v_var rfl) a0)) (v_set (v_bin (v_bin (v_var rfl) (v_sl (v_var rfl) v_ret (v_part (v_var rfl)) s1) a1) (v_sl (v_var rfl) (v_part (v_bin (v_var rfl) v_ret (o_addN (b := 1)))) v_ret s2) a2)))
theorem ltT {a b : Int} (h : a < b) : dLt (.int a) (.int b) = some (.bl true) := by
  show some (D.bl (decide (a < b))) = _
  rw [decide_eq_true h]
theorem front_ev {n : Nat} {T : List Nat} (h1 : 1 ≤ n) (h5 : n ≤ 5) (hT : Over (Al n) T) (hl : T.length ≤ 800) (S : List O) : F_from_front [.str (Al n), cD (mtf (Al n) T)] S = some (.str T, S) := by
  have hal := Al_len h5
  obtain ⟨R, l1, l2, e⟩ := ff_loop (.str (Al n)) (cD (mtf (Al n) T)) S T (Al n) [] .un .un hT (by omega) (by rw [List.length_nil]; omega)
  rw [List.nil_append] at e
  unfold F_from_front
  apply v_runE
  unfold B_from_front
  refine v_seqE (v_expr (v_call (v_cons (v_var rfl) v_nil) (alphabet_ev h1 h5 S))) (v_seqE (v_sIfF (v_nF (v_B (v_cl (v_cons (v_fz (v_mapT (mtf (Al n) T) iD (fun c => .bl true) (v_items (v_var rfl) rfl) (lim (by rw [mtf_len]; omega)) fun p hp => ?_)) v_nil) (z := .bl true) ?_))) v_sNil) (v_seqE (v_set (v_var rfl)) (v_seqE (v_set v_ret) (v_seqE (s1 := ([.val (.str (Al n)), .val (cD (mtf (Al n) T)), .val (.str R), .val (.str T), l1, l2], S)) (v_for (v_items (v_var rfl) rfl) e) ⟨_, v_rt (v_var rfl)⟩))))
  · have := mtf_lt T (Al n) hT p hp
    exact v_chain v_ret (v_var rfl) (leT (a := 0) (b := (p : Nat)) (by omega)) (v_cl (v_cons (v_var rfl) v_nil) (len_str (by omega))) (ltT (by omega))
  · rw [all_bl (fun _ => true)]; simp
/-! places -/
theorem nought : ∀ (T r : List Nat) (c : Nat), ((mtf (c :: r) T).filter fun p => decide (p = 0)).length + (rn (c :: T)).length = T.length + 1
  | [], r, c => rfl
  | d :: T, r, c => by
    have ih := nought T ((c :: r).erase d) d
    rw [mtf]
    have er : rn (c :: d :: T) = rc c (rn (d :: T)) := rfl
    rw [er]
    have hd : ∃ k R, rn (d :: T) = (d, k) :: R := by
      show ∃ k R, rc d (rn T) = (d, k) :: R
      cases rn T with
      | nil => exact ⟨1, [], rfl⟩
      | cons x R =>
        obtain ⟨e, k⟩ := x
        rw [rc_cons]
        by_cases h : e = d
        · rw [if_pos h, h]; exact ⟨_, _, rfl⟩
        · rw [if_neg h]; exact ⟨_, _, rfl⟩
    obtain ⟨k, R, hR⟩ := hd
    rw [hR] at ih ⊢
    rw [rc_cons]
    by_cases h : d = c
    · subst h
      rw [if_pos rfl, List.idxOf_cons_self, List.filter_cons_of_pos (by decide), List.length_cons]
      simp only [List.length_cons] at ih ⊢
      omega
    · rw [if_neg h, idx_ne _ (Ne.symm h), List.filter_cons_of_neg (by simp)]
      simp only [List.length_cons] at ih ⊢
      omega
theorem mtf_thick : ∀ T row : List Nat, mtf row (thick T) = ((mtf row T).map fun p => [p, 0]).flatten
  | [], row => by rw [mtf]; rfl
  | c :: T, row => by
    show mtf row (c :: c :: thick T) = _
    rw [mtf, mtf, mtf, List.idxOf_cons_self, List.erase_cons_head, mtf_thick T]; rfl
theorem thick_over {L T : List Nat} (h : Over L T) : Over L (thick T) := by
  induction T with
  | nil => exact h
  | cons c T ih =>
    have i := ih fun d hd => h d (by simp [hd])
    intro d hd
    have hd' : d ∈ c :: c :: thick T := hd
    simp only [List.mem_cons] at hd'
    rcases hd' with rfl | rfl | hd'
    · exact h d (by simp)
    · exact h d (by simp)
    · exact i d hd'
theorem thick_len : ∀ T : List Nat, (thick T).length = 2 * T.length
  | [] => rfl
  | c :: T => by show (thick T).length + 1 + 1 = 2 * (T.length + 1); rw [thick_len T]; omega
end LW

set_option Elab.async false
set_option linter.all false
set_option maxRecDepth 100000
set_option exponentiation.threshold 100000
set_option maxHeartbeats 1000000
namespace LW
open PySem PySem.Spec PyProof.Rows L2 DL
/-! ### counts behind contexts -/
abbrev Pr := List Nat × Nat
def kst (ks : List (List Nat)) (p : Pr) : List (List Nat) := if p.1 ∈ ks then ks else ks ++ [p.1]
def keys (ps : List Pr) : List (List Nat) := ps.foldl kst []
theorem keys_snoc (ps : List Pr) (p : Pr) : keys (ps ++ [p]) = kst (keys ps) p := by unfold keys; rw [List.foldl_append]; rfl
def row (n : Nat) (ps : List Pr) (k : List Nat) : List Nat := (Al n).map fun d => ps.count (k, d)
def eC (n : Nat) (ps : List Pr) (k : List Nat) : DK × D := (.inr k, cD (row n ps k))
def tab (n : Nat) (ps : List Pr) : List (DK × D) := (keys ps).map (eC n ps)
theorem keys_mem : ∀ (ps : List Pr) (ks : List (List Nat)) (k : List Nat), k ∈ ps.foldl kst ks ↔ k ∈ ks ∨ ∃ c, (k, c) ∈ ps
  | [], ks, k => by simp
  | p :: ps, ks, k => by
    rw [List.foldl_cons, keys_mem ps (kst ks p) k]
    obtain ⟨q, c⟩ := p
    unfold kst
    show k ∈ (if q ∈ ks then ks else ks ++ [q]) ∨ _ ↔ _
    by_cases h : q ∈ ks
    · rw [if_pos h]
      constructor
      · rintro (a | ⟨d, b⟩)
        · exact .inl a
        · exact .inr ⟨d, by simp [b]⟩
      · rintro (a | ⟨d, b⟩)
        · exact .inl a
        · rcases List.mem_cons.mp b with e | b
          · injection e with e1 e2
            exact .inl (e1 ▸ h)
          · exact .inr ⟨d, b⟩
    · rw [if_neg h]
      constructor
      · rintro (a | ⟨d, b⟩)
        · rcases List.mem_append.mp a with a | a
          · exact .inl a
          · rw [List.mem_singleton] at a
            exact .inr ⟨c, by simp [a]⟩
        · exact .inr ⟨d, by simp [b]⟩
      · rintro (a | ⟨d, b⟩)
        · exact .inl (by simp [a])
        · rcases List.mem_cons.mp b with e | b
          · injection e with e1 e2
            exact .inl (by simp [e1])
          · exact .inr ⟨d, b⟩
theorem keys_nd : ∀ (ps : List Pr) (ks : List (List Nat)), ks.Nodup → (ps.foldl kst ks).Nodup
  | [], ks, h => h
  | p :: ps, ks, h => by
    rw [List.foldl_cons]
    apply keys_nd
    unfold kst
    split
    · exact h
    · rename_i hp
      exact List.nodup_append.mpr ⟨h, by simp, fun a ha b hb => by
        rw [List.mem_singleton] at hb
        rintro rfl
        exact hp (hb ▸ ha)⟩
theorem keys_len : ∀ (ps : List Pr) (ks : List (List Nat)), (ps.foldl kst ks).length ≤ ks.length + ps.length
  | [], ks => Nat.le_refl _
  | p :: ps, ks => by
    rw [List.foldl_cons]
    have := keys_len ps (kst ks p)
    have h2 : (kst ks p).length ≤ ks.length + 1 := by
      unfold kst; split
      · omega
      · simp
    rw [List.length_cons]; omega
theorem row_nil {n : Nat} {ps : List Pr} {k : List Nat} (h : k ∉ keys ps) : row n ps k = List.replicate (Al n).length 0 := by
  unfold row
  rw [List.eq_replicate_iff]
  refine ⟨by rw [List.length_map], fun b hb => ?_⟩
  obtain ⟨d, _, rfl⟩ := List.mem_map.mp hb
  exact List.count_eq_zero.mpr fun z => h ((keys_mem ps [] k).mpr (.inr ⟨d, z⟩))
theorem kGet_tab (n : Nat) (ps : List Pr) (k : List Nat) : ∀ ks : List (List Nat), kGet (ks.map (eC n ps)) (.inr k) = if k ∈ ks then some (cD (row n ps k)) else none
  | [] => rfl
  | q :: ks => by
    have ih := kGet_tab n ps k ks
    unfold kGet at ih ⊢
    rw [List.map_cons, List.find?_cons]
    by_cases h : q = k
    · subst h
      have : decide ((eC n ps q).1 = .inr q) = true := decide_eq_true rfl
      rw [this, if_pos (by simp)]; rfl
    · have : decide ((eC n ps q).1 = .inr k) = false := decide_eq_false fun z => h (by injection z)
      rw [this]
      show Option.map _ (List.find? _ _) = _
      rw [ih]
      have : (k ∈ q :: ks) ↔ k ∈ ks := by
        rw [List.mem_cons]
        exact ⟨fun z => z.resolve_left fun e => h e.symm, .inr⟩
      simp only [this]
theorem get_tab (n : Nat) (ps : List Pr) (k : List Nat) : (kGet (tab n ps) (.inr k)).getD (cD (List.replicate (Al n).length 0)) = cD (row n ps k) := by
  unfold tab
  rw [kGet_tab]
  split
  · rfl
  · rename_i h; rw [row_nil h]; rfl
theorem put_tab {n : Nat} {ps : List Pr} {k : List Nat} {c : Nat} : kPut (tab n ps) (.inr k) (cD (row n (ps ++ [(k, c)]) k)) = tab n (ps ++ [(k, c)]) := by
  have ho : ∀ q, q ≠ k → eC n (ps ++ [(k, c)]) q = eC n ps q := fun q hq => by
    unfold eC row
    congr 2
    apply List.map_congr_left
    intro d _
    rw [List.count_append, List.count_singleton]
    have : ((k, c) == (q, d)) = false := by
      rw [beq_eq_false_iff_ne]
      intro z
      injection z with z1 z2
      exact hq z1.symm
    rw [this]; rfl
  have ha : ((tab n ps).any fun kv => decide (kv.1 = .inr k)) = decide (k ∈ keys ps) := by
    rw [Bool.eq_iff_iff, List.any_eq_true, decide_eq_true_eq]
    unfold tab
    constructor
    · rintro ⟨x, hx, e⟩
      obtain ⟨q, hq, rfl⟩ := List.mem_map.mp hx
      have e := of_decide_eq_true e
      have : q = k := by injection e
      exact this ▸ hq
    · exact fun h => ⟨_, List.mem_map_of_mem h, decide_eq_true rfl⟩
  unfold kPut
  rw [ha]
  unfold tab
  rw [keys_snoc]
  unfold kst
  by_cases h : k ∈ keys ps
  · rw [if_pos (decide_eq_true h), if_pos h, List.map_map]
    apply List.map_congr_left
    intro q hq
    show (if (eC n ps q).1 = .inr k then ((eC n ps q).1, _) else eC n ps q) = _
    by_cases e : q = k
    · subst e; rw [if_pos (show (eC n ps q).1 = .inr q from rfl)]; rfl
    · rw [if_neg fun z => e (by injection z), ho q e]
  · rw [if_neg (by simp [h]), if_neg h, List.map_append]
    congr 1
    apply List.map_congr_left
    intro q hq
    exact (ho q fun e => h (e ▸ hq)).symm
/-- one more at the place of a letter -/
theorem bump (f : Nat → Nat) (c : Nat) : ∀ A : List Nat, A.Nodup → c ∈ A → ((A.map f).take (A.idxOf c) ++ [(A.map f).getD (A.idxOf c) 0 + 1]) ++ (A.map f).drop (A.idxOf c + 1) = A.map fun d => f d + if c = d then 1 else 0
  | [], _, h => by simp at h
  | a :: A, nd, h => by
    have nd' := List.nodup_cons.mp nd
    by_cases e : a = c
    · subst e
      rw [List.idxOf_cons_self]
      show (f a + 1) :: A.map f = (f a + if a = a then 1 else 0) :: A.map _
      rw [if_pos rfl]
      congr 1
      apply List.map_congr_left
      intro d hd
      rw [if_neg (show ¬ a = d from fun z => nd'.1 (z ▸ hd))]; rfl
    · have hc : c ∈ A := by
        rcases List.mem_cons.mp h with rfl | h
        · exact absurd rfl e
        · exact h
      have ih := bump f c A nd'.2 hc
      rw [idx_ne _ e]
      show f a :: (((A.map f).take (A.idxOf c) ++ [(A.map f).getD (A.idxOf c) 0 + 1]) ++ (A.map f).drop (A.idxOf c + 1)) = (f a + if c = a then 1 else 0) :: A.map _
      rw [ih, if_neg (Ne.symm e)]; rfl
theorem row_snoc {n : Nat} {ps : List Pr} {k : List Nat} {c : Nat} (hc : c ∈ Al n) : ((row n ps k).take ((Al n).idxOf c) ++ [(row n ps k).getD ((Al n).idxOf c) 0 + 1]) ++ (row n ps k).drop ((Al n).idxOf c + 1) = row n (ps ++ [(k, c)]) k := by
  unfold row
  rw [bump _ c _ (Al_nd n) hc]
  apply List.map_congr_left
  intro d _
  rw [List.count_append, List.count_singleton]
  congr 1
  by_cases h : c = d
  · subst h; simp
  · rw [if_neg h, if_neg]
    simp [h]
/-- the pairs of a text -/
def pr (T : List Nat) (o i : Nat) : Pr := ((T.drop i).take o, T.getD (i + o) 0)
def prs (T : List Nat) (o : Nat) : List Pr := (List.range (T.length - o)).map (pr T o)
theorem cut_mid {α : Type} {xs : List α} {i o : Nat} (h : i + o ≤ xs.length) : cutG xs (some (i : Nat)) (some ((i + o : Nat) : Int)) = (xs.drop i).take o := by
  have hn : ¬ ((i : Nat) : Int) < 0 := by omega
  have hm : ¬ (((i + o : Nat) : Int)) < 0 := by omega
  show (xs.drop (if ((i : Nat) : Int) < 0 then (((i : Nat) : Int) + (xs.length : Nat)).toNat else min ((i : Nat) : Int).toNat xs.length)).take ((if ((i + o : Nat) : Int) < 0 then (((i + o : Nat) : Int) + (xs.length : Nat)).toNat else min ((i + o : Nat) : Int).toNat xs.length) - (if ((i : Nat) : Int) < 0 then (((i : Nat) : Int) + (xs.length : Nat)).toNat else min ((i : Nat) : Int).toNat xs.length)) = _
  rw [if_neg hn, if_neg hm, Int.toNat_natCast, Int.toNat_natCast, Nat.min_eq_left h, Nat.min_eq_left (by omega), Nat.add_sub_cancel_left]
theorem cs_len (cs : List Nat) : (cs.map iD).length = cs.length := List.length_map ..
theorem row_len (n : Nat) (ps : List Pr) (k : List Nat) : (row n ps k).length = (Al n).length := List.length_map ..
theorem cc_loop {n o : Nat} {T : List Nat} (h5 : n ≤ 5) (h1 : 1 ≤ n) (hT : Over (Al n) T) (hl : T.length ≤ 800) (S : List O) : ∀ (is : List Nat) (ps : List Pr) (l4 l5 l6 l7 : Sl), (∀ i ∈ is, i + o < T.length) → ps.length + is.length ≤ 900 →
    ∃ l4' l5' l6' l7', forL (tNm 4) (sSeq (sSet 5 (eSl (eVar 1) (ePart (eBin dSub (eVar 4) (eVar 2))) (ePart (eVar 4)))) (sSeq (sSet 6 (eDGet2L 3 (eVar 5) (eBin dMul (eTup (eCons (ret (.int 0)) eNil)) (eCl dLen (eCons (eVar 0) eNil))))) (sSeq (sSet 7 (eBin dIdx (eVar 0) (eBin dIx (eVar 1) (eVar 4)))) (sDPutL 3 (eVar 5) (eBin dAdd (eBin dAdd (eSl (eVar 6) (ret none) (ePart (eVar 7))) (eTup (eCons (eBin dAdd (eBin dIx (eVar 6) (eVar 7)) (ret (.int 1))) eNil))) (eSl (eVar 6) (ePart (eBin dAdd (eVar 7) (ret (.int 1)))) (ret none))))))) (is.map fun i => .int ((i + o : Nat) : Int)) ([.val (.str (Al n)), .val (.str T), .val (iD o), .ownK (tab n ps), l4, l5, l6, l7], S)
      = some (.nx ([.val (.str (Al n)), .val (.str T), .val (iD o), .ownK (tab n (ps ++ is.map (pr T o))), l4', l5', l6', l7'], S))
  | [], ps, l4, l5, l6, l7, _, _ => ⟨l4, l5, l6, l7, by rw [show ps ++ ([] : List Nat).map (pr T o) = ps from List.append_nil _]; rfl⟩
  | i :: is, ps, l4, l5, l6, l7, h, ha => by
    have hi := h i (by simp)
    have hal := Al_len h5
    rw [List.length_cons] at ha
    have hc : T.getD (i + o) 0 ∈ Al n := hT _ (getD_mem hi)
    have hx := idx_lt hc
    obtain ⟨l4', l5', l6', l7', e⟩ := cc_loop h5 h1 hT hl S is (ps ++ [pr T o i]) (.val (.int ((i + o : Nat) : Int))) (.val (.str ((T.drop i).take o))) (.val (cD (row n ps ((T.drop i).take o)))) (.val (iD ((Al n).idxOf (T.getD (i + o) 0)))) (fun j hj => h j (by simp [hj])) (by simp; omega)
    refine ⟨l4', l5', l6', l7', ?_⟩
    rw [List.append_assoc] at e
    refine v_for_cons rfl ?_ e
    have s1 : dSl (.str T) (some (((i + o - o : Nat) : Int))) (some ((i + o : Nat) : Int)) = some (.str ((T.drop i).take o)) := by
      rw [Nat.add_sub_cancel]
      show (if T.length ≤ LIM then some (D.str (cutG T (some (i : Nat)) (some ((i + o : Nat) : Int)))) else none) = _
      rw [if_pos (lim (by omega)), cut_mid (by omega)]
    have sb : dSub (.int ((i + o : Nat) : Int)) (iD o) = some (.int ((i + o - o : Nat) : Int)) := subN (by omega)
    have mu : dMul (.tup [.int 0]) (.int ((Al n).length : Nat)) = some (cD (List.replicate (Al n).length 0)) := by
      show guard' (true && decide ((1 : Int) ≤ ((Al n).length : Nat)) && decide ((((Al n).length : Nat) : Int) ≤ 1000) && decide (1 ≤ 1000)) (D.tup (List.replicate (((Al n).length : Nat) : Int).toNat [D.int 0]).flatten) = _
      unfold guard'
      rw [if_pos (by rw [hal]; simp; omega), Int.toNat_natCast]
      congr 2
      have : ∀ k : Nat, (List.replicate k [D.int 0]).flatten = (List.replicate k 0).map iD := fun k => by
        induction k with
        | zero => rfl
        | succ k ih => rw [List.replicate_succ, List.flatten_cons, ih]; rfl
      exact this _
    have g1 := get_tab n ps ((T.drop i).take o)
    have r1 := row_len n ps ((T.drop i).take o)
    have x1 : dIx (.str T) (.int ((i + o : Nat) : Int)) = _ := ix_str hi (by omega)
    have c1 := sl_cs (cs := row n ps ((T.drop i).take o)) (f := (Al n).idxOf (T.getD (i + o) 0)) (by omega)
    have c2 := sl_cs2 (cs := row n ps ((T.drop i).take o)) (f := (Al n).idxOf (T.getD (i + o) 0) + 1) (by omega)
    have c3 := ix_cs (cs := row n ps ((T.drop i).take o)) (i := (Al n).idxOf (T.getD (i + o) 0)) (by omega)
    have a1 : dAdd (cD ((row n ps ((T.drop i).take o)).take ((Al n).idxOf (T.getD (i + o) 0)))) (cD [(row n ps ((T.drop i).take o)).getD ((Al n).idxOf (T.getD (i + o) 0)) 0 + 1]) = _ := add_cs (by rw [List.length_take]; simp; omega)
    have a2 : dAdd (cD ((row n ps ((T.drop i).take o)).take ((Al n).idxOf (T.getD (i + o) 0)) ++ [(row n ps ((T.drop i).take o)).getD ((Al n).idxOf (T.getD (i + o) 0)) 0 + 1])) (cD ((row n ps ((T.drop i).take o)).drop ((Al n).idxOf (T.getD (i + o) 0) + 1))) = _ := add_cs (by rw [List.length_append, List.length_take, List.length_drop]; simp; omega)
    rw [row_snoc hc] at a2
    have hkl : (tab n ps).length < LIM := by
      have := keys_len ps []
      unfold tab
      rw [List.length_map]
      refine Nat.lt_of_le_of_lt (Nat.le_trans this ?_) (show 900 < LIM by decide)
      rw [List.length_nil]; omega
    refine v_seq (v_set (v_sl (v_var rfl) (v_part (v_bin (v_var rfl) (v_var rfl) sb)) (v_part (v_var rfl)) s1)) ?_
    refine v_seq (v_set (Eq.trans (v_dget2L (kvs0 := tab n ps) (kvs := tab n ps) (kk := .inr ((T.drop i).take o)) rfl (v_var rfl) (v_bin (v_tup (v_cons v_ret v_nil) (by decide)) (v_cl (v_cons (v_var rfl) v_nil) (len_str (by omega))) mu) rfl rfl) (by rw [g1]))) ?_
    refine v_seq (v_set (v_bin (v_var rfl) (v_bin (v_var rfl) (v_var rfl) x1) (idx_ev hc))) ?_
    refine Eq.trans (v_dputL (kvs0 := tab n ps) (kvs := tab n ps) (kk := .inr ((T.drop i).take o)) (v_bin (v_bin (v_sl (v_var rfl) v_ret (v_part (v_var rfl)) c1) (v_tup (v_cons (v_bin (v_bin (v_var rfl) (v_var rfl) c3) v_ret (o_addN (b := 1))) v_nil) (by show 1 ≤ LIM; decide)) a1) (v_sl (v_var rfl) (v_part (v_bin (v_var rfl) v_ret (o_addN (b := 1)))) v_ret c2) a2) rfl (v_var rfl) rfl rfl hkl) ?_
    rw [put_tab]; rfl
theorem contexts_ev {n o : Nat} {T : List Nat} (h1 : 1 ≤ n) (h5 : n ≤ 5) (ho : o ≤ 3) (hT : Over (Al n) T) (hl : T.length ≤ 800) (S : List O) : F_context_counts [.str (Al n), .str T, iD o] S = some (.dct (tab n (prs T o)), S) := by
  obtain ⟨l4, l5, l6, l7, e⟩ := cc_loop (n := n) (o := o) (T := T) h5 h1 hT hl S (List.range (T.length - o)) [] .un .un .un .un (fun i hi => by have := List.mem_range.mp hi; omega) (by rw [List.length_range, List.length_nil]; omega)
  rw [List.nil_append] at e
  have hal := Al_len h5
  have rg : dRange2 [iD o, .int (T.length : Nat)] = some ((List.range (T.length - o)).map fun i => .int ((i + o : Nat) : Int)) := by
    show guard' (inB62 _ && inB62 _) (rangeL ((o : Nat) : Int) 1 (((T.length : Nat) : Int) - (o : Nat)).toNat) = _
    unfold guard' inB62
    rw [if_pos (by simp only [Bool.and_eq_true, decide_eq_true_eq]; omega), show (((T.length : Nat) : Int) - (o : Nat)).toNat = T.length - o by omega]
    unfold rangeL
    congr 1
    apply List.map_congr_left
    intro i _
    congr 1
    omega
  unfold F_context_counts
  apply v_runE
  unfold B_context_counts
  exact v_seqE (v_expr (v_call (v_cons (v_var rfl) (v_cons (v_var rfl) v_nil)) (check_over_ev h1 h5 hT (by omega) S))) (v_seqE (v_sIfF (v_nF (v_B (v_chain v_ret (v_var rfl) (leT (a := 0) (b := (o : Nat)) (by omega)) v_ret (leT (a := (o : Nat)) (b := 4) (by omega))))) v_sNil) (v_seqE (v_ownK v_ret) (v_seqE (s1 := ([.val (.str (Al n)), .val (.str T), .val (iD o), .ownK (tab n (prs T o)), l4, l5, l6, l7], S)) (v_for (v_range (v_cons (v_var rfl) (v_cons (v_cl (v_cons (v_var rfl) v_nil) (len_str (by omega))) v_nil)) rg) e) ⟨_, v_rt (v_outK rfl)⟩)))
theorem row_Cs {n : Nat} {ps : List Pr} {k : List Nat} (h1 : 1 ≤ n) (h5 : n ≤ 5) (hl : ps.length ≤ 100) : Cs (row n ps k) := by
  have e : (row n ps k).length = n := by rw [row_len, Al_len h5]
  refine Cs.of (k := 100) (n := 5) (by omega) (by omega) (by decide) (fun c hc => ?_) (by decide) (by decide)
  unfold row at hc
  obtain ⟨d, _, rfl⟩ := List.mem_map.mp hc
  exact Nat.le_trans List.count_le_length hl
def cfl (n : Nat) (ps : List Pr) : Nat := ((keys ps).map fun k => fl (row n ps k)).sum
theorem prs_len (T : List Nat) (o : Nat) : (prs T o).length = T.length - o := by unfold prs; rw [List.length_map, List.length_range]
theorem cfloor_ev {n o : Nat} {T : List Nat} (h1 : 1 ≤ n) (h5 : n ≤ 5) (ho : o ≤ 3) (hT : Over (Al n) T) (hl : T.length ≤ 100) (S : List O) : F_context_floor [.str (Al n), .str T, iD o] S = some (iD (cfl n (prs T o)), S) := by
  have hk := keys_len (prs T o) []
  rw [List.length_nil, prs_len] at hk
  have hf : eVals (eCall F_context_counts (eCons (eVar 0) (eCons (eVar 1) (eCons (eVar 2) eNil)))) ([.val (.str (Al n)), .val (.str T), .val (iD o), .un], S) = some ((keys (prs T o)).map fun k => cD (row n (prs T o) k), ([.val (.str (Al n)), .val (.str T), .val (iD o), .un], S)) := by
    refine Eq.trans (v_bnd (v_call (v_cons (v_var rfl) (v_cons (v_var rfl) (v_cons (v_var rfl) v_nil))) (contexts_ev h1 h5 ho hT (by omega) S)) (v_lft (r := (tab n (prs T o)).map fun kv => kv.2) rfl)) ?_
    unfold tab
    rw [List.map_map]; rfl
  unfold F_context_floor
  apply v_run
  unfold B_context_floor
  refine v_rt (v_cl (v_cons (v_fz (v_mapT (keys (prs T o)) (fun k => cD (row n (prs T o) k)) (fun k => iD (fl (row n (prs T o) k))) hf (lim (by show (List.foldl kst [] (prs T o)).length ≤ 1000; omega)) fun k _ => v_call (v_cons (v_var rfl) v_nil) (floor_ev (row_Cs h1 h5 (by rw [prs_len]; omega)) S))) v_nil) ?_)
  · have := asIs_cs ((keys (prs T o)).map fun k => fl (row n (prs T o) k))
    rw [List.map_map] at this
    show (asIs ((keys (prs T o)).map fun k => iD (fl (row n (prs T o) k)))).map (fun bs => D.int bs.sum) = _
    rw [show ((keys (prs T o)).map fun k => iD (fl (row n (prs T o) k))) = List.map (iD ∘ fun k => fl (row n (prs T o) k)) (keys (prs T o)) from rfl, this]
    show some (D.int _) = _
    rw [sum_cast]; rfl
end LW

set_option Elab.async false
set_option linter.all false
set_option maxRecDepth 100000
set_option exponentiation.threshold 100000
set_option maxHeartbeats 1000000
namespace LW
open PySem PySem.Spec PyProof.Rows L2 DL
/-! ### letters renamed -/
theorem count_inj {α β : Type} [BEq α] [LawfulBEq α] [BEq β] [LawfulBEq β] (f : α → β) (a : α) : ∀ l : List α, (∀ x ∈ l, f x = f a → x = a) → (l.map f).count (f a) = l.count a
  | [], _ => rfl
  | x :: l, h => by
    have ih := count_inj f a l fun y hy => h y (by simp [hy])
    rw [List.map_cons, List.count_cons, List.count_cons, ih]
    congr 1
    by_cases e : x = a
    · subst e; simp
    · have : ¬ f x = f a := fun z => e (h x (by simp) z)
      simp [e, this]
structure Nm (n : Nat) (φ : Nat → Nat) : Prop where
  inj : ∀ a ∈ Al n, ∀ b ∈ Al n, φ a = φ b → a = b
  perm : ((Al n).map φ).Perm (Al n)
theorem Nm.mem {n : Nat} {φ : Nat → Nat} (h : Nm n φ) {a : Nat} (ha : a ∈ Al n) : φ a ∈ Al n := h.perm.mem_iff.mp (List.mem_map_of_mem ha)
theorem Nm.over {n : Nat} {φ : Nat → Nat} (h : Nm n φ) {T : List Nat} (hT : Over (Al n) T) : Over (Al n) (T.map φ) := fun c hc => by
  obtain ⟨d, hd, rfl⟩ := List.mem_map.mp hc
  exact h.mem (hT d hd)
theorem Nm.linj {n : Nat} {φ : Nat → Nat} (h : Nm n φ) : ∀ {k q : List Nat}, Over (Al n) k → Over (Al n) q → k.map φ = q.map φ → k = q
  | [], [], _, _, _ => rfl
  | [], b :: q, _, _, e => by simp at e
  | a :: k, [], _, _, e => by simp at e
  | a :: k, b :: q, hk, hq, e => by
    rw [List.map_cons, List.map_cons] at e
    injection e with e1 e2
    rw [h.inj a (hk a (by simp)) b (hq b (by simp)) e1, h.linj (fun c hc => hk c (by simp [hc])) (fun c hc => hq c (by simp [hc])) e2]
def OkP (n : Nat) (p : Pr) : Prop := Over (Al n) p.1 ∧ p.2 ∈ Al n
def Gm (φ : Nat → Nat) (p : Pr) : Pr := (p.1.map φ, φ p.2)
theorem prs_ok {n o : Nat} {T : List Nat} (hT : Over (Al n) T) : ∀ p ∈ prs T o, OkP n p := fun p hp => by
  unfold prs at hp
  obtain ⟨i, hi, rfl⟩ := List.mem_map.mp hp
  have hi := List.mem_range.mp hi
  exact ⟨fun c hc => hT c (List.mem_of_mem_drop (List.mem_of_mem_take hc)), hT _ (getD_mem (by omega))⟩
theorem prs_map (φ : Nat → Nat) (T : List Nat) (o : Nat) : prs (T.map φ) o = (prs T o).map (Gm φ) := by
  unfold prs
  rw [List.length_map, List.map_map]
  apply List.map_congr_left
  intro i hi
  have hi := List.mem_range.mp hi
  unfold pr Gm
  show _ = (((T.drop i).take o).map φ, φ (T.getD (i + o) 0))
  congr 1
  · rw [List.map_take, List.map_drop]
  · rw [List.getD_eq_getElem?_getD, List.getD_eq_getElem?_getD, List.getElem?_map, List.getElem?_eq_getElem (by omega)]; rfl
theorem keys_map {n : Nat} {φ : Nat → Nat} (h : Nm n φ) : ∀ (ps : List Pr) (ks : List (List Nat)), (∀ p ∈ ps, OkP n p) → (∀ k ∈ ks, Over (Al n) k) → (ps.map (Gm φ)).foldl kst (ks.map (List.map φ)) = (ps.foldl kst ks).map (List.map φ)
  | [], ks, _, _ => rfl
  | p :: ps, ks, hp, hk => by
    have e : kst (ks.map (List.map φ)) (Gm φ p) = (kst ks p).map (List.map φ) := by
      unfold kst
      have hm : (Gm φ p).1 ∈ ks.map (List.map φ) ↔ p.1 ∈ ks := by
        constructor
        · intro z
          obtain ⟨q, hq, e⟩ := List.mem_map.mp z
          exact h.linj (hk q hq) (hp p (by simp)).1 e ▸ hq
        · exact fun z => List.mem_map_of_mem z
      by_cases hq : p.1 ∈ ks
      · rw [if_pos (hm.mpr hq), if_pos hq]
      · rw [if_neg fun z => hq (hm.mp z), if_neg hq, List.map_append]; rfl
    rw [List.map_cons, List.foldl_cons, List.foldl_cons, e]
    refine keys_map h ps (kst ks p) (fun q hq => hp q (by simp [hq])) fun k hk' => ?_
    unfold kst at hk'
    split at hk'
    · exact hk k hk'
    · rcases List.mem_append.mp hk' with z | z
      · exact hk k z
      · rw [List.mem_singleton] at z
        exact z ▸ (hp p (by simp)).1
theorem keysM {n : Nat} {φ : Nat → Nat} (h : Nm n φ) {ps : List Pr} (hp : ∀ p ∈ ps, OkP n p) : keys (ps.map (Gm φ)) = (keys ps).map (List.map φ) := keys_map h ps [] hp (by simp)
theorem countM {n : Nat} {φ : Nat → Nat} (h : Nm n φ) {ps : List Pr} (hp : ∀ p ∈ ps, OkP n p) {k : List Nat} {c : Nat} (hk : Over (Al n) k) (hc : c ∈ Al n) : (ps.map (Gm φ)).count (k.map φ, φ c) = ps.count (k, c) :=
  count_inj (Gm φ) (k, c) ps fun p hq e => by
    obtain ⟨q, d⟩ := p
    injection e with e1 e2
    exact Prod.ext (h.linj (hp _ hq).1 hk e1) (h.inj d (hp _ hq).2 c hc e2)
theorem get_row {n : Nat} {ps : List Pr} {k : List Nat} {c : Nat} (hc : c ∈ Al n) : (row n ps k).getD ((Al n).idxOf c) 0 = ps.count (k, c) := by
  unfold row
  rw [List.getD_eq_getElem?_getD, List.getElem?_map, List.getElem?_eq_getElem (idx_lt hc)]
  have := get_idx hc
  rw [List.getD_eq_getElem?_getD, List.getElem?_eq_getElem (idx_lt hc)] at this
  show ps.count (k, _) = _
  rw [show (Al n)[(Al n).idxOf c]'(idx_lt hc) = c from this]
theorem flM {n : Nat} {φ : Nat → Nat} (h : Nm n φ) {ps : List Pr} (hp : ∀ p ∈ ps, OkP n p) {k : List Nat} (hk : Over (Al n) k) : fl (row n (ps.map (Gm φ)) (k.map φ)) = fl (row n ps k) := by
  have e : row n ps k = ((Al n).map φ).map fun d => (ps.map (Gm φ)).count (k.map φ, d) := by
    rw [List.map_map]
    unfold row
    exact List.map_congr_left fun c hc => (countM h hp hk hc).symm
  rw [e]
  exact (fl_perm (h.perm.map _)).symm
theorem keys_over {n : Nat} {ps : List Pr} (hp : ∀ p ∈ ps, OkP n p) : ∀ k ∈ keys ps, Over (Al n) k := fun k hk => by
  rcases (keys_mem ps [] k).mp hk with z | ⟨c, z⟩
  · simp at z
  · exact (hp _ z).1
theorem cflM {n : Nat} {φ : Nat → Nat} (h : Nm n φ) {ps : List Pr} (hp : ∀ p ∈ ps, OkP n p) : cfl n (ps.map (Gm φ)) = cfl n ps := by
  unfold cfl
  rw [keysM h hp, List.map_map]
  congr 1
  exact List.map_congr_left fun k hk => flM h hp (keys_over hp k hk)
/-! no letters ahead -/
theorem prs0 (T : List Nat) : prs T 0 = T.map fun c => ([], c) := by
  unfold prs pr
  apply List.ext_getElem
  · simp
  · intro i h1 h2
    simp at h1
    simp [List.getD_eq_getElem?_getD, h1]
theorem keys_same : ∀ (T : List Nat), (T.map fun c => (([], c) : Pr)).foldl kst [[]] = [[]]
  | [] => rfl
  | c :: T => by rw [List.map_cons, List.foldl_cons]; exact keys_same T
theorem cfl0 {n : Nat} {T : List Nat} (h : 0 < T.length) : cfl n (prs T 0) = fl ((Al n).map fun c => T.count c) := by
  have hk : keys (prs T 0) = [[]] := by
    rw [prs0]
    cases T with
    | nil => exact absurd h (by decide)
    | cons c T => exact keys_same T
  unfold cfl
  rw [hk]
  show fl (row n (prs T 0) []) + 0 = _
  rw [Nat.add_zero, prs0]
  congr 1
  unfold row
  apply List.map_congr_left
  intro c _
  exact count_inj (fun c => (([], c) : Pr)) c T fun x _ e => by injection e
/-! the sum of all -/
theorem sum_one {α : Type} [DecidableEq α] (f : α → Nat) (c : α) : ∀ A : List α, A.Nodup → (A.map fun d => f d + if c = d then 1 else 0).sum = (A.map f).sum + if c ∈ A then 1 else 0
  | [], _ => rfl
  | a :: A, nd => by
    have nd' := List.nodup_cons.mp nd
    rw [List.map_cons, List.map_cons, List.sum_cons, List.sum_cons, sum_one f c A nd'.2]
    by_cases e : c = a
    · subst e
      rw [if_pos rfl, if_neg nd'.1, if_pos (by simp)]; omega
    · rw [if_neg e]
      have : (c ∈ a :: A) ↔ c ∈ A := by simp [e]
      simp only [this]
      omega
def tot (K : List (List Nat)) (A : List Nat) (ps : List Pr) : Nat := (K.map fun k => (A.map fun d => ps.count (k, d)).sum).sum
theorem tot_all {K : List (List Nat)} {A : List Nat} (hK : K.Nodup) (hA : A.Nodup) : ∀ ps : List Pr, (∀ p ∈ ps, p.1 ∈ K ∧ p.2 ∈ A) → tot K A ps = ps.length
  | [], _ => by
    unfold tot
    have : ∀ l : List (List Nat), (l.map fun k => (A.map fun d => ([] : List Pr).count (k, d)).sum).sum = 0 := fun l => by
      have e : ∀ B : List Nat, (B.map fun _ => 0).sum = 0 := fun B => by
        induction B with
        | nil => rfl
        | cons b B ih => rw [List.map_cons, List.sum_cons, ih]
      induction l with
      | nil => rfl
      | cons k l ih => rw [List.map_cons, List.sum_cons, ih]; exact e A
    exact this K
  | p :: ps, h => by
    have ih := tot_all hK hA ps fun q hq => h q (by simp [hq])
    obtain ⟨h1, h2⟩ := h p (by simp)
    have e : tot K A (p :: ps) = (K.map fun k => (A.map fun d => ps.count (k, d)).sum + if p.1 = k then 1 else 0).sum := by
      unfold tot
      congr 1
      apply List.map_congr_left
      intro k _
      by_cases e : p.1 = k
      · rw [if_pos e]
        have := sum_one (fun d => ps.count (k, d)) p.2 A hA
        rw [if_pos h2] at this
        rw [← this]
        congr 1
        apply List.map_congr_left
        intro d _
        rw [List.count_cons]
        congr 1
        obtain ⟨q, c⟩ := p
        have e : q = k := e
        subst e
        by_cases z : c = d
        · subst z; simp
        · simp [z]
      · rw [if_neg e, Nat.add_zero]
        congr 1
        apply List.map_congr_left
        intro d _
        rw [List.count_cons, if_neg, Nat.add_zero]
        obtain ⟨q, c⟩ := p
        intro z
        have z := eq_of_beq z
        injection z with z1 z2
        exact e z1
    rw [e, sum_one (fun k => (A.map fun d => ps.count (k, d)).sum) p.1 K hK, if_pos h1, List.length_cons, ← ih]; rfl
theorem all_sum {n o : Nat} {T : List Nat} (hT : Over (Al n) T) : ((keys (prs T o)).map fun k => (row n (prs T o) k).sum).sum = T.length - o := by
  have := tot_all (keys_nd (prs T o) [] (by simp)) (Al_nd n) (prs T o) fun p hp => ⟨(keys_mem (prs T o) [] p.1).mpr (.inr ⟨p.2, hp⟩), (prs_ok hT p hp).2⟩
  rw [prs_len] at this
  exact this
end LW

set_option Elab.async false
set_option linter.all false
set_option maxRecDepth 100000
set_option exponentiation.threshold 100000
set_option maxHeartbeats 1000000
namespace LW
open PySem PySem.Spec PyProof.Rows L2 DL
/-! ### names drawn -/
abbrev cD1 (c : Nat) : D := .str [c]
theorem er_map {α β : Type} (f : α → β) : ∀ (l : List α) (r : Nat), (l.map f).eraseIdx r = (l.eraseIdx r).map f
  | [], _ => rfl
  | a :: l, 0 => rfl
  | a :: l, r + 1 => by show f a :: (l.map f).eraseIdx r = _; rw [er_map f l r]; rfl
theorem er_perm : ∀ (l : List Nat) (r : Nat), r < l.length → (l.getD r 0 :: l.eraseIdx r).Perm l
  | a :: l, 0, _ => List.Perm.refl _
  | a :: l, r + 1, h => by
    have ih := er_perm l r (by simpa using h)
    exact (List.Perm.swap a (l.getD r 0) (l.eraseIdx r)).trans (ih.cons a)
theorem pop_ev {L : List Nat} {r : Nat} (h : r < L.length) (hl : L.length ≤ 900) : mPopAt (L.map cD1) (.int (r : Nat)) = some (.str [L.getD r 0], (L.eraseIdx r).map cD1) := by
  show (if 0 ≤ ((r : Nat) : Int) ∧ ((r : Nat) : Int) < (L.map cD1).length ∧ (L.map cD1).length ≤ LIM then _ else none) = _
  rw [if_pos ⟨by omega, by rw [List.length_map]; omega, by rw [List.length_map]; exact lim (by omega)⟩, Int.toNat_natCast, List.getElem?_map, List.getElem?_eq_getElem h, er_map, List.getD_eq_getElem?_getD, List.getElem?_eq_getElem h]; rfl
theorem names_loop (x0 x2 x3 x4 x5 x6 x7 x8 x9 x10 x11 x12 x13 x14 x15 x16 x17 x18 x19 x23 : Sl) : ∀ (xs : List D) (a L : List Nat) (m : Nat) (S : List O) (x22 : Sl), xs.length = L.length → a.length + L.length ≤ 900 → Tp m S → m + L.length < 2 ^ 50 → x22.isOwn = false →
    ∃ b y22 S', y22.isOwn = false ∧ Tp (m + L.length) S' ∧ forL (tNm 22) (sSet 20 (eBin dAdd (eVar 20) (eMtL 21 mPopAt (eCall F__law_take (eCons (eVar 1) (eCons (eCl1 dLen 21) eNil)))))) xs ([x0, .val (.ptr 0), x2, x3, x4, x5, x6, x7, x8, x9, x10, x11, x12, x13, x14, x15, x16, x17, x18, x19, .val (.str a), .own (L.map cD1), x22, x23, .un, .un, .un, .un, .un, .un, .un, .un, .un, .un, .un, .un, .un], S)
      = some (.nx ([x0, .val (.ptr 0), x2, x3, x4, x5, x6, x7, x8, x9, x10, x11, x12, x13, x14, x15, x16, x17, x18, x19, .val (.str b), .own [], y22, x23, .un, .un, .un, .un, .un, .un, .un, .un, .un, .un, .un, .un, .un], S')) ∧ b.Perm (a ++ L)
  | [], a, [], m, S, x22, _, _, h, _, h22 => ⟨a, x22, S, h22, h, rfl, by rw [List.append_nil]⟩
  | [], a, _ :: _, m, S, x22, h, _, _, _, _ => by simp at h
  | _ :: _, a, [], m, S, x22, h, _, _, _, _ => by simp at h
  | x :: xs, a, c :: L, m, S, x22, h, hl, hT, hm, _ => by
    obtain ⟨r, S1, e1, hr, T1⟩ := take_ev (m := (c :: L).length) (by simp) (Nat.lt_of_le_of_lt (show _ ≤ 900 by omega) (by decide)) hT (Nat.lt_trans (show m < 2 ^ 50 by omega) (by decide))
    have hlen : ((c :: L).eraseIdx r).length = L.length := by rw [List.length_eraseIdx, if_pos hr]; rfl
    have hcl : (c :: L).length = L.length + 1 := rfl
    obtain ⟨b, y22, S', i22, T2, e, hb⟩ := names_loop x0 x2 x3 x4 x5 x6 x7 x8 x9 x10 x11 x12 x13 x14 x15 x16 x17 x18 x19 x23 xs (a ++ [(c :: L).getD r 0]) ((c :: L).eraseIdx r) (m + 1) S1 (.val x) (by rw [hlen]; simpa using h) (by rw [hlen, List.length_append, List.length_singleton]; omega) T1 (by rw [hlen]; omega) rfl
    have hd : dLen [.lst ((c :: L).map cD1)] = some (.int ((c :: L).length : Nat)) := by show some (D.int (((c :: L).map cD1).length : Nat)) = _; rw [List.length_map]
    refine ⟨b, y22, S', i22, T2.mono (by rw [hlen, hcl]; omega), v_for_cons rfl (v_set (v_bin (v_var rfl) (v_mtL rfl (v_call (v_cons (v_var rfl) (v_cons (v_cl1 (v_rdO rfl) hd) v_nil)) e1) rfl (pop_ev hr (by omega))) (add_str (by simp; omega)))) e, hb.trans ?_⟩
    rw [List.append_assoc]
    exact (er_perm (c :: L) r hr).append_left a
/-- the new name of a letter -/
def ph (n : Nat) (nm : List Nat) (c : Nat) : Nat := nm.getD ((Al n).idxOf c) 0
theorem map_ph : ∀ (A nm : List Nat), A.Nodup → A.length = nm.length → (A.map fun c => nm.getD (A.idxOf c) 0) = nm
  | [], [], _, _ => rfl
  | a :: A, x :: nm, nd, h => by
    have nd' := List.nodup_cons.mp nd
    rw [List.map_cons, List.idxOf_cons_self]
    show x :: _ = _
    congr 1
    have := map_ph A nm nd'.2 (by simpa using h)
    conv => rhs; rw [← this]
    apply List.map_congr_left
    intro c hc
    rw [idx_ne A (show a ≠ c from fun z => nd'.1 (z ▸ hc))]; rfl
theorem nodup_inj (f : Nat → Nat) : ∀ A : List Nat, (A.map f).Nodup → ∀ a ∈ A, ∀ b ∈ A, f a = f b → a = b
  | [], _, a, ha, _, _, _ => by simp at ha
  | x :: A, nd, a, ha, b, hb, e => by
    rw [List.map_cons] at nd
    have nd' := List.nodup_cons.mp nd
    rcases List.mem_cons.mp ha with h1 | h1
    · rcases List.mem_cons.mp hb with h2 | h2
      · rw [h1, h2]
      · have := List.mem_map_of_mem (f := f) h2
        rw [← e, h1] at this
        exact absurd this nd'.1
    · rcases List.mem_cons.mp hb with h2 | h2
      · have := List.mem_map_of_mem (f := f) h1
        rw [e, h2] at this
        exact absurd this nd'.1
      · exact nodup_inj f A nd'.2 a h1 b h2 e
theorem nm_of {n : Nat} {nm : List Nat} (h : nm.Perm (Al n)) : Nm n (ph n nm) := by
  have e : (Al n).map (ph n nm) = nm := map_ph (Al n) nm (Al_nd n) h.length_eq.symm
  exact ⟨nodup_inj _ _ (by rw [e]; exact h.nodup_iff.mpr (Al_nd n)), by rw [e]; exact h⟩
/-- a text told by the new names -/
theorem bent_ev {n : Nat} {nm : List Nat} (h : nm.Perm (Al n)) (h5 : n ≤ 5) {f : Ev D} {U : List Nat} {s : Sto} {ρ : List Sl} {S : List O} (hf : f s = some (.str U, (ρ, S))) (hU : Over (Al n) U) (hl : U.length ≤ 900)
    (h20 : ∀ d, ((wipeS ρ [32]).set 32 (.val d))[20]? = some (.val (.str nm))) (h17 : ∀ d, ((wipeS ρ [32]).set 32 (.val d))[17]? = some (.val (.str (Al n)))) (h32 : ∀ d, ((wipeS ρ [32]).set 32 (.val d))[32]? = some (.val d)) (ho : (([32] : List Nat).all fun v => !(ρ[v]?.getD .un).isOwn) = true) :
    eFz (eLc [32] (eItems f) (tNm 32) pYes (eBin dIx (eVar 20) (eBin dIdx (eVar 17) (eVar 32)))) s = some (.lst (U.map fun c => .str [ph n nm c]), (ρ, S)) := by
  refine v_fz (v_mapT (i := 32) U cD1 (fun c => .str [ph n nm c]) (v_items hf rfl) (lim (by omega)) (fun c hc => ?_) (by decide) ho)
  have hc := idx_lt (hU c hc)
  have hn := h.length_eq
  have := Al_len h5
  exact v_bin (v_var (h20 _)) (v_bin (v_var (h17 _)) (v_var (h32 _)) (idx_ev (hU c (by assumption)))) (ix_str (by omega) (by omega))
theorem join_ph {φ : Nat → Nat} {U : List Nat} (hl : U.length ≤ 900) : dJoin (.str []) (.lst (U.map fun c => .str [φ c])) = some (.str (U.map φ)) := by
  have := join_one (l := U.map φ) (by rw [List.length_map]; omega)
  rw [List.map_map] at this
  exact this
/-! ### comparing -/
theorem eqvs_refl {α : Type} (f : α → D) (h : ∀ a, eqv (f a) (f a) = true) : ∀ l : List α, eqvs (l.map f) (l.map f) = true
  | [] => rfl
  | a :: l => by
    show (eqv (f a) (f a) && eqvs (l.map f) (l.map f)) = true
    rw [h, eqvs_refl f h l]; rfl
theorem flats_of {α : Type} (f : α → D) (n : Nat) : ∀ l : List α, (∀ a ∈ l, flat n (f a) = true) → flats (n + 1) (l.map f) = true
  | [], _ => rfl
  | a :: l, h => by
    show (flat n (f a) && flats (n + 1) (l.map f)) = true
    rw [h a (by simp), flats_of f n l fun b hb => h b (by simp [hb])]; rfl
theorem low_lt {c : Nat} (h : c ∈ LOW) : c < 1000 := by
  have : ∀ d ∈ LOW, d < 1000 := by decide
  exact this c h
theorem rnD_flat {R : Rn} (h : ∀ p ∈ R, p.1 ∈ LOW) : flat 8 (rnD R) = true := by
  show flats 8 (R.map rD) = true
  refine flats_of rD 7 R fun p hp => ?_
  show (([p.1].all fun c => decide (c < 1000)) && (true && true)) = true
  have := low_lt (h p hp)
  simp [this]
theorem rnD_eqv (R : Rn) : eqv (rnD R) (rnD R) = true := by
  show eqvs (R.map rD) (R.map rD) = true
  refine eqvs_refl rD (fun p => ?_) R
  show (([p.1] == [p.1]) && ((((p.2 : Nat) : Int) == ((p.2 : Nat) : Int)) && true)) = true
  simp
theorem rnD_ne {R : Rn} (h : ∀ p ∈ R, p.1 ∈ LOW) : dNe (rnD R) (rnD R) = some (.bl false) := by
  rw [o_ne (rnD_flat h) (rnD_flat h), rnD_eqv]; rfl
theorem str_ne (l : List Nat) : dNe (.str l) (.str l) = some (.bl false) := by rw [o_neS]; simp
theorem str_eq (l : List Nat) : dEq (.str l) (.str l) = some (.bl true) := by rw [o_eqS]; simp
theorem cD_eq (cs : List Nat) : dEq (cD cs) (cD cs) = some (.bl true) := by
  have h1 : flat 8 (cD cs) = true := flats_of iD 7 cs fun _ _ => rfl
  have h2 : eqv (cD cs) (cD cs) = true := eqvs_refl iD (fun c => by show (((c : Nat) : Int) == ((c : Nat) : Int)) = true; simp) cs
  rw [o_eq h1 h1, h2]
end LW

set_option Elab.async false
set_option linter.all false
set_option maxRecDepth 100000
set_option exponentiation.threshold 100000
set_option maxHeartbeats 1000000
namespace LW
open PySem PySem.Spec PyProof.Rows L2 DL
theorem idx_get : ∀ (A : List Nat) (i : Nat), A.Nodup → i < A.length → A.idxOf (A.getD i 0) = i
  | a :: A, 0, _, _ => List.idxOf_cons_self
  | a :: A, i + 1, nd, h => by
    have nd' := List.nodup_cons.mp nd
    have h' : i < A.length := by simpa using h
    show (a :: A).idxOf (A.getD i 0) = i + 1
    rw [idx_ne A (show a ≠ A.getD i 0 from fun z => nd'.1 (z ▸ getD_mem h')), idx_get A i nd'.2 h']
theorem ph_get {n i : Nat} {nm : List Nat} (h : i < (Al n).length) : ph n nm ((Al n).getD i 0) = nm.getD i 0 := by
  unfold ph
  rw [idx_get _ _ (Al_nd n) h]
theorem dne_iD (a : Nat) : dNe (iD a) (iD a) = some (.bl false) := ne_nat a
theorem told_loop {n o : Nat} {nm T : List Nat} (h1 : 1 ≤ n) (h5 : n ≤ 5) (hnm : nm.Perm (Al n)) (hT : Over (Al n) T) (hl : T.length ≤ 25) (hoo : o ≤ 3) (S : List O) (x0 x2 x3 x4 x5 x6 x7 x8 x9 x10 x11 x12 x13 x15 x16 x22 : Sl) (h22 : x22.isOwn = false) : ∀ (ks : List (List Nat)) (l25 l26 : Sl), (∀ k ∈ ks, k ∈ keys (prs T o)) → l25.isOwn = false →
    ∃ l25' l26', l25'.isOwn = false ∧ forL (tNm 25) (sSeq (sSet 26 (eDGet (eVar 24) (eBin dJoin (ret (.str [])) (eFz (eLc [32] (eItems (eVar 25)) (tNm 32) pYes (eBin dIx (eVar 20) (eBin dIdx (eVar 17) (eVar 32)))))))) (sIf (eB (eCl dAny (eCons (eFz (eLc [22] (eRange dRange1 (eCons (eCl dLen (eCons (eVar 17) eNil)) eNil)) (tNm 22) pYes (eBin dNe (eBin dIx (eVar 26) (eBin dIdx (eVar 17) (eBin dIx (eVar 20) (eVar 22)))) (eBin dIx (eDGet (eVar 14) (eVar 25)) (eVar 22))))) eNil))) (sRet (ret (.bl false))) sNil)) (ks.map fun k => .str k) ([x0, .val (.ptr 0), x2, x3, x4, x5, x6, x7, x8, x9, x10, x11, x12, x13, .val (.dct (tab n (prs T o))), x15, x16, .val (.str (Al n)), .val (.str T), .val (iD o), .val (.str nm), .own [], x22, .val (.str (T.map (ph n nm))), .val (.dct (tab n (prs (T.map (ph n nm)) o))), l25, l26, .un, .un, .un, .un, .un, .un, .un, .un, .un, .un], S) = some (.nx ([x0, .val (.ptr 0), x2, x3, x4, x5, x6, x7, x8, x9, x10, x11, x12, x13, .val (.dct (tab n (prs T o))), x15, x16, .val (.str (Al n)), .val (.str T), .val (iD o), .val (.str nm), .own [], x22, .val (.str (T.map (ph n nm))), .val (.dct (tab n (prs (T.map (ph n nm)) o))), l25', l26', .un, .un, .un, .un, .un, .un, .un, .un, .un, .un], S))
  | [], l25, l26, _, i => ⟨l25, l26, i, rfl⟩
  | k :: ks, l25, l26, h, _ => by
    have hk := h k (by simp)
    have hp := prs_ok (o := o) hT
    have N := nm_of hnm
    have hko := keys_over hp k hk
    obtain ⟨l25', l26', i', e⟩ := told_loop h1 h5 hnm hT hl hoo S x0 x2 x3 x4 x5 x6 x7 x8 x9 x10 x11 x12 x13 x15 x16 x22 h22 ks (.val (.str k)) (.val (cD (row n (prs (T.map (ph n nm)) o) (k.map (ph n nm))))) (fun q hq => h q (by simp [hq])) rfl
    have hal := Al_len h5
    have hnl := hnm.length_eq
    have hkl : k.length ≤ 900 := by
      rcases (keys_mem (prs T o) [] k).mp hk with z | ⟨c, z⟩
      · simp at z
      · unfold prs at z
        obtain ⟨i, hi, e⟩ := List.mem_map.mp z
        have : k = (T.drop i).take o := (congrArg Prod.fst e).symm
        rw [this, List.length_take]; omega
    have g24 : kGet (tab n (prs (T.map (ph n nm)) o)) (.inr (k.map (ph n nm))) = some (cD (row n (prs (T.map (ph n nm)) o) (k.map (ph n nm)))) := by
      unfold tab
      rw [kGet_tab, if_pos]
      rw [prs_map, keysM N hp]
      exact List.mem_map_of_mem hk
    have g14 : kGet (tab n (prs T o)) (.inr k) = some (cD (row n (prs T o) k)) := by
      unfold tab
      rw [kGet_tab, if_pos hk]
    refine ⟨l25', l26', i', v_for_cons rfl (v_seq (v_set (v_dget (kvs := tab n (prs (T.map (ph n nm)) o)) (kk := .inr (k.map (ph n nm))) (v_var rfl) (v_bin v_ret (bent_ev hnm h5 (v_var rfl) hko hkl (fun _ => rfl) (fun _ => rfl) (fun _ => rfl) rfl) (join_ph hkl)) rfl rfl g24)) (v_sIfF (v_B (v_cl (v_cons (v_fz (v_mapT (i := 22) (List.range (Al n).length) iD (fun _ => .bl false) (v_range (v_cons (v_cl (v_cons (v_var rfl) v_nil) (len_str (by omega))) v_nil) (range1 (by omega))) (lim (by rw [List.length_range]; omega)) (fun i hi => ?_) (by decide) (by show (!x22.isOwn && true) = true; rw [h22]; rfl))) v_nil) (by rw [any_bl (fun _ => false)]; simp))) v_sNil)) e⟩
    have hi := List.mem_range.mp hi
    have ha := getD_mem hi
    have b1 := ix_str (l := nm) (i := i) (by omega) (by omega)
    rw [← ph_get hi] at b1
    have b2 := idx_ev (N.mem ha)
    have b3 := ix_cs (cs := row n (prs (T.map (ph n nm)) o) (k.map (ph n nm))) (i := (Al n).idxOf (ph n nm ((Al n).getD i 0))) (by rw [row_len]; exact idx_lt (N.mem ha))
    rw [get_row (N.mem ha), prs_map, countM N hp hko ha] at b3
    have b4 := ix_cs (cs := row n (prs T o) k) (i := i) (by rw [row_len]; exact hi)
    have b5 := get_row (n := n) (ps := prs T o) (k := k) ha
    rw [idx_get _ _ (Al_nd n) hi] at b5
    rw [b5] at b4
    rw [← prs_map] at b3
    exact v_bin (v_bin (v_var rfl) (v_bin (v_var rfl) (v_bin (v_var rfl) (v_var rfl) b1) b2) b3) (v_bin (v_dget (kvs := tab n (prs T o)) (kk := .inr k) (v_var rfl) (v_var rfl) rfl rfl g14) (v_var rfl) b4) (dne_iD _)
end LW

set_option Elab.async false
set_option linter.all false
set_option maxRecDepth 100000
set_option exponentiation.threshold 100000
set_option maxHeartbeats 1000000
namespace LW
open PySem PySem.Spec PyProof.Rows L2 DL
/-! ### the last statements -/
theorem asLs_map {α : Type} (f : α → List D) : ∀ l : List α, asLs (l.map fun a => .lst (f a)) = some (l.map f)
  | [] => rfl
  | a :: l => by show (asLs (l.map fun a => .lst (f a))).map (f a :: ·) = _; rw [asLs_map f l]; rfl
theorem sum2_ev {ps : List Nat} (hl : ps.length ≤ 100) : dSum2 [.lst (ps.map fun p => .lst [iD p, .int 0]), .lst []] = some (.lst (((ps.map fun p => [p, 0]).flatten).map iD)) := by
  show (asLs (ps.map fun p => .lst [iD p, .int 0])).bind (fun ls => guard' (decide (([] : List D).length + (ls.map List.length).sum ≤ LIM)) (D.lst ([] ++ ls.flatten))) = _
  rw [asLs_map fun p => [iD p, .int 0]]
  show guard' _ _ = _
  unfold guard'
  have e : ∀ l : List Nat, ((l.map fun p => [iD p, D.int 0]).map List.length).sum = 2 * l.length ∧ (l.map fun p => [iD p, D.int 0]).flatten = ((l.map fun p => [p, 0]).flatten).map iD := fun l => by
    induction l with
    | nil => exact ⟨rfl, rfl⟩
    | cons a l ih =>
      refine ⟨?_, ?_⟩
      · rw [List.map_cons, List.map_cons, List.sum_cons, ih.1]; show 2 + 2 * l.length = 2 * (l.length + 1); omega
      · rw [List.map_cons, List.flatten_cons, ih.2]; rfl
  rw [if_pos, (e ps).2]; · rfl
  rw [(e ps).1, List.length_nil, Nat.zero_add, decide_eq_true_eq]
  exact lim (by omega)
theorem max0 (a b : Nat) : dMax2 [.int 0, .int (((a : Nat) : Int) - (b : Nat))] = some (iD (a - b)) := by
  show some (D.int (if ((a : Nat) : Int) - (b : Nat) > 0 then _ else 0)) = some (D.int ((a - b : Nat) : Int))
  congr 2
  split <;> omega
theorem srt_perm (T : List Nat) : (srt T).Perm (dd T) := by
  have := (sortS_perm ((dd T).map fun c => [c])).flatten
  rw [flat_one] at this
  exact this
theorem dd_map {φ : Nat → Nat} : ∀ T : List Nat, (∀ a ∈ T, ∀ b ∈ T, φ a = φ b → a = b) → dd (T.map φ) = (dd T).map φ
  | [], _ => rfl
  | c :: T, h => by
    have ih := dd_map T fun a ha b hb => h a (by simp [ha]) b (by simp [hb])
    have hm : φ c ∈ dd (T.map φ) ↔ c ∈ dd T := by
      rw [dd_mem, dd_mem]
      constructor
      · intro z
        obtain ⟨d, hd, e⟩ := List.mem_map.mp z
        exact h d (by simp [hd]) c (by simp) e ▸ hd
      · exact fun z => List.mem_map_of_mem z
    rw [List.map_cons]
    show (if φ c ∈ dd (T.map φ) then dd (T.map φ) else φ c :: dd (T.map φ)) = (if c ∈ dd T then dd T else c :: dd T).map φ
    by_cases z : c ∈ dd T
    · rw [if_pos (hm.mpr z), if_pos z, ih]
    · rw [if_neg (fun y => z (hm.mp y)), if_neg z, ih]; rfl
theorem srt_over {L T : List Nat} (h : Over L T) : Over L (srt T) := fun c hc => h c (dd_mem.mp ((srt_perm T).mem_iff.mp hc))
theorem sorted_ev {T : List Nat} {φ : Nat → Nat} (hi : ∀ a ∈ T, ∀ b ∈ T, φ a = φ b → a = b) (hl : T.length ≤ 25) : dSorted [.lst ((srt T).map fun c => .str [φ c])] = some (.lst ((sortS ((dd (T.map φ)).map fun c => [c])).map .str)) := by
  have e : (srt T).map (fun c => D.str [φ c]) = ((srt T).map fun c => [φ c]).map D.str := by rw [List.map_map]; rfl
  have hp : (((srt T).map fun c => [φ c])).Perm ((dd (T.map φ)).map fun c => [c]) := by
    rw [dd_map T hi, List.map_map]
    exact (srt_perm T).map _
  have hs : sortS ((srt T).map fun c => [φ c]) = sortS ((dd (T.map φ)).map fun c => [c]) := asc_eq (sortS_asc _) (sortS_asc _) ((sortS_perm _).trans (hp.trans (sortS_perm _).symm))
  have hd := dd_len (T.map φ)
  rw [List.length_map] at hd
  show (asSs ((srt T).map fun c => D.str [φ c])).bind _ = _
  rw [e, asSs_map]
  show guard' (decide (((srt T).map fun c => [φ c]).length < 64)) (D.lst ((sortS ((srt T).map fun c => [φ c])).map .str)) = _
  unfold guard'
  rw [if_pos, hs]
  rw [decide_eq_true_eq, hp.length_eq, List.length_map]; omega
theorem join_srt {U : List Nat} (hl : U.length ≤ 60) : dJoin (.str []) (.lst ((sortS ((dd U).map fun c => [c])).map .str)) = some (.str (srt U)) := by
  have hd := dd_len U
  exact join_flat (by rw [sum_len_perm (sortS_perm _), len_one]; omega)
theorem join_thick {T : List Nat} (hl : T.length ≤ 100) : dJoin (.str []) (.lst (T.map fun c => .str [c, c])) = some (.str (thick T)) := by
  have e : ∀ T : List Nat, (T.map fun c => [c, c]).flatten = thick T ∧ ((T.map fun c => [c, c]).map List.length).sum = 2 * T.length := fun T => by
    induction T with
    | nil => exact ⟨rfl, rfl⟩
    | cons c T ih =>
      refine ⟨by rw [List.map_cons, List.flatten_cons, ih.1]; rfl, ?_⟩
      rw [List.map_cons, List.map_cons, List.sum_cons, ih.2]; show 2 + 2 * T.length = 2 * (T.length + 1); omega
  have := join_flat (ss := T.map fun c => [c, c]) (by rw [(e T).2]; omega)
  rw [(e T).1, List.map_map] at this
  exact this
theorem noughts {n : Nat} {T : List Nat} : (((((mtf (Al n) T).drop 1).map iD).filter fun d => match d with | .int z => z == 0 | _ => false).map id).length = T.length - (rn T).length := by
  cases T with
  | nil => rfl
  | cons c T =>
    have h := nought T ((Al n).erase c) c
    show (((((mtf (c :: (Al n).erase c) T)).map iD).filter _).map id).length = T.length + 1 - _
    rw [List.length_map, List.filter_map, List.length_map]
    have e : (fun p : Nat => decide (p = 0)) = ((fun d => match d with | D.int z => z == 0 | _ => false) ∘ iD) := by
      funext p
      show decide (p = 0) = (((p : Nat) : Int) == 0)
      rw [Bool.eq_iff_iff, decide_eq_true_eq, beq_iff_eq]; omega
    rw [← e]
    omega
theorem rnD_len (R : Rn) : dLen [rnD R] = some (.int (R.length : Nat)) := by show some (D.int ((R.map rD).length : Nat)) = _; rw [List.length_map]
theorem rev_st {T : List Nat} (hl : T.length ≤ 900) : dRev (.str T) = some (.str T.reverse) := by
  show (if T.length ≤ LIM then some (D.str T.reverse) else none) = _
  rw [if_pos (lim (by omega))]
def B_t5 : Es :=
  (sSeq (sSet 30 (eCall F_moved_front (eCons (eVar 17) (eCons (eVar 18) eNil)))) (sSeq (sIf (eOrT (eB (eBin dNe (eCall F_from_front (eCons (eVar 17) (eCons (eVar 30) eNil))) (eVar 18))) (eB (eBin dNe (eCl dLen (eCons (eFz (eLc [36] (eItems (eSl (eVar 30) (ePart (ret (.int 1))) (ret none))) (tNm 36) (eB (eBin dEq (eVar 36) (ret (.int 0)))) (eVar 36))) eNil)) (eCl dMax2 (eCons (ret (.int 0)) (eCons (eBin dSub (eCl dLen (eCons (eVar 18) eNil)) (eCl dLen (eCons (eVar 28) eNil))) eNil)))))) (sRet (ret (.bl false))) sNil) (sSeq (sSet 31 (eCall F_moved_front (eCons (eVar 17) (eCons (eVar 29) eNil)))) (sRet (eAnd (eBin dEq (eVar 31) (eCl dTuple (eCons (eCl dSum2 (eCons (eFz (eLc [36] (eItems (eVar 30)) (tNm 36) pYes (eFz (eLst (eCons (eVar 36) (eCons (ret (.int 0)) eNil)))))) (eCons (eFz (eLst eNil)) eNil))) eNil))) (eBin dEq (eCall F_letters_of (eCons (eVar 23) eNil)) (eBin dJoin (ret (.str [])) (eCl dSorted (eCons (eFz (eLc [32] (eItems (eCall F_letters_of (eCons (eVar 18) eNil))) (tNm 32) pYes (eBin dIx (eVar 20) (eBin dIdx (eVar 17) (eVar 32))))) eNil)))))))))
def B_t4 : Es :=
  (sSeq (sSet 28 (eCall F_runs_of (eCons (eVar 18) eNil))) (sSeq (sIf (eOrT (eB (eBin dNe (eCall F_runs_of (eCons (eUn dRev (eVar 18)) eNil)) (eUn dRev (eVar 28)))) (eOrT (eB (eBin dNe (eCall F_text_of_runs (eCons (eVar 28) eNil)) (eVar 18))) (eB (eBin dNe (eCall F_runs_of (eCons (eVar 23) eNil)) (eCl dTuple (eCons (eFz (eLc [34, 35] (eItems (eVar 28)) (tTp (tCs (tNm 34) (tCs (tNm 35) tNl))) pYes (eTup (eCons (eBin dIx (eVar 20) (eBin dIdx (eVar 17) (eVar 34))) (eCons (eVar 35) eNil))))) eNil)))))) (sRet (ret (.bl false))) sNil) (sSeq (sSet 29 (eBin dJoin (ret (.str [])) (eFz (eLc [32] (eItems (eVar 18)) (tNm 32) pYes (eBin dAdd (eVar 32) (eVar 32)))))) (sSeq (sIf (eB (eBin dNe (eCall F_runs_of (eCons (eVar 29) eNil)) (eCl dTuple (eCons (eFz (eLc [34, 35] (eItems (eVar 28)) (tTp (tCs (tNm 34) (tCs (tNm 35) tNl))) pYes (eTup (eCons (eVar 34) (eCons (eBin dMul (ret (.int 2)) (eVar 35)) eNil))))) eNil)))) (sRet (ret (.bl false))) sNil) B_t5))))
def B_t3 : Es :=
  (sSeq (sIf (eAndT (eB (eBin dEq (eVar 19) (ret (.int 0)))) (eAndT (eB (eBin dGt (eCl dLen (eCons (eVar 18) eNil)) (ret (.int 0)))) (eB (eBin dNe (eCall F_context_floor (eCons (eVar 17) (eCons (eVar 18) (eCons (ret (.int 0)) eNil)))) (eCall F_floor_bits (eCons (eCall F_counts_of (eCons (eVar 17) (eCons (eVar 18) eNil))) eNil)))))) (sRet (ret (.bl false))) sNil) (sSeq (sSet 27 (eCall F_context_counts (eCons (eVar 17) (eCons (eUn dRev (eVar 18)) (eCons (eVar 19) eNil))))) (sSeq (sIf (eB (eBin dNe (eCl dSum (eCons (eFz (eLc [25] (eItems (eVar 27)) (tNm 25) pYes (eCl dSum (eCons (eDGet (eVar 27) (eVar 25)) eNil)))) eNil)) (eCl dMax2 (eCons (ret (.int 0)) (eCons (eBin dSub (eCl dLen (eCons (eVar 18) eNil)) (eVar 19)) eNil))))) (sRet (ret (.bl false))) sNil) B_t4)))
def B_t2 : Es :=
  (sSeq (sAsg (tTp (tCs (tNm 14) (tCs (tNm 24) tNl))) (eTup (eCons (eCall F_context_counts (eCons (eVar 17) (eCons (eVar 18) (eCons (eVar 19) eNil)))) (eCons (eCall F_context_counts (eCons (eVar 17) (eCons (eVar 23) (eCons (eVar 19) eNil)))) eNil)))) (sSeq (sIf (eOrT (eB (eBin dNe (eCl dLen (eCons (eVar 14) eNil)) (eCl dLen (eCons (eVar 24) eNil)))) (eB (eBin dNe (eCall F_context_floor (eCons (eVar 17) (eCons (eVar 23) (eCons (eVar 19) eNil)))) (eCall F_context_floor (eCons (eVar 17) (eCons (eVar 18) (eCons (eVar 19) eNil))))))) (sRet (ret (.bl false))) sNil) (sSeq (sFor (eItems (eVar 14)) (tNm 25) (sSeq (sSet 26 (eDGet (eVar 24) (eBin dJoin (ret (.str [])) (eFz (eLc [32] (eItems (eVar 25)) (tNm 32) pYes (eBin dIx (eVar 20) (eBin dIdx (eVar 17) (eVar 32)))))))) (sIf (eB (eCl dAny (eCons (eFz (eLc [22] (eRange dRange1 (eCons (eCl dLen (eCons (eVar 17) eNil)) eNil)) (tNm 22) pYes (eBin dNe (eBin dIx (eVar 26) (eBin dIdx (eVar 17) (eBin dIx (eVar 20) (eVar 22)))) (eBin dIx (eDGet (eVar 14) (eVar 25)) (eVar 22))))) eNil))) (sRet (ret (.bl false))) sNil))) B_t3)))
theorem t5_ev {n o : Nat} {nm T : List Nat} (h1 : 1 ≤ n) (h5 : n ≤ 5) (hnm : nm.Perm (Al n)) (hT : Over (Al n) T) (hl : T.length ≤ 25) (hoo : o ≤ 3) (S : List O) (x0 x2 x3 x4 x5 x6 x7 x8 x9 x10 x11 x12 x13 x14 x15 x16 x22 x24 x25 x26 x27 : Sl) : ∃ ρ, B_t5 ([x0, .val (.ptr 0), x2, x3, x4, x5, x6, x7, x8, x9, x10, x11, x12, x13, x14, x15, x16, .val (.str (Al n)), .val (.str T), .val (iD o), .val (.str nm), .own [], x22, .val (.str (T.map (ph n nm))), x24, x25, x26, x27, .val (rnD (rn T)), .val (.str (thick T)), .un, .un, .un, .un, .un, .un, .un], S) = some (.rt (.bl true) (ρ, S)) := by
  have N := nm_of hnm
  have hal := Al_len h5
  have hinj : ∀ a ∈ T, ∀ b ∈ T, ph n nm a = ph n nm b → a = b := fun a ha b hb => N.inj a (hT a ha) b (hT b hb)
  have hrl := rn_len T
  have m1 := moved_ev h1 h5 hT (by omega) S
  have m2 := moved_ev h1 h5 (thick_over hT) (by rw [thick_len]; omega) S
  have f1 := front_ev h1 h5 hT (by omega) S
  have hml := mtf_len T (Al n)
  have s1 : dSl (cD (mtf (Al n) T)) (some 1) none = some (cD ((mtf (Al n) T).drop 1)) := by
    show some (D.tup (cutG ((mtf (Al n) T).map iD) (some 1) none)) = _
    rw [cut_1, ← List.map_drop]; rfl
  have z1 : dLen [.lst (((((mtf (Al n) T).drop 1).map iD).filter fun d => match d with | .int z => z == 0 | _ => false).map id)] = some (iD (T.length - (rn T).length)) := by
    show some (D.int (_ : Nat)) = some (D.int (_ : Nat))
    rw [noughts]
  have hx : dSub (.int (T.length : Nat)) (.int ((rn T).length : Nat)) = some (.int (((T.length : Nat) : Int) - ((rn T).length : Nat))) := rfl
  unfold B_t5
  refine v_seqE (v_set (v_call (v_cons (v_var rfl) (v_cons (v_var rfl) v_nil)) m1)) ?_
  refine v_seqE (v_sIfF (v_orT (v_B (v_bin (v_call (v_cons (v_var rfl) (v_cons (v_var rfl) v_nil)) f1) (v_var rfl) (str_ne T))) (v_B (v_bin (v_cl (v_cons (v_fz (v_filt1 (i := 36) (vs := [36]) (xs := ((mtf (Al n) T).drop 1).map iD) id (fun d => match d with | .int z => z == 0 | _ => false) (v_items (v_sl (v_var rfl) (v_part v_ret) v_ret s1) rfl) (by decide) rfl (by rw [List.length_map, List.length_drop]; exact lim (by omega)) (fun x hx => ?_) (fun x hx _ => v_var rfl))) v_nil) z1) (v_cl (v_cons v_ret (v_cons (v_bin (v_cl (v_cons (v_var rfl) v_nil) (len_str (by omega))) (v_cl (v_cons (v_var rfl) v_nil) (rnD_len _)) hx) v_nil)) (max0 _ _)) (dne_iD _)))) v_sNil) ?_
  · obtain ⟨p, _, rfl⟩ := List.mem_map.mp hx
    exact v_B (v_bin (v_var rfl) v_ret (o_eqI (a := ((p : Nat) : Int)) (b := 0)))
  refine v_seqE (v_set (v_call (v_cons (v_var rfl) (v_cons (v_var rfl) v_nil)) m2)) ?_
  have l1 := letters_ev (T := T) (fun c hc => Al_low (hT c hc)) (by omega) S
  have l2' := letters_ev (T := T.map (ph n nm)) (fun c hc => Al_low (N.over hT c hc)) (by rw [List.length_map]; omega) S
  have hsl : (srt T).length ≤ 900 := by rw [(srt_perm T).length_eq]; have := dd_len T; omega
  have q1 := sum2_ev (ps := mtf (Al n) T) (by omega)
  have q2 : dTuple [.lst (((mtf (Al n) T).map fun p => [p, 0]).flatten.map iD)] = some (cD (mtf (Al n) (thick T))) := by rw [mtf_thick]; rfl
  refine ⟨_, v_rt (v_and (v_bin (v_var rfl) (v_cl (v_cons (v_cl (v_cons (v_fz (v_mapT (i := 36) (mtf (Al n) T) iD (fun p => .lst [iD p, .int 0]) (v_items (v_var rfl) rfl) (lim (by omega)) (fun p _ => v_fz (v_lst (v_cons (v_var rfl) (v_cons v_ret v_nil)) l2)))) (v_cons (v_fz (v_lst v_nil (by decide))) v_nil)) q1) v_nil) q2) (cD_eq _)) (v_bin (v_call (v_cons (v_var rfl) v_nil) l2') (v_bin v_ret (v_cl (v_cons (bent_ev hnm h5 (v_call (v_cons (v_var rfl) v_nil) l1) (srt_over hT) hsl (fun _ => rfl) (fun _ => rfl) (fun _ => rfl) rfl) v_nil) (sorted_ev hinj hl)) (join_srt (by rw [List.length_map]; omega))) (str_eq _)))⟩
theorem t4_ev {n o : Nat} {nm T : List Nat} (h1 : 1 ≤ n) (h5 : n ≤ 5) (hnm : nm.Perm (Al n)) (hT : Over (Al n) T) (hl : T.length ≤ 25) (hoo : o ≤ 3) (S : List O) (x0 x2 x3 x4 x5 x6 x7 x8 x9 x10 x11 x12 x13 x14 x15 x16 x22 x24 x25 x26 x27 : Sl) : ∃ ρ, B_t4 ([x0, .val (.ptr 0), x2, x3, x4, x5, x6, x7, x8, x9, x10, x11, x12, x13, x14, x15, x16, .val (.str (Al n)), .val (.str T), .val (iD o), .val (.str nm), .own [], x22, .val (.str (T.map (ph n nm))), x24, x25, x26, x27, .un, .un, .un, .un, .un, .un, .un, .un, .un], S) = some (.rt (.bl true) (ρ, S)) := by
  have N := nm_of hnm
  have hinj : ∀ a ∈ T, ∀ b ∈ T, ph n nm a = ph n nm b → a = b := fun a ha b hb => N.inj a (hT a ha) b (hT b hb)
  have hlow : ∀ c ∈ T, c ∈ LOW := fun c hc => Al_low (hT c hc)
  have hrl := rn_len T
  have r1 := runs_ev hlow (by omega) S
  have r2 := runs_ev (T := T.reverse) (fun c hc => hlow c (by simpa using hc)) (by rw [List.length_reverse]; omega) S
  rw [rn_rev] at r2
  have r3 := text_runs_ev hlow (by omega) S
  have r4 := runs_ev (T := T.map (ph n nm)) (fun c hc => Al_low (N.over hT c hc)) (by rw [List.length_map]; omega) S
  rw [rn_map _ T hinj] at r4
  have r5 := runs_ev (T := thick T) (fun c hc => Al_low (thick_over hT c hc)) (by rw [thick_len]; omega) S
  rw [rn_thick] at r5
  have hm := rn_mem T
  have v1 : dRev (rnD (rn T)) = some (rnD (rn T).reverse) := by
    show some (D.tup ((rn T).map rD).reverse) = _
    rw [← List.map_reverse]; rfl
  have n1 : dNe (rnD (rn T).reverse) (rnD (rn T).reverse) = some (.bl false) := rnD_ne fun p hp => hlow _ (hm p (by simpa using hp)).1
  have n2 : dNe (rnD ((rn T).map fun p => (ph n nm p.1, p.2))) (rnD ((rn T).map fun p => (ph n nm p.1, p.2))) = some (.bl false) := rnD_ne fun p hp => by
    obtain ⟨q, hq, rfl⟩ := List.mem_map.mp hp
    exact Al_low (N.mem (hT _ (hm q hq).1))
  have n3 : dNe (rnD ((rn T).map fun p => (p.1, 2 * p.2))) (rnD ((rn T).map fun p => (p.1, 2 * p.2))) = some (.bl false) := rnD_ne fun p hp => by
    obtain ⟨q, hq, rfl⟩ := List.mem_map.mp hp
    exact hlow _ (hm q hq).1
  have k1 : dTuple [.lst ((rn T).map fun p => rD (ph n nm p.1, p.2))] = some (rnD ((rn T).map fun p => (ph n nm p.1, p.2))) := by
    show some (D.tup _) = some (D.tup (((rn T).map _).map rD))
    rw [List.map_map]; rfl
  have k2 : dTuple [.lst ((rn T).map fun p => rD (p.1, 2 * p.2))] = some (rnD ((rn T).map fun p => (p.1, 2 * p.2))) := by
    show some (D.tup _) = some (D.tup (((rn T).map _).map rD))
    rw [List.map_map]; rfl
  have hal := Al_len h5
  have hnl := hnm.length_eq
  unfold B_t4
  refine v_seqE (v_set (v_call (v_cons (v_var rfl) v_nil) r1)) ?_
  refine v_seqE (v_sIfF (v_orT (v_B (v_bin (v_call (v_cons (v_un (v_var rfl) (rev_st (by omega))) v_nil) r2) (v_un (v_var rfl) v1) n1)) (v_orT (v_B (v_bin (v_call (v_cons (v_var rfl) v_nil) r3) (v_var rfl) (str_ne T))) (v_B (v_bin (v_call (v_cons (v_var rfl) v_nil) r4) (v_cl (v_cons (v_fz (v_mapT2 (vs := [34, 35]) (i := 34) (j := 35) (rn T) (fun p => .str [p.1]) (fun p => .int (p.2 : Nat)) (fun p => rD (ph n nm p.1, p.2)) (v_items (v_var rfl) rfl) (lim (by omega)) (fun p hp => ?_))) v_nil) k1) n2)))) v_sNil) ?_
  · have hp1 := hT _ (hm p hp).1
    have hi := idx_lt hp1
    exact v_tup (v_cons (v_bin (v_var rfl) (v_bin (v_var rfl) (v_var rfl) (idx_ev hp1)) (ix_str (by omega) (by omega))) (v_cons (v_var rfl) v_nil)) l2
  refine v_seqE (v_set (v_bin v_ret (v_fz (v_mapT (i := 32) T cD1 (fun c => .str [c, c]) (v_items (v_var rfl) rfl) (lim (by omega)) (fun c _ => v_bin (v_var rfl) (v_var rfl) (add_str (a := [c]) (b := [c]) (by simp))))) (join_thick (by omega)))) ?_
  refine v_seqE (v_sIfF (v_B (v_bin (v_call (v_cons (v_var rfl) v_nil) r5) (v_cl (v_cons (v_fz (v_mapT2 (vs := [34, 35]) (i := 34) (j := 35) (rn T) (fun p => .str [p.1]) (fun p => .int (p.2 : Nat)) (fun p => rD (p.1, 2 * p.2)) (v_items (v_var rfl) rfl) (lim (by omega)) (fun p hp => ?_))) v_nil) k2) n3)) v_sNil) ?_
  · have hb : p.2 ≤ 25 := by
      have := le_sum ((rn T).map fun p => p.2) p.2 (List.mem_map.mpr ⟨p, hp, rfl⟩)
      rw [rn_sum] at this; omega
    have hlg := lgsm (x := p.2) (by omega)
    have hmu : dMul (.int 2) (.int (p.2 : Nat)) = some (.int ((2 * p.2 : Nat) : Int)) := o_mulN (a := 2) (by have : Nat.log2 2 = 1 := by decide
                                                                                                             omega)
    exact v_tup (v_cons (v_var rfl) (v_cons (v_bin v_ret (v_var rfl) hmu) v_nil)) l2
  exact t5_ev h1 h5 hnm hT hl hoo S x0 x2 x3 x4 x5 x6 x7 x8 x9 x10 x11 x12 x13 x14 x15 x16 x22 x24 x25 x26 x27
end LW

set_option Elab.async false
set_option linter.all false
set_option maxRecDepth 100000
set_option exponentiation.threshold 100000
set_option maxHeartbeats 1000000
namespace LW
open PySem PySem.Spec PyProof.Rows L2 DL
theorem t3_ev {n o : Nat} {nm T : List Nat} (h1 : 1 ≤ n) (h5 : n ≤ 5) (hnm : nm.Perm (Al n)) (hT : Over (Al n) T) (hl : T.length ≤ 25) (hoo : o ≤ 3) (S : List O) (x0 x2 x3 x4 x5 x6 x7 x8 x9 x10 x11 x12 x13 x14 x15 x16 x22 x24 x25 x26 : Sl) (h25 : x25.isOwn = false) : ∃ ρ, B_t3 ([x0, .val (.ptr 0), x2, x3, x4, x5, x6, x7, x8, x9, x10, x11, x12, x13, x14, x15, x16, .val (.str (Al n)), .val (.str T), .val (iD o), .val (.str nm), .own [], x22, .val (.str (T.map (ph n nm))), x24, x25, x26, .un, .un, .un, .un, .un, .un, .un, .un, .un, .un], S) = some (.rt (.bl true) (ρ, S)) := by
  have hal := Al_len h5
  have c0 : F_context_floor [.str (Al n), .str T, .int 0] S = some (iD (cfl n (prs T 0)), S) := cfloor_ev (o := 0) h1 h5 (by omega) hT (by omega) S
  have q0 := counts_of_ev h1 h5 hT (by omega) S
  have qs : Cs ((Al n).map fun c => T.count c) := Cs.of (k := 100) (n := 5) (by rw [List.length_map]; omega) (by rw [List.length_map]; omega) (by decide) (fun c hc => by
    obtain ⟨d, _, rfl⟩ := List.mem_map.mp hc
    have := List.count_le_length (a := d) (l := T)
    omega) (by decide) (by decide)
  have f0 := floor_ev qs S
  have hTr : Over (Al n) T.reverse := fun c hc => hT c (by simpa using hc)
  have b1 := contexts_ev h1 h5 hoo hTr (by rw [List.length_reverse]; omega) S
  have hk := keys_len (prs T.reverse o) []
  rw [List.length_nil, prs_len, List.length_reverse] at hk
  have sm := all_sum (o := o) hTr
  rw [List.length_reverse] at sm
  have s2 : dSum [.lst ((keys (prs T.reverse o)).map fun k => iD (row n (prs T.reverse o) k).sum)] = some (iD (T.length - o)) := by
    have := asIs_cs ((keys (prs T.reverse o)).map fun k => (row n (prs T.reverse o) k).sum)
    rw [List.map_map] at this
    show (asIs ((keys (prs T.reverse o)).map fun k => iD (row n (prs T.reverse o) k).sum)).map (fun bs => D.int bs.sum) = _
    rw [show ((keys (prs T.reverse o)).map fun k => iD (row n (prs T.reverse o) k).sum) = List.map (iD ∘ fun k => (row n (prs T.reverse o) k).sum) (keys (prs T.reverse o)) from rfl, this]
    show some (D.int _) = _
    rw [sum_cast, sm]; rfl
  have e0 : dEq (iD o) (.int 0) = some (.bl (decide (o = 0))) := eq0 o
  unfold B_t3
  refine v_seqE (s1 := ([x0, .val (.ptr 0), x2, x3, x4, x5, x6, x7, x8, x9, x10, x11, x12, x13, x14, x15, x16, .val (.str (Al n)), .val (.str T), .val (iD o), .val (.str nm), .own [], x22, .val (.str (T.map (ph n nm))), x24, x25, x26, .un, .un, .un, .un, .un, .un, .un, .un, .un, .un], S)) (v_sIfF ?_ v_sNil) ?_
  · by_cases ho0 : o = 0
    · by_cases hn : 0 < T.length
      · rw [cfl0 hn] at c0
        exact v_andT (v_B (v_bin (v_var rfl) v_ret (e0.trans (by rw [decide_eq_true ho0])))) (v_andT (v_B (v_bin (v_cl (v_cons (v_var rfl) v_nil) (len_str (by omega))) v_ret (gtT (b := 0) hn))) (v_B (v_bin (v_call (v_cons (v_var rfl) (v_cons (v_var rfl) (v_cons v_ret v_nil))) c0) (v_call (v_cons (v_call (v_cons (v_var rfl) (v_cons (v_var rfl) v_nil)) q0) v_nil) f0) (dne_iD _))))
      · exact v_andT (v_B (v_bin (v_var rfl) v_ret (e0.trans (by rw [decide_eq_true ho0])))) (v_andTF (v_B (v_bin (v_cl (v_cons (v_var rfl) v_nil) (len_str (by omega))) v_ret (gtF (b := 0) hn))))
    · exact v_andTF (v_B (v_bin (v_var rfl) v_ret (e0.trans (by rw [decide_eq_false ho0]))))
  refine v_seqE (v_set (v_call (v_cons (v_var rfl) (v_cons (v_un (v_var rfl) (rev_st (by omega))) (v_cons (v_var rfl) v_nil))) b1)) ?_
  refine v_seqE (s1 := ([x0, .val (.ptr 0), x2, x3, x4, x5, x6, x7, x8, x9, x10, x11, x12, x13, x14, x15, x16, .val (.str (Al n)), .val (.str T), .val (iD o), .val (.str nm), .own [], x22, .val (.str (T.map (ph n nm))), x24, x25, x26, .val (.dct (tab n (prs T.reverse o))), .un, .un, .un, .un, .un, .un, .un, .un, .un], S)) (v_sIfF (v_B (v_bin (v_cl (v_cons (v_fz (v_mapT (i := 25) (keys (prs T.reverse o)) (fun k => .str k) (fun k => iD (row n (prs T.reverse o) k).sum) (v_items (v_var rfl) ?_) (lim (by show (List.foldl kst [] (prs T.reverse o)).length ≤ 1000; omega)) (fun k hk => v_cl (v_cons (v_dget (kvs := tab n (prs T.reverse o)) (kk := .inr k) (v_var rfl) (v_var rfl) rfl rfl ?_) v_nil) (sum_ev _)) (by decide) (by show (!x25.isOwn && true) = true; rw [h25]; rfl))) v_nil) s2) (v_cl (v_cons v_ret (v_cons (v_bin (v_cl (v_cons (v_var rfl) v_nil) (len_str (by omega))) (v_var rfl) rfl) v_nil)) (max0 _ _)) (dne_iD _))) v_sNil) (t4_ev h1 h5 hnm hT hl hoo S x0 x2 x3 x4 x5 x6 x7 x8 x9 x10 x11 x12 x13 x14 x15 x16 x22 x24 x25 x26 (.val (.dct (tab n (prs T.reverse o)))))
  · show some ((tab n (prs T.reverse o)).map fun kv => keyD kv.1) = _
    unfold tab
    rw [List.map_map]; rfl
  · unfold tab
    rw [kGet_tab, if_pos hk]
theorem t2_ev {n o : Nat} {nm T : List Nat} (h1 : 1 ≤ n) (h5 : n ≤ 5) (hnm : nm.Perm (Al n)) (hT : Over (Al n) T) (hl : T.length ≤ 25) (hoo : o ≤ 3) (S : List O) (x0 x2 x3 x4 x5 x6 x7 x8 x9 x10 x11 x12 x13 x14 x15 x16 x22 : Sl) (h22 : x22.isOwn = false) : ∃ ρ, B_t2 ([x0, .val (.ptr 0), x2, x3, x4, x5, x6, x7, x8, x9, x10, x11, x12, x13, x14, x15, x16, .val (.str (Al n)), .val (.str T), .val (iD o), .val (.str nm), .own [], x22, .val (.str (T.map (ph n nm))), .un, .un, .un, .un, .un, .un, .un, .un, .un, .un, .un, .un, .un], S) = some (.rt (.bl true) (ρ, S)) := by
  have hal := Al_len h5
  have N := nm_of hnm
  have hp := prs_ok (o := o) hT
  have d1 := contexts_ev h1 h5 hoo hT (by omega) S
  have d2 := contexts_ev h1 h5 hoo (N.over hT) (by rw [List.length_map]; omega) S
  have f1 := cfloor_ev h1 h5 hoo hT (by omega) S
  have f2 := cfloor_ev h1 h5 hoo (N.over hT) (by rw [List.length_map]; omega) S
  rw [show cfl n (prs (T.map (ph n nm)) o) = cfl n (prs T o) by rw [prs_map, cflM N hp]] at f2
  have le : dLen [.dct (tab n (prs (T.map (ph n nm)) o))] = some (.int ((tab n (prs T o)).length : Nat)) := by
    show some (D.int ((tab n (prs (T.map (ph n nm)) o)).length : Nat)) = _
    unfold tab
    rw [List.length_map, List.length_map, prs_map, keysM N hp, List.length_map]
  obtain ⟨l25, l26, i25, e⟩ := told_loop h1 h5 hnm hT hl hoo S x0 x2 x3 x4 x5 x6 x7 x8 x9 x10 x11 x12 x13 x15 x16 x22 h22 (keys (prs T o)) .un .un (fun _ h => h) rfl
  unfold B_t2
  refine v_seqE (v_asg2 (v_tup (v_cons (v_call (v_cons (v_var rfl) (v_cons (v_var rfl) (v_cons (v_var rfl) v_nil))) d1) (v_cons (v_call (v_cons (v_var rfl) (v_cons (v_var rfl) (v_cons (v_var rfl) v_nil))) d2) v_nil)) l2)) ?_
  refine v_seqE (v_sIfF (v_orT (v_B (v_bin (v_cl (v_cons (v_var rfl) v_nil) rfl) (v_cl (v_cons (v_var rfl) v_nil) le) (ne_nat _))) (v_B (v_bin (v_call (v_cons (v_var rfl) (v_cons (v_var rfl) (v_cons (v_var rfl) v_nil))) f2) (v_call (v_cons (v_var rfl) (v_cons (v_var rfl) (v_cons (v_var rfl) v_nil))) f1) (dne_iD _)))) v_sNil) ?_
  refine v_seqE (s1 := ([x0, .val (.ptr 0), x2, x3, x4, x5, x6, x7, x8, x9, x10, x11, x12, x13, .val (.dct (tab n (prs T o))), x15, x16, .val (.str (Al n)), .val (.str T), .val (iD o), .val (.str nm), .own [], x22, .val (.str (T.map (ph n nm))), .val (.dct (tab n (prs (T.map (ph n nm)) o))), l25, l26, .un, .un, .un, .un, .un, .un, .un, .un, .un, .un], S)) (v_for (v_items (v_var rfl) ?_) e) (t3_ev h1 h5 hnm hT hl hoo S x0 x2 x3 x4 x5 x6 x7 x8 x9 x10 x11 x12 x13 (.val (.dct (tab n (prs T o)))) x15 x16 x22 (.val (.dct (tab n (prs (T.map (ph n nm)) o)))) l25 l26 i25)
  show some ((tab n (prs T o)).map fun kv => keyD kv.1) = _
  unfold tab
  rw [List.map_map]; rfl
theorem txt_ok : TxtOk := by
  intro m S hT hm x0 x2 x3 x4 x5 x6 x7 x8 x9 x10 x11 x12 x13 x14 x15 x16
  obtain ⟨q, S1, e1, hq, T1⟩ := take_ev (m := 5) (by decide) (by decide) hT (Nat.lt_trans hm (by decide))
  have hal := Al_len (n := 1 + q) (by omega)
  obtain ⟨T, S2, e2, hO, hl, T2⟩ := text_ev (L := Al (1 + q)) (by omega) (by omega) T1 (Nat.lt_trans (show m + 1 < 2 ^ 50 by omega) (by decide))
  obtain ⟨o, S3, e3, ho, T3⟩ := take_ev (m := 4) (by decide) (by decide) T2 (Nat.lt_trans (show m + 1 + 26 < 2 ^ 50 by omega) (by decide))
  obtain ⟨nm, y22, S4, i22, T4, e4, hnm⟩ := names_loop x0 x2 x3 x4 x5 x6 x7 x8 x9 x10 x11 x12 x13 x14 x15 x16 (.val (.str (Al (1 + q)))) (.val (.str T)) (.val (iD o)) .un ((List.range (Al (1 + q)).length).map fun i => D.int (i : Nat)) [] (Al (1 + q)) _ S3 .un (by rw [List.length_map, List.length_range]) (by rw [List.length_nil]; omega) T3 (by omega) rfl
  rw [List.nil_append] at hnm
  have s0 : dSl (.str [97, 98, 99, 100, 101]) none (some ((1 + q : Nat) : Int)) = some (.str (Al (1 + q))) := sl_st (l := [97, 98, 99, 100, 101]) (by show 1 + q ≤ 5; omega) (by decide)
  have lt : lettersD (.str (Al (1 + q))) = some ((Al (1 + q)).map cD1) := by
    show guard' (decide ((Al (1 + q)).length ≤ LIM)) _ = _
    unfold guard'
    rw [if_pos (decide_eq_true (lim (by omega)))]
  have g : ∃ ρ, B_t2 ([x0, .val (.ptr 0), x2, x3, x4, x5, x6, x7, x8, x9, x10, x11, x12, x13, x14, x15, x16, .val (.str (Al (1 + q))), .val (.str T), .val (iD o), .val (.str nm), .own [], y22, .val (.str (T.map (ph (1 + q) nm))), .un, .un, .un, .un, .un, .un, .un, .un, .un, .un, .un, .un, .un], S4) = some (.rt (.bl true) (ρ, S4)) := t2_ev (n := 1 + q) (by omega) (by omega) hnm hO hl (by omega) S4 x0 x2 x3 x4 x5 x6 x7 x8 x9 x10 x11 x12 x13 x14 x15 x16 y22 i22
  obtain ⟨ρ, g⟩ := g
  unfold B_txt
  refine v_seqP (s1 := ([x0, .val (.ptr 0), x2, x3, x4, x5, x6, x7, x8, x9, x10, x11, x12, x13, x14, x15, x16, .val (.str (Al (1 + q))), .un, .un, .un, .un, .un, .un, .un, .un, .un, .un, .un, .un, .un, .un, .un, .un, .un, .un, .un], S1)) (v_set (v_sl v_ret v_ret (v_part (v_bin v_ret (v_call (v_cons (v_var rfl) (v_cons v_ret v_nil)) e1) (o_addN (a := 1)))) s0)) ?_
  refine v_seqP (s1 := ([x0, .val (.ptr 0), x2, x3, x4, x5, x6, x7, x8, x9, x10, x11, x12, x13, x14, x15, x16, .val (.str (Al (1 + q))), .val (.str T), .val (iD o), .un, .un, .un, .un, .un, .un, .un, .un, .un, .un, .un, .un, .un, .un, .un, .un, .un], S3)) (v_par (v_cons (v_call (v_cons (v_var rfl) (v_cons (v_var rfl) (v_cons v_ret v_nil))) e2) (v_cons (v_call (v_cons (v_var rfl) (v_cons v_ret v_nil)) e3) v_nil))) ?_
  refine v_seqP (s1 := ([x0, .val (.ptr 0), x2, x3, x4, x5, x6, x7, x8, x9, x10, x11, x12, x13, x14, x15, x16, .val (.str (Al (1 + q))), .val (.str T), .val (iD o), .val (.str []), .own ((Al (1 + q)).map cD1), .un, .un, .un, .un, .un, .un, .un, .un, .un, .un, .un, .un, .un, .un, .un], S3)) ?_ ?_
  · unfold sAsgVO
    show (match eLetters (eVar 17) _ with | some (ds, s2) => some (Out.nx ((s2.1.set 21 (.own ds)).set 20 (.val (.str [])), s2.2)) | none => none) = _
    rw [show eLetters (eVar 17) ([x0, .val (.ptr 0), x2, x3, x4, x5, x6, x7, x8, x9, x10, x11, x12, x13, x14, x15, x16, .val (.str (Al (1 + q))), .val (.str T), .val (iD o), .un, .un, .un, .un, .un, .un, .un, .un, .un, .un, .un, .un, .un, .un, .un, .un, .un], S3) = some ((Al (1 + q)).map cD1, ([x0, .val (.ptr 0), x2, x3, x4, x5, x6, x7, x8, x9, x10, x11, x12, x13, x14, x15, x16, .val (.str (Al (1 + q))), .val (.str T), .val (iD o), .un, .un, .un, .un, .un, .un, .un, .un, .un, .un, .un, .un, .un, .un, .un, .un, .un], S3)) from v_bnd (v_var rfl) (v_lft lt)]; rfl
  refine v_seqP (s1 := ([x0, .val (.ptr 0), x2, x3, x4, x5, x6, x7, x8, x9, x10, x11, x12, x13, x14, x15, x16, .val (.str (Al (1 + q))), .val (.str T), .val (iD o), .val (.str nm), .own [], y22, .un, .un, .un, .un, .un, .un, .un, .un, .un, .un, .un, .un, .un, .un], S4)) (v_for (v_range (v_cons (v_cl (v_cons (v_var rfl) v_nil) (len_str (by omega))) v_nil) (range1 (by omega))) e4) ?_
  refine v_seqP (s1 := ([x0, .val (.ptr 0), x2, x3, x4, x5, x6, x7, x8, x9, x10, x11, x12, x13, x14, x15, x16, .val (.str (Al (1 + q))), .val (.str T), .val (iD o), .val (.str nm), .own [], y22, .val (.str (T.map (ph (1 + q) nm))), .un, .un, .un, .un, .un, .un, .un, .un, .un, .un, .un, .un, .un], S4)) (v_set (v_bin v_ret (bent_ev hnm (by omega) (v_var rfl) hO (by omega) (fun _ => rfl) (fun _ => rfl) (fun _ => rfl) rfl) (join_ph (by omega)))) ?_
  exact ⟨ρ, S4, g, trivial⟩
theorem law_true (ns : List Int) (hns : ns.length ≤ 63) : ∃ S', F_law [.scr ns] [] = some (.bl true, S') := by
  obtain ⟨S', e, _⟩ := law_counts txt_ok ns hns
  exact ⟨S', e⟩
end LW

set_option Elab.async false
set_option linter.all false
set_option maxRecDepth 100000
namespace LW
open PySem PySem.Spec PyProof.Rows L2 DL
set_option maxHeartbeats 8000000
def top (i : Nat) : Stmt := PySem.Challenge.pw_fewestbits_k47_whole_floors_joined_and_p.main.body.getD i (.Pass ⟨0, 0, 0, 0⟩)
abbrev s_check_text : Stmt := top 7
abbrev s_check_alphabet : Stmt := top 8
abbrev s_check_over : Stmt := top 9
abbrev s_letters_of : Stmt := top 10
abbrev s_counts_of : Stmt := top 11
abbrev s_check_counts : Stmt := top 12
abbrev s_power : Stmt := top 13
abbrev s_power_product : Stmt := top 14
abbrev s_is_enough : Stmt := top 15
abbrev s_floor_bits : Stmt := top 16
abbrev s_runs_of : Stmt := top 17
abbrev s_text_of_runs : Stmt := top 18
abbrev s_moved_front : Stmt := top 19
abbrev s_from_front : Stmt := top 20
abbrev s_context_counts : Stmt := top 21
abbrev s_context_floor : Stmt := top 22
abbrev s__law_tape : Stmt := top 24
abbrev s__law_take : Stmt := top 25
abbrev s__law_text : Stmt := top 26
abbrev s__law_counts : Stmt := top 27
abbrev s__law_digits : Stmt := top 28
abbrev s_law : Stmt := top 29
structure Txt (K : PySem.W.Frag) (mg : Str → Option Value) : Prop where
  a_check_text : At K mg "check_text" "check_text" s_check_text ["text"]
  a_check_alphabet : At K mg "check_alphabet" "check_alphabet" s_check_alphabet ["alphabet"]
  a_check_over : At K mg "check_over" "check_over" s_check_over ["alphabet", "text"]
  a_letters_of : At K mg "letters_of" "letters_of" s_letters_of ["text"]
  a_counts_of : At K mg "counts_of" "counts_of" s_counts_of ["alphabet", "text"]
  a_check_counts : At K mg "check_counts" "check_counts" s_check_counts ["counts"]
  a_power : At K mg "power" "power" s_power ["base", "times"]
  a_power_product : At K mg "power_product" "power_product" s_power_product ["counts"]
  a_is_enough : At K mg "is_enough" "is_enough" s_is_enough ["counts", "bits"]
  a_floor_bits : At K mg "floor_bits" "floor_bits" s_floor_bits ["counts"]
  a_runs_of : At K mg "runs_of" "runs_of" s_runs_of ["text"]
  a_text_of_runs : At K mg "text_of_runs" "text_of_runs" s_text_of_runs ["runs"]
  a_moved_front : At K mg "moved_front" "moved_front" s_moved_front ["alphabet", "text"]
  a_from_front : At K mg "from_front" "from_front" s_from_front ["alphabet", "places"]
  a_context_counts : At K mg "context_counts" "context_counts" s_context_counts ["alphabet", "text", "order"]
  a_context_floor : At K mg "context_floor" "context_floor" s_context_floor ["alphabet", "text", "order"]
  a__law_tape : At K mg "_law_tape" "_law_tape" s__law_tape ["script"]
  a__law_take : At K mg "_law_take" "_law_take" s__law_take ["tape", "many"]
  a__law_text : At K mg "_law_text" "_law_text" s__law_text ["tape", "letters", "most"]
  a__law_counts : At K mg "_law_counts" "_law_counts" s__law_counts ["tape", "many"]
  a__law_digits : At K mg "_law_digits" "_law_digits" s__law_digits ["number"]
  a_law : At K mg "law" "law" s_law ["script"]
  b_abs : mg "abs" = none
  b_all : mg "all" = none
  b_any : mg "any" = none
  b_int : mg "int" = none
  b_len : mg "len" = none
  b_list : mg "list" = none
  b_max : mg "max" = none
  b_range : mg "range" = none
  b_set : mg "set" = none
  b_sorted : mg "sorted" = none
  b_str : mg "str" = none
  b_sum : mg "sum" = none
  b_tuple : mg "tuple" = none
  b_zip : mg "zip" = none
  c_LOWER : Con K mg "LOWER" (.str [97, 98, 99, 100, 101, 102, 103, 104, 105, 106, 107, 108, 109, 110, 111, 112, 113, 114, 115, 116, 117, 118, 119, 120, 121, 122])
  c_MOST_LENGTH : Con K mg "MOST_LENGTH" (.int 2000)
section
variable {P : Program} {w : World} {K : PySem.W.Frag} {mg : Str → Option Value} {base : Heap}
theorem sc_check_text : FnScope ("text" :: "sign" :: []) ("text" :: []) (defScope s_check_text) := ⟨rfl, rfl, rfl, by decide +kernel, rfl, by decide +kernel, by decide +kernel⟩
theorem C_check_text (T : Txt K mg) : Cal P w K mg base (fun _ => 0) 1 "check_text" 1 F_check_text := by
  have sc := sc_check_text
  refine Cal.mk' (k := 0) 2 B_check_text T.a_check_text sc_check_text rfl rfl rfl rfl fun fa cdv A outer s H E hr => ?_
  exact (ds_one (ds_if (dt_w (dw_or (dt_cmp oh_gt.d (de_clB ch_len (by rfl) T.b_len boot_len (da_cons (de_var 0) da_nil)) (de_con T.c_MOST_LENGTH) (nomark _)) (dw_or1 (dt_not (dt_val (de_clB (ch_all rfl) (by rfl) T.b_all (by decide +kernel) (da_cons (de_fz (df_lc (own := [("sign", 1)]) rfl sc.nd (di_de (de_var 0)) (blkOk_by (by kernel_rfl)) (fun _ _ _ _ _ => (dg_name 1 sc.nd)) (fun _ _ _ _ _ => dts_nil) (fun _ _ _ _ _ => (de_cmp (oh_in (r65 hr)).d (de_var 1) (de_con T.c_LOWER) (by rfl))) (by decide))) da_nil))))))) dss_never ds_nil))
theorem sc_check_alphabet : FnScope ("alphabet" :: "one" :: "other" :: []) ("alphabet" :: []) (defScope s_check_alphabet) := ⟨rfl, rfl, rfl, by decide +kernel, rfl, by decide +kernel, by decide +kernel⟩
theorem C_check_alphabet (T : Txt K mg) : Cal P w K mg base (fun _ => 0) 2 "check_alphabet" 1 F_check_alphabet := by
  have C_check_text : Cal P w K mg base (fun _ => 0) 1 "check_text" 1 F_check_text := C_check_text T
  have sc := sc_check_alphabet
  refine Cal.mk' (k := 1) 3 B_check_alphabet T.a_check_alphabet sc_check_alphabet rfl rfl rfl rfl fun fa cdv A outer s H E hr => ?_
  exact (ds_cons (ds_expr (de_cal C_check_text (hr.mono (by decide)) (da_cons (de_var 0) da_nil) (len_cons len_nil)))
  (ds_one (ds_if (dt_w (dw_or (dt_not (dt_truth (de_var 0))) (dw_or1 (dt_not (dt_val (de_clB (ch_all rfl) (by rfl) T.b_all (by decide +kernel) (da_cons (de_fz (df_lc (own := [("one", 1), ("other", 2)]) rfl sc.nd (di_zip (by rfl) T.b_zip (da_cons (de_slice (de_var 0) do_none (do_some (de_un uh_neg de_int))) (da_cons (de_slice (de_var 0) (do_some de_int) do_none) da_nil))) (blkOk_by (by kernel_rfl)) (fun _ _ _ _ _ => (dg_tup rfl (dgs_cons (dg_name 1 sc.nd) (dgs_cons (dg_name 2 sc.nd) dgs_nil)) (hu := (len_cs (len_cs (fun _ _ _ => len_nl)))))) (fun _ _ _ _ _ => dts_nil) (fun _ _ _ _ _ => (de_cmp oh_lt.d (de_var 1) (de_var 2) (nomark _))) (by decide))) da_nil))))))) dss_never ds_nil)))
theorem sc_check_over : FnScope ("alphabet" :: "text" :: "sign" :: []) ("alphabet" :: "text" :: []) (defScope s_check_over) := ⟨rfl, rfl, rfl, by decide +kernel, rfl, by decide +kernel, by decide +kernel⟩
theorem C_check_over (T : Txt K mg) : Cal P w K mg base (fun _ => 0) 3 "check_over" 2 F_check_over := by
  have C_check_alphabet : Cal P w K mg base (fun _ => 0) 2 "check_alphabet" 1 F_check_alphabet := C_check_alphabet T
  have C_check_text : Cal P w K mg base (fun _ => 0) 1 "check_text" 1 F_check_text := C_check_text T
  have sc := sc_check_over
  refine Cal.mk' (k := 2) 3 B_check_over T.a_check_over sc_check_over rfl rfl rfl rfl fun fa cdv A outer s H E hr => ?_
  exact (ds_cons (ds_expr (de_cal C_check_alphabet (hr.mono (by decide)) (da_cons (de_var 0) da_nil) (len_cons len_nil)))
  (ds_cons (ds_expr (de_cal C_check_text (hr.mono (by decide)) (da_cons (de_var 1) da_nil) (len_cons len_nil)))
  (ds_one (ds_if (dt_not (dt_val (de_clB (ch_all rfl) (by rfl) T.b_all (by decide +kernel) (da_cons (de_fz (df_lc (own := [("sign", 2)]) rfl sc.nd (di_de (de_var 1)) (blkOk_by (by kernel_rfl)) (fun _ _ _ _ _ => (dg_name 2 sc.nd)) (fun _ _ _ _ _ => dts_nil) (fun _ _ _ _ _ => (de_cmp (oh_in (r65 hr)).d (de_var 2) (de_var 0) (by rfl))) (by decide))) da_nil)))) dss_never ds_nil))))
theorem sc_letters_of : FnScope ("text" :: []) ("text" :: []) (defScope s_letters_of) := ⟨rfl, rfl, rfl, by decide +kernel, rfl, by decide +kernel, by decide +kernel⟩
theorem C_letters_of (T : Txt K mg) : Cal P w K mg base (fun _ => 0) 2 "letters_of" 1 F_letters_of := by
  have C_check_text : Cal P w K mg base (fun _ => 0) 1 "check_text" 1 F_check_text := C_check_text T
  have sc := sc_letters_of
  refine Cal.mk' (k := 1) 1 B_letters_of T.a_letters_of sc_letters_of rfl rfl rfl rfl fun fa cdv A outer s H E hr => ?_
  exact (ds_cons (ds_expr (de_cal C_check_text (hr.mono (by decide)) (da_cons (de_var 0) da_nil) (len_cons len_nil)))
  (ds_one (ds_ret (de_join (de_str []) (de_soSe rfl (by rfl) T.b_sorted (by rfl) T.b_set (de_var 0))))))
theorem sc_counts_of : FnScope ("alphabet" :: "text" :: "letter" :: []) ("alphabet" :: "text" :: []) (defScope s_counts_of) := ⟨rfl, rfl, rfl, by decide +kernel, rfl, by decide +kernel, by decide +kernel⟩
theorem C_counts_of (T : Txt K mg) : Cal P w K mg base (fun _ => 0) 4 "counts_of" 2 F_counts_of := by
  have C_check_over : Cal P w K mg base (fun _ => 0) 3 "check_over" 2 F_check_over := C_check_over T
  have sc := sc_counts_of
  refine Cal.mk' (k := 3) 3 B_counts_of T.a_counts_of sc_counts_of rfl rfl rfl rfl fun fa cdv A outer s H E hr => ?_
  exact (ds_cons (ds_expr (de_cal C_check_over (hr.mono (by decide)) (da_cons (de_var 0) (da_cons (de_var 1) da_nil)) (len_cons (len_cons len_nil))))
  (ds_one (ds_ret (de_clT ch_tuple (by rfl) T.b_tuple boot_tuple (da_cons (de_fz (df_lc (own := [("letter", 2)]) rfl sc.nd (di_de (de_var 0)) (blkOk_by (by kernel_rfl)) (fun _ _ _ _ _ => (dg_name 2 sc.nd)) (fun _ _ _ _ _ => dts_nil) (fun _ _ _ _ _ => (de_count (de_var 1) (de_var 2))) (by decide))) da_nil)))))
theorem sc_check_counts : FnScope ("counts" :: "count" :: []) ("counts" :: []) (defScope s_check_counts) := ⟨rfl, rfl, rfl, by decide +kernel, rfl, by decide +kernel, by decide +kernel⟩
theorem C_check_counts (T : Txt K mg) : Cal P w K mg base (fun _ => 0) 1 "check_counts" 1 F_check_counts := by
  have sc := sc_check_counts
  refine Cal.mk' (k := 0) 2 B_check_counts T.a_check_counts sc_check_counts rfl rfl rfl rfl fun fa cdv A outer s H E hr => ?_
  exact (ds_one (ds_if (dt_w (dw_or (dt_not (dt_chain oh_le.d oh_le.d de_int (de_clB ch_len (by rfl) T.b_len boot_len (da_cons (de_var 0) da_nil)) de_int)) (dw_or1 (dt_not (dt_val (de_clB (ch_all rfl) (by rfl) T.b_all (by decide +kernel) (da_cons (de_fz (df_lc (own := [("count", 1)]) rfl sc.nd (di_de (de_var 0)) (blkOk_by (by kernel_rfl)) (fun _ _ _ _ _ => (dg_name 1 sc.nd)) (fun _ _ _ _ _ => dts_nil) (fun _ _ _ _ _ => (de_chain oh_le.d oh_le.d de_int (de_var 1) (de_op oh_pow.d de_int de_int))) (by decide))) da_nil))))))) dss_never ds_nil))
theorem sc_power : FnScope ("base" :: "times" :: "found" :: []) ("base" :: "times" :: []) (defScope s_power) := ⟨rfl, rfl, rfl, by decide +kernel, rfl, by decide +kernel, by decide +kernel⟩
theorem C_power (T : Txt K mg) : Cal P w K mg base (fun _ => 0) 1 "power" 2 F_power := by
  have sc := sc_power
  refine Cal.mk' (k := 0) 3 B_power T.a_power sc_power rfl rfl rfl rfl fun fa cdv A outer s H E hr => ?_
  exact (ds_cons (ds_set 2 sc.nd de_int)
  (ds_cons (ds_while PassesOwn.never (dt_cmp oh_gt.d (de_var 1) de_int (nomark _)) (ds_cons (ds_if (dt_cmp (oh_eq (r64 hr)).d (de_op oh_mod.d (de_var 1) de_int) de_int (nomark _)) (ds_one (ds_set 2 sc.nd (de_op oh_mul.d (de_var 2) (de_var 0)))) ds_nil)
  (ds_cons (ds_set 0 sc.nd (de_op oh_mul.d (de_var 0) (de_var 0)))
  (ds_one (ds_aug 1 sc.nd oi_div de_int)))))
  (ds_one (ds_ret (de_var 2)))))
theorem sc_power_product : FnScope ("counts" :: "found" :: "count" :: []) ("counts" :: []) (defScope s_power_product) := ⟨rfl, rfl, rfl, by decide +kernel, rfl, by decide +kernel, by decide +kernel⟩
theorem C_power_product (T : Txt K mg) : Cal P w K mg base (fun _ => 0) 2 "power_product" 1 F_power_product := by
  have C_power : Cal P w K mg base (fun _ => 0) 1 "power" 2 F_power := C_power T
  have sc := sc_power_product
  refine Cal.mk' (k := 1) 3 B_power_product T.a_power_product sc_power_product rfl rfl rfl rfl fun fa cdv A outer s H E hr => ?_
  exact (ds_cons (ds_set 1 sc.nd de_int)
  (ds_cons (ds_for PassesOwn.never rfl (di_de (de_var 0)) (dg_name 2 sc.nd) (ds_one (ds_set 1 sc.nd (de_op oh_mul.d (de_var 1) (de_cal C_power (hr.mono (by decide)) (da_cons (de_var 2) (da_cons (de_var 2) da_nil)) (len_cons (len_cons len_nil)))))))
  (ds_one (ds_ret (de_var 1)))))
theorem sc_is_enough : FnScope ("counts" :: "bits" :: "total" :: []) ("counts" :: "bits" :: []) (defScope s_is_enough) := ⟨rfl, rfl, rfl, by decide +kernel, rfl, by decide +kernel, by decide +kernel⟩
theorem C_is_enough (T : Txt K mg) : Cal P w K mg base (fun _ => 0) 3 "is_enough" 2 F_is_enough := by
  have C_check_counts : Cal P w K mg base (fun _ => 0) 1 "check_counts" 1 F_check_counts := C_check_counts T
  have C_power : Cal P w K mg base (fun _ => 0) 1 "power" 2 F_power := C_power T
  have C_power_product : Cal P w K mg base (fun _ => 0) 2 "power_product" 1 F_power_product := C_power_product T
  have sc := sc_is_enough
  refine Cal.mk' (k := 2) 3 B_is_enough T.a_is_enough sc_is_enough rfl rfl rfl rfl fun fa cdv A outer s H E hr => ?_
  exact (ds_cons (ds_expr (de_cal C_check_counts (hr.mono (by decide)) (da_cons (de_var 0) da_nil) (len_cons len_nil)))
  (ds_cons (ds_if (dt_cmp oh_gt.d (de_clB (ch_sum rfl) (by rfl) T.b_sum (by decide +kernel) (da_cons (de_var 0) da_nil)) de_int (nomark _)) dss_never ds_nil)
  (ds_cons (ds_set 2 sc.nd (de_clB (ch_sum rfl) (by rfl) T.b_sum (by decide +kernel) (da_cons (de_var 0) da_nil)))
  (ds_one (ds_ret (de_and (de_cmp oh_ge.d (de_var 1) de_int (nomark _)) (de_one (de_cmp oh_ge.d (de_op oh_shl.d (de_cal C_power_product (hr.mono (by decide)) (da_cons (de_var 0) da_nil) (len_cons len_nil)) (de_var 1)) (de_cal C_power (hr.mono (by decide)) (da_cons (de_var 2) (da_cons (de_var 2) da_nil)) (len_cons (len_cons len_nil))) (nomark _)))))))))
theorem sc_floor_bits : FnScope ("counts" :: "low" :: "high" :: "middle" :: []) ("counts" :: []) (defScope s_floor_bits) := ⟨rfl, rfl, rfl, by decide +kernel, rfl, by decide +kernel, by decide +kernel⟩
theorem C_floor_bits (T : Txt K mg) : Cal P w K mg base (fun _ => 0) 4 "floor_bits" 1 F_floor_bits := by
  have C_is_enough : Cal P w K mg base (fun _ => 0) 3 "is_enough" 2 F_is_enough := C_is_enough T
  have sc := sc_floor_bits
  refine Cal.mk' (k := 3) 4 B_floor_bits T.a_floor_bits sc_floor_bits rfl rfl rfl rfl fun fa cdv A outer s H E hr => ?_
  exact (ds_cons (ds_asg (dg_tup rfl (dgs_cons (dg_name 1 sc.nd) (dgs_cons (dg_name 2 sc.nd) dgs_nil)) (hu := (len_cs (len_cs (fun _ _ _ => len_nl))))) (de_tup (da_cons de_int (da_cons de_int da_nil))))
  (ds_cons (ds_while PassesOwn.never (dt_not (dt_val (de_cal C_is_enough (hr.mono (by decide)) (da_cons (de_var 0) (da_cons (de_var 2) da_nil)) (len_cons (len_cons len_nil))))) (ds_one (ds_aug 2 sc.nd oi_mul de_int)))
  (ds_cons (ds_while PassesOwn.never (dt_cmp oh_lt.d (de_var 1) (de_var 2) (nomark _)) (ds_cons (ds_set 3 sc.nd (de_op oh_div.d (de_op oh_add.d (de_var 1) (de_var 2)) de_int))
  (ds_one (ds_if (dt_val (de_cal C_is_enough (hr.mono (by decide)) (da_cons (de_var 0) (da_cons (de_var 3) da_nil)) (len_cons (len_cons len_nil)))) (ds_one (ds_set 2 sc.nd (de_var 3))) (ds_one (ds_set 1 sc.nd (de_op oh_add.d (de_var 3) de_int)))))))
  (ds_one (ds_ret (de_var 1))))))
theorem sc_runs_of : FnScope ("text" :: "found" :: "sign" :: []) ("text" :: []) (defScope s_runs_of) := ⟨rfl, rfl, rfl, by decide +kernel, rfl, by decide +kernel, by decide +kernel⟩
theorem C_runs_of (T : Txt K mg) : Cal P w K mg base (fun _ => 0) 2 "runs_of" 1 F_runs_of := by
  have C_check_text : Cal P w K mg base (fun _ => 0) 1 "check_text" 1 F_check_text := C_check_text T
  have sc := sc_runs_of
  refine Cal.mk' (k := 1) 3 B_runs_of T.a_runs_of sc_runs_of rfl rfl rfl rfl fun fa cdv A outer s H E hr => ?_
  exact (ds_cons (ds_expr (de_cal C_check_text (hr.mono (by decide)) (da_cons (de_var 0) da_nil) (len_cons len_nil)))
  (ds_cons (ds_own 1 sc.nd (df_lst da_nil))
  (ds_cons (ds_for PassesOwn.never rfl (di_de (de_var 0)) (dg_name 2 sc.nd) (ds_one (ds_if (dt_w (dw_and (dt_truthL 1 (pv 1)) (dw_and1 (dt_cmp (oh_eq (r64 hr)).d (de_ix' (de_ixL' 1 (pv 1) (de_un uh_neg de_int)) de_int) (de_var 2) (nomark _))))) (ds_one (ds_setL 1 (pv 1) (de_un uh_neg de_int) (de_tup (da_cons (de_var 2) (da_cons (de_op oh_add.d (de_ix' (de_ixL' 1 (pv 1) (de_un uh_neg de_int)) de_int) de_int) da_nil))))) (ds_one (ds_expr (de_mtL 1 mo_append PySem.F.slot_list_append PySem.F.type_list_append (pv 1) (de_tup (da_cons (de_var 2) (da_cons de_int da_nil)))))))))
  (ds_one (ds_ret (de_clT1 1 ch_tuple (by rfl) T.b_tuple boot_tuple (pv 1)))))))
theorem sc_text_of_runs : FnScope ("runs" :: "letter" :: "length" :: "one" :: "other" :: []) ("runs" :: []) (defScope s_text_of_runs) := ⟨rfl, rfl, rfl, by decide +kernel, rfl, by decide +kernel, by decide +kernel⟩
theorem C_text_of_runs (T : Txt K mg) : Cal P w K mg base (fun _ => 0) 1 "text_of_runs" 1 F_text_of_runs := by
  have sc := sc_text_of_runs
  refine Cal.mk' (k := 0) 5 B_text_of_runs T.a_text_of_runs sc_text_of_runs rfl rfl rfl rfl fun fa cdv A outer s H E hr => ?_
  exact (ds_cons (ds_for PassesOwn.never rfl (di_de (de_var 0)) (dg_tup rfl (dgs_cons (dg_name 1 sc.nd) (dgs_cons (dg_name 2 sc.nd) dgs_nil)) (hu := (len_cs (len_cs (fun _ _ _ => len_nl))))) (ds_one (ds_if (dt_w (dw_or (dt_cmp (oh_notin (r65 hr)).d (de_var 1) (de_con T.c_LOWER) (by rfl)) (dw_or (dt_cmp (oh_ne (r64 hr)).d (de_clB ch_len (by rfl) T.b_len boot_len (da_cons (de_var 1) da_nil)) de_int (nomark _)) (dw_or1 (dt_cmp oh_lt.d (de_var 2) de_int (nomark _)))))) dss_never ds_nil)))
  (ds_cons (ds_if (dt_val (de_clB (ch_any rfl) (by rfl) T.b_any (by decide +kernel) (da_cons (de_fz (df_lc (own := [("one", 3), ("other", 4)]) rfl sc.nd (di_zip (by rfl) T.b_zip (da_cons (de_slice (de_var 0) do_none (do_some (de_un uh_neg de_int))) (da_cons (de_slice (de_var 0) (do_some de_int) do_none) da_nil))) (blkOk_by (by kernel_rfl)) (fun _ _ _ _ _ => (dg_tup rfl (dgs_cons (dg_name 3 sc.nd) (dgs_cons (dg_name 4 sc.nd) dgs_nil)) (hu := (len_cs (len_cs (fun _ _ _ => len_nl)))))) (fun _ _ _ _ _ => dts_nil) (fun _ _ _ _ _ => (de_cmp (oh_eq (r64 hr)).d (de_ix' (de_var 3) de_int) (de_ix' (de_var 4) de_int) (nomark _))) (by decide))) da_nil))) dss_never ds_nil)
  (ds_one (ds_ret (de_join (de_str []) (de_fz (df_lc (own := [("letter", 1), ("length", 2)]) rfl sc.nd (di_de (de_var 0)) (blkOk_by (by kernel_rfl)) (fun _ _ _ _ _ => (dg_tup rfl (dgs_cons (dg_name 1 sc.nd) (dgs_cons (dg_name 2 sc.nd) dgs_nil)) (hu := (len_cs (len_cs (fun _ _ _ => len_nl)))))) (fun _ _ _ _ _ => dts_nil) (fun _ _ _ _ _ => (de_op oh_mul.d (de_var 1) (de_var 2))) (by decide))))))))
theorem sc_moved_front : FnScope ("alphabet" :: "text" :: "row" :: "found" :: "sign" :: "place" :: []) ("alphabet" :: "text" :: []) (defScope s_moved_front) := ⟨rfl, rfl, rfl, by decide +kernel, rfl, by decide +kernel, by decide +kernel⟩
theorem C_moved_front (T : Txt K mg) : Cal P w K mg base (fun _ => 0) 4 "moved_front" 2 F_moved_front := by
  have C_check_over : Cal P w K mg base (fun _ => 0) 3 "check_over" 2 F_check_over := C_check_over T
  have sc := sc_moved_front
  refine Cal.mk' (k := 3) 6 B_moved_front T.a_moved_front sc_moved_front rfl rfl rfl rfl fun fa cdv A outer s H E hr => ?_
  exact (ds_cons (ds_expr (de_cal C_check_over (hr.mono (by decide)) (da_cons (de_var 0) (da_cons (de_var 1) da_nil)) (len_cons (len_cons len_nil))))
  (ds_cons (ds_set 2 sc.nd (de_var 0))
  (ds_cons (ds_own 3 sc.nd (df_lst da_nil))
  (ds_cons (ds_for PassesOwn.never rfl (di_de (de_var 1)) (dg_name 4 sc.nd) (ds_cons (ds_set 5 sc.nd (de_index (de_var 2) (de_var 4)))
  (ds_cons (ds_expr (de_mtL 3 mo_append PySem.F.slot_list_append PySem.F.type_list_append (pv 3) (de_var 5)))
  (ds_one (ds_set 2 sc.nd (de_op oh_add.d (de_op oh_add.d (de_var 4) (de_slice (de_var 2) do_none (do_some (de_var 5)))) (de_slice (de_var 2) (do_some (de_op oh_add.d (de_var 5) de_int)) do_none)))))))
  (ds_one (ds_ret (de_clT1 3 ch_tuple (by rfl) T.b_tuple boot_tuple (pv 3))))))))
theorem sc_from_front : FnScope ("alphabet" :: "places" :: "row" :: "text" :: "place" :: "sign" :: []) ("alphabet" :: "places" :: []) (defScope s_from_front) := ⟨rfl, rfl, rfl, by decide +kernel, rfl, by decide +kernel, by decide +kernel⟩
theorem C_from_front (T : Txt K mg) : Cal P w K mg base (fun _ => 0) 3 "from_front" 2 F_from_front := by
  have C_check_alphabet : Cal P w K mg base (fun _ => 0) 2 "check_alphabet" 1 F_check_alphabet := C_check_alphabet T
  have sc := sc_from_front
  refine Cal.mk' (k := 2) 6 B_from_front T.a_from_front sc_from_front rfl rfl rfl rfl fun fa cdv A outer s H E hr => ?_
  exact (ds_cons (ds_expr (de_cal C_check_alphabet (hr.mono (by decide)) (da_cons (de_var 0) da_nil) (len_cons len_nil)))
  (ds_cons (ds_if (dt_not (dt_val (de_clB (ch_all rfl) (by rfl) T.b_all (by decide +kernel) (da_cons (de_fz (df_lc (own := [("place", 4)]) rfl sc.nd (di_de (de_var 1)) (blkOk_by (by kernel_rfl)) (fun _ _ _ _ _ => (dg_name 4 sc.nd)) (fun _ _ _ _ _ => dts_nil) (fun _ _ _ _ _ => (de_chain oh_le.d oh_lt.d de_int (de_var 4) (de_clB ch_len (by rfl) T.b_len boot_len (da_cons (de_var 0) da_nil)))) (by decide))) da_nil)))) dss_never ds_nil)
  (ds_cons (ds_set 2 sc.nd (de_var 0))
  (ds_cons (ds_set 3 sc.nd (de_str []))
  (ds_cons (ds_for PassesOwn.never rfl (di_de (de_var 1)) (dg_name 4 sc.nd) (ds_cons (ds_set 5 sc.nd (de_ix' (de_var 2) (de_var 4)))
  (ds_cons (ds_set 3 sc.nd (de_op oh_add.d (de_var 3) (de_var 5)))
  (ds_one (ds_set 2 sc.nd (de_op oh_add.d (de_op oh_add.d (de_var 5) (de_slice (de_var 2) do_none (do_some (de_var 4)))) (de_slice (de_var 2) (do_some (de_op oh_add.d (de_var 4) de_int)) do_none)))))))
  (ds_one (ds_ret (de_var 3))))))))
theorem sc_context_counts : FnScope ("alphabet" :: "text" :: "order" :: "found" :: "at" :: "context" :: "row" :: "place" :: []) ("alphabet" :: "text" :: "order" :: []) (defScope s_context_counts) := ⟨rfl, rfl, rfl, by decide +kernel, rfl, by decide +kernel, by decide +kernel⟩
theorem C_context_counts (T : Txt K mg) : Cal P w K mg base (fun _ => 0) 4 "context_counts" 3 F_context_counts := by
  have C_check_over : Cal P w K mg base (fun _ => 0) 3 "check_over" 2 F_check_over := C_check_over T
  have sc := sc_context_counts
  refine Cal.mk' (k := 3) 8 B_context_counts T.a_context_counts sc_context_counts rfl rfl rfl rfl fun fa cdv A outer s H E hr => ?_
  exact (ds_cons (ds_expr (de_cal C_check_over (hr.mono (by decide)) (da_cons (de_var 0) (da_cons (de_var 1) da_nil)) (len_cons (len_cons len_nil))))
  (ds_cons (ds_if (dt_not (dt_chain oh_le.d oh_le.d de_int (de_var 2) de_int)) dss_never ds_nil)
  (ds_cons (ds_ownK 3 sc.nd df_dnew)
  (ds_cons (ds_for PassesOwn.never rfl (di_range2 (by rfl) T.b_range (da_cons (de_var 2) (da_cons (de_clB ch_len (by rfl) T.b_len boot_len (da_cons (de_var 1) da_nil)) da_nil))) (dg_name 4 sc.nd) (ds_cons (ds_set 5 sc.nd (de_slice (de_var 1) (do_some (de_op oh_sub.d (de_var 4) (de_var 2))) (do_some (de_var 4))))
  (ds_cons (ds_set 6 sc.nd (de_dget2L 3 (r1 hr) (pv 3) (de_var 5) (de_op oh_mul.d (de_tup (da_cons de_int da_nil)) (de_clB ch_len (by rfl) T.b_len boot_len (da_cons (de_var 0) da_nil))) m2))
  (ds_cons (ds_set 7 sc.nd (de_index (de_var 0) (de_ix' (de_var 1) (de_var 4))))
  (ds_one (ds_dputL 3 (r1 hr) (pv 3) (de_var 5) (de_op oh_add.d (de_op oh_add.d (de_slice (de_var 6) do_none (do_some (de_var 7))) (de_tup (da_cons (de_op oh_add.d (de_ix' (de_var 6) (de_var 7)) de_int) da_nil))) (de_slice (de_var 6) (do_some (de_op oh_add.d (de_var 7) de_int)) do_none))))))))
  (ds_one (ds_ret (de_out 3)))))))
theorem sc_context_floor : FnScope ("alphabet" :: "text" :: "order" :: "row" :: []) ("alphabet" :: "text" :: "order" :: []) (defScope s_context_floor) := ⟨rfl, rfl, rfl, by decide +kernel, rfl, by decide +kernel, by decide +kernel⟩
theorem C_context_floor (T : Txt K mg) : Cal P w K mg base (fun _ => 0) 5 "context_floor" 3 F_context_floor := by
  have C_context_counts : Cal P w K mg base (fun _ => 0) 4 "context_counts" 3 F_context_counts := C_context_counts T
  have C_floor_bits : Cal P w K mg base (fun _ => 0) 4 "floor_bits" 1 F_floor_bits := C_floor_bits T
  have sc := sc_context_floor
  refine Cal.mk' (k := 4) 4 B_context_floor T.a_context_floor sc_context_floor rfl rfl rfl rfl fun fa cdv A outer s H E hr => ?_
  exact (ds_one (ds_ret (de_clB (ch_sum rfl) (by rfl) T.b_sum (by decide +kernel) (da_cons (de_fz (df_lc (own := [("row", 3)]) rfl sc.nd (di_vals (de_cal C_context_counts (hr.mono (by decide)) (da_cons (de_var 0) (da_cons (de_var 1) (da_cons (de_var 2) da_nil))) (len_cons (len_cons (len_cons len_nil))))) (blkOk_by (by kernel_rfl)) (fun _ _ _ _ _ => (dg_name 3 sc.nd)) (fun _ _ _ _ _ => dts_nil) (fun _ _ _ _ _ => (de_cal C_floor_bits (hr.mono (by decide)) (da_cons (de_var 3) da_nil) (len_cons len_nil))) (by decide))) da_nil))))
theorem sc__law_tape : FnScope ("script" :: "cells" :: "seed" :: "cell" :: []) ("script" :: []) (defScope s__law_tape) := ⟨rfl, rfl, rfl, by decide +kernel, rfl, by decide +kernel, by decide +kernel⟩
theorem C__law_tape (T : Txt K mg) : Cal P w K mg base (fun _ => 0) 1 "_law_tape" 1 F__law_tape := by
  have sc := sc__law_tape
  refine Cal.mk' (k := 0) 4 B__law_tape T.a__law_tape sc__law_tape rfl rfl rfl rfl fun fa cdv A outer s H E hr => ?_
  exact (ds_cons (ds_setLc 1 (own := [("cell", 3)]) rfl sc.nd rfl rfl (by rfl) (di_de (de_var 0)) (blkOk_by (by kernel_rfl)) (fun _ _ _ _ _ => (dg_name 3 sc.nd)) (fun _ _ _ _ _ => dts_nil) (fun _ _ _ _ _ => (de_clB ch_abs (by rfl) T.b_abs (by decide +kernel) (da_cons (de_clT ch_int (by rfl) T.b_int boot_int (da_cons (de_var 3) da_nil)) da_nil))) (by decide))
  (ds_cons (ds_set 2 sc.nd de_int)
  (ds_cons (ds_for PassesOwn.never rfl (di_de (de_var 1)) (dg_name 3 sc.nd) (ds_one (ds_set 2 sc.nd (de_op oh_mod.d (de_clT ch_int (by rfl) T.b_int boot_int (da_cons (de_op oh_add.d (de_op oh_mul.d (de_var 2) de_int) (de_var 3)) da_nil)) de_int))))
  (ds_one (ds_ret (de_newO (df_disp (dd_cons (de_str [99, 101, 108, 108, 115]) (de_var 1) (dd_cons (de_str [97, 116]) de_int (dd_cons (de_str [108, 101, 102, 116]) de_int (dd_cons (de_str [115, 101, 101, 100]) (de_var 2) (dd_cons (de_str [115, 97, 108, 116]) de_int dd_nil))))))))))))
theorem sc__law_take : FnScope ("tape" :: "many" :: "drawn" :: "mixed" :: []) ("tape" :: "many" :: []) (defScope s__law_take) := ⟨rfl, rfl, rfl, by decide +kernel, rfl, by decide +kernel, by decide +kernel⟩
theorem C__law_take (T : Txt K mg) : Cal P w K mg base (fun _ => 0) 1 "_law_take" 2 F__law_take := by
  have sc := sc__law_take
  refine Cal.mk' (k := 0) 4 B__law_take T.a__law_take sc__law_take rfl rfl rfl rfl fun fa cdv A outer s H E hr => ?_
  exact (ds_cons (ds_if (dt_w (dw_and (dt_cmp (oh_eq (r64 hr)).d (de_dget' (r1 hr) (de_var 0) (de_str [108, 101, 102, 116])) de_int (nomark _)) (dw_and1 (dt_cmp oh_lt.d (de_dget' (r1 hr) (de_var 0) (de_str [97, 116])) (de_clB ch_len (by rfl) T.b_len boot_len (da_cons (de_dget' (r1 hr) (de_var 0) (de_str [99, 101, 108, 108, 115])) da_nil)) (nomark _))))) (ds_cons (ds_dputO (r1 hr) (de_var 0) (de_str [108, 101, 102, 116]) (de_ix' (de_dget' (r1 hr) (de_var 0) (de_str [99, 101, 108, 108, 115])) (de_dget' (r1 hr) (de_var 0) (de_str [97, 116]))))
  (ds_one (ds_dputO (r1 hr) (de_var 0) (de_str [97, 116]) (de_op oh_add.d (de_dget' (r1 hr) (de_var 0) (de_str [97, 116])) de_int)))) ds_nil)
  (ds_cons (ds_if (dt_cmp oh_gt.d (de_dget' (r1 hr) (de_var 0) (de_str [108, 101, 102, 116])) de_int (nomark _)) (ds_cons (ds_set 2 sc.nd (de_op oh_mod.d (de_clT ch_int (by rfl) T.b_int boot_int (da_cons (de_dget' (r1 hr) (de_var 0) (de_str [108, 101, 102, 116])) da_nil)) (de_var 1)))
  (ds_cons (ds_dputO (r1 hr) (de_var 0) (de_str [108, 101, 102, 116]) (de_op oh_div.d (de_dget' (r1 hr) (de_var 0) (de_str [108, 101, 102, 116])) (de_var 1)))
  (ds_one (ds_ret (de_var 2))))) ds_nil)
  (ds_cons (ds_dputO (r1 hr) (de_var 0) (de_str [115, 97, 108, 116]) (de_op oh_add.d (de_dget' (r1 hr) (de_var 0) (de_str [115, 97, 108, 116])) de_int))
  (ds_cons (ds_set 3 sc.nd (de_op oh_mod.d (de_clT ch_int (by rfl) T.b_int boot_int (da_cons (de_op oh_add.d (de_op oh_mul.d (de_dget' (r1 hr) (de_var 0) (de_str [115, 101, 101, 100])) de_int) (de_op oh_mul.d (de_dget' (r1 hr) (de_var 0) (de_str [115, 97, 108, 116])) de_int)) da_nil)) de_int))
  (ds_cons (ds_set 3 sc.nd (de_op oh_mod.d (de_clT ch_int (by rfl) T.b_int boot_int (da_cons (de_op oh_add.d (de_op oh_add.d (de_op oh_mul.d (de_var 3) (de_var 3)) (de_op oh_mul.d (de_dget' (r1 hr) (de_var 0) (de_str [115, 97, 108, 116])) de_int)) de_int) da_nil)) de_int))
  (ds_one (ds_ret (de_op oh_mod.d (de_clT ch_int (by rfl) T.b_int boot_int (da_cons (de_var 3) da_nil)) (de_var 1)))))))))
theorem sc__law_text : FnScope ("tape" :: "letters" :: "most" :: "k" :: []) ("tape" :: "letters" :: "most" :: []) (defScope s__law_text) := ⟨rfl, rfl, rfl, by decide +kernel, rfl, by decide +kernel, by decide +kernel⟩
theorem C__law_text (T : Txt K mg) : Cal P w K mg base (fun _ => 0) 2 "_law_text" 3 F__law_text := by
  have C__law_take : Cal P w K mg base (fun _ => 0) 1 "_law_take" 2 F__law_take := C__law_take T
  have sc := sc__law_text
  refine Cal.mk' (k := 1) 4 B__law_text T.a__law_text sc__law_text rfl rfl rfl rfl fun fa cdv A outer s H E hr => ?_
  exact (ds_one (ds_ret (de_join (de_str []) (de_fz (df_lc (own := [("k", 3)]) rfl sc.nd (di_range1 (by rfl) T.b_range (da_cons (de_cal C__law_take (hr.mono (by decide)) (da_cons (de_var 0) (da_cons (de_op oh_add.d (de_var 2) de_int) da_nil)) (len_cons (len_cons len_nil))) da_nil)) (blkOk_by (by kernel_rfl)) (fun _ _ _ _ _ => (dg_name 3 sc.nd)) (fun _ _ _ _ _ => dts_nil) (fun _ _ _ _ _ => (de_ix' (de_var 1) (de_cal C__law_take (hr.mono (by decide)) (da_cons (de_var 0) (da_cons (de_clB ch_len (by rfl) T.b_len boot_len (da_cons (de_var 1) da_nil)) da_nil)) (len_cons (len_cons len_nil))))) (by decide))))))
theorem sc__law_counts : FnScope ("tape" :: "many" :: "k" :: []) ("tape" :: "many" :: []) (defScope s__law_counts) := ⟨rfl, rfl, rfl, by decide +kernel, rfl, by decide +kernel, by decide +kernel⟩
theorem C__law_counts (T : Txt K mg) : Cal P w K mg base (fun _ => 0) 2 "_law_counts" 2 F__law_counts := by
  have C__law_take : Cal P w K mg base (fun _ => 0) 1 "_law_take" 2 F__law_take := C__law_take T
  have sc := sc__law_counts
  refine Cal.mk' (k := 1) 3 B__law_counts T.a__law_counts sc__law_counts rfl rfl rfl rfl fun fa cdv A outer s H E hr => ?_
  exact (ds_one (ds_ret (de_clT ch_tuple (by rfl) T.b_tuple boot_tuple (da_cons (de_fz (df_lc (own := [("k", 2)]) rfl sc.nd (di_range1 (by rfl) T.b_range (da_cons (de_var 1) da_nil)) (blkOk_by (by kernel_rfl)) (fun _ _ _ _ _ => (dg_name 2 sc.nd)) (fun _ _ _ _ _ => dts_nil) (fun _ _ _ _ _ => (de_if (dt_cmp oh_gt.d (de_cal C__law_take (hr.mono (by decide)) (da_cons (de_var 0) (da_cons de_int da_nil)) (len_cons (len_cons len_nil))) de_int (nomark _)) (de_cal C__law_take (hr.mono (by decide)) (da_cons (de_var 0) (da_cons de_int da_nil)) (len_cons (len_cons len_nil))) de_int)) (by decide))) da_nil))))
theorem sc__law_digits : FnScope ("number" :: "found" :: "k" :: []) ("number" :: []) (defScope s__law_digits) := ⟨rfl, rfl, rfl, by decide +kernel, rfl, by decide +kernel, by decide +kernel⟩
theorem C__law_digits (T : Txt K mg) : Cal P w K mg base (fun _ => 0) 1 "_law_digits" 1 F__law_digits := by
  have sc := sc__law_digits
  refine Cal.mk' (k := 0) 3 B__law_digits T.a__law_digits sc__law_digits rfl rfl rfl rfl fun fa cdv A outer s H E hr => ?_
  exact (ds_cons (ds_set 1 sc.nd (de_str []))
  (ds_cons (ds_for PassesOwn.never rfl (di_range1 (by rfl) T.b_range (da_cons de_int da_nil)) (dg_name 2 sc.nd) (ds_cons (ds_if (dt_cmp (oh_eq (r64 hr)).d (de_var 0) de_int (nomark _)) (ds_one ds_break) ds_nil)
  (ds_one (ds_par 1 0 rfl sc.nd (da_cons (de_op oh_add.d (de_clT ch_str (by rfl) T.b_str boot_str (da_cons (de_op oh_mod.d (de_clT ch_int (by rfl) T.b_int boot_int (da_cons (de_var 0) da_nil)) de_int) da_nil)) (de_var 1)) (da_cons (de_op oh_div.d (de_var 0) de_int) da_nil))))))
  (ds_one (ds_ret (de_var 1)))))
theorem sc_law : FnScope ("script" :: "tape" :: "many" :: "one" :: "two" :: "first" :: "second" :: "spot" :: "double" :: "triple" :: "both" :: "beside" :: "cut" :: "less" :: "told" :: "pair" :: "more" :: "letters" :: "text" :: "order" :: "names" :: "left" :: "k" :: "bent" :: "other" :: "context" :: "row" :: "back" :: "runs" :: "thick" :: "places" :: "front" :: "sign" :: "a" :: "letter" :: "size" :: "place" :: []) ("script" :: []) (defScope s_law) := ⟨rfl, rfl, rfl, by decide +kernel, rfl, by decide +kernel, by decide +kernel⟩
theorem C_law (T : Txt K mg) {fa : Addr} {fd : FuncData} (F : Fun K "law" "law" s_law fa fd) : FnOk P w K mg base CX0 6 fa fd ["script"] (spF K (fun _ => 0) 1 F_law) := by
  have C__law_counts : Cal P w K mg base (fun _ => 0) 2 "_law_counts" 2 F__law_counts := C__law_counts T
  have C__law_digits : Cal P w K mg base (fun _ => 0) 1 "_law_digits" 1 F__law_digits := C__law_digits T
  have C__law_take : Cal P w K mg base (fun _ => 0) 1 "_law_take" 2 F__law_take := C__law_take T
  have C__law_tape : Cal P w K mg base (fun _ => 0) 1 "_law_tape" 1 F__law_tape := C__law_tape T
  have C__law_text : Cal P w K mg base (fun _ => 0) 2 "_law_text" 3 F__law_text := C__law_text T
  have C_context_counts : Cal P w K mg base (fun _ => 0) 4 "context_counts" 3 F_context_counts := C_context_counts T
  have C_context_floor : Cal P w K mg base (fun _ => 0) 5 "context_floor" 3 F_context_floor := C_context_floor T
  have C_counts_of : Cal P w K mg base (fun _ => 0) 4 "counts_of" 2 F_counts_of := C_counts_of T
  have C_floor_bits : Cal P w K mg base (fun _ => 0) 4 "floor_bits" 1 F_floor_bits := C_floor_bits T
  have C_from_front : Cal P w K mg base (fun _ => 0) 3 "from_front" 2 F_from_front := C_from_front T
  have C_is_enough : Cal P w K mg base (fun _ => 0) 3 "is_enough" 2 F_is_enough := C_is_enough T
  have C_letters_of : Cal P w K mg base (fun _ => 0) 2 "letters_of" 1 F_letters_of := C_letters_of T
  have C_moved_front : Cal P w K mg base (fun _ => 0) 4 "moved_front" 2 F_moved_front := C_moved_front T
  have C_runs_of : Cal P w K mg base (fun _ => 0) 2 "runs_of" 1 F_runs_of := C_runs_of T
  have C_text_of_runs : Cal P w K mg base (fun _ => 0) 1 "text_of_runs" 1 F_text_of_runs := C_text_of_runs T
  have sc := sc_law
  refine fn_mk' (k := 5) 37 B_law F sc_law rfl rfl rfl rfl fun fa cdv A outer s H E hr => ?_
  exact (ds_cons (ds_set 1 sc.nd (de_cal C__law_tape (hr.mono (by decide)) (da_cons (de_var 0) da_nil) (len_cons len_nil)))
  (ds_cons (ds_set 2 sc.nd (de_op oh_add.d de_int (de_cal C__law_take (hr.mono (by decide)) (da_cons (de_var 1) (da_cons de_int da_nil)) (len_cons (len_cons len_nil)))))
  (ds_cons (ds_asg (dg_tup rfl (dgs_cons (dg_name 3 sc.nd) (dgs_cons (dg_name 4 sc.nd) dgs_nil)) (hu := (len_cs (len_cs (fun _ _ _ => len_nl))))) (de_tup (da_cons (de_cal C__law_counts (hr.mono (by decide)) (da_cons (de_var 1) (da_cons (de_var 2) da_nil)) (len_cons (len_cons len_nil))) (da_cons (de_cal C__law_counts (hr.mono (by decide)) (da_cons (de_var 1) (da_cons (de_var 2) da_nil)) (len_cons (len_cons len_nil))) da_nil))))
  (ds_cons (ds_par 5 6 rfl sc.nd (da_cons (de_cal C_floor_bits (hr.mono (by decide)) (da_cons (de_var 3) da_nil) (len_cons len_nil)) (da_cons (de_cal C_floor_bits (hr.mono (by decide)) (da_cons (de_var 4) da_nil) (len_cons len_nil)) da_nil)))
  (ds_cons (ds_set 7 sc.nd (de_cal C__law_take (hr.mono (by decide)) (da_cons (de_var 1) (da_cons (de_op oh_add.d (de_var 2) de_int) da_nil)) (len_cons (len_cons len_nil))))
  (ds_cons (ds_if (dt_w (dw_or (dt_cmp (oh_ne (r64 hr)).d (de_cal C_floor_bits (hr.mono (by decide)) (da_cons (de_rev (de_var 3)) da_nil) (len_cons len_nil)) (de_var 5) (nomark _)) (dw_or (dt_cmp (oh_ne (r64 hr)).d (de_cal C_floor_bits (hr.mono (by decide)) (da_cons (de_op oh_add.d (de_op oh_add.d (de_slice (de_var 3) do_none (do_some (de_var 7))) (de_tup (da_cons de_int da_nil))) (de_slice (de_var 3) (do_some (de_var 7)) do_none)) da_nil) (len_cons len_nil)) (de_var 5) (nomark _)) (dw_or (dt_cmp oh_isnot.d (de_cal C_is_enough (hr.mono (by decide)) (da_cons (de_var 3) (da_cons (de_var 5) da_nil)) (len_cons (len_cons len_nil))) de_bl (nomark _)) (dw_or1 (dt_cmp oh_isnot.d (de_cal C_is_enough (hr.mono (by decide)) (da_cons (de_var 3) (da_cons (de_op oh_add.d (de_var 5) de_int) da_nil)) (len_cons (len_cons len_nil))) de_bl (nomark _))))))) (ds_one (ds_ret de_bl)) ds_nil)
  (ds_cons (ds_if (dt_w (dw_or (dt_w (dw_and (dt_cmp oh_gt.d (de_var 5) de_int (nomark _)) (dw_and1 (dt_val (de_cal C_is_enough (hr.mono (by decide)) (da_cons (de_var 3) (da_cons (de_op oh_sub.d (de_var 5) de_int) da_nil)) (len_cons (len_cons len_nil))))))) (dw_or (dt_cmp (oh_ne (r64 hr)).d (de_cmp (oh_eq (r64 hr)).d (de_var 5) de_int (nomark _)) (de_cmp oh_lt.d (de_clB ch_len (by rfl) T.b_len boot_len (da_cons (de_fz (df_lc (own := [("a", 33)]) rfl sc.nd (di_de (de_var 3)) (blkOk_by (by kernel_rfl)) (fun _ _ _ _ _ => (dg_name 33 sc.nd)) (fun _ _ _ _ _ => (dts_one (dt_cmp oh_gt.d (de_var 33) de_int (nomark _)))) (fun _ _ _ _ _ => (de_var 33)) (by decide))) da_nil)) de_int (nomark _)) (nomark _)) (dw_or1 (dt_val (de_cal C_is_enough (hr.mono (by decide)) (da_cons (de_var 3) (da_cons (de_op oh_sub.d de_int de_int) da_nil)) (len_cons (len_cons len_nil)))))))) (ds_one (ds_ret de_bl)) ds_nil)
  (ds_cons (ds_set 8 sc.nd (de_cal C_floor_bits (hr.mono (by decide)) (da_cons (de_clT ch_tuple (by rfl) T.b_tuple boot_tuple (da_cons (de_fz (df_lc (own := [("a", 33)]) rfl sc.nd (di_de (de_var 3)) (blkOk_by (by kernel_rfl)) (fun _ _ _ _ _ => (dg_name 33 sc.nd)) (fun _ _ _ _ _ => dts_nil) (fun _ _ _ _ _ => (de_op oh_mul.d de_int (de_var 33))) (by decide))) da_nil)) da_nil) (len_cons len_nil)))
  (ds_cons (ds_set 9 sc.nd (de_cal C_floor_bits (hr.mono (by decide)) (da_cons (de_clT ch_tuple (by rfl) T.b_tuple boot_tuple (da_cons (de_fz (df_lc (own := [("a", 33)]) rfl sc.nd (di_de (de_var 3)) (blkOk_by (by kernel_rfl)) (fun _ _ _ _ _ => (dg_name 33 sc.nd)) (fun _ _ _ _ _ => dts_nil) (fun _ _ _ _ _ => (de_op oh_mul.d de_int (de_var 33))) (by decide))) da_nil)) da_nil) (len_cons len_nil)))
  (ds_cons (ds_if (dt_w (dw_or (dt_w (dw_and (dt_not (dt_chain oh_le.d oh_le.d (de_op oh_sub.d (de_op oh_mul.d de_int (de_var 5)) de_int) (de_var 8) (de_op oh_mul.d de_int (de_var 5)))) (dw_and1 (dt_cmp oh_gt.d (de_var 5) de_int (nomark _))))) (dw_or1 (dt_w (dw_and (dt_not (dt_chain oh_le.d oh_le.d (de_op oh_sub.d (de_op oh_mul.d de_int (de_var 5)) de_int) (de_var 9) (de_op oh_mul.d de_int (de_var 5)))) (dw_and1 (dt_cmp oh_gt.d (de_var 5) de_int (nomark _)))))))) (ds_one (ds_ret de_bl)) ds_nil)
  (ds_cons (ds_set 10 sc.nd (de_cal C_floor_bits (hr.mono (by decide)) (da_cons (de_clT ch_tuple (by rfl) T.b_tuple boot_tuple (da_cons (de_fz (df_lc (own := [("k", 22)]) rfl sc.nd (di_range1 (by rfl) T.b_range (da_cons (de_var 2) da_nil)) (blkOk_by (by kernel_rfl)) (fun _ _ _ _ _ => (dg_name 22 sc.nd)) (fun _ _ _ _ _ => dts_nil) (fun _ _ _ _ _ => (de_op oh_add.d (de_ix' (de_var 3) (de_var 22)) (de_ix' (de_var 4) (de_var 22)))) (by decide))) da_nil)) da_nil) (len_cons len_nil)))
  (ds_cons (ds_if (dt_w (dw_or (dt_cmp oh_lt.d (de_var 10) (de_op oh_sub.d (de_op oh_add.d (de_var 5) (de_var 6)) de_int) (nomark _)) (dw_or1 (dt_cmp oh_gt.d (de_var 10) (de_cal C_floor_bits (hr.mono (by decide)) (da_cons (de_op oh_add.d (de_var 3) (de_var 4)) da_nil) (len_cons len_nil)) (nomark _))))) (ds_one (ds_ret de_bl)) ds_nil)
  (ds_cons (ds_set 11 sc.nd (de_cal C_floor_bits (hr.mono (by decide)) (da_cons (de_op oh_add.d (de_var 3) (de_var 4)) da_nil) (len_cons len_nil)))
  (ds_cons (ds_set 12 sc.nd (de_cal C_floor_bits (hr.mono (by decide)) (da_cons (de_tup (da_cons (de_clB (ch_sum rfl) (by rfl) T.b_sum (by decide +kernel) (da_cons (de_var 3) da_nil)) (da_cons (de_clB (ch_sum rfl) (by rfl) T.b_sum (by decide +kernel) (da_cons (de_var 4) da_nil)) da_nil))) da_nil) (len_cons len_nil)))
  (ds_cons (ds_if (dt_not (dt_chain oh_le.d oh_le.d (de_op oh_sub.d (de_op oh_add.d (de_op oh_add.d (de_var 5) (de_var 6)) (de_var 12)) de_int) (de_var 11) (de_op oh_add.d (de_op oh_add.d (de_var 5) (de_var 6)) (de_var 12)))) (ds_one (ds_ret de_bl)) ds_nil)
  (ds_cons (ds_if (dt_cmp oh_gt.d (de_var 2) de_int (nomark _)) (ds_cons (ds_set 13 sc.nd (de_op oh_add.d (de_tup (da_cons (de_op oh_add.d (de_ix' (de_var 3) de_int) (de_ix' (de_var 3) de_int)) da_nil)) (de_slice (de_var 3) (do_some de_int) do_none)))
  (ds_cons (ds_asg (dg_tup rfl (dgs_cons (dg_name 14 sc.nd) (dgs_cons (dg_name 15 sc.nd) dgs_nil)) (hu := (len_cs (len_cs (fun _ _ _ => len_nl))))) (de_tup (da_cons (de_cal C_floor_bits (hr.mono (by decide)) (da_cons (de_var 13) da_nil) (len_cons len_nil)) (da_cons (de_cal C_floor_bits (hr.mono (by decide)) (da_cons (de_slice (de_var 3) do_none (do_some de_int)) da_nil) (len_cons len_nil)) da_nil))))
  (ds_one (ds_if (dt_w (dw_or (dt_cmp oh_gt.d (de_var 14) (de_var 5) (nomark _)) (dw_or1 (dt_not (dt_chain oh_le.d oh_le.d (de_op oh_sub.d (de_op oh_add.d (de_var 14) (de_var 15)) de_int) (de_var 5) (de_op oh_add.d (de_var 14) (de_var 15))))))) (ds_one (ds_ret de_bl)) ds_nil)))) ds_nil)
  (ds_cons (ds_set 16 sc.nd (de_op oh_add.d (de_slice (de_var 3) do_none (do_some (de_op oh_sub.d (de_var 2) de_int))) (de_tup (da_cons (de_op oh_add.d (de_ix' (de_var 3) (de_op oh_sub.d (de_var 2) de_int)) de_int) da_nil))))
  (ds_cons (ds_if (dt_w (dw_or (dt_cmp oh_gt.d (de_cal C_floor_bits (hr.mono (by decide)) (da_cons (de_var 16) da_nil) (len_cons len_nil)) (de_op oh_add.d (de_op oh_add.d (de_var 5) (de_clB ch_len (by rfl) T.b_len boot_len (da_cons (de_cal C__law_digits (hr.mono (by decide)) (da_cons (de_op oh_add.d (de_clB (ch_sum rfl) (by rfl) T.b_sum (by decide +kernel) (da_cons (de_var 3) da_nil)) de_int) da_nil) (len_cons len_nil)) da_nil))) de_int) (nomark _)) (dw_or1 (dt_w (dw_and (dt_cmp oh_gt.d (de_clB (ch_sum rfl) (by rfl) T.b_sum (by decide +kernel) (da_cons (de_var 3) da_nil)) de_int (nomark _)) (dw_and1 (dt_cmp oh_gt.d (de_var 5) (de_op oh_mul.d (de_clB (ch_sum rfl) (by rfl) T.b_sum (by decide +kernel) (da_cons (de_var 3) da_nil)) (de_clB ch_len (by rfl) T.b_len boot_len (da_cons (de_cal C__law_digits (hr.mono (by decide)) (da_cons (de_op oh_sub.d (de_var 2) de_int) da_nil) (len_cons len_nil)) da_nil))) (nomark _)))))))) (ds_one (ds_ret de_bl)) ds_nil)
  (ds_cons (ds_set 17 sc.nd (de_slice (de_str [97, 98, 99, 100, 101]) do_none (do_some (de_op oh_add.d de_int (de_cal C__law_take (hr.mono (by decide)) (da_cons (de_var 1) (da_cons de_int da_nil)) (len_cons (len_cons len_nil)))))))
  (ds_cons (ds_par 18 19 rfl sc.nd (da_cons (de_cal C__law_text (hr.mono (by decide)) (da_cons (de_var 1) (da_cons (de_var 17) (da_cons de_int da_nil))) (len_cons (len_cons (len_cons len_nil)))) (da_cons (de_cal C__law_take (hr.mono (by decide)) (da_cons (de_var 1) (da_cons de_int da_nil)) (len_cons (len_cons len_nil))) da_nil)))
  (ds_cons (ds_asgVO 20 21 rfl sc.nd (de_str []) (df_letters rfl (by rfl) T.b_list (de_var 17)))
  (ds_cons (ds_for PassesOwn.never rfl (di_range1 (by rfl) T.b_range (da_cons (de_clB ch_len (by rfl) T.b_len boot_len (da_cons (de_var 17) da_nil)) da_nil)) (dg_name 22 sc.nd) (ds_one (ds_set 20 sc.nd (de_op oh_add.d (de_var 20) (de_mtL 21 mo_popAt PySem.F.slot_list_pop PySem.F.type_list_pop (pv 21) (de_cal C__law_take (hr.mono (by decide)) (da_cons (de_var 1) (da_cons (de_clB1 21 ch_len (by rfl) T.b_len boot_len (pv 21)) da_nil)) (len_cons (len_cons len_nil))))))))
  (ds_cons (ds_set 23 sc.nd (de_join (de_str []) (de_fz (df_lc (own := [("sign", 32)]) rfl sc.nd (di_de (de_var 18)) (blkOk_by (by kernel_rfl)) (fun _ _ _ _ _ => (dg_name 32 sc.nd)) (fun _ _ _ _ _ => dts_nil) (fun _ _ _ _ _ => (de_ix' (de_var 20) (de_index (de_var 17) (de_var 32)))) (by decide)))))
  (ds_cons (ds_asg (dg_tup rfl (dgs_cons (dg_name 14 sc.nd) (dgs_cons (dg_name 24 sc.nd) dgs_nil)) (hu := (len_cs (len_cs (fun _ _ _ => len_nl))))) (de_tup (da_cons (de_cal C_context_counts (hr.mono (by decide)) (da_cons (de_var 17) (da_cons (de_var 18) (da_cons (de_var 19) da_nil))) (len_cons (len_cons (len_cons len_nil)))) (da_cons (de_cal C_context_counts (hr.mono (by decide)) (da_cons (de_var 17) (da_cons (de_var 23) (da_cons (de_var 19) da_nil))) (len_cons (len_cons (len_cons len_nil)))) da_nil))))
  (ds_cons (ds_if (dt_w (dw_or (dt_cmp (oh_ne (r64 hr)).d (de_clB ch_len (by rfl) T.b_len boot_len (da_cons (de_var 14) da_nil)) (de_clB ch_len (by rfl) T.b_len boot_len (da_cons (de_var 24) da_nil)) (nomark _)) (dw_or1 (dt_cmp (oh_ne (r64 hr)).d (de_cal C_context_floor (hr.mono (by decide)) (da_cons (de_var 17) (da_cons (de_var 23) (da_cons (de_var 19) da_nil))) (len_cons (len_cons (len_cons len_nil)))) (de_cal C_context_floor (hr.mono (by decide)) (da_cons (de_var 17) (da_cons (de_var 18) (da_cons (de_var 19) da_nil))) (len_cons (len_cons (len_cons len_nil)))) (nomark _))))) (ds_one (ds_ret de_bl)) ds_nil)
  (ds_cons (ds_for PassesOwn.never rfl (di_de (de_var 14)) (dg_name 25 sc.nd) (ds_cons (ds_set 26 sc.nd (de_dget' (r1 hr) (de_var 24) (de_join (de_str []) (de_fz (df_lc (own := [("sign", 32)]) rfl sc.nd (di_de (de_var 25)) (blkOk_by (by kernel_rfl)) (fun _ _ _ _ _ => (dg_name 32 sc.nd)) (fun _ _ _ _ _ => dts_nil) (fun _ _ _ _ _ => (de_ix' (de_var 20) (de_index (de_var 17) (de_var 32)))) (by decide))))))
  (ds_one (ds_if (dt_val (de_clB (ch_any rfl) (by rfl) T.b_any (by decide +kernel) (da_cons (de_fz (df_lc (own := [("k", 22)]) rfl sc.nd (di_range1 (by rfl) T.b_range (da_cons (de_clB ch_len (by rfl) T.b_len boot_len (da_cons (de_var 17) da_nil)) da_nil)) (blkOk_by (by kernel_rfl)) (fun _ _ _ _ _ => (dg_name 22 sc.nd)) (fun _ _ _ _ _ => dts_nil) (fun _ _ _ _ _ => (de_cmp (oh_ne (r64 hr)).d (de_ix' (de_var 26) (de_index (de_var 17) (de_ix' (de_var 20) (de_var 22)))) (de_ix' (de_dget' (r1 hr) (de_var 14) (de_var 25)) (de_var 22)) (nomark _))) (by decide))) da_nil))) (ds_one (ds_ret de_bl)) ds_nil))))
  (ds_cons (ds_if (dt_w (dw_and (dt_cmp (oh_eq (r64 hr)).d (de_var 19) de_int (nomark _)) (dw_and (dt_cmp oh_gt.d (de_clB ch_len (by rfl) T.b_len boot_len (da_cons (de_var 18) da_nil)) de_int (nomark _)) (dw_and1 (dt_cmp (oh_ne (r64 hr)).d (de_cal C_context_floor (hr.mono (by decide)) (da_cons (de_var 17) (da_cons (de_var 18) (da_cons de_int da_nil))) (len_cons (len_cons (len_cons len_nil)))) (de_cal C_floor_bits (hr.mono (by decide)) (da_cons (de_cal C_counts_of (hr.mono (by decide)) (da_cons (de_var 17) (da_cons (de_var 18) da_nil)) (len_cons (len_cons len_nil))) da_nil) (len_cons len_nil)) (nomark _)))))) (ds_one (ds_ret de_bl)) ds_nil)
  (ds_cons (ds_set 27 sc.nd (de_cal C_context_counts (hr.mono (by decide)) (da_cons (de_var 17) (da_cons (de_rev (de_var 18)) (da_cons (de_var 19) da_nil))) (len_cons (len_cons (len_cons len_nil)))))
  (ds_cons (ds_if (dt_cmp (oh_ne (r64 hr)).d (de_clB (ch_sum rfl) (by rfl) T.b_sum (by decide +kernel) (da_cons (de_fz (df_lc (own := [("context", 25)]) rfl sc.nd (di_de (de_var 27)) (blkOk_by (by kernel_rfl)) (fun _ _ _ _ _ => (dg_name 25 sc.nd)) (fun _ _ _ _ _ => dts_nil) (fun _ _ _ _ _ => (de_clB (ch_sum rfl) (by rfl) T.b_sum (by decide +kernel) (da_cons (de_dget' (r1 hr) (de_var 27) (de_var 25)) da_nil))) (by decide))) da_nil)) (de_clB (ch_max2 rfl) (by rfl) T.b_max (by decide +kernel) (da_cons de_int (da_cons (de_op oh_sub.d (de_clB ch_len (by rfl) T.b_len boot_len (da_cons (de_var 18) da_nil)) (de_var 19)) da_nil))) (nomark _)) (ds_one (ds_ret de_bl)) ds_nil)
  (ds_cons (ds_set 28 sc.nd (de_cal C_runs_of (hr.mono (by decide)) (da_cons (de_var 18) da_nil) (len_cons len_nil)))
  (ds_cons (ds_if (dt_w (dw_or (dt_cmp (oh_ne (r64 hr)).d (de_cal C_runs_of (hr.mono (by decide)) (da_cons (de_rev (de_var 18)) da_nil) (len_cons len_nil)) (de_rev (de_var 28)) (nomark _)) (dw_or (dt_cmp (oh_ne (r64 hr)).d (de_cal C_text_of_runs (hr.mono (by decide)) (da_cons (de_var 28) da_nil) (len_cons len_nil)) (de_var 18) (nomark _)) (dw_or1 (dt_cmp (oh_ne (r64 hr)).d (de_cal C_runs_of (hr.mono (by decide)) (da_cons (de_var 23) da_nil) (len_cons len_nil)) (de_clT ch_tuple (by rfl) T.b_tuple boot_tuple (da_cons (de_fz (df_lc (own := [("letter", 34), ("size", 35)]) rfl sc.nd (di_de (de_var 28)) (blkOk_by (by kernel_rfl)) (fun _ _ _ _ _ => (dg_tup rfl (dgs_cons (dg_name 34 sc.nd) (dgs_cons (dg_name 35 sc.nd) dgs_nil)) (hu := (len_cs (len_cs (fun _ _ _ => len_nl)))))) (fun _ _ _ _ _ => dts_nil) (fun _ _ _ _ _ => (de_tup (da_cons (de_ix' (de_var 20) (de_index (de_var 17) (de_var 34))) (da_cons (de_var 35) da_nil)))) (by decide))) da_nil)) (nomark _)))))) (ds_one (ds_ret de_bl)) ds_nil)
  (ds_cons (ds_set 29 sc.nd (de_join (de_str []) (de_fz (df_lc (own := [("sign", 32)]) rfl sc.nd (di_de (de_var 18)) (blkOk_by (by kernel_rfl)) (fun _ _ _ _ _ => (dg_name 32 sc.nd)) (fun _ _ _ _ _ => dts_nil) (fun _ _ _ _ _ => (de_op oh_add.d (de_var 32) (de_var 32))) (by decide)))))
  (ds_cons (ds_if (dt_cmp (oh_ne (r64 hr)).d (de_cal C_runs_of (hr.mono (by decide)) (da_cons (de_var 29) da_nil) (len_cons len_nil)) (de_clT ch_tuple (by rfl) T.b_tuple boot_tuple (da_cons (de_fz (df_lc (own := [("letter", 34), ("size", 35)]) rfl sc.nd (di_de (de_var 28)) (blkOk_by (by kernel_rfl)) (fun _ _ _ _ _ => (dg_tup rfl (dgs_cons (dg_name 34 sc.nd) (dgs_cons (dg_name 35 sc.nd) dgs_nil)) (hu := (len_cs (len_cs (fun _ _ _ => len_nl)))))) (fun _ _ _ _ _ => dts_nil) (fun _ _ _ _ _ => (de_tup (da_cons (de_var 34) (da_cons (de_op oh_mul.d de_int (de_var 35)) da_nil)))) (by decide))) da_nil)) (nomark _)) (ds_one (ds_ret de_bl)) ds_nil)
  (ds_cons (ds_set 30 sc.nd (de_cal C_moved_front (hr.mono (by decide)) (da_cons (de_var 17) (da_cons (de_var 18) da_nil)) (len_cons (len_cons len_nil))))
  (ds_cons (ds_if (dt_w (dw_or (dt_cmp (oh_ne (r64 hr)).d (de_cal C_from_front (hr.mono (by decide)) (da_cons (de_var 17) (da_cons (de_var 30) da_nil)) (len_cons (len_cons len_nil))) (de_var 18) (nomark _)) (dw_or1 (dt_cmp (oh_ne (r64 hr)).d (de_clB ch_len (by rfl) T.b_len boot_len (da_cons (de_fz (df_lc (own := [("place", 36)]) rfl sc.nd (di_de (de_slice (de_var 30) (do_some de_int) do_none)) (blkOk_by (by kernel_rfl)) (fun _ _ _ _ _ => (dg_name 36 sc.nd)) (fun _ _ _ _ _ => (dts_one (dt_cmp (oh_eq (r64 hr)).d (de_var 36) de_int (nomark _)))) (fun _ _ _ _ _ => (de_var 36)) (by decide))) da_nil)) (de_clB (ch_max2 rfl) (by rfl) T.b_max (by decide +kernel) (da_cons de_int (da_cons (de_op oh_sub.d (de_clB ch_len (by rfl) T.b_len boot_len (da_cons (de_var 18) da_nil)) (de_clB ch_len (by rfl) T.b_len boot_len (da_cons (de_var 28) da_nil))) da_nil))) (nomark _))))) (ds_one (ds_ret de_bl)) ds_nil)
  (ds_cons (ds_set 31 sc.nd (de_cal C_moved_front (hr.mono (by decide)) (da_cons (de_var 17) (da_cons (de_var 29) da_nil)) (len_cons (len_cons len_nil))))
  (ds_one (ds_ret (de_and (de_cmp (oh_eq (r64 hr)).d (de_var 31) (de_clT ch_tuple (by rfl) T.b_tuple boot_tuple (da_cons (de_sum2 rfl (by rfl) T.b_sum (by decide +kernel) (da_cons (de_fz (df_lc (own := [("place", 36)]) rfl sc.nd (di_de (de_var 30)) (blkOk_by (by kernel_rfl)) (fun _ _ _ _ _ => (dg_name 36 sc.nd)) (fun _ _ _ _ _ => dts_nil) (fun _ _ _ _ _ => (de_fz (df_lst (da_cons (de_var 36) (da_cons de_int da_nil))))) (by decide))) (da_cons (de_fz (df_lst da_nil)) da_nil))) da_nil)) (nomark _)) (de_one (de_cmp (oh_eq (r64 hr)).d (de_cal C_letters_of (hr.mono (by decide)) (da_cons (de_var 23) da_nil) (len_cons len_nil)) (de_join (de_str []) (de_clB ch_sorted (by rfl) T.b_sorted (by decide +kernel) (da_cons (de_fz (df_lc (own := [("sign", 32)]) rfl sc.nd (di_de (de_cal C_letters_of (hr.mono (by decide)) (da_cons (de_var 18) da_nil) (len_cons len_nil))) (blkOk_by (by kernel_rfl)) (fun _ _ _ _ _ => (dg_name 32 sc.nd)) (fun _ _ _ _ _ => dts_nil) (fun _ _ _ _ _ => (de_ix' (de_var 20) (de_index (de_var 17) (de_var 32)))) (by decide))) da_nil))) (nomark _))))))))))))))))))))))))))))))))))))))))))
end

end LW

set_option Elab.async false
set_option linter.all false
set_option maxRecDepth 100000
namespace LW
open PySem PySem.Spec PyProof.Rows L2 DL
theorem law_binds (K : PySem.W.Frag) (f : Addr) (fd : FuncData) (F : Fun K "law" "law" s_law f fd) : ∀ (s : Shared) (u : Value), BindsTo s fd ⟨[u], []⟩ [("script", u)] := by
  obtain ⟨_, _, _, _, _, _, _, _, _, rfl, _, _⟩ := F.ex
  exact fun s u => .of_eq rfl
theorem bd_check_text (kV doc pm : Value) (an : Option Addr) (cdv ct : Value) : ∀ us : List Value, us.length = [("text" : Str)].length → bindArgs (PySem.W.fnOf "check_text" "check_text" (defArgs s_check_text) (defBody s_check_text) (defScope s_check_text) .none kV doc pm an cdv ct) ⟨us, []⟩ = pure (((["text"] : List Str)).zip us)
  | [_], _ => rfl
theorem bd_check_alphabet (kV doc pm : Value) (an : Option Addr) (cdv ct : Value) : ∀ us : List Value, us.length = [("alphabet" : Str)].length → bindArgs (PySem.W.fnOf "check_alphabet" "check_alphabet" (defArgs s_check_alphabet) (defBody s_check_alphabet) (defScope s_check_alphabet) .none kV doc pm an cdv ct) ⟨us, []⟩ = pure (((["alphabet"] : List Str)).zip us)
  | [_], _ => rfl
theorem bd_check_over (kV doc pm : Value) (an : Option Addr) (cdv ct : Value) : ∀ us : List Value, us.length = [("alphabet" : Str), ("text" : Str)].length → bindArgs (PySem.W.fnOf "check_over" "check_over" (defArgs s_check_over) (defBody s_check_over) (defScope s_check_over) .none kV doc pm an cdv ct) ⟨us, []⟩ = pure (((["alphabet", "text"] : List Str)).zip us)
  | [_, _], _ => rfl
theorem bd_letters_of (kV doc pm : Value) (an : Option Addr) (cdv ct : Value) : ∀ us : List Value, us.length = [("text" : Str)].length → bindArgs (PySem.W.fnOf "letters_of" "letters_of" (defArgs s_letters_of) (defBody s_letters_of) (defScope s_letters_of) .none kV doc pm an cdv ct) ⟨us, []⟩ = pure (((["text"] : List Str)).zip us)
  | [_], _ => rfl
theorem bd_counts_of (kV doc pm : Value) (an : Option Addr) (cdv ct : Value) : ∀ us : List Value, us.length = [("alphabet" : Str), ("text" : Str)].length → bindArgs (PySem.W.fnOf "counts_of" "counts_of" (defArgs s_counts_of) (defBody s_counts_of) (defScope s_counts_of) .none kV doc pm an cdv ct) ⟨us, []⟩ = pure (((["alphabet", "text"] : List Str)).zip us)
  | [_, _], _ => rfl
theorem bd_check_counts (kV doc pm : Value) (an : Option Addr) (cdv ct : Value) : ∀ us : List Value, us.length = [("counts" : Str)].length → bindArgs (PySem.W.fnOf "check_counts" "check_counts" (defArgs s_check_counts) (defBody s_check_counts) (defScope s_check_counts) .none kV doc pm an cdv ct) ⟨us, []⟩ = pure (((["counts"] : List Str)).zip us)
  | [_], _ => rfl
theorem bd_power (kV doc pm : Value) (an : Option Addr) (cdv ct : Value) : ∀ us : List Value, us.length = [("base" : Str), ("times" : Str)].length → bindArgs (PySem.W.fnOf "power" "power" (defArgs s_power) (defBody s_power) (defScope s_power) .none kV doc pm an cdv ct) ⟨us, []⟩ = pure (((["base", "times"] : List Str)).zip us)
  | [_, _], _ => rfl
theorem bd_power_product (kV doc pm : Value) (an : Option Addr) (cdv ct : Value) : ∀ us : List Value, us.length = [("counts" : Str)].length → bindArgs (PySem.W.fnOf "power_product" "power_product" (defArgs s_power_product) (defBody s_power_product) (defScope s_power_product) .none kV doc pm an cdv ct) ⟨us, []⟩ = pure (((["counts"] : List Str)).zip us)
  | [_], _ => rfl
theorem bd_is_enough (kV doc pm : Value) (an : Option Addr) (cdv ct : Value) : ∀ us : List Value, us.length = [("counts" : Str), ("bits" : Str)].length → bindArgs (PySem.W.fnOf "is_enough" "is_enough" (defArgs s_is_enough) (defBody s_is_enough) (defScope s_is_enough) .none kV doc pm an cdv ct) ⟨us, []⟩ = pure (((["counts", "bits"] : List Str)).zip us)
  | [_, _], _ => rfl
theorem bd_floor_bits (kV doc pm : Value) (an : Option Addr) (cdv ct : Value) : ∀ us : List Value, us.length = [("counts" : Str)].length → bindArgs (PySem.W.fnOf "floor_bits" "floor_bits" (defArgs s_floor_bits) (defBody s_floor_bits) (defScope s_floor_bits) .none kV doc pm an cdv ct) ⟨us, []⟩ = pure (((["counts"] : List Str)).zip us)
  | [_], _ => rfl
theorem bd_runs_of (kV doc pm : Value) (an : Option Addr) (cdv ct : Value) : ∀ us : List Value, us.length = [("text" : Str)].length → bindArgs (PySem.W.fnOf "runs_of" "runs_of" (defArgs s_runs_of) (defBody s_runs_of) (defScope s_runs_of) .none kV doc pm an cdv ct) ⟨us, []⟩ = pure (((["text"] : List Str)).zip us)
  | [_], _ => rfl
theorem bd_text_of_runs (kV doc pm : Value) (an : Option Addr) (cdv ct : Value) : ∀ us : List Value, us.length = [("runs" : Str)].length → bindArgs (PySem.W.fnOf "text_of_runs" "text_of_runs" (defArgs s_text_of_runs) (defBody s_text_of_runs) (defScope s_text_of_runs) .none kV doc pm an cdv ct) ⟨us, []⟩ = pure (((["runs"] : List Str)).zip us)
  | [_], _ => rfl
theorem bd_moved_front (kV doc pm : Value) (an : Option Addr) (cdv ct : Value) : ∀ us : List Value, us.length = [("alphabet" : Str), ("text" : Str)].length → bindArgs (PySem.W.fnOf "moved_front" "moved_front" (defArgs s_moved_front) (defBody s_moved_front) (defScope s_moved_front) .none kV doc pm an cdv ct) ⟨us, []⟩ = pure (((["alphabet", "text"] : List Str)).zip us)
  | [_, _], _ => rfl
theorem bd_from_front (kV doc pm : Value) (an : Option Addr) (cdv ct : Value) : ∀ us : List Value, us.length = [("alphabet" : Str), ("places" : Str)].length → bindArgs (PySem.W.fnOf "from_front" "from_front" (defArgs s_from_front) (defBody s_from_front) (defScope s_from_front) .none kV doc pm an cdv ct) ⟨us, []⟩ = pure (((["alphabet", "places"] : List Str)).zip us)
  | [_, _], _ => rfl
theorem bd_context_counts (kV doc pm : Value) (an : Option Addr) (cdv ct : Value) : ∀ us : List Value, us.length = [("alphabet" : Str), ("text" : Str), ("order" : Str)].length → bindArgs (PySem.W.fnOf "context_counts" "context_counts" (defArgs s_context_counts) (defBody s_context_counts) (defScope s_context_counts) .none kV doc pm an cdv ct) ⟨us, []⟩ = pure (((["alphabet", "text", "order"] : List Str)).zip us)
  | [_, _, _], _ => rfl
theorem bd_context_floor (kV doc pm : Value) (an : Option Addr) (cdv ct : Value) : ∀ us : List Value, us.length = [("alphabet" : Str), ("text" : Str), ("order" : Str)].length → bindArgs (PySem.W.fnOf "context_floor" "context_floor" (defArgs s_context_floor) (defBody s_context_floor) (defScope s_context_floor) .none kV doc pm an cdv ct) ⟨us, []⟩ = pure (((["alphabet", "text", "order"] : List Str)).zip us)
  | [_, _, _], _ => rfl
theorem bd__law_tape (kV doc pm : Value) (an : Option Addr) (cdv ct : Value) : ∀ us : List Value, us.length = [("script" : Str)].length → bindArgs (PySem.W.fnOf "_law_tape" "_law_tape" (defArgs s__law_tape) (defBody s__law_tape) (defScope s__law_tape) .none kV doc pm an cdv ct) ⟨us, []⟩ = pure (((["script"] : List Str)).zip us)
  | [_], _ => rfl
theorem bd__law_take (kV doc pm : Value) (an : Option Addr) (cdv ct : Value) : ∀ us : List Value, us.length = [("tape" : Str), ("many" : Str)].length → bindArgs (PySem.W.fnOf "_law_take" "_law_take" (defArgs s__law_take) (defBody s__law_take) (defScope s__law_take) .none kV doc pm an cdv ct) ⟨us, []⟩ = pure (((["tape", "many"] : List Str)).zip us)
  | [_, _], _ => rfl
theorem bd__law_text (kV doc pm : Value) (an : Option Addr) (cdv ct : Value) : ∀ us : List Value, us.length = [("tape" : Str), ("letters" : Str), ("most" : Str)].length → bindArgs (PySem.W.fnOf "_law_text" "_law_text" (defArgs s__law_text) (defBody s__law_text) (defScope s__law_text) .none kV doc pm an cdv ct) ⟨us, []⟩ = pure (((["tape", "letters", "most"] : List Str)).zip us)
  | [_, _, _], _ => rfl
theorem bd__law_counts (kV doc pm : Value) (an : Option Addr) (cdv ct : Value) : ∀ us : List Value, us.length = [("tape" : Str), ("many" : Str)].length → bindArgs (PySem.W.fnOf "_law_counts" "_law_counts" (defArgs s__law_counts) (defBody s__law_counts) (defScope s__law_counts) .none kV doc pm an cdv ct) ⟨us, []⟩ = pure (((["tape", "many"] : List Str)).zip us)
  | [_, _], _ => rfl
theorem bd__law_digits (kV doc pm : Value) (an : Option Addr) (cdv ct : Value) : ∀ us : List Value, us.length = [("number" : Str)].length → bindArgs (PySem.W.fnOf "_law_digits" "_law_digits" (defArgs s__law_digits) (defBody s__law_digits) (defScope s__law_digits) .none kV doc pm an cdv ct) ⟨us, []⟩ = pure (((["number"] : List Str)).zip us)
  | [_], _ => rfl
theorem bd_law (kV doc pm : Value) (an : Option Addr) (cdv ct : Value) : ∀ us : List Value, us.length = [("script" : Str)].length → bindArgs (PySem.W.fnOf "law" "law" (defArgs s_law) (defBody s_law) (defScope s_law) .none kV doc pm an cdv ct) ⟨us, []⟩ = pure (((["script"] : List Str)).zip us)
  | [_], _ => rfl
theorem fin_law {P : Program} {w : World} {K : PySem.W.Frag} {h : Heap} {mg : Str → Option Value} (X : K.In h) (G : h.Ns mainGlobals mg) (T : Txt K mg) : At K mg "law" "law" s_law ["script"] ∧ ∀ (f : Addr) (fd : FuncData), Fun K "law" "law" s_law f fd → ∀ base : Heap, FnOk P w K mg base CX0 6 f fd ["script"] (spF K (fun _ => 0) 1 F_law) :=
  ⟨T.a_law, fun f fd F base => C_law T F⟩
end LW
open PySem PySem.W PyProof.Rows in
set_option maxRecDepth 100000 in
set_option maxHeartbeats 0 in
theorem PySem.Challenge.cw_fewestbits_k47_whole_floors_joined_and_p_holds : PySem.Challenge.rw_fewestbits_k47_whole_floors_joined_and_p.Holds := by
  w_on; o_law; k_head; (case hw => w_witness2)
  k_fill
  refine DL.walk_mk (l := PySem.Challenge.rw_fewestbits_k47_whole_floors_joined_and_p) (F := LW.F_law) (st := LW.s_law) 6 ⟨rfl, by decide, by decide⟩ rfl rfl (fun w h Y => PySem.W.kIn_of Y) rfl LW.law_true LW.law_binds ?F
  case F =>
    intro w mg h KX G
    refine LW.fin_law KX G ⟨?_, ?_, ?_, ?_, ?_, ?_, ?_, ?_, ?_, ?_, ?_, ?_, ?_, ?_, ?_, ?_, ?_, ?_, ?_, ?_, ?_, ?_, ?_, ?_, ?_, ?_, ?_, ?_, ?_, ?_, ?_, ?_, ?_, ?_, ?_, ?_, ?_, ?_⟩
    · refine' DL.at_mk KX G LW.bd_check_text ?a ?l ?c ?k
      (case a => k_is)
      (case l => k_is)
      (case c => k_is)
      (case k => k_is)
    · refine' DL.at_mk KX G LW.bd_check_alphabet ?a ?l ?c ?k
      (case a => k_is)
      (case l => k_is)
      (case c => k_is)
      (case k => k_is)
    · refine' DL.at_mk KX G LW.bd_check_over ?a ?l ?c ?k
      (case a => k_is)
      (case l => k_is)
      (case c => k_is)
      (case k => k_is)
    · refine' DL.at_mk KX G LW.bd_letters_of ?a ?l ?c ?k
      (case a => k_is)
      (case l => k_is)
      (case c => k_is)
      (case k => k_is)
    · refine' DL.at_mk KX G LW.bd_counts_of ?a ?l ?c ?k
      (case a => k_is)
      (case l => k_is)
      (case c => k_is)
      (case k => k_is)
    · refine' DL.at_mk KX G LW.bd_check_counts ?a ?l ?c ?k
      (case a => k_is)
      (case l => k_is)
      (case c => k_is)
      (case k => k_is)
    · refine' DL.at_mk KX G LW.bd_power ?a ?l ?c ?k
      (case a => k_is)
      (case l => k_is)
      (case c => k_is)
      (case k => k_is)
    · refine' DL.at_mk KX G LW.bd_power_product ?a ?l ?c ?k
      (case a => k_is)
      (case l => k_is)
      (case c => k_is)
      (case k => k_is)
    · refine' DL.at_mk KX G LW.bd_is_enough ?a ?l ?c ?k
      (case a => k_is)
      (case l => k_is)
      (case c => k_is)
      (case k => k_is)
    · refine' DL.at_mk KX G LW.bd_floor_bits ?a ?l ?c ?k
      (case a => k_is)
      (case l => k_is)
      (case c => k_is)
      (case k => k_is)
    · refine' DL.at_mk KX G LW.bd_runs_of ?a ?l ?c ?k
      (case a => k_is)
      (case l => k_is)
      (case c => k_is)
      (case k => k_is)
    · refine' DL.at_mk KX G LW.bd_text_of_runs ?a ?l ?c ?k
      (case a => k_is)
      (case l => k_is)
      (case c => k_is)
      (case k => k_is)
    · refine' DL.at_mk KX G LW.bd_moved_front ?a ?l ?c ?k
      (case a => k_is)
      (case l => k_is)
      (case c => k_is)
      (case k => k_is)
    · refine' DL.at_mk KX G LW.bd_from_front ?a ?l ?c ?k
      (case a => k_is)
      (case l => k_is)
      (case c => k_is)
      (case k => k_is)
    · refine' DL.at_mk KX G LW.bd_context_counts ?a ?l ?c ?k
      (case a => k_is)
      (case l => k_is)
      (case c => k_is)
      (case k => k_is)
    · refine' DL.at_mk KX G LW.bd_context_floor ?a ?l ?c ?k
      (case a => k_is)
      (case l => k_is)
      (case c => k_is)
      (case k => k_is)
    · refine' DL.at_mk KX G LW.bd__law_tape ?a ?l ?c ?k
      (case a => k_is)
      (case l => k_is)
      (case c => k_is)
      (case k => k_is)
    · refine' DL.at_mk KX G LW.bd__law_take ?a ?l ?c ?k
      (case a => k_is)
      (case l => k_is)
      (case c => k_is)
      (case k => k_is)
    · refine' DL.at_mk KX G LW.bd__law_text ?a ?l ?c ?k
      (case a => k_is)
      (case l => k_is)
      (case c => k_is)
      (case k => k_is)
    · refine' DL.at_mk KX G LW.bd__law_counts ?a ?l ?c ?k
      (case a => k_is)
      (case l => k_is)
      (case c => k_is)
      (case k => k_is)
    · refine' DL.at_mk KX G LW.bd__law_digits ?a ?l ?c ?k
      (case a => k_is)
      (case l => k_is)
      (case c => k_is)
      (case k => k_is)
    · refine' DL.at_mk KX G LW.bd_law ?a ?l ?c ?k
      (case a => k_is)
      (case l => k_is)
      (case c => k_is)
      (case k => k_is)
    · refine' PySem.W.mg_none_of KX G ?a
      (case a => k_is)
    · refine' PySem.W.mg_none_of KX G ?a
      (case a => k_is)
    · refine' PySem.W.mg_none_of KX G ?a
      (case a => k_is)
    · refine' PySem.W.mg_none_of KX G ?a
      (case a => k_is)
    · refine' PySem.W.mg_none_of KX G ?a
      (case a => k_is)
    · refine' PySem.W.mg_none_of KX G ?a
      (case a => k_is)
    · refine' PySem.W.mg_none_of KX G ?a
      (case a => k_is)
    · refine' PySem.W.mg_none_of KX G ?a
      (case a => k_is)
    · refine' PySem.W.mg_none_of KX G ?a
      (case a => k_is)
    · refine' PySem.W.mg_none_of KX G ?a
      (case a => k_is)
    · refine' PySem.W.mg_none_of KX G ?a
      (case a => k_is)
    · refine' PySem.W.mg_none_of KX G ?a
      (case a => k_is)
    · refine' PySem.W.mg_none_of KX G ?a
      (case a => k_is)
    · refine' PySem.W.mg_none_of KX G ?a
      (case a => k_is)
    · refine' DL.Con.str _ (PySem.W.mg_of KX G ?a) ?b
      (case a => k_is)
      (case b => decide +kernel)
    · refine' DL.Con.int (PySem.W.mg_of KX G ?a)
      (case a => k_is)

