import PyProof.Rows.All
import Wide.All
import OpenK.AllK
import Wide.FinOn
import PyProof.EqAt
import PyProof.EqKinds
import PyProof.TupleCall
import HandS.ForMost
import HandS.IsInst
import HandS.Exc
import HandS.ExcOwn
import HandS.WordsExc
import HandS.CallSlots
import HandS.Walk
import HandS.Defaults
import HandS.EndBits
import PySem.Challenge.RW_groundlots_k01_names
set_option Elab.async false
set_option linter.all false
set_option maxRecDepth 100000
set_option maxHeartbeats 8000000
/-! Gd: statements and expressions that run as their mirrors say. Part 1: data, heaps, states, judgements. -/
namespace Gd
open PySem L2

abbrev Fg := PySem.W.Frag
abbrev Mg := Str → Option Value

/-- data: a value with all that it holds; `obj` a shared thing of the store, `loc` a thing that a slot owns -/
inductive D where
  | non | bl (b : Bool) | int (i : Int) | str (x : Str)
  | lst (l : List D) | tup (l : List D) | dct (l : List (Key × D))
  | ins (c : Str) (l : List (Str × D))
  | ty (n : String) | cls (c : Str)
  | obj (n : Nat) | loc (i : Nat)
instance : Inhabited D := ⟨.non⟩
inductive Slot where
  | un | va (d : D) | ow (d : D)
instance : Inhabited Slot := ⟨.un⟩
abbrev Ro := List Slot
abbrev Sg := List D

section
variable (K : Fg) (mg : Mg) (G : Hp) (ad : List Addr)
mutual
inductive Rep : V → D → Prop
  | non : Rep .non .non
  | bl (b : Bool) : Rep (.bl b) (.bl b)
  | int (i : Int) : Rep (.int i) (.int i)
  | str (x : Str) : Rep (.str x) (.str x)
  | lst {a : Addr} {vs : List V} {ds : List D} : SqL K G a vs → Reps vs ds → Rep (.ref a) (.lst ds)
  | tup {a : Addr} {vs : List V} {ds : List D} : SqT K G a vs → Reps vs ds → Rep (.ref a) (.tup ds)
  | dct {a : Addr} {kvs : List (Key × V)} {ds : List (Key × D)} : Rd G a (.dK kvs) → RepK kvs ds → Rep (.ref a) (.dct ds)
  | ins {c : Str} {C a dx : Addr} {fs : List (Str × V)} {gs : List (Str × D)} : mg c = some (.ref C) → G a = some (.ins C dx fs) → RepF fs gs → Rep (.ref a) (.ins c gs)
  | ty (n : String) : Rep (.ty n) (.ty n)
  | cls {c : Str} {C : Addr} : mg c = some (.ref C) → Rep (.ref C) (.cls c)
  | obj {n : Nat} {a : Addr} : ad[n]? = some a → Rep (.ref a) (.obj n)
inductive Reps : List V → List D → Prop
  | nil : Reps [] []
  | cons {v : V} {d : D} {vs : List V} {ds : List D} : Rep v d → Reps vs ds → Reps (v :: vs) (d :: ds)
inductive RepK : List (Key × V) → List (Key × D) → Prop
  | nil : RepK [] []
  | cons {k : Key} {v : V} {d : D} {vs : List (Key × V)} {ds : List (Key × D)} : Rep v d → RepK vs ds → RepK ((k, v) :: vs) ((k, d) :: ds)
inductive RepF : List (Str × V) → List (Str × D) → Prop
  | nil : RepF [] []
  | cons {k : Str} {v : V} {d : D} {vs : List (Str × V)} {ds : List (Str × D)} : Rep v d → RepF vs ds → RepF ((k, v) :: vs) ((k, d) :: ds)
end
end

theorem rd_mono {G G' : Hp} (e : ∀ b o, G b = some o → G' b = some o) {a : Addr} {u : HO} (h : Rd G a u) : Rd G' a u := by
  rcases h with h | ⟨o, h⟩
  · exact .inl (e _ _ h)
  · exact .inr ⟨o, e _ _ h⟩
theorem sql_mono {K : Fg} {G G' : Hp} (e : ∀ b o, G b = some o → G' b = some o) {a : Addr} {xs : List V} (h : SqL K G a xs) : SqL K G' a xs := by
  rcases h with h | h
  · exact .inl (rd_mono e h)
  · exact .inr h
theorem sqt_mono {K : Fg} {G G' : Hp} (e : ∀ b o, G b = some o → G' b = some o) {a : Addr} {xs : List V} (h : SqT K G a xs) : SqT K G' a xs := by
  rcases h with h | h
  · exact .inl (rd_mono e h)
  · exact .inr h

section
variable {K : Fg} {mg : Mg} {G G' : Hp} {ad ad' : List Addr}
theorem rep_mono_all (e : ∀ b o, G b = some o → G' b = some o) (p : ∀ (n : Nat) a, ad[n]? = some a → ad'[n]? = some a) :
    (∀ v d, Rep K mg G ad v d → Rep K mg G' ad' v d) ∧ (∀ v d, Reps K mg G ad v d → Reps K mg G' ad' v d) ∧ (∀ v d, RepK K mg G ad v d → RepK K mg G' ad' v d) ∧ (∀ v d, RepF K mg G ad v d → RepF K mg G' ad' v d) := by
  have A : ∀ v d, Rep K mg G ad v d → Rep K mg G' ad' v d := fun v d h =>
    Rep.rec (K := K) (mg := mg) (G := G) (ad := ad) (motive_1 := fun v d _ => Rep K mg G' ad' v d) (motive_2 := fun v d _ => Reps K mg G' ad' v d) (motive_3 := fun v d _ => RepK K mg G' ad' v d) (motive_4 := fun v d _ => RepF K mg G' ad' v d)
      .non .bl .int .str (fun h _ r => .lst (sql_mono e h) r) (fun h _ r => .tup (sqt_mono e h) r) (fun h _ r => .dct (rd_mono e h) r) (fun h1 h2 _ r => .ins h1 (e _ _ h2) r) .ty (fun h => .cls h) (fun h => .obj (p _ _ h))
      .nil (fun _ _ a b => .cons a b) .nil (fun _ _ a b => .cons a b) .nil (fun _ _ a b => .cons a b) h
  refine ⟨A, ?_, ?_, ?_⟩
  · intro v d h
    induction v generalizing d with
    | nil => cases h; exact .nil
    | cons x xs ih => cases h with | cons a b => exact .cons (A _ _ a) (ih _ b)
  · intro v d h
    induction v generalizing d with
    | nil => cases h; exact .nil
    | cons x xs ih => cases h with | cons a b => exact .cons (A _ _ a) (ih _ b)
  · intro v d h
    induction v generalizing d with
    | nil => cases h; exact .nil
    | cons x xs ih => cases h with | cons a b => exact .cons (A _ _ a) (ih _ b)
variable (e : ∀ b o, G b = some o → G' b = some o) (p : ∀ (n : Nat) a, ad[n]? = some a → ad'[n]? = some a)
include e p
theorem Rep.mono {v : V} {d : D} (h : Rep K mg G ad v d) : Rep K mg G' ad' v d := (rep_mono_all e p).1 _ _ h
theorem Reps.mono {v : List V} {d : List D} (h : Reps K mg G ad v d) : Reps K mg G' ad' v d := (rep_mono_all e p).2.1 _ _ h
theorem RepK.mono {v : List (Key × V)} {d : List (Key × D)} (h : RepK K mg G ad v d) : RepK K mg G' ad' v d := (rep_mono_all e p).2.2.1 _ _ h
theorem RepF.mono {v : List (Str × V)} {d : List (Str × D)} (h : RepF K mg G ad v d) : RepF K mg G' ad' v d := (rep_mono_all e p).2.2.2 _ _ h
end
section
variable {K : Fg} {mg : Mg} {G : Hp} {ad : List Addr}
theorem Reps.length {vs : List V} {ds : List D} (h : Reps K mg G ad vs ds) : vs.length = ds.length := by
  induction vs generalizing ds with
  | nil => cases h; rfl
  | cons x xs ih => cases h with | cons a b => rw [List.length_cons, List.length_cons, ih b]
theorem Reps.get {vs : List V} {ds : List D} (h : Reps K mg G ad vs ds) {i : Nat} {d : D} (e : ds[i]? = some d) : ∃ v, vs[i]? = some v ∧ Rep K mg G ad v d := by
  induction vs generalizing ds i with
  | nil => cases h; simp at e
  | cons x xs ih =>
    cases h with
    | cons a b =>
      cases i with
      | zero => simp at e; subst e; exact ⟨x, rfl, a⟩
      | succ i => exact ih b (by simpa using e)
theorem Reps.getV {vs : List V} {ds : List D} (h : Reps K mg G ad vs ds) {i : Nat} {v : V} (e : vs[i]? = some v) : ∃ d, ds[i]? = some d ∧ Rep K mg G ad v d := by
  induction vs generalizing ds i with
  | nil => simp at e
  | cons x xs ih =>
    cases h with
    | cons a b =>
      cases i with
      | zero => simp at e; subst e; exact ⟨_, rfl, a⟩
      | succ i => exact ih b (by simpa using e)
theorem Reps.app {vs ws : List V} {ds es : List D} (h : Reps K mg G ad vs ds) (g : Reps K mg G ad ws es) : Reps K mg G ad (vs ++ ws) (ds ++ es) := by
  induction vs generalizing ds with
  | nil => cases h; exact g
  | cons x xs ih => cases h with | cons a b => exact .cons a (ih b)
theorem Reps.set {vs : List V} {ds : List D} (h : Reps K mg G ad vs ds) {i : Nat} {v : V} {d : D} (r : Rep K mg G ad v d) : Reps K mg G ad (vs.set i v) (ds.set i d) := by
  induction vs generalizing ds i with
  | nil => cases h; exact .nil
  | cons x xs ih =>
    cases h with
    | cons a b =>
      cases i with
      | zero => exact .cons r b
      | succ i => exact .cons a (ih b)
theorem Reps.drop {vs : List V} {ds : List D} (h : Reps K mg G ad vs ds) (n : Nat) : Reps K mg G ad (vs.drop n) (ds.drop n) := by
  induction vs generalizing ds n with
  | nil => cases h; simp; exact .nil
  | cons x xs ih =>
    cases h with
    | cons a b =>
      cases n with
      | zero => exact .cons a b
      | succ n => simpa using ih b n
theorem Reps.take {vs : List V} {ds : List D} (h : Reps K mg G ad vs ds) (n : Nat) : Reps K mg G ad (vs.take n) (ds.take n) := by
  induction vs generalizing ds n with
  | nil => cases h; simp; exact .nil
  | cons x xs ih =>
    cases h with
    | cons a b =>
      cases n with
      | zero => exact .nil
      | succ n => simpa using Reps.cons a (ih b n)
theorem Reps.ints {ns : List Int} {vs : List V} (h : Reps K mg G ad vs (ns.map D.int)) : vs = ns.map V.int := by
  induction ns generalizing vs with
  | nil => cases h; rfl
  | cons n ns ih =>
    cases h with
    | cons a b =>
      cases a
      rw [ih b]; rfl
theorem Reps.of_ints {ns : List Int} : Reps K mg G ad (ns.map V.int) (ns.map D.int) := by
  induction ns with
  | nil => exact .nil
  | cons n ns ih => exact .cons (.int n) ih
theorem Reps.strs {ns : List Str} {vs : List V} (h : Reps K mg G ad vs (ns.map D.str)) : vs = ns.map V.str := by
  induction ns generalizing vs with
  | nil => cases h; rfl
  | cons n ns ih =>
    cases h with
    | cons a b =>
      cases a
      rw [ih b]; rfl
theorem Reps.of_strs {ns : List Str} : Reps K mg G ad (ns.map V.str) (ns.map D.str) := by
  induction ns with
  | nil => exact .nil
  | cons n ns ih => exact .cons (.str n) ih
theorem Reps.bls {ns : List Bool} {vs : List V} (h : Reps K mg G ad vs (ns.map D.bl)) : vs = ns.map V.bl := by
  induction ns generalizing vs with
  | nil => cases h; rfl
  | cons n ns ih =>
    cases h with
    | cons a b =>
      cases a
      rw [ih b]; rfl
end

/-! ### heaps -/
open Classical in
noncomputable def hide (O : Addr → Prop) (H : Hp) : Hp := fun a => if O a then none else H a
theorem hide_of {O : Addr → Prop} {H : Hp} {a : Addr} {o : HO} (n : ¬ O a) (h : H a = some o) : hide O H a = some o := by
  unfold hide; rw [if_neg n]; exact h
theorem of_hide {O : Addr → Prop} {H : Hp} {a : Addr} {o : HO} (h : hide O H a = some o) : ¬ O a ∧ H a = some o := by
  unfold hide at h
  split at h
  · cases h
  · exact ⟨by assumption, h⟩
theorem un_hide {O : Addr → Prop} {H : Hp} : ∀ b o, hide O H b = some o → H b = some o := fun _ _ h => (of_hide h).2

/-- a thing at a whose object is read in H, what it holds in G -/
def MRep (K : Fg) (mg : Mg) (G : Hp) (ad : List Addr) (H : Hp) (a : Addr) : D → Prop
  | .lst ds => ∃ vs, H a = some (.lst vs) ∧ Reps K mg G ad vs ds
  | .dct ds => ∃ kvs, H a = some (.dK kvs) ∧ RepK K mg G ad kvs ds
  | .ins c gs => ∃ C dx fs, mg c = some (.ref C) ∧ H a = some (.ins C dx fs) ∧ RepF K mg G ad fs gs
  | _ => False
theorem MRep.mono {K : Fg} {mg : Mg} {G G' H H' : Hp} {ad ad' : List Addr} {a : Addr} {d : D} (h : MRep K mg G ad H a d) (e : ∀ b o, G b = some o → G' b = some o) (p : ∀ (n : Nat) a, ad[n]? = some a → ad'[n]? = some a)
    (k : ∀ o, H a = some o → H' a = some o) : MRep K mg G' ad' H' a d := by
  cases d with
  | lst ds => obtain ⟨vs, h1, h2⟩ := h; exact ⟨vs, k _ h1, h2.mono e p⟩
  | dct ds => obtain ⟨vs, h1, h2⟩ := h; exact ⟨vs, k _ h1, h2.mono e p⟩
  | ins c gs => obtain ⟨C, dx, fs, h0, h1, h2⟩ := h; exact ⟨C, dx, fs, h0, k _ h1, h2.mono e p⟩
  | _ => exact h.elim
theorem MRep.there {K : Fg} {mg : Mg} {G H : Hp} {ad : List Addr} {a : Addr} {d : D} (h : MRep K mg G ad H a d) : ∃ o, H a = some o := by
  cases d with
  | lst ds => obtain ⟨vs, h1, h2⟩ := h; exact ⟨_, h1⟩
  | dct ds => obtain ⟨vs, h1, h2⟩ := h; exact ⟨_, h1⟩
  | ins c gs => obtain ⟨C, dx, fs, h0, h1, h2⟩ := h; exact ⟨_, h1⟩
  | _ => exact h.elim
/-- seen as a thing that stands still -/
theorem MRep.rep {K : Fg} {mg : Mg} {G H : Hp} {ad : List Addr} {a : Addr} {d : D} (h : MRep K mg G ad H a d) (k : ∀ o, H a = some o → G a = some o) : Rep K mg G ad (.ref a) d := by
  cases d with
  | lst ds => obtain ⟨vs, h1, h2⟩ := h; exact .lst (.of (k _ h1)) h2
  | dct ds => obtain ⟨vs, h1, h2⟩ := h; exact .dct (.of (k _ h1)) h2
  | ins c gs => obtain ⟨C, dx, fs, h0, h1, h2⟩ := h; exact .ins h0 (k _ h1) h2
  | _ => exact h.elim

/-- the store -/
structure Sto (K : Fg) (mg : Mg) (O : Addr → Prop) (ad : List Addr) (S : Sg) (H : Hp) : Prop where
  len : ad.length = S.length
  nd : ad.Nodup
  hid : ∀ a, a ∈ ad → O a
  dom : ∀ a, O a → ∃ o, H a = some o
  ob : ∀ (n : Nat) d, S[n]? = some d → ∃ a, ad[n]? = some a ∧ MRep K mg (hide O H) ad H a d
/-- the slots -/
structure Fre (K : Fg) (mg : Mg) (O : Addr → Prop) (ad : List Addr) (ρ : Ro) (σ : L2.St) (H : Hp) : Prop where
  len : σ.length = ρ.length
  va : ∀ (i : Nat) d, ρ[i]? = some (.va d) → ∃ v, σ[i]? = some (some v) ∧ Rep K mg (hide O H) ad v d
  ow : ∀ (i : Nat) d, ρ[i]? = some (.ow d) → ∃ a, σ[i]? = some (some (.ref a)) ∧ O a ∧ a ∉ ad ∧ MRep K mg (hide O H) ad H a d
  ap : ∀ (i j : Nat) d e a, i ≠ j → ρ[i]? = some (.ow d) → ρ[j]? = some (.ow e) → σ[i]? = some (some (.ref a)) → σ[j]? ≠ some (some (.ref a))
/-- the entry -/
structure Ctx where
  H0 : Hp
  ad0 : List Addr
  O0 : Addr → Prop
structure Cst (c : Ctx) (O : Addr → Prop) (ad : List Addr) (H : Hp) : Prop where
  fr : ∀ b o, c.H0 b = some o → b ∉ c.ad0 → H b = some o
  op : ∀ a, c.O0 a → O a
  oq : ∀ a, O a → c.O0 a ∨ c.H0 a = none
  ap : ∃ more, ad = c.ad0 ++ more ∧ ∀ a ∈ more, c.H0 a = none
  wf : ∀ a, a ∈ c.ad0 → c.O0 a
  wd : ∀ a, c.O0 a → ∃ o, c.H0 a = some o
structure Sta (K : Fg) (mg : Mg) (c : Ctx) (O : Addr → Prop) (ad : List Addr) (S : Sg) (ρ : Ro) (σ : L2.St) (H : Hp) : Prop where
  sto : Sto K mg O ad S H
  fre : Fre K mg O ad ρ σ H
  cst : Cst c O ad H
  owf : ∀ (i : Nat) d a, ρ[i]? = some (.ow d) → σ[i]? = some (some (.ref a)) → c.H0 a = none

/-- what an expression's run does -/
structure Stp (O : Addr → Prop) (ad : List Addr) (H : Hp) (O' : Addr → Prop) (ad' : List Addr) (H' : Hp) : Prop where
  fr : ∀ b o, H b = some o → b ∉ ad → H' b = some o
  op : ∀ a, O a → O' a
  oq : ∀ a, O' a → O a ∨ H a = none
  ap : ∃ more, ad' = ad ++ more ∧ ∀ a ∈ more, H a = none
theorem Stp.refl (O : Addr → Prop) (ad : List Addr) (H : Hp) : Stp O ad H O ad H := ⟨fun _ _ h _ => h, fun _ h => h, fun _ h => .inl h, [], by simp, fun _ h => nomatch h⟩
theorem pre_get {ad more : List Addr} : ∀ (n : Nat) a, ad[n]? = some a → (ad ++ more)[n]? = some a := fun n a h => by
  rw [List.getElem?_append_left (List.getElem?_eq_some_iff.mp h).1]; exact h
section
variable {K : Fg} {mg : Mg} {O O1 O2 : Addr → Prop} {ad ad1 ad2 : List Addr} {S S1 S2 : Sg} {H H1 H2 : Hp} {ρ : Ro} {σ : L2.St}
theorem Stp.get (s : Stp O ad H O1 ad1 H1) : ∀ (n : Nat) a, ad[n]? = some a → ad1[n]? = some a := by
  obtain ⟨m, rfl, _⟩ := s.ap
  exact pre_get
theorem Stp.mem (s : Stp O ad H O1 ad1 H1) {a : Addr} (h : a ∈ ad) : a ∈ ad1 := by
  obtain ⟨m, rfl, _⟩ := s.ap
  exact List.mem_append_left _ h
theorem Stp.nmem (s : Stp O ad H O1 ad1 H1) {a : Addr} {o : HO} (n : a ∉ ad) (h : H a = some o) : a ∉ ad1 := by
  obtain ⟨m, rfl, f⟩ := s.ap
  intro q
  rcases List.mem_append.mp q with q | q
  · exact n q
  · rw [f a q] at h; cases h
theorem Stp.hide (s : Stp O ad H O1 ad1 H1) (hid : ∀ a, a ∈ ad → O a) : ∀ b o, Gd.hide O H b = some o → Gd.hide O1 H1 b = some o := fun b o h => by
  obtain ⟨n, e⟩ := of_hide h
  refine hide_of (fun q => ?_) (s.fr b o e fun m => n (hid b m))
  rcases s.oq b q with z | z
  · exact n z
  · rw [z] at e; cases e
theorem Stp.trans (s : Stp O ad H O1 ad1 H1) (t : Stp O1 ad1 H1 O2 ad2 H2) (hid : ∀ a, a ∈ ad → O a) (dom : ∀ a, O1 a → ∃ o, H1 a = some o) : Stp O ad H O2 ad2 H2 := by
  have fre : ∀ a, H1 a = none → H a = none := fun a h => by
    cases e : H a with
    | none => rfl
    | some o =>
      by_cases m : a ∈ ad
      · obtain ⟨o', q⟩ := dom a (s.op a (hid a m))
        rw [h] at q; cases q
      · rw [s.fr a o e m] at h; cases h
  refine ⟨fun b o h m => t.fr b o (s.fr b o h m) (s.nmem m h), fun a h => t.op a (s.op a h), fun a h => ?_, ?_⟩
  · rcases t.oq a h with q | q
    · exact s.oq a q
    · exact .inr (fre a q)
  · obtain ⟨m1, e1, f1⟩ := s.ap
    obtain ⟨m2, e2, f2⟩ := t.ap
    refine ⟨m1 ++ m2, by rw [e2, e1, List.append_assoc], fun a h => ?_⟩
    rcases List.mem_append.mp h with q | q
    · exact f1 a q
    · exact fre a (f2 a q)
theorem Fre.step (f : Fre K mg O ad ρ σ H) (hid : ∀ a, a ∈ ad → O a) (s : Stp O ad H O1 ad1 H1) : Fre K mg O1 ad1 ρ σ H1 := by
  refine ⟨f.len, fun i d h => ?_, fun i d h => ?_, f.ap⟩
  · obtain ⟨v, h1, h2⟩ := f.va i d h
    exact ⟨v, h1, h2.mono (s.hide hid) s.get⟩
  · obtain ⟨a, h1, h2, h3, h4⟩ := f.ow i d h
    obtain ⟨o, ho⟩ := h4.there
    exact ⟨a, h1, s.op a h2, s.nmem h3 ho, h4.mono (s.hide hid) s.get fun o e => s.fr a o e h3⟩
theorem Cst.step {c : Ctx} (f : Cst c O ad H) (t : Sto K mg O ad S H) (s : Stp O ad H O1 ad1 H1) : Cst c O1 ad1 H1 := by
  have fre : ∀ a, H a = none → c.H0 a = none := fun a h => by
    cases e : c.H0 a with
    | none => rfl
    | some o =>
      by_cases m : a ∈ c.ad0
      · obtain ⟨o', q⟩ := t.dom a (f.op a (f.wf a m))
        rw [h] at q; cases q
      · rw [f.fr a o e m] at h; cases h
  refine ⟨fun b o h m => s.fr b o (f.fr b o h m) fun q => ?_, fun a h => s.op a (f.op a h), fun a h => ?_, ?_, f.wf, f.wd⟩
  · obtain ⟨more, e, g⟩ := f.ap
    rw [e] at q
    rcases List.mem_append.mp q with q | q
    · exact m q
    · rw [g b q] at h; cases h
  · rcases s.oq a h with q | q
    · exact f.oq a q
    · exact .inr (fre a q)
  · obtain ⟨m1, e1, f1⟩ := f.ap
    obtain ⟨m2, e2, f2⟩ := s.ap
    refine ⟨m1 ++ m2, by rw [e2, e1, List.append_assoc], fun a h => ?_⟩
    rcases List.mem_append.mp h with q | q
    · exact f1 a q
    · exact fre a (f2 a q)
theorem Cst.fresh {c : Ctx} (f : Cst c O ad H) (t : Sto K mg O ad S H) {a : Addr} (h : H a = none) : c.H0 a = none := by
  cases e : c.H0 a with
  | none => rfl
  | some o =>
    by_cases m : a ∈ c.ad0
    · obtain ⟨o', q⟩ := t.dom a (f.op a (f.wf a m))
      rw [h] at q; cases q
    · rw [f.fr a o e m] at h; cases h
theorem Sta.step {c : Ctx} (z : Sta K mg c O ad S ρ σ H) (s : Stp O ad H O1 ad1 H1) (t : Sto K mg O1 ad1 S1 H1) : Sta K mg c O1 ad1 S1 ρ σ H1 :=
  ⟨t, z.fre.step z.sto.hid s, z.cst.step z.sto s, z.owf⟩
end

/-! ### mirrors -/
inductive Out (α : Type) where
  | ok (a : α) (S : Sg)
  | er (x : Str) (fs : List (Str × D)) (S : Sg)
  | no
def Out.bind {α β : Type} : Out α → (α → Sg → Out β) → Out β
  | .ok a S, f => f a S
  | .er x fs S, _ => .er x fs S
  | .no, _ => .no
theorem bind_ok {α β : Type} (a : α) (S : Sg) (f : α → Sg → Out β) : (Out.ok a S).bind f = f a S := rfl
abbrev ME := Ro → Sg → Out D
abbrev MA := Ro → Sg → Out (List D)
abbrev MT := Ro → Sg → Out Bool
inductive OS where
  | nx (ρ : Ro) (S : Sg)
  | rt (d : D) (S : Sg)
  | bk (ρ : Ro) (S : Sg)
  | ct (ρ : Ro) (S : Sg)
  | ex (x : Str) (fs : List (Str × D)) (ρ : Ro) (S : Sg)
  | no
abbrev MS := Ro → Sg → OS

def isLoc : D → Bool
  | .loc _ => true
  | _ => false
/-- what is read at a value: a thing of the store, a slot's own thing, or the value -/
def deref (ρ : Ro) (S : Sg) : D → Option D
  | .obj n => S[n]?
  | .loc i => match ρ[i]? with
    | some (.ow d) => some d
    | _ => none
  | d => some d

/-! ### what holds behind -/
section
variable (K : Fg) (mg : Mg)
/-- a value as an expression hands it on: it may be a slot's own thing -/
def RepR (O : Addr → Prop) (ad : List Addr) (ρ : Ro) (σ : L2.St) (H : Hp) (v : V) : D → Prop
  | .loc i => (∃ d, ρ[i]? = some (.ow d)) ∧ σ[i]? = some (some v)
  | d => Rep K mg (hide O H) ad v d
/-- a value's own object, what it holds standing still -/
def RepS (O : Addr → Prop) (ad : List Addr) (H : Hp) (v : V) (d : D) : Prop := Rep K mg (hide O H) ad v d ∨ ∃ a, v = .ref a ∧ MRep K mg (hide O H) ad H a d
def XRep (O : Addr → Prop) (ad : List Addr) (H : Hp) (cls : Value) (dd : Option Addr) (x : Str) (fs : List (Str × D)) : Prop :=
  ∃ C, mg x = some (.ref C) ∧ cls = .ref C ∧ ((dd = none ∧ fs = []) ∨ ∃ a vs, dd = some a ∧ H a = some (.xd vs) ∧ RepF K mg (hide O H) ad vs fs)
def PostE (W : WX) (ρ : Ro) (σ : L2.St) (Q : VK) (O : Addr → Prop) (ad : List Addr) (H : Hp) : Out D → Prop
  | .ok d S' => ∀ v O' ad' H', Stp O ad H O' ad' H' → Sto K mg O' ad' S' H' → RepR K mg O' ad' ρ σ H' v d → Q v H'
  | .er x fs S' => ∀ cls dd O' ad' H', Stp O ad H O' ad' H' → Sto K mg O' ad' S' H' → XRep K mg O' ad' H' cls dd x fs → W cls dd σ H'
  | .no => False
def PostA (W : WX) (ρ : Ro) (σ : L2.St) (Q : List V → Hp → Prop) (O : Addr → Prop) (ad : List Addr) (H : Hp) : Out (List D) → Prop
  | .ok ds S' => ∀ vs O' ad' H', Stp O ad H O' ad' H' → Sto K mg O' ad' S' H' → Paired (RepR K mg O' ad' ρ σ H') vs ds → Q vs H'
  | .er x fs S' => ∀ cls dd O' ad' H', Stp O ad H O' ad' H' → Sto K mg O' ad' S' H' → XRep K mg O' ad' H' cls dd x fs → W cls dd σ H'
  | .no => False
def PostT (W : WX) (ρ : Ro) (σ : L2.St) (Q : Bool → Hp → Prop) (O : Addr → Prop) (ad : List Addr) (H : Hp) : Out Bool → Prop
  | .ok b S' => ∀ O' ad' H', Stp O ad H O' ad' H' → Sto K mg O' ad' S' H' → Q b H'
  | .er x fs S' => ∀ cls dd O' ad' H', Stp O ad H O' ad' H' → Sto K mg O' ad' S' H' → XRep K mg O' ad' H' cls dd x fs → W cls dd σ H'
  | .no => False
def Ee (W : WX) (m : ME) : TE := fun σ H Q => ∃ O ad S ρ, Sto K mg O ad S H ∧ Fre K mg O ad ρ σ H ∧ PostE K mg W ρ σ Q O ad H (m ρ S)
def Ea (W : WX) (m : MA) : TA := fun σ H Q => ∃ O ad S ρ, Sto K mg O ad S H ∧ Fre K mg O ad ρ σ H ∧ PostA K mg W ρ σ Q O ad H (m ρ S)
def Et (W : WX) (m : MT) : TT := fun σ H Q => ∃ O ad S ρ, Sto K mg O ad S H ∧ Fre K mg O ad ρ σ H ∧ PostT K mg W ρ σ Q O ad H (m ρ S)
/-- what stood still stands still -/
structure Grow (O : Addr → Prop) (ad : List Addr) (H : Hp) (O' : Addr → Prop) (ad' : List Addr) (H' : Hp) : Prop where
  ex : ∀ b o, hide O H b = some o → hide O' H' b = some o
  ap : ∀ (n : Nat) a, ad[n]? = some a → ad'[n]? = some a
def PostS (W : WX) (c : Ctx) (Dn : Ends) (O : Addr → Prop) (ad : List Addr) (H : Hp) : OS → Prop
  | .nx ρ' S' => ∀ σ' O' ad' H', Grow O ad H O' ad' H' → Sta K mg c O' ad' S' ρ' σ' H' → Dn.nx σ' H'
  | .bk ρ' S' => ∀ σ' O' ad' H', Grow O ad H O' ad' H' → Sta K mg c O' ad' S' ρ' σ' H' → Dn.bk σ' H'
  | .ct ρ' S' => ∀ σ' O' ad' H', Grow O ad H O' ad' H' → Sta K mg c O' ad' S' ρ' σ' H' → Dn.ct σ' H'
  | .rt d S' => ∀ v O' ad' H', Sto K mg O' ad' S' H' → Cst c O' ad' H' → Rep K mg (hide O' H') ad' v d → Dn.rt v H'
  | .ex x fs ρ' S' => ∀ cls dd σ' O' ad' H', Grow O ad H O' ad' H' → Sta K mg c O' ad' S' ρ' σ' H' → XRep K mg O' ad' H' cls dd x fs → W cls dd σ' H'
  | .no => False
def Ss (W : WX) (m : MS) : TS := fun Dn σ H => ∃ c O ad S ρ, Sta K mg c O ad S ρ σ H ∧ PostS K mg W c Dn O ad H (m ρ S)
end
theorem Grow.refl (O : Addr → Prop) (ad : List Addr) (H : Hp) : Grow O ad H O ad H := ⟨fun _ _ h => h, fun _ _ h => h⟩
theorem Grow.trans {O O1 O2 : Addr → Prop} {ad ad1 ad2 : List Addr} {H H1 H2 : Hp} (a : Grow O ad H O1 ad1 H1) (b : Grow O1 ad1 H1 O2 ad2 H2) : Grow O ad H O2 ad2 H2 := ⟨fun x o h => b.ex x o (a.ex x o h), fun n x h => b.ap n x (a.ap n x h)⟩
theorem Stp.grow {O O1 : Addr → Prop} {ad ad1 : List Addr} {H H1 : Hp} (s : Stp O ad H O1 ad1 H1) (hid : ∀ a, a ∈ ad → O a) : Grow O ad H O1 ad1 H1 := ⟨s.hide hid, s.get⟩

/-! ### a judgement's reading is weakened -/
section
variable {X : Cx}
theorem pe_of {e : Expr} {t t' : TE} (h : PE X e t) (w : ∀ σ H Q, t' σ H Q → t σ H Q) : PE X e t' := ⟨fun pins s σ H Q I q => h.run pins s σ H Q I (w _ _ _ q)⟩
theorem pt_of {e : Expr} {t t' : TT} (h : PT X e t) (w : ∀ σ H Q, t' σ H Q → t σ H Q) : PT X e t' := ⟨fun pins s σ H Q I q => h.run pins s σ H Q I (w _ _ _ q)⟩
theorem pw_of {e : Expr} {t t' : TT} (h : PW X e t) (w : ∀ σ H Q, t' σ H Q → t σ H Q) : PW X e t' := ⟨fun wh pins s σ H Q I q => h.run wh pins s σ H Q I (w _ _ _ q)⟩
theorem pa_of {es : List Expr} {t t' : TA} (h : PA X es t) (w : ∀ σ H Q, t' σ H Q → t σ H Q) : PA X es t' := ⟨fun pos pins s σ H Q I q => h.run pos pins s σ H Q I (w _ _ _ q)⟩
theorem ps_of {st : Stmt} {t t' : TS} (h : PS X st t) (w : ∀ Dn σ H, t' Dn σ H → t Dn σ H) : PS X st t' := ⟨fun pins s σ H Dn I q => h.run pins s σ H Dn I (w _ _ _ q)⟩
theorem pss_of {st : List Stmt} {t t' : TS} (h : PSs X st t) (w : ∀ Dn σ H, t' Dn σ H → t Dn σ H) : PSs X st t' := ⟨fun pins s σ H Dn I q => h.run pins s σ H Dn I (w _ _ _ q)⟩
end
end Gd

/-! Gd, part 2: expressions, tests, arguments, plain statements. -/
namespace Gd
open PySem L2

section
variable {K : Fg} {mg : Mg} {W : WX} {O O1 : Addr → Prop} {ad ad1 : List Addr} {S S1 : Sg} {ρ : Ro} {σ : L2.St} {H H1 : Hp}

theorem Sto.of_un (s : Sto K mg O ad S H) : ∀ a, a ∈ ad → O a := s.hid
theorem RepR.step {v : V} {d : D} (r : RepR K mg O ad ρ σ H v d) (hid : ∀ a, a ∈ ad → O a) (s : Stp O ad H O1 ad1 H1) : RepR K mg O1 ad1 ρ σ H1 v d := by
  cases d with
  | loc i => exact r
  | _ => exact Rep.mono (s.hide hid) s.get r
theorem repR_of {v : V} {d : D} (r : Rep K mg (hide O H) ad v d) : RepR K mg O ad ρ σ H v d := by
  cases d with
  | loc i => cases r
  | _ => exact r
theorem RepR.rep {v : V} {d : D} (r : RepR K mg O ad ρ σ H v d) (n : isLoc d = false) : Rep K mg (hide O H) ad v d := by
  cases d with
  | loc i => cases n
  | _ => exact r
theorem deref_rep {v : V} {d e : D} (f : Fre K mg O ad ρ σ H) (s : Sto K mg O ad S H) (r : RepR K mg O ad ρ σ H v d) (h : deref ρ S d = some e) : RepS K mg O ad H v e := by
  cases d with
  | loc i =>
    obtain ⟨⟨d, h1⟩, h2⟩ := r
    have q : (match ρ[i]? with | some (.ow d) => some d | _ => none) = some e := h
    rw [h1] at q
    cases q
    obtain ⟨a, h3, _, _, h4⟩ := f.ow i _ h1
    rw [h3] at h2
    cases h2
    exact .inr ⟨a, rfl, h4⟩
  | obj n =>
    have q : S[n]? = some e := h
    obtain ⟨a, h1, h2⟩ := s.ob n e q
    have r' : Rep K mg (hide O H) ad v (.obj n) := r
    cases r' with
    | obj h3 =>
      rw [h1] at h3; cases h3
      exact .inr ⟨a, rfl, h2⟩
  | _ => cases h; exact .inl r
theorem PostE.rebase {Q : VK} {o : Out D} (h : PostE K mg W ρ σ Q O ad H o) (s : Stp O ad H O1 ad1 H1) (hid : ∀ a, a ∈ ad → O a) (dom : ∀ a, O1 a → ∃ o, H1 a = some o) : PostE K mg W ρ σ Q O1 ad1 H1 o := by
  cases o with
  | ok d S' => exact fun v O' ad' H' t z r => h v O' ad' H' (s.trans t hid dom) z r
  | er x fs S' => exact fun cls dd O' ad' H' t z r => h cls dd O' ad' H' (s.trans t hid dom) z r
  | no => exact h
theorem PostA.rebase {Q : List V → Hp → Prop} {o : Out (List D)} (h : PostA K mg W ρ σ Q O ad H o) (s : Stp O ad H O1 ad1 H1) (hid : ∀ a, a ∈ ad → O a) (dom : ∀ a, O1 a → ∃ o, H1 a = some o) : PostA K mg W ρ σ Q O1 ad1 H1 o := by
  cases o with
  | ok d S' => exact fun v O' ad' H' t z r => h v O' ad' H' (s.trans t hid dom) z r
  | er x fs S' => exact fun cls dd O' ad' H' t z r => h cls dd O' ad' H' (s.trans t hid dom) z r
  | no => exact h
theorem PostT.rebase {Q : Bool → Hp → Prop} {o : Out Bool} (h : PostT K mg W ρ σ Q O ad H o) (s : Stp O ad H O1 ad1 H1) (hid : ∀ a, a ∈ ad → O a) (dom : ∀ a, O1 a → ∃ o, H1 a = some o) : PostT K mg W ρ σ Q O1 ad1 H1 o := by
  cases o with
  | ok d S' => exact fun O' ad' H' t z => h O' ad' H' (s.trans t hid dom) z
  | er x fs S' => exact fun cls dd O' ad' H' t z r => h cls dd O' ad' H' (s.trans t hid dom) z r
  | no => exact h

/-- the state behind a first part -/
def AtE (K : Fg) (mg : Mg) (σ : L2.St) (H : Hp) (v : V) (R : (Addr → Prop) → List Addr → Ro → Sg → D → Prop) : Prop :=
  ∃ O ad S ρ d, Sto K mg O ad S H ∧ Fre K mg O ad ρ σ H ∧ RepR K mg O ad ρ σ H v d ∧ R O ad ρ S d
theorem bindE {m : ME} {f : Ro → D → Sg → Out D} {Q : VK} (h : Ee K mg W (fun ρ S => (m ρ S).bind (f ρ)) σ H Q) :
    Ee K mg W m σ H fun v H1 => AtE K mg σ H1 v fun O ad ρ S d => PostE K mg W ρ σ Q O ad H1 (f ρ d S) := by
  obtain ⟨O, ad, S, ρ, s, fr, h⟩ := h
  refine ⟨O, ad, S, ρ, s, fr, ?_⟩
  cases e : m ρ S with
  | ok d S1 =>
    (dsimp only at h; rw [e] at h)
    exact fun v O' ad' H' t z r => ⟨O', ad', S1, ρ, d, z, fr.step s.hid t, r, h.rebase t s.hid z.dom⟩
  | er x fs S1 =>
    (dsimp only at h; rw [e] at h)
    exact h
  | no =>
    (dsimp only at h; rw [e] at h)
    exact h
theorem bindEA {m : ME} {f : Ro → D → Sg → Out (List D)} {Q : List V → Hp → Prop} (h : Ea K mg W (fun ρ S => (m ρ S).bind (f ρ)) σ H Q) :
    Ee K mg W m σ H fun v H1 => AtE K mg σ H1 v fun O ad ρ S d => PostA K mg W ρ σ Q O ad H1 (f ρ d S) := by
  obtain ⟨O, ad, S, ρ, s, fr, h⟩ := h
  refine ⟨O, ad, S, ρ, s, fr, ?_⟩
  cases e : m ρ S with
  | ok d S1 =>
    (dsimp only at h; rw [e] at h)
    exact fun v O' ad' H' t z r => ⟨O', ad', S1, ρ, d, z, fr.step s.hid t, r, h.rebase t s.hid z.dom⟩
  | er x fs S1 =>
    (dsimp only at h; rw [e] at h)
    exact h
  | no =>
    (dsimp only at h; rw [e] at h)
    exact h
theorem bindET {m : ME} {f : Ro → D → Sg → Out Bool} {Q : Bool → Hp → Prop} (h : Et K mg W (fun ρ S => (m ρ S).bind (f ρ)) σ H Q) :
    Ee K mg W m σ H fun v H1 => AtE K mg σ H1 v fun O ad ρ S d => PostT K mg W ρ σ Q O ad H1 (f ρ d S) := by
  obtain ⟨O, ad, S, ρ, s, fr, h⟩ := h
  refine ⟨O, ad, S, ρ, s, fr, ?_⟩
  cases e : m ρ S with
  | ok d S1 =>
    (dsimp only at h; rw [e] at h)
    exact fun v O' ad' H' t z r => ⟨O', ad', S1, ρ, d, z, fr.step s.hid t, r, h.rebase t s.hid z.dom⟩
  | er x fs S1 =>
    (dsimp only at h; rw [e] at h)
    exact h
  | no =>
    (dsimp only at h; rw [e] at h)
    exact h
theorem bindTE {m : MT} {f : Ro → Bool → Sg → Out D} {Q : VK} (h : Ee K mg W (fun ρ S => (m ρ S).bind (f ρ)) σ H Q) :
    Et K mg W m σ H fun b H1 => ∃ O ad S ρ, Sto K mg O ad S H1 ∧ Fre K mg O ad ρ σ H1 ∧ PostE K mg W ρ σ Q O ad H1 (f ρ b S) := by
  obtain ⟨O, ad, S, ρ, s, fr, h⟩ := h
  refine ⟨O, ad, S, ρ, s, fr, ?_⟩
  cases e : m ρ S with
  | ok d S1 =>
    (dsimp only at h; rw [e] at h)
    exact fun O' ad' H' t z => ⟨O', ad', S1, ρ, z, fr.step s.hid t, h.rebase t s.hid z.dom⟩
  | er x fs S1 =>
    (dsimp only at h; rw [e] at h)
    exact h
  | no =>
    (dsimp only at h; rw [e] at h)
    exact h
theorem bindTT {m : MT} {f : Ro → Bool → Sg → Out Bool} {Q : Bool → Hp → Prop} (h : Et K mg W (fun ρ S => (m ρ S).bind (f ρ)) σ H Q) :
    Et K mg W m σ H fun b H1 => ∃ O ad S ρ, Sto K mg O ad S H1 ∧ Fre K mg O ad ρ σ H1 ∧ PostT K mg W ρ σ Q O ad H1 (f ρ b S) := by
  obtain ⟨O, ad, S, ρ, s, fr, h⟩ := h
  refine ⟨O, ad, S, ρ, s, fr, ?_⟩
  cases e : m ρ S with
  | ok d S1 =>
    (dsimp only at h; rw [e] at h)
    exact fun O' ad' H' t z => ⟨O', ad', S1, ρ, z, fr.step s.hid t, h.rebase t s.hid z.dom⟩
  | er x fs S1 =>
    (dsimp only at h; rw [e] at h)
    exact h
  | no =>
    (dsimp only at h; rw [e] at h)
    exact h
/-- two parts -/
def AtE2 (K : Fg) (mg : Mg) (σ : L2.St) (H : Hp) (v w : V) (R : (Addr → Prop) → List Addr → Ro → Sg → D → D → Prop) : Prop :=
  ∃ O ad S ρ d e, Sto K mg O ad S H ∧ Fre K mg O ad ρ σ H ∧ RepR K mg O ad ρ σ H v d ∧ RepR K mg O ad ρ σ H w e ∧ R O ad ρ S d e
theorem bind2E {m n : ME} {f : Ro → D → D → Sg → Out D} {Q : VK} (h : Ee K mg W (fun ρ S => (m ρ S).bind fun d S1 => (n ρ S1).bind fun e S2 => f ρ d e S2) σ H Q) :
    Ee K mg W m σ H fun v H1 => Ee K mg W n σ H1 fun w H2 => AtE2 K mg σ H2 v w fun O ad ρ S d e => PostE K mg W ρ σ Q O ad H2 (f ρ d e S) := by
  obtain ⟨O, ad, S, ρ, s, fr, h⟩ := h
  refine ⟨O, ad, S, ρ, s, fr, ?_⟩
  cases e : m ρ S with
  | ok d S1 =>
    (dsimp only at h; rw [e] at h)
    intro v O1 ad1 H1 t z r
    have h1 : PostE K mg W ρ σ Q O1 ad1 H1 ((n ρ S1).bind fun e S2 => f ρ d e S2) := PostE.rebase h t s.hid z.dom
    have f1 := fr.step s.hid t
    refine ⟨O1, ad1, S1, ρ, z, f1, ?_⟩
    cases e2 : n ρ S1 with
    | ok d2 S2 =>
      rw [e2] at h1
      exact fun w O2 ad2 H2 t2 z2 r2 => ⟨O2, ad2, S2, ρ, d, d2, z2, f1.step z.hid t2, r.step z.hid t2, r2, h1.rebase t2 z.hid z2.dom⟩
    | er x fs S2 =>
      rw [e2] at h1
      exact h1
    | no =>
      rw [e2] at h1
      exact h1
  | er x fs S1 =>
    (dsimp only at h; rw [e] at h)
    exact h
  | no =>
    (dsimp only at h; rw [e] at h)
    exact h
end

/-! ### names, constants -/
def e_var (i : Nat) : ME := fun ρ S => match ρ[i]? with
  | some (.va d) => .ok d S
  | some (.ow _) => .ok (.loc i) S
  | _ => .no
def e_c (d : D) : ME := fun _ S => .ok d S
section
variable {X : Cx} {W : WX}
theorem E_var {i : Nat} {e : Expr} (h : PE X e (tVar i)) : PE X e (Ee X.K X.mg W (e_var i)) := pe_of h fun σ H Q q => by
  obtain ⟨O, ad, S, ρ, s, fr, h⟩ := q
  unfold e_var at h
  cases e : ρ[i]? with
  | none => rw [e] at h; exact h.elim
  | some z =>
    rw [e] at h
    cases z with
    | un => exact h.elim
    | va d =>
      obtain ⟨v, h1, h2⟩ := fr.va i d e
      exact ⟨v, h1, h v O ad H (.refl _ _ _) s (repR_of h2)⟩
    | ow d =>
      obtain ⟨a, h1, _⟩ := fr.ow i d e
      exact ⟨_, h1, h _ O ad H (.refl _ _ _) s ⟨⟨d, e⟩, h1⟩⟩
theorem E_c {v : V} {d : D} {e : Expr} (h : PE X e (tC v)) (r : ∀ G ad, Rep X.K X.mg G ad v d) : PE X e (Ee X.K X.mg W (e_c d)) := pe_of h fun σ H Q q => by
  obtain ⟨O, ad, S, ρ, s, fr, h⟩ := q
  exact h v O ad H (.refl _ _ _) s (repR_of (r _ _))
theorem E_int {i : Int} {j pos} : PE X (.Constant (.int i) j pos) (Ee X.K X.mg W (e_c (.int i))) := E_c pe_int fun _ _ => .int i
theorem E_bl {b : Bool} {j pos} : PE X (.Constant (.bool b) j pos) (Ee X.K X.mg W (e_c (.bl b))) := E_c pe_bl fun _ _ => .bl b
theorem E_non {j pos} : PE X (.Constant .none j pos) (Ee X.K X.mg W (e_c .non)) := E_c pe_non fun _ _ => .non
theorem E_str {x : Str} {j pos} : PE X (.Constant (.str x) j pos) (Ee X.K X.mg W (e_c (.str x))) := E_c pe_str fun _ _ => .str x
end

/-! ### operations on what is read -/
def liftO (S : Sg) : Option D → Out D
  | some z => .ok z S
  | none => .no
def e_op1 (f : D → Option D) (a : ME) : ME := fun ρ S => (a ρ S).bind fun d S1 => liftO S1 ((deref ρ S1 d).bind f)
def e_op2 (f : D → D → Option D) (a b : ME) : ME := fun ρ S => (a ρ S).bind fun d S1 => (b ρ S1).bind fun e S2 => liftO S2 ((deref ρ S2 d).bind fun d' => (deref ρ S2 e).bind fun e' => f d' e')
def isRefD : D → Bool
  | .lst _ => true
  | .tup _ => true
  | .dct _ => true
  | .ins _ _ => true
  | _ => false
/-- what an operation gives: a value that is there, or a new thing -/
def Res (K : Fg) (mg : Mg) (O : Addr → Prop) (ad : List Addr) (H : Hp) (z : D) (r : VK → Prop) : Prop :=
  (∃ v, Rep K mg (hide O H) ad v z ∧ ∀ Q : VK, Q v H → r Q) ∨
  (isRefD z = true ∧ ∃ o, (∀ p G, (∀ b o', hide O H b = some o' → G b = some o') → G p = some o → Rep K mg G ad (.ref p) z) ∧ ∀ Q : VK, (∀ p, H p = none → Q (.ref p) (upd H p o)) → r Q)
def OpP (K : Fg) (mg : Mg) (r : R2) (f : D → D → Option D) : Prop :=
  ∀ O ad H x y d e z, RepS K mg O ad H x d → RepS K mg O ad H y e → f d e = some z → Res K mg O ad H z (r x y H)
def UnP (K : Fg) (mg : Mg) (r : V → Hp → VK → Prop) (f : D → Option D) : Prop :=
  ∀ O ad H x d z, RepS K mg O ad H x d → f d = some z → Res K mg O ad H z (r x H)
theorem Res.imp {K : Fg} {mg : Mg} {O : Addr → Prop} {ad : List Addr} {H : Hp} {z : D} {r r' : VK → Prop} (h : Res K mg O ad H z r) (k : ∀ Q, r Q → r' Q) : Res K mg O ad H z r' := by
  rcases h with ⟨v, h1, h2⟩ | ⟨h0, o, h1, h2⟩
  · exact .inl ⟨v, h1, fun Q q => k Q (h2 Q q)⟩
  · exact .inr ⟨h0, o, h1, fun Q q => k Q (h2 Q q)⟩
theorem res_v {K : Fg} {mg : Mg} {O : Addr → Prop} {ad : List Addr} {H : Hp} {z : D} {r : VK → Prop} {v : V} (h : Rep K mg (hide O H) ad v z) (k : ∀ Q : VK, Q v H → r Q) : Res K mg O ad H z r := .inl ⟨v, h, k⟩
theorem Res.go {K : Fg} {mg : Mg} {W : WX} {ρ : Ro} {σ : L2.St} {O : Addr → Prop} {ad : List Addr} {H : Hp} {S : Sg} {z : D} {r : VK → Prop} {Q : VK} (h : Res K mg O ad H z r) (s : Sto K mg O ad S H) (k : PostE K mg W ρ σ Q O ad H (.ok z S)) : r Q := by
  rcases h with ⟨v, h1, h2⟩ | ⟨_, o, h1, h2⟩
  · exact h2 Q (k v O ad H (.refl _ _ _) s (repR_of h1))
  · refine h2 Q fun p hp => ?_
    have kk : ∀ b o', H b = some o' → upd H p o b = some o' := fun b o' e => by rw [upd_ne (ne_of_none e hp)]; exact e
    have hk : ∀ b o', hide O H b = some o' → hide O (upd H p o) b = some o' := fun b o' e => hide_of (of_hide e).1 (kk b o' (of_hide e).2)
    have np : ¬ O p := fun q => by
      obtain ⟨o', e⟩ := s.dom p q
      rw [hp] at e; cases e
    refine k (.ref p) O ad (upd H p o) ⟨fun b o' e _ => kk b o' e, fun _ h => h, fun _ h => .inl h, [], by simp, fun _ h => nomatch h⟩ ⟨s.len, s.nd, s.hid, fun a h => ?_, fun n d' h => ?_⟩ (repR_of (h1 p _ hk (hide_of np upd_same)))
    · obtain ⟨o', e⟩ := s.dom a h
      exact ⟨o', kk a o' e⟩
    · obtain ⟨a, h1, h2⟩ := s.ob n d' h
      exact ⟨a, h1, h2.mono hk (fun _ _ e => e) fun o' e => kk a o' e⟩
section
variable {K : Fg} {mg : Mg} {W : WX}
theorem OpP.or {r r' : R2} {f g : D → D → Option D} (h : OpP K mg r f) (h' : OpP K mg r' g) : OpP K mg (fun x y H Q => r x y H Q ∨ r' x y H Q) (fun d e => (f d e).or (g d e)) := by
  intro O ad H x y d e z rx ry q
  cases e1 : f d e with
  | some u =>
    have q' : (f d e).or (g d e) = some z := q
    rw [e1] at q'
    cases q'
    exact (h O ad H x y d e _ rx ry e1).imp fun Q k => .inl k
  | none =>
    have q' : (f d e).or (g d e) = some z := q
    rw [e1] at q'
    exact (h' O ad H x y d e _ rx ry q').imp fun Q k => .inr k
theorem UnP.or {r r' : V → Hp → VK → Prop} {f g : D → Option D} (h : UnP K mg r f) (h' : UnP K mg r' g) : UnP K mg (fun x H Q => r x H Q ∨ r' x H Q) (fun d => (f d).or (g d)) := by
  intro O ad H x d z rx q
  cases e1 : f d with
  | some u =>
    have q' : (f d).or (g d) = some z := q
    rw [e1] at q'
    cases q'
    exact (h O ad H x d _ rx e1).imp fun Q k => .inl k
  | none =>
    have q' : (f d).or (g d) = some z := q
    rw [e1] at q'
    exact (h' O ad H x d _ rx q').imp fun Q k => .inr k
theorem liftO_ok {ρ : Ro} {σ : L2.St} {O : Addr → Prop} {ad : List Addr} {H : Hp} {S : Sg} {o : Option D} {Q : VK} (h : PostE K mg W ρ σ Q O ad H (liftO S o)) : ∃ z, o = some z := by
  cases o with
  | some z => exact ⟨z, rfl⟩
  | none => exact h.elim
theorem w_op2 {r : R2} {f : D → D → Option D} {a b : ME} (hf : OpP K mg r f) : ∀ σ H Q, Ee K mg W (e_op2 f a b) σ H Q → tOp r (Ee K mg W a) (Ee K mg W b) σ H Q := by
  intro σ H Q q
  have q2 := bind2E (f := fun ρ d e S2 => liftO S2 ((deref ρ S2 d).bind fun d' => (deref ρ S2 e).bind fun e' => f d' e')) q
  obtain ⟨O, ad, S, ρ, s, fr, h⟩ := q2
  refine ⟨O, ad, S, ρ, s, fr, ?_⟩
  have imp : ∀ (x : V) (H1 : Hp), (Ee K mg W b σ H1 fun w H2 => AtE2 K mg σ H2 x w fun O ad ρ S d e => PostE K mg W ρ σ Q O ad H2 (liftO S ((deref ρ S d).bind fun d' => (deref ρ S e).bind fun e' => f d' e'))) → Ee K mg W b σ H1 fun y H2 => r x y H2 Q := by
    intro x H1 g
    obtain ⟨O, ad, S, ρ, s, fr, h⟩ := g
    refine ⟨O, ad, S, ρ, s, fr, ?_⟩
    have imp2 : ∀ (y : V) (H2 : Hp), (AtE2 K mg σ H2 x y fun O ad ρ S d e => PostE K mg W ρ σ Q O ad H2 (liftO S ((deref ρ S d).bind fun d' => (deref ρ S e).bind fun e' => f d' e'))) → r x y H2 Q := by
      rintro y H2 ⟨O, ad, S, ρ, d, e, s, fr, r1, r2, k⟩
      obtain ⟨z, ez⟩ := liftO_ok k
      obtain ⟨d', ed, ez⟩ := Option.bind_eq_some_iff.mp ez
      obtain ⟨e', ee, ez⟩ := Option.bind_eq_some_iff.mp ez
      have kv := hf O ad H2 x y d' e' z (deref_rep fr s r1 ed) (deref_rep fr s r2 ee) ez
      rw [ed] at k
      simp only [Option.bind_some, ee, ez, liftO] at k
      exact kv.go s k
    cases e : b ρ S with
    | ok d S1 => rw [e] at h; exact fun v O' ad' H' t z r => imp2 _ _ (h v O' ad' H' t z r)
    | er x fs S1 => rw [e] at h; exact h
    | no => rw [e] at h; exact h
  cases e : a ρ S with
  | ok d S1 => rw [e] at h; exact fun v O' ad' H' t z r => imp _ _ (h v O' ad' H' t z r)
  | er x fs S1 => rw [e] at h; exact h
  | no => rw [e] at h; exact h
/-- a reading's end is weakened -/
theorem Ee.imp {m : ME} {σ : L2.St} {H : Hp} {Q Q' : VK} (h : Ee K mg W m σ H Q) (k : ∀ v H, Q v H → Q' v H) : Ee K mg W m σ H Q' := by
  obtain ⟨O, ad, S, ρ, s, fr, h⟩ := h
  refine ⟨O, ad, S, ρ, s, fr, ?_⟩
  cases e : m ρ S with
  | ok d S1 => rw [e] at h; exact fun v O' ad' H' t z r => k _ _ (h v O' ad' H' t z r)
  | er x fs S1 => rw [e] at h; exact h
  | no => rw [e] at h; exact h
theorem Et.imp {m : MT} {σ : L2.St} {H : Hp} {Q Q' : Bool → Hp → Prop} (h : Et K mg W m σ H Q) (k : ∀ v H, Q v H → Q' v H) : Et K mg W m σ H Q' := by
  obtain ⟨O, ad, S, ρ, s, fr, h⟩ := h
  refine ⟨O, ad, S, ρ, s, fr, ?_⟩
  cases e : m ρ S with
  | ok d S1 => rw [e] at h; exact fun O' ad' H' t z => k _ _ (h O' ad' H' t z)
  | er x fs S1 => rw [e] at h; exact h
  | no => rw [e] at h; exact h
theorem Ea.imp {m : MA} {σ : L2.St} {H : Hp} {Q Q' : List V → Hp → Prop} (h : Ea K mg W m σ H Q) (k : ∀ v H, Q v H → Q' v H) : Ea K mg W m σ H Q' := by
  obtain ⟨O, ad, S, ρ, s, fr, h⟩ := h
  refine ⟨O, ad, S, ρ, s, fr, ?_⟩
  cases e : m ρ S with
  | ok d S1 => rw [e] at h; exact fun v O' ad' H' t z r => k _ _ (h v O' ad' H' t z r)
  | er x fs S1 => rw [e] at h; exact h
  | no => rw [e] at h; exact h
theorem w_op1 {r : V → Hp → VK → Prop} {f : D → Option D} {a : ME} (hf : UnP K mg r f) : ∀ σ H Q, Ee K mg W (e_op1 f a) σ H Q → tUn r (Ee K mg W a) σ H Q := by
  intro σ H Q q
  refine (bindE (f := fun ρ d S1 => liftO S1 ((deref ρ S1 d).bind f)) q).imp fun x H1 g => ?_
  obtain ⟨O, ad, S, ρ, d, s, fr, r1, k⟩ := g
  obtain ⟨z, ez⟩ := liftO_ok k
  obtain ⟨d', ed, ez⟩ := Option.bind_eq_some_iff.mp ez
  have kv := hf O ad H1 x d' z (deref_rep fr s r1 ed) ez
  rw [ed] at k
  simp only [Option.bind_some, ez, liftO] at k
  exact kv.go s k
end

/-! ### tests -/
def liftB (S : Sg) : D → Out Bool
  | .bl b => .ok b S
  | _ => .no
def t_e (m : ME) : MT := fun ρ S => (m ρ S).bind fun d S1 => liftB S1 d
def t_not (t : MT) : MT := fun ρ S => (t ρ S).bind fun b S1 => .ok (!b) S1
def t_and (t u : MT) : MT := fun ρ S => (t ρ S).bind fun b S1 => if b = true then u ρ S1 else .ok false S1
def t_or (t u : MT) : MT := fun ρ S => (t ρ S).bind fun b S1 => if b = true then .ok true S1 else u ρ S1
def e_if (t : MT) (a b : ME) : ME := fun ρ S => (t ρ S).bind fun c S1 => if c = true then a ρ S1 else b ρ S1
def e_not (m : ME) : ME := fun ρ S => (m ρ S).bind fun d S1 => (liftB S1 d).bind fun b S2 => .ok (.bl (!b)) S2
def e_and (a b : ME) : ME := fun ρ S => (a ρ S).bind fun d S1 => (liftB S1 d).bind fun c S2 => if c = true then b ρ S2 else .ok (.bl false) S2
def e_or (a b : ME) : ME := fun ρ S => (a ρ S).bind fun d S1 => (liftB S1 d).bind fun c S2 => if c = true then .ok (.bl true) S2 else b ρ S2
section
variable {K : Fg} {mg : Mg} {W : WX}
theorem liftB_of {ρ : Ro} {σ : L2.St} {O : Addr → Prop} {ad : List Addr} {H : Hp} {S : Sg} {d : D} {v : V} {Q : Bool → Hp → Prop} (r : RepR K mg O ad ρ σ H v d) (h : PostT K mg W ρ σ Q O ad H (liftB S d)) : ∃ b, d = .bl b ∧ v = .bl b := by
  cases d with
  | bl b =>
    have r' : Rep K mg (hide O H) ad v (.bl b) := r
    cases r'
    exact ⟨b, rfl, rfl⟩
  | _ => exact h.elim
theorem w_test {t : TE} {m : ME} (h : ∀ σ H Q, Ee K mg W m σ H Q → t σ H Q) : ∀ σ H Q, Et K mg W (t_e m) σ H Q → tTest t σ H Q := by
  intro σ H Q q
  refine h _ _ _ ((bindET (f := fun _ d S1 => liftB S1 d) q).imp fun v H1 g => ?_)
  obtain ⟨O, ad, S, ρ, d, s, fr, r1, k⟩ := g
  obtain ⟨b, rfl, rfl⟩ := liftB_of r1 k
  exact ⟨b, rfl, k O ad H1 (.refl _ _ _) s⟩
theorem w_testB {t : TE} {m : ME} (h : ∀ σ H Q, Ee K mg W m σ H Q → t σ H Q) : ∀ σ H Q, Et K mg W (t_e m) σ H Q → tB t σ H Q := w_test h
theorem w_not {t : MT} : ∀ σ H Q, Et K mg W (t_not t) σ H Q → tNot (Et K mg W t) σ H Q := by
  intro σ H Q q
  refine (bindTT (f := fun _ b S1 => .ok (!b) S1) q).imp fun b H1 g => ?_
  obtain ⟨O, ad, S, ρ, s, fr, k⟩ := g
  exact k O ad H1 (.refl _ _ _) s
theorem w_and {t u : MT} : ∀ σ H Q, Et K mg W (t_and t u) σ H Q → tAnd (Et K mg W t) (Et K mg W u) σ H Q := by
  intro σ H Q q
  refine (bindTT (f := fun ρ b S1 => if b = true then u ρ S1 else .ok false S1) q).imp fun b H1 g => ?_
  obtain ⟨O, ad, S, ρ, s, fr, k⟩ := g
  cases b with
  | true =>
    rw [if_pos rfl] at k ⊢
    exact ⟨O, ad, S, ρ, s, fr, k⟩
  | false =>
    rw [if_neg Bool.false_ne_true] at k ⊢
    exact k O ad H1 (.refl _ _ _) s
theorem w_or {t u : MT} : ∀ σ H Q, Et K mg W (t_or t u) σ H Q → tOr (Et K mg W t) (Et K mg W u) σ H Q := by
  intro σ H Q q
  refine (bindTT (f := fun ρ b S1 => if b = true then .ok true S1 else u ρ S1) q).imp fun b H1 g => ?_
  obtain ⟨O, ad, S, ρ, s, fr, k⟩ := g
  cases b with
  | true =>
    rw [if_pos rfl] at k ⊢
    exact k O ad H1 (.refl _ _ _) s
  | false =>
    rw [if_neg Bool.false_ne_true] at k ⊢
    exact ⟨O, ad, S, ρ, s, fr, k⟩
theorem w_ifE {t : MT} {a b : ME} : ∀ σ H Q, Ee K mg W (e_if t a b) σ H Q → tIf (Et K mg W t) (Ee K mg W a) (Ee K mg W b) σ H Q := by
  intro σ H Q q
  refine (bindTE (f := fun ρ c S1 => if c = true then a ρ S1 else b ρ S1) q).imp fun c H1 g => ?_
  obtain ⟨O, ad, S, ρ, s, fr, k⟩ := g
  cases c with
  | true =>
    rw [if_pos rfl] at k ⊢
    exact ⟨O, ad, S, ρ, s, fr, k⟩
  | false =>
    rw [if_neg Bool.false_ne_true] at k ⊢
    exact ⟨O, ad, S, ρ, s, fr, k⟩
theorem post_bl {ρ : Ro} {σ : L2.St} {O : Addr → Prop} {ad : List Addr} {H : Hp} {S : Sg} {Q : VK} {b : Bool} (s : Sto K mg O ad S H) (k : PostE K mg W ρ σ Q O ad H (.ok (.bl b) S)) : Q (.bl b) H :=
  k _ O ad H (.refl _ _ _) s (repR_of (d := .bl b) (.bl b))
theorem liftB_ofE {ρ : Ro} {σ : L2.St} {O : Addr → Prop} {ad : List Addr} {H : Hp} {S : Sg} {d : D} {v : V} {f : Bool → Sg → Out D} {Q : VK} (r : RepR K mg O ad ρ σ H v d) (h : PostE K mg W ρ σ Q O ad H ((liftB S d).bind f)) : ∃ b, d = .bl b ∧ v = .bl b := by
  cases d with
  | bl b =>
    have r' : Rep K mg (hide O H) ad v (.bl b) := r
    cases r'
    exact ⟨b, rfl, rfl⟩
  | _ => exact h.elim
theorem w_notE {m : ME} : ∀ σ H Q, Ee K mg W (e_not m) σ H Q → tNotV (Ee K mg W m) σ H Q := by
  intro σ H Q q
  refine (bindE (f := fun _ d S1 => (liftB S1 d).bind fun b S2 => .ok (.bl (!b)) S2) q).imp fun v H1 g => ?_
  obtain ⟨O, ad, S, ρ, d, s, fr, r1, k⟩ := g
  obtain ⟨b, rfl, rfl⟩ := liftB_ofE r1 k
  exact ⟨b, rfl, post_bl s k⟩
theorem w_andE {a b : ME} : ∀ σ H Q, Ee K mg W (e_and a b) σ H Q → tAndV (Ee K mg W a) (Ee K mg W b) σ H Q := by
  intro σ H Q q
  refine (bindE (f := fun ρ d S1 => (liftB S1 d).bind fun c S2 => if c = true then b ρ S2 else .ok (.bl false) S2) q).imp fun v H1 g => ?_
  obtain ⟨O, ad, S, ρ, d, s, fr, r1, k⟩ := g
  obtain ⟨c, rfl, rfl⟩ := liftB_ofE r1 k
  refine ⟨c, rfl, ?_⟩
  cases c with
  | true => exact ⟨O, ad, S, ρ, s, fr, k⟩
  | false => exact post_bl s k
theorem w_orE {a b : ME} : ∀ σ H Q, Ee K mg W (e_or a b) σ H Q → tOrV (Ee K mg W a) (Ee K mg W b) σ H Q := by
  intro σ H Q q
  refine (bindE (f := fun ρ d S1 => (liftB S1 d).bind fun c S2 => if c = true then .ok (.bl true) S2 else b ρ S2) q).imp fun v H1 g => ?_
  obtain ⟨O, ad, S, ρ, d, s, fr, r1, k⟩ := g
  obtain ⟨c, rfl, rfl⟩ := liftB_ofE r1 k
  refine ⟨c, rfl, ?_⟩
  cases c with
  | true => exact post_bl s k
  | false => exact ⟨O, ad, S, ρ, s, fr, k⟩
end
section
variable {X : Cx} {W : WX} {a b c e : Expr} {pos : Pos} {op : CmpOp} {ta tb : ME} {tm um : MT}
/-- a comparison by its rule -/
theorem E_cmp {r : R2} {f : D → D → Option D} (ho : OpR X (compareOp op) r) (hf : OpP X.K X.mg r f) (hm : behindInMarks op b = false) (ha : PE X a (Ee X.K X.mg W ta)) (hb : PE X b (Ee X.K X.mg W tb)) : PE X (.Compare a [op] [b] pos) (Ee X.K X.mg W (e_op2 f ta tb)) :=
  pe_of (pe_cmpR ho ha hb hm) (w_op2 hf)
theorem T_cmp {r : R2} {f : D → D → Option D} (ho : OpR X (compareOp op) r) (hf : OpP X.K X.mg r f) (hm : behindInMarks op b = false) (ha : PE X a (Ee X.K X.mg W ta)) (hb : PE X b (Ee X.K X.mg W tb)) : PT X (.Compare a [op] [b] pos) (Et X.K X.mg W (t_e (e_op2 f ta tb))) :=
  pt_of (pt_cmpR ho ha hb hm) (w_test (w_op2 hf))
theorem E_bin {o : Operator} {r : R2} {f : D → D → Option D} (ho : OpR X (binaryOp o) r) (hf : OpP X.K X.mg r f) (ha : PE X a (Ee X.K X.mg W ta)) (hb : PE X b (Ee X.K X.mg W tb)) : PE X (.BinOp a o b pos) (Ee X.K X.mg W (e_op2 f ta tb)) :=
  pe_of (pe_op ho ha hb) (w_op2 hf)
theorem E_ix {r : R2} {f : D → D → Option D} (hr : IxR X r) (hf : OpP X.K X.mg r f) (hs : PlainIx b) (ha : PE X a (Ee X.K X.mg W ta)) (hb : PE X b (Ee X.K X.mg W tb)) : PE X (.Subscript a b pos) (Ee X.K X.mg W (e_op2 f ta tb)) :=
  pe_of (pe_ix hr ha hb hs) (w_op2 hf)
theorem T_val {m : ME} (h : PE X e (Ee X.K X.mg W m)) (he : ∀ whole, isTrue e X.env whole = (do let v ← whole; standAt e.pos; holding [v] (truthy v)) := by intro _; rfl) : PT X e (Et X.K X.mg W (t_e m)) :=
  pt_of (pt_val h he) (w_testB fun _ _ _ q => q)
theorem T_not (h : PT X a (Et X.K X.mg W tm)) : PT X (.UnaryOp .Not a pos) (Et X.K X.mg W (t_not tm)) := pt_of (pt_not h) w_not
theorem W_and {rest : List Expr} (ha : PT X a (Et X.K X.mg W tm)) (hb : PW X (.BoolOp .And (b :: rest) pos) (Et X.K X.mg W um)) : PW X (.BoolOp .And (a :: b :: rest) pos) (Et X.K X.mg W (t_and tm um)) := pw_of (pw_and ha hb) w_and
theorem W_or {rest : List Expr} (ha : PT X a (Et X.K X.mg W tm)) (hb : PW X (.BoolOp .Or (b :: rest) pos) (Et X.K X.mg W um)) : PW X (.BoolOp .Or (a :: b :: rest) pos) (Et X.K X.mg W (t_or tm um)) := pw_of (pw_or ha hb) w_or
theorem E_if (hc : PT X c (Et X.K X.mg W tm)) (ha : PE X a (Ee X.K X.mg W ta)) (hb : PE X b (Ee X.K X.mg W tb)) : PE X (.IfExp c a b pos) (Ee X.K X.mg W (e_if tm ta tb)) := pe_of (pe_ifExp hc ha hb) w_ifE
theorem E_not (ha : PE X a (Ee X.K X.mg W ta)) : PE X (.UnaryOp .Not a pos) (Ee X.K X.mg W (e_not ta)) := pe_of (pe_not ha) w_notE
theorem E_and {rest : List Expr} (ha : PE X a (Ee X.K X.mg W ta)) (hb : PE X (.BoolOp .And (b :: rest) pos) (Ee X.K X.mg W tb)) : PE X (.BoolOp .And (a :: b :: rest) pos) (Ee X.K X.mg W (e_and ta tb)) := pe_of (pe_and ha hb) w_andE
theorem E_or {rest : List Expr} (ha : PE X a (Ee X.K X.mg W ta)) (hb : PE X (.BoolOp .Or (b :: rest) pos) (Ee X.K X.mg W tb)) : PE X (.BoolOp .Or (a :: b :: rest) pos) (Ee X.K X.mg W (e_or ta tb)) := pe_of (pe_or ha hb) w_orE
end

/-! ### arguments -/
def a_nil : MA := fun _ S => .ok [] S
def a_cons (m : ME) (r : MA) : MA := fun ρ S => (m ρ S).bind fun d S1 => (r ρ S1).bind fun ds S2 => .ok (d :: ds) S2
section
variable {K : Fg} {mg : Mg} {W : WX}
theorem PairedR.step {O O1 : Addr → Prop} {ad ad1 : List Addr} {ρ : Ro} {σ : L2.St} {H H1 : Hp} (hid : ∀ a, a ∈ ad → O a) (s : Stp O ad H O1 ad1 H1) : ∀ {vs : List V} {ds : List D}, Paired (RepR K mg O ad ρ σ H) vs ds → Paired (RepR K mg O1 ad1 ρ σ H1) vs ds
  | _, _, .nil => .nil
  | _, _, .cons r t => .cons (r.step hid s) (PairedR.step hid s t)
theorem w_acons {m : ME} {r : MA} : ∀ σ H Q, Ea K mg W (a_cons m r) σ H Q → tCons (Ee K mg W m) (Ea K mg W r) σ H Q := by
  intro σ H Q q
  refine (bindEA (f := fun ρ d S1 => (r ρ S1).bind fun ds S2 => .ok (d :: ds) S2) q).imp fun v H1 g => ?_
  obtain ⟨O, ad, S, ρ, d, s, fr, r1, k⟩ := g
  refine ⟨O, ad, S, ρ, s, fr, ?_⟩
  cases e : r ρ S with
  | ok ds S1 =>
    rw [e] at k
    exact fun vs O' ad' H' t z rs => k (v :: vs) O' ad' H' t z (.cons (r1.step s.hid t) rs)
  | er x fs S1 => rw [e] at k; exact k
  | no => rw [e] at k; exact k
end
section
variable {X : Cx} {W : WX}
theorem A_nil : PA X [] (Ea X.K X.mg W a_nil) := pa_of pa_nil fun σ H Q q => by
  obtain ⟨O, ad, S, ρ, s, fr, k⟩ := q
  exact k [] O ad H (.refl _ _ _) s .nil
theorem A_cons {e : Expr} {es : List Expr} {m : ME} {r : MA} (he : PE X e (Ee X.K X.mg W m)) (hr : PA X es (Ea X.K X.mg W r)) (hs : starEach (e :: es) X.env = (false, eval e X.env) :: starEach es X.env := by rfl) :
    PA X (e :: es) (Ea X.K X.mg W (a_cons m r)) := pa_of (pa_cons he hr hs) w_acons
theorem K_nil : PK X [] (Ea X.K X.mg W a_nil) := ⟨fun pos pins s σ H Q I q => pk_nil.run pos pins s σ H Q I (by
  obtain ⟨O, ad, S, ρ, s, fr, k⟩ := q
  exact k [] O ad H (.refl _ _ _) s .nil)⟩
theorem K_cons {e : Expr} {kws : List Keyword} {nm : Option Str} {kpos : Pos} {m : ME} {r : MA} (he : PE X e (Ee X.K X.mg W m)) (hr : PK X kws (Ea X.K X.mg W r)) : PK X (⟨nm, e, kpos⟩ :: kws) (Ea X.K X.mg W (a_cons m r)) :=
  ⟨fun pos pins s σ H Q I q => (pk_cons he hr).run pos pins s σ H Q I (w_acons _ _ _ q)⟩
end
end Gd

/-! Gd, part 3: new things, statements, defs, calls. -/
namespace Gd
open PySem L2

/-! ### a new thing -/
section
variable (K : Fg) (mg : Mg)
def PostF (W : WX) (ρ : Ro) (σ : L2.St) (Q : VK) (O : Addr → Prop) (ad : List Addr) (H : Hp) : Out D → Prop
  | .ok d S' => ∀ p O' ad' H', Stp O ad H O' ad' H' → Sto K mg O' ad' S' H' → O' p → p ∉ ad' → H p = none → MRep K mg (hide O' H') ad' H' p d → Q (.ref p) H'
  | .er x fs S' => ∀ cls dd O' ad' H', Stp O ad H O' ad' H' → Sto K mg O' ad' S' H' → XRep K mg O' ad' H' cls dd x fs → W cls dd σ H'
  | .no => False
def Ef (W : WX) (m : ME) : TE := fun σ H Q => ∃ O ad S ρ, Sto K mg O ad S H ∧ Fre K mg O ad ρ σ H ∧ PostF K mg W ρ σ Q O ad H (m ρ S)
end
def e_sh (m : ME) : ME := fun ρ S => (m ρ S).bind fun d S1 => .ok (.obj S1.length) (S1 ++ [d])
section
variable {K : Fg} {mg : Mg} {W : WX} {O O1 : Addr → Prop} {ad ad1 : List Addr} {S S1 : Sg} {ρ : Ro} {σ : L2.St} {H H1 : Hp}
theorem PostF.rebase {Q : VK} {o : Out D} (h : PostF K mg W ρ σ Q O ad H o) (s : Stp O ad H O1 ad1 H1) (hid : ∀ a, a ∈ ad → O a) (dom : ∀ a, O1 a → ∃ o, H1 a = some o) : PostF K mg W ρ σ Q O1 ad1 H1 o := by
  cases o with
  | ok d S' =>
    refine fun p O' ad' H' t z h1 h2 h3 r => h p O' ad' H' (s.trans t hid dom) z h1 h2 ?_ r
    cases e : H p with
    | none => rfl
    | some o =>
      by_cases m : p ∈ ad
      · exact absurd (t.mem (s.mem m)) h2
      · rw [s.fr p o e m] at h3; cases h3
  | er x fs S' => exact fun cls dd O' ad' H' t z r => h cls dd O' ad' H' (s.trans t hid dom) z r
  | no => exact h
/-- the store does not hang on a young thing being seen or not -/
theorem Sto.seen (s : Sto K mg O ad S H) {p : Addr} (hp : p ∉ ad) : Sto K mg (fun a => O a ∧ a ≠ p) ad S H :=
  ⟨s.len, s.nd, fun a h => ⟨s.hid a h, fun e => hp (e ▸ h)⟩, fun a h => s.dom a h.1, fun n d h => by
    obtain ⟨a, h1, h2⟩ := s.ob n d h
    exact ⟨a, h1, h2.mono (fun b o e => hide_of (fun q => (of_hide e).1 q.1) (of_hide e).2) (fun _ _ e => e) fun _ e => e⟩⟩
theorem hide_le {O O' : Addr → Prop} {H : Hp} (h : ∀ a, O' a → O a) : ∀ b o, hide O H b = some o → hide O' H b = some o := fun b o e => hide_of (fun q => (of_hide e).1 (h b q)) (of_hide e).2
theorem w_fz {m : ME} : ∀ σ H Q, Ee K mg W m σ H Q → Ef K mg W m σ H Q := by
  rintro σ H Q ⟨O, ad, S, ρ, s, fr, h⟩
  refine ⟨O, ad, S, ρ, s, fr, ?_⟩
  cases e : m ρ S with
  | ok d S1 =>
    rw [e] at h
    intro p O' ad' H' t z h1 h2 h3 r
    have np : ∀ a, O a → a ≠ p := fun a ha q => by
      obtain ⟨o, ho⟩ := s.dom a ha
      rw [q, h3] at ho; cases ho
    refine h (.ref p) (fun a => O' a ∧ a ≠ p) ad' H' ⟨t.fr, fun a ha => ⟨t.op a ha, np a ha⟩, fun a ha => t.oq a ha.1, t.ap⟩ (z.seen h2) (repR_of ?_)
    have r' : MRep K mg (hide (fun a => O' a ∧ a ≠ p) H') ad' H' p d := r.mono (hide_le fun a q => q.1) (fun _ _ e => e) fun _ e => e
    exact r'.rep fun o e => hide_of (fun q => q.2 rfl) e
  | er x fs S1 => rw [e] at h; exact h
  | no => rw [e] at h; exact h
theorem w_sh {m : ME} : ∀ σ H Q, Ee K mg W (e_sh m) σ H Q → Ef K mg W m σ H Q := by
  rintro σ H Q ⟨O, ad, S, ρ, s, fr, h⟩
  refine ⟨O, ad, S, ρ, s, fr, ?_⟩
  unfold e_sh at h
  cases e : m ρ S with
  | ok d S1 =>
    rw [e] at h
    intro p O' ad' H' t z h1 h2 h3 r
    refine h (.ref p) O' (ad' ++ [p]) H' ⟨t.fr, t.op, t.oq, ?_⟩ ⟨by rw [List.length_append, List.length_append, z.len] <;> rfl, ?_, ?_, z.dom, ?_⟩ (repR_of (.obj ?_))
    · obtain ⟨m1, e1, f1⟩ := t.ap
      refine ⟨m1 ++ [p], by rw [e1, List.append_assoc], fun a ha => ?_⟩
      rcases List.mem_append.mp ha with q | q
      · exact f1 a q
      · rw [List.mem_singleton.mp q]; exact h3
    · refine List.nodup_append.mpr ⟨z.nd, by simp, fun a ha b hb q => ?_⟩
      rw [List.mem_singleton.mp hb] at q
      exact h2 (q ▸ ha)
    · intro a ha
      rcases List.mem_append.mp ha with q | q
      · exact z.hid a q
      · rw [List.mem_singleton.mp q]; exact h1
    · intro n d' hn
      by_cases hl : n < S1.length
      · rw [List.getElem?_append_left hl] at hn
        obtain ⟨a, q1, q2⟩ := z.ob n d' hn
        exact ⟨a, pre_get n a q1, q2.mono (fun _ _ e => e) pre_get fun _ e => e⟩
      · have hb : n < (S1 ++ [d]).length := (List.getElem?_eq_some_iff.mp hn).1
        rw [List.length_append] at hb
        have hb' : n < S1.length + 1 := hb
        have en : n = S1.length := by omega
        subst en
        rw [List.getElem?_append_right (Nat.le_refl _), Nat.sub_self] at hn
        cases hn
        refine ⟨p, ?_, r.mono (fun _ _ e => e) pre_get fun _ e => e⟩
        rw [← z.len, List.getElem?_append_right (Nat.le_refl _), Nat.sub_self]
        rfl
    · show (ad' ++ [p])[S1.length]? = some p
      rw [← z.len, List.getElem?_append_right (Nat.le_refl _), Nat.sub_self]
      rfl
  | er x fs S1 => rw [e] at h; exact h
  | no => rw [e] at h; exact h
/-- what stands at p is new: owned by nobody yet -/
theorem new_own {o : HO} {d : D} {p : Addr} (s : Sto K mg O ad S H) (hp : H p = none) (r : MRep K mg (hide O H) ad (upd H p o) p d) :
    Stp O ad H (fun a => O a ∨ a = p) ad (upd H p o) ∧ Sto K mg (fun a => O a ∨ a = p) ad S (upd H p o) ∧ p ∉ ad ∧ MRep K mg (hide (fun a => O a ∨ a = p) (upd H p o)) ad (upd H p o) p d := by
  have np : p ∉ ad := fun m => by
    obtain ⟨o', e⟩ := s.dom p (s.hid p m)
    rw [hp] at e; cases e
  have k : ∀ b o', H b = some o' → upd H p o b = some o' := fun b o' e => by rw [upd_ne (ne_of_none e hp)]; exact e
  have hk : ∀ b o', hide O H b = some o' → hide (fun a => O a ∨ a = p) (upd H p o) b = some o' := fun b o' e => by
    obtain ⟨n, e⟩ := of_hide e
    exact hide_of (fun q => q.elim n (ne_of_none e hp)) (k b o' e)
  refine ⟨⟨fun b o' e _ => k b o' e, fun a h => .inl h, fun a h => h.elim .inl fun e => .inr (e ▸ hp), [], by simp, fun _ h => nomatch h⟩, ⟨s.len, s.nd, fun a h => .inl (s.hid a h), fun a h => ?_, fun n d' h => ?_⟩, np, r.mono hk (fun _ _ e => e) fun _ e => e⟩
  · rcases h with h | h
    · obtain ⟨o', e⟩ := s.dom a h
      exact ⟨o', k a o' e⟩
    · rw [h]; exact ⟨o, upd_same⟩
  · obtain ⟨a, h1, h2⟩ := s.ob n d' h
    exact ⟨a, h1, h2.mono hk (fun _ _ e => e) fun o' e => k a o' e⟩
/-- what stands at p is new and never changes -/
theorem new_still {o : HO} {p : Addr} (s : Sto K mg O ad S H) (hp : H p = none) : Stp O ad H O ad (upd H p o) ∧ Sto K mg O ad S (upd H p o) ∧ (∀ b o', hide O H b = some o' → hide O (upd H p o) b = some o') ∧ hide O (upd H p o) p = some o := by
  have k : ∀ b o', H b = some o' → upd H p o b = some o' := fun b o' e => by rw [upd_ne (ne_of_none e hp)]; exact e
  have hk : ∀ b o', hide O H b = some o' → hide O (upd H p o) b = some o' := fun b o' e => hide_of (of_hide e).1 (k b o' (of_hide e).2)
  have np : ¬ O p := fun q => by
    obtain ⟨o', e⟩ := s.dom p q
    rw [hp] at e; cases e
  refine ⟨⟨fun b o' e _ => k b o' e, fun _ h => h, fun _ h => .inl h, [], by simp, fun _ h => nomatch h⟩, ⟨s.len, s.nd, s.hid, fun a h => ?_, fun n d' h => ?_⟩, hk, hide_of np upd_same⟩
  · obtain ⟨o', e⟩ := s.dom a h
    exact ⟨o', k a o' e⟩
  · obtain ⟨a, h1, h2⟩ := s.ob n d' h
    exact ⟨a, h1, h2.mono hk (fun _ _ e => e) fun o' e => k a o' e⟩
theorem bindAE {m : MA} {f : Ro → List D → Sg → Out D} {Q : VK} (h : Ee K mg W (fun ρ S => (m ρ S).bind (f ρ)) σ H Q) :
    Ea K mg W m σ H fun vs H1 => ∃ O ad S ρ ds, Sto K mg O ad S H1 ∧ Fre K mg O ad ρ σ H1 ∧ Paired (RepR K mg O ad ρ σ H1) vs ds ∧ PostE K mg W ρ σ Q O ad H1 (f ρ ds S) := by
  obtain ⟨O, ad, S, ρ, s, fr, h⟩ := h
  refine ⟨O, ad, S, ρ, s, fr, ?_⟩
  dsimp only at h
  cases e : m ρ S with
  | ok d S1 =>
    rw [e] at h
    exact fun v O' ad' H' t z r => ⟨O', ad', S1, ρ, d, z, fr.step s.hid t, r, PostE.rebase h t s.hid z.dom⟩
  | er x fs S1 => rw [e] at h; exact h
  | no => rw [e] at h; exact h
theorem bindAF {m : MA} {f : Ro → List D → Sg → Out D} {Q : VK} (h : Ef K mg W (fun ρ S => (m ρ S).bind (f ρ)) σ H Q) :
    Ea K mg W m σ H fun vs H1 => ∃ O ad S ρ ds, Sto K mg O ad S H1 ∧ Fre K mg O ad ρ σ H1 ∧ Paired (RepR K mg O ad ρ σ H1) vs ds ∧ PostF K mg W ρ σ Q O ad H1 (f ρ ds S) := by
  obtain ⟨O, ad, S, ρ, s, fr, h⟩ := h
  refine ⟨O, ad, S, ρ, s, fr, ?_⟩
  dsimp only at h
  cases e : m ρ S with
  | ok d S1 =>
    rw [e] at h
    exact fun v O' ad' H' t z r => ⟨O', ad', S1, ρ, d, z, fr.step s.hid t, r, PostF.rebase h t s.hid z.dom⟩
  | er x fs S1 => rw [e] at h; exact h
  | no => rw [e] at h; exact h
theorem bindEF {m : ME} {f : Ro → D → Sg → Out D} {Q : VK} (h : Ef K mg W (fun ρ S => (m ρ S).bind (f ρ)) σ H Q) :
    Ee K mg W m σ H fun v H1 => AtE K mg σ H1 v fun O ad ρ S d => PostF K mg W ρ σ Q O ad H1 (f ρ d S) := by
  obtain ⟨O, ad, S, ρ, s, fr, h⟩ := h
  refine ⟨O, ad, S, ρ, s, fr, ?_⟩
  dsimp only at h
  cases e : m ρ S with
  | ok d S1 =>
    rw [e] at h
    exact fun v O' ad' H' t z r => ⟨O', ad', S1, ρ, d, z, fr.step s.hid t, r, PostF.rebase h t s.hid z.dom⟩
  | er x fs S1 => rw [e] at h; exact h
  | no => rw [e] at h; exact h
theorem bind2F {m n : ME} {f : Ro → D → D → Sg → Out D} {Q : VK} (h : Ef K mg W (fun ρ S => (m ρ S).bind fun d S1 => (n ρ S1).bind fun e S2 => f ρ d e S2) σ H Q) :
    Ee K mg W m σ H fun v H1 => Ee K mg W n σ H1 fun w H2 => AtE2 K mg σ H2 v w fun O ad ρ S d e => PostF K mg W ρ σ Q O ad H2 (f ρ d e S) := by
  obtain ⟨O, ad, S, ρ, s, fr, h⟩ := h
  refine ⟨O, ad, S, ρ, s, fr, ?_⟩
  dsimp only at h
  cases e : m ρ S with
  | ok d S1 =>
    rw [e] at h
    intro v O1 ad1 H1 t z r
    have h1 : PostF K mg W ρ σ Q O1 ad1 H1 ((n ρ S1).bind fun e S2 => f ρ d e S2) := PostF.rebase h t s.hid z.dom
    have f1 := fr.step s.hid t
    refine ⟨O1, ad1, S1, ρ, z, f1, ?_⟩
    cases e2 : n ρ S1 with
    | ok d2 S2 =>
      rw [e2] at h1
      exact fun w O2 ad2 H2 t2 z2 r2 => ⟨O2, ad2, S2, ρ, d, d2, z2, f1.step z.hid t2, r.step z.hid t2, r2, PostF.rebase h1 t2 z.hid z2.dom⟩
    | er x fs S2 => rw [e2] at h1; exact h1
    | no => rw [e2] at h1; exact h1
  | er x fs S1 => rw [e] at h; exact h
  | no => rw [e] at h; exact h
end

/-! ### displays -/
def noLoc (ds : List D) : Bool := ds.all fun d => !isLoc d
def f_lst (r : MA) : ME := fun ρ S => (r ρ S).bind fun ds S1 => if noLoc ds = true ∧ ds.length ≤ 100000 then .ok (.lst ds) S1 else .no
def e_tup (r : MA) : ME := fun ρ S => (r ρ S).bind fun ds S1 => if noLoc ds = true ∧ ds.length ≤ 100000 then .ok (.tup ds) S1 else .no
theorem sz5 {n : Nat} (h : n ≤ 100000) : n ≤ sizeLine := Nat.le_trans h (by decide)
section
variable {K : Fg} {mg : Mg} {W : WX} {O O1 : Addr → Prop} {ad ad1 : List Addr} {S S1 : Sg} {ρ : Ro} {σ : L2.St} {H H1 : Hp}
theorem reps_of : ∀ {vs : List V} {ds : List D}, Paired (RepR K mg O ad ρ σ H) vs ds → noLoc ds = true → Reps K mg (hide O H) ad vs ds
  | _, _, .nil, _ => .nil
  | _, _, .cons r t, n => by
    have n' := List.all_eq_true.mp n
    refine .cons (r.rep ?_) (reps_of t (List.all_eq_true.mpr fun x hx => n' x (List.mem_cons_of_mem _ hx)))
    have := n' _ List.mem_cons_self
    simpa using this
theorem post_if {α : Type} {c : Prop} [Decidable c] {a : Out α} {P : Out α → Prop} (hn : ¬ P .no) (h : P (if c then a else .no)) : c ∧ P a := by
  by_cases hc : c
  · rw [if_pos hc] at h; exact ⟨hc, h⟩
  · rw [if_neg hc] at h; exact (hn h).elim
theorem w_lst {r : MA} : ∀ σ H Q, Ef K mg W (f_lst r) σ H Q → tLst (Ea K mg W r) σ H Q := by
  intro σ H Q q
  refine (bindAF (f := fun _ ds S1 => if noLoc ds = true ∧ ds.length ≤ 100000 then .ok (.lst ds) S1 else .no) q).imp fun vs H1 g => ?_
  obtain ⟨O, ad, S, ρ, ds, s, fr, r1, k⟩ := g
  obtain ⟨⟨c1, c2⟩, k⟩ := post_if (P := PostF K mg W ρ σ Q O ad H1) (fun z => z) k
  have rs := reps_of r1 c1
  refine ⟨by rw [rs.length]; exact sz5 c2, fun p hp => ?_⟩
  obtain ⟨t, z, np, mr⟩ := new_own (o := .lst vs) (d := .lst ds) s hp ⟨vs, upd_same, rs⟩
  exact k p _ ad _ t z (.inr rfl) np hp mr
theorem w_tup {r : MA} : ∀ σ H Q, Ee K mg W (e_tup r) σ H Q → tTup (Ea K mg W r) σ H Q := by
  intro σ H Q q
  refine (bindAE (f := fun _ ds S1 => if noLoc ds = true ∧ ds.length ≤ 100000 then .ok (.tup ds) S1 else .no) q).imp fun vs H1 g => ?_
  obtain ⟨O, ad, S, ρ, ds, s, fr, r1, k⟩ := g
  obtain ⟨⟨c1, c2⟩, k⟩ := post_if (P := PostE K mg W ρ σ Q O ad H1) (fun z => z) k
  have rs := reps_of r1 c1
  refine ⟨by rw [rs.length]; exact sz5 c2, fun p hp => ?_⟩
  obtain ⟨t, z, hk, e⟩ := new_still (o := .tup vs) s hp
  exact k _ _ ad _ t z (repR_of (.tup (.of e) (rs.mono hk fun _ _ e => e)))
end
section
variable {X : Cx} {W : WX}
theorem E_fz {e : Expr} {m : ME} (h : PE X e (Ef X.K X.mg W m)) : PE X e (Ee X.K X.mg W m) := pe_of h w_fz
theorem E_sh {e : Expr} {m : ME} (h : PE X e (Ef X.K X.mg W m)) : PE X e (Ee X.K X.mg W (e_sh m)) := pe_of h w_sh
theorem F_lst {es : List Expr} {pos : Pos} {r : MA} (h : PA X es (Ea X.K X.mg W r)) : PE X (.List es pos) (Ef X.K X.mg W (f_lst r)) := pe_of (pe_lst h) w_lst
theorem E_tup {es : List Expr} {x1} {pos : Pos} {r : MA} (h : PA X es (Ea X.K X.mg W r)) : PE X (.Tuple es x1 pos) (Ee X.K X.mg W (e_tup r)) := pe_of (pe_tup h) w_tup
end

/-! ### statements -/
def s_e (m : ME) (f : D → MS) : MS := fun ρ S => match m ρ S with
  | .ok d S1 => f d ρ S1
  | .er x fs S1 => .ex x fs ρ S1
  | .no => .no
def s_t (t : MT) (f : Bool → MS) : MS := fun ρ S => match t ρ S with
  | .ok b S1 => f b ρ S1
  | .er x fs S1 => .ex x fs ρ S1
  | .no => .no
def s_nx : MS := fun ρ S => .nx ρ S
def s_seq (a b : MS) : MS := fun ρ S => match a ρ S with
  | .nx ρ1 S1 => b ρ1 S1
  | o => o
def s_if (t : MT) (a b : MS) : MS := s_t t fun c => if c = true then a else b
def s_set (i : Nat) (m : ME) : MS := s_e m fun d ρ S => if isLoc d = true then .no else .nx (ρ.set i (.va d)) S
def s_own (i : Nat) (m : ME) : MS := s_e m fun d ρ S => .nx (ρ.set i (.ow d)) S
def s_do (m : ME) : MS := s_e m fun _ ρ S => .nx ρ S
def s_ret (m : ME) : MS := s_e m fun d ρ S => match d with
  | .loc i => (match deref ρ S (.loc i) with
    | some e => .rt e S
    | none => .no)
  | d => .rt d S
def s_retN : MS := fun _ S => .rt .non S
def s_bk : MS := fun ρ S => .bk ρ S
def s_ct : MS := fun ρ S => .ct ρ S
section
variable {K : Fg} {mg : Mg} {W : WX} {c : Ctx} {O O1 : Addr → Prop} {ad ad1 : List Addr} {S S1 : Sg} {ρ : Ro} {σ : L2.St} {H H1 : Hp} {Dn : Ends}
theorem PostS.rebase {o : OS} (h : PostS K mg W c Dn O ad H o) (g : Grow O ad H O1 ad1 H1) : PostS K mg W c Dn O1 ad1 H1 o := by
  cases o with
  | nx ρ S => exact fun σ' O' ad' H' t z => h σ' O' ad' H' (g.trans t) z
  | bk ρ S => exact fun σ' O' ad' H' t z => h σ' O' ad' H' (g.trans t) z
  | ct ρ S => exact fun σ' O' ad' H' t z => h σ' O' ad' H' (g.trans t) z
  | rt d S => exact h
  | ex x fs ρ S => exact fun cls dd σ' O' ad' H' t z r => h cls dd σ' O' ad' H' (g.trans t) z r
  | no => exact h
/-- the state behind an expression -/
def AtS (K : Fg) (mg : Mg) (σ : L2.St) (H : Hp) (R : Ctx → (Addr → Prop) → List Addr → Sg → Ro → Prop) : Prop := ∃ c O ad S ρ, Sta K mg c O ad S ρ σ H ∧ R c O ad S ρ
theorem bindS {m : ME} {f : D → MS} (h : Ss K mg W (s_e m f) Dn σ H) :
    Ee K mg W m σ H fun v H1 => AtS K mg σ H1 fun c O ad S ρ => ∃ d, RepR K mg O ad ρ σ H1 v d ∧ PostS K mg W c Dn O ad H1 (f d ρ S) := by
  obtain ⟨c, O, ad, S, ρ, z, h⟩ := h
  refine ⟨O, ad, S, ρ, z.sto, z.fre, ?_⟩
  unfold s_e at h
  cases e : m ρ S with
  | ok d S1 =>
    simp only [e] at h
    exact fun v O' ad' H' t z' r => ⟨c, O', ad', S1, ρ, z.step t z', d, r, h.rebase (t.grow z.sto.hid)⟩
  | er x fs S1 =>
    simp only [e] at h
    exact fun cls dd O' ad' H' t z' r => h cls dd σ O' ad' H' (t.grow z.sto.hid) (z.step t z') r
  | no => simp only [e] at h; exact h
theorem bindST {m : MT} {f : Bool → MS} (h : Ss K mg W (s_t m f) Dn σ H) :
    Et K mg W m σ H fun b H1 => AtS K mg σ H1 fun c O ad S ρ => PostS K mg W c Dn O ad H1 (f b ρ S) := by
  obtain ⟨c, O, ad, S, ρ, z, h⟩ := h
  refine ⟨O, ad, S, ρ, z.sto, z.fre, ?_⟩
  unfold s_t at h
  cases e : m ρ S with
  | ok d S1 =>
    simp only [e] at h
    exact fun O' ad' H' t z' => ⟨c, O', ad', S1, ρ, z.step t z', h.rebase (t.grow z.sto.hid)⟩
  | er x fs S1 =>
    simp only [e] at h
    exact fun cls dd O' ad' H' t z' r => h cls dd σ O' ad' H' (t.grow z.sto.hid) (z.step t z') r
  | no => simp only [e] at h; exact h
/-- a slot is given a value -/
theorem get_set {α : Type} {l : List α} {i j : Nat} {x y : α} (h : (l.set i x)[j]? = some y) : (i = j ∧ y = x ∧ j < l.length) ∨ (i ≠ j ∧ l[j]? = some y) := by
  by_cases e : i = j
  · subst e
    by_cases hl : i < l.length
    · rw [List.getElem?_set_self hl] at h
      cases h
      exact .inl ⟨rfl, rfl, hl⟩
    · rw [List.getElem?_eq_none (by rw [List.length_set]; omega)] at h; cases h
  · rw [List.getElem?_set_ne e] at h
    exact .inr ⟨e, h⟩
theorem Fre.set_va (f : Fre K mg O ad ρ σ H) {i : Nat} {v : V} {d : D} (r : Rep K mg (hide O H) ad v d) : Fre K mg O ad (ρ.set i (.va d)) (σ.set i (some v)) H := by
  refine ⟨by rw [List.length_set, List.length_set, f.len], fun j e h => ?_, fun j e h => ?_, fun j k e e' a n h1 h2 h3 => ?_⟩
  · rcases get_set h with ⟨rfl, e1, hl⟩ | ⟨n, h⟩
    · cases e1
      exact ⟨v, List.getElem?_set_self (by rw [f.len]; exact hl), r⟩
    · rw [List.getElem?_set_ne n]
      exact f.va j e h
  · rcases get_set h with ⟨rfl, e1, hl⟩ | ⟨n, h⟩
    · cases e1
    · rw [List.getElem?_set_ne n]
      exact f.ow j e h
  · rcases get_set h1 with ⟨rfl, e1, _⟩ | ⟨n1, h1⟩
    · cases e1
    · rcases get_set h2 with ⟨rfl, e1, _⟩ | ⟨n2, h2⟩
      · cases e1
      · rw [List.getElem?_set_ne n1] at h3
        rw [List.getElem?_set_ne n2]
        exact f.ap j k e e' a n h1 h2 h3
theorem Sta.set_va (z : Sta K mg c O ad S ρ σ H) {i : Nat} {v : V} {d : D} (r : Rep K mg (hide O H) ad v d) : Sta K mg c O ad S (ρ.set i (.va d)) (σ.set i (some v)) H :=
  ⟨z.sto, z.fre.set_va r, z.cst, fun j e a h1 h2 => by
    rcases get_set h1 with ⟨rfl, e1, _⟩ | ⟨n1, h1⟩
    · cases e1
    · rw [List.getElem?_set_ne n1] at h2
      exact z.owf j e a h1 h2⟩
theorem Sta.set_ow (z : Sta K mg c O ad S ρ σ H) {i : Nat} {p : Addr} {d : D} (h0 : c.H0 p = none) (hO : O p) (np : p ∉ ad) (r : MRep K mg (hide O H) ad H p d) (un : ∀ (j : Nat) e, ρ[j]? = some (.ow e) → j ≠ i → σ[j]? ≠ some (some (.ref p))) :
    Sta K mg c O ad S (ρ.set i (.ow d)) (σ.set i (some (.ref p))) H := by
  have f := z.fre
  refine ⟨z.sto, ⟨by rw [List.length_set, List.length_set, f.len], fun j e h => ?_, fun j e h => ?_, fun j k e e' a n h1 h2 h3 => ?_⟩, z.cst, fun j e a h1 h2 => ?_⟩
  · rcases get_set h with ⟨rfl, e1, hl⟩ | ⟨n, h⟩
    · cases e1
    · rw [List.getElem?_set_ne n]
      exact f.va j e h
  · rcases get_set h with ⟨rfl, e1, hl⟩ | ⟨n, h⟩
    · cases e1
      exact ⟨p, List.getElem?_set_self (by rw [f.len]; exact hl), hO, np, r⟩
    · rw [List.getElem?_set_ne n]
      exact f.ow j e h
  · rcases get_set h1 with ⟨rfl, e1, hl⟩ | ⟨n1, h1⟩
    · rw [List.getElem?_set_self (by rw [f.len]; exact hl)] at h3
      cases h3
      rcases get_set h2 with ⟨rfl, e2, _⟩ | ⟨n2, h2⟩
      · exact absurd rfl n
      · rw [List.getElem?_set_ne n2]
        exact un k _ h2 (Ne.symm n2)
    · rw [List.getElem?_set_ne n1] at h3
      rcases get_set h2 with ⟨rfl, e2, hl⟩ | ⟨n2, h2⟩
      · rw [List.getElem?_set_self (by rw [f.len]; exact hl)]
        intro q
        cases q
        exact un j _ h1 (Ne.symm n1) h3
      · rw [List.getElem?_set_ne n2]
        exact f.ap j k e e' a n h1 h2 h3
  · rcases get_set h1 with ⟨rfl, e1, hl⟩ | ⟨n1, h1⟩
    · rw [List.getElem?_set_self (by rw [f.len]; exact hl)] at h2
      cases h2
      exact h0
    · rw [List.getElem?_set_ne n1] at h2
      exact z.owf j e a h1 h2
theorem w_set {i : Nat} {m : ME} : ∀ Dn σ H, Ss K mg W (s_set i m) Dn σ H → tAsg (Ee K mg W m) (gName i) Dn σ H := by
  intro Dn σ H q
  refine (bindS (f := fun d ρ S => if isLoc d = true then .no else .nx (ρ.set i (.va d)) S) q).imp fun v H1 g => ?_
  obtain ⟨c, O, ad, S, ρ, z, d, r, k⟩ := g
  cases e : isLoc d with
  | true => rw [if_pos e] at k; exact k.elim
  | false =>
    rw [if_neg (by rw [e]; exact Bool.false_ne_true)] at k
    exact k _ O ad H1 (.refl _ _ _) (z.set_va (r.rep e))
theorem w_own {i : Nat} {m : ME} : ∀ Dn σ H, Ss K mg W (s_own i m) Dn σ H → tAsg (Ef K mg W m) (gName i) Dn σ H := by
  rintro Dn σ H ⟨c, O, ad, S, ρ, z, h⟩
  refine ⟨O, ad, S, ρ, z.sto, z.fre, ?_⟩
  unfold s_own s_e at h
  cases e : m ρ S with
  | ok d S1 =>
    simp only [e] at h
    intro p O' ad' H' t z' h1 h2 h3 r
    refine h _ O' ad' H' (t.grow z.sto.hid) ((z.step t z').set_ow (z.cst.fresh z.sto h3) h1 h2 r fun j e' hj _ q => ?_)
    obtain ⟨a, q1, q2, q3, q4⟩ := z.fre.ow j e' hj
    rw [q1] at q
    cases q
    obtain ⟨o, ho⟩ := q4.there
    rw [h3] at ho; cases ho
  | er x fs S1 =>
    simp only [e] at h
    exact fun cls dd O' ad' H' t z' r => h cls dd σ O' ad' H' (t.grow z.sto.hid) (z.step t z') r
  | no => simp only [e] at h; exact h
theorem w_do {m : ME} : ∀ Dn σ H, Ss K mg W (s_do m) Dn σ H → tDrop (Ee K mg W m) Dn σ H := by
  intro Dn σ H q
  refine (bindS (f := fun d ρ S => .nx ρ S) q).imp fun v H1 g => ?_
  obtain ⟨c, O, ad, S, ρ, z, d, r, k⟩ := g
  exact k σ O ad H1 (.refl _ _ _) z
theorem w_if {t : MT} {a b : MS} : ∀ Dn σ H, Ss K mg W (s_if t a b) Dn σ H → tIfS (Et K mg W t) (Ss K mg W a) (Ss K mg W b) Dn σ H := by
  intro Dn σ H q
  refine (bindST (f := fun c => if c = true then a else b) q).imp fun v H1 g => ?_
  obtain ⟨c, O, ad, S, ρ, z, k⟩ := g
  cases v with
  | true =>
    rw [if_pos rfl] at k ⊢
    exact ⟨c, O, ad, S, ρ, z, k⟩
  | false =>
    rw [if_neg Bool.false_ne_true] at k ⊢
    exact ⟨c, O, ad, S, ρ, z, k⟩
theorem w_seq {a b : MS} : ∀ Dn σ H, Ss K mg W (s_seq a b) Dn σ H → tSeq (Ss K mg W a) (Ss K mg W b) Dn σ H := by
  rintro Dn σ H ⟨c, O, ad, S, ρ, z, h⟩
  refine ⟨c, O, ad, S, ρ, z, ?_⟩
  unfold s_seq at h
  cases e : a ρ S with
  | nx ρ1 S1 =>
    simp only [e] at h
    exact fun σ' O' ad' H' g z' => ⟨c, O', ad', S1, ρ1, z', h.rebase g⟩
  | bk ρ1 S1 => simp only [e] at h; exact h
  | ct ρ1 S1 => simp only [e] at h; exact h
  | rt d S1 => simp only [e] at h; exact h
  | ex x fs ρ1 S1 => simp only [e] at h; exact h
  | no => simp only [e] at h; exact h
theorem w_nx : ∀ Dn σ H, Ss K mg W s_nx Dn σ H → tNext Dn σ H := by
  rintro Dn σ H ⟨c, O, ad, S, ρ, z, h⟩
  exact h σ O ad H (.refl _ _ _) z
theorem w_bk : ∀ Dn σ H, Ss K mg W s_bk Dn σ H → tBreak Dn σ H := by
  rintro Dn σ H ⟨c, O, ad, S, ρ, z, h⟩
  exact h σ O ad H (.refl _ _ _) z
theorem w_ct : ∀ Dn σ H, Ss K mg W s_ct Dn σ H → tCont Dn σ H := by
  rintro Dn σ H ⟨c, O, ad, S, ρ, z, h⟩
  exact h σ O ad H (.refl _ _ _) z
theorem w_retN : ∀ Dn σ H, Ss K mg W s_retN Dn σ H → tRetN Dn σ H := by
  rintro Dn σ H ⟨c, O, ad, S, ρ, z, h⟩
  exact h .non O ad H z.sto z.cst .non
theorem w_ret {m : ME} : ∀ Dn σ H, Ss K mg W (s_ret m) Dn σ H → tRet (Ee K mg W m) Dn σ H := by
  intro Dn σ H q
  refine (bindS (f := fun d ρ S => match d with | .loc i => (match deref ρ S (.loc i) with | some e => .rt e S | none => .no) | d => .rt d S) q).imp fun v H1 g => ?_
  obtain ⟨c, O, ad, S, ρ, z, d, r, k⟩ := g
  cases d with
  | loc i =>
    obtain ⟨⟨e, h1⟩, h2⟩ := r
    have dr : deref ρ S (.loc i) = some e := by show (match ρ[i]? with | some (.ow d) => some d | _ => none) = some e; rw [h1]
    simp only [dr] at k
    obtain ⟨a, h3, h4, h5, h6⟩ := z.fre.ow i e h1
    rw [h3] at h2
    cases h2
    have h0 := z.owf i e a h1 h3
    refine k (.ref a) (fun b => O b ∧ b ≠ a) ad H1 (z.sto.seen h5) ⟨z.cst.fr, fun b hb => ⟨z.cst.op b hb, fun q => ?_⟩, fun b hb => z.cst.oq b hb.1, z.cst.ap, z.cst.wf, z.cst.wd⟩ ?_
    · obtain ⟨o, ho⟩ := z.cst.wd b hb
      rw [q, h0] at ho; cases ho
    · have r' : MRep K mg (hide (fun b => O b ∧ b ≠ a) H1) ad H1 a e := h6.mono (hide_le fun a q => q.1) (fun _ _ e => e) fun _ e => e
      exact r'.rep fun o e => hide_of (fun q => q.2 rfl) e
  | _ => exact k v O ad H1 z.sto z.cst r
end
section
variable {X : Cx} {W : WX} {pos : Pos}
theorem S_nil : PSs X [] (Ss X.K X.mg W s_nx) := pss_of pss_nil w_nx
theorem S_cons {st : Stmt} {rest : List Stmt} {a b : MS} (h1 : PS X st (Ss X.K X.mg W a)) (h2 : PSs X rest (Ss X.K X.mg W b)) : PSs X (st :: rest) (Ss X.K X.mg W (s_seq a b)) := pss_of (pss_cons h1 h2) w_seq
theorem S_one {st : Stmt} {a : MS} (h1 : PS X st (Ss X.K X.mg W a)) : PSs X [st] (Ss X.K X.mg W a) := pss_one h1
theorem S_pass : PS X (.Pass pos) (Ss X.K X.mg W s_nx) := ps_of ps_pass w_nx
theorem S_bk : PS X (.Break pos) (Ss X.K X.mg W s_bk) := ps_of ps_break w_bk
theorem S_ct : PS X (.Continue pos) (Ss X.K X.mg W s_ct) := ps_of ps_continue w_ct
theorem S_set {i : Nat} {x : Str} {e : Expr} {m : ME} {pos' : Pos} (hN : X.N.Nodup) (hi : X.N[i]? = some x) (hx : Loc X.env.scope x) (he : PE X e (Ee X.K X.mg W m)) (hs : swapsWith e (some (.Name x pos')) pos.line X.env = pure false := by rfl) (hf : X.fn x = true ∨ X.env.scope.names.lookup x = some .local := by first | exact .inl rfl | exact .inr rfl | assumption) :
    PS X (.Assign [.Name x pos'] e pos) (Ss X.K X.mg W (s_set i m)) := ps_of (ps_set hN hi hx he hs hf) w_set
theorem S_own {i : Nat} {x : Str} {e : Expr} {m : ME} {pos' : Pos} (hN : X.N.Nodup) (hi : X.N[i]? = some x) (hx : Loc X.env.scope x) (he : PE X e (Ef X.K X.mg W m)) (hs : swapsWith e (some (.Name x pos')) pos.line X.env = pure false := by rfl) (hf : X.fn x = true ∨ X.env.scope.names.lookup x = some .local := by first | exact .inl rfl | exact .inr rfl | assumption) :
    PS X (.Assign [.Name x pos'] e pos) (Ss X.K X.mg W (s_own i m)) := ps_of (ps_set hN hi hx he hs hf) w_own
theorem S_do {e : Expr} {m : ME} (he : PE X e (Ee X.K X.mg W m)) (hs : swapsWith e none pos.line X.env = pure false := by rfl) : PS X (.Expr e pos) (Ss X.K X.mg W (s_do m)) := ps_of (ps_expr he hs) w_do
theorem S_ret {e : Expr} {m : ME} (he : PE X e (Ee X.K X.mg W m)) : PS X (.Return (some e) pos) (Ss X.K X.mg W (s_ret m)) := ps_of (ps_ret he) w_ret
theorem S_retN : PS X (.Return none pos) (Ss X.K X.mg W s_retN) := ps_of ps_retN w_retN
theorem S_if {c : Expr} {a b : List Stmt} {t : MT} {ma mb : MS} (hc : PT X c (Et X.K X.mg W t)) (ha : PSs X a (Ss X.K X.mg W ma)) (hb : PSs X b (Ss X.K X.mg W mb)) : PS X (.If c a b pos) (Ss X.K X.mg W (s_if t ma mb)) := ps_of (ps_if hc ha hb) w_if
end

/-! ### defs -/
def SpM (K : Fg) (mg : Mg) (n : Nat) (m : List D → Sg → Out D) : Sp := fun vs H Q E => ∃ O ad S ds, Sto K mg O ad S H ∧ Reps K mg (hide O H) ad vs ds ∧ ds.length = n ∧
  match m ds S with
  | .ok r S' => ∀ v O' ad' H', Stp O ad H O' ad' H' → Sto K mg O' ad' S' H' → Rep K mg (hide O' H') ad' v r → Q v H'
  | .er x fs S' => ∀ cls dd O' ad' H', Stp O ad H O' ad' H' → Sto K mg O' ad' S' H' → XRep K mg O' ad' H' cls dd x fs → E cls dd H'
  | .no => False
def fnM (n : Nat) (b : MS) : List D → Sg → Out D := fun ds S => match b (ds.map .va ++ List.replicate (n - ds.length) .un) S with
  | .nx _ S' => .ok .non S'
  | .rt d S' => .ok d S'
  | .ex x fs _ S' => .er x fs S'
  | _ => .no
theorem start_va {K : Fg} {mg : Mg} {G : Hp} {ad : List Addr} {n : Nat} : ∀ {vs : List V} {ds : List D}, Reps K mg G ad vs ds → ∀ (i : Nat) (z : Slot), (ds.map Slot.va ++ List.replicate n .un)[i]? = some z →
    z = .un ∨ ∃ d v, z = .va d ∧ (vs.map some ++ List.replicate n (none : Option V))[i]? = some (some v) ∧ Rep K mg G ad v d := by
  intro vs
  induction vs with
  | nil =>
    intro ds r i z h
    cases r
    have h' : (List.replicate n Slot.un)[i]? = some z := h
    rw [List.getElem?_replicate] at h'
    split at h'
    · cases h'; exact .inl rfl
    · cases h'
  | cons v vs ih =>
    intro ds r i z h
    cases r with
    | cons a b =>
      cases i with
      | zero =>
        cases h
        exact .inr ⟨_, v, rfl, rfl, a⟩
      | succ i => exact ih b i z h
theorem Cst.back {K : Fg} {mg : Mg} {H H' : Hp} {O O' : Addr → Prop} {ad ad' : List Addr} {S' : Sg} (z : Sto K mg O' ad' S' H') (c : Cst ⟨H, ad, O⟩ O' ad' H') :
    Stp O ad H (fun a => O a ∨ a ∈ ad') ad' H' ∧ Sto K mg (fun a => O a ∨ a ∈ ad') ad' S' H' ∧ ∀ b o, hide O' H' b = some o → hide (fun a => O a ∨ a ∈ ad') H' b = some o := by
  have le : ∀ a, (O a ∨ a ∈ ad') → O' a := fun a h => h.elim (c.op a) (z.hid a)
  refine ⟨⟨c.fr, fun a h => .inl h, fun a h => ?_, c.ap⟩, ⟨z.len, z.nd, fun a h => .inr h, fun a h => z.dom a (le a h), fun n d h => ?_⟩, hide_le le⟩
  · rcases h with h | h
    · exact .inl h
    · obtain ⟨m, e, f⟩ := c.ap
      rw [e] at h
      rcases List.mem_append.mp h with q | q
      · exact .inl (c.wf a q)
      · exact .inr (f a q)
  · obtain ⟨a, h1, h2⟩ := z.ob n d h
    exact ⟨a, h1, h2.mono (hide_le le) (fun _ _ e => e) fun _ e => e⟩
theorem def_ok {P : Program} {w : World} {K : Fg} {mg : Mg} {base : Heap} {x qual : Str} {st : Stmt} {f : Addr} {fd : FuncData} {N ps : List Str} {k : Nat} {m : MS} (F : Fun K x qual st f fd) (S : FnScope N ps (defScope st))
    (hb : ∀ (cdv : Value) (A : Around) (outer : List Env) (s : Shared) (H : Hp) (E : XK), Room k (A.deeper (PyProof.Rows.envOfC qual (defScope st) s.heap.objs.size f cdv)) →
      PSs (cxOf (L2.CX P w) P w K mg base N qual (defScope st) f cdv A outer s H E) (defBody st) (Ss K mg (fun cls d _ H' => E cls d H') m)) :
    FnOk P w K mg base (L2.CX P w) (k + 1) f fd ps (SpM K mg ps.length (fnM N.length m)) := by
  refine F.okX S (fun vs H Q E h => ?_) (fun cdv A outer s H vs Q E hr h => ?_)
  · obtain ⟨O, ad, S0, ds, z, r, hl, _⟩ := h
    rw [r.length, hl]
  · refine ⟨_, hb cdv A outer s H E hr, ?_⟩
    obtain ⟨O, ad, S0, ds, z, r, hl, h⟩ := h
    have hvl : vs.length = ds.length := r.length
    refine ⟨⟨H, ad, O⟩, O, ad, S0, ds.map .va ++ List.replicate (N.length - ds.length) .un, ⟨z, ⟨?_, fun i d e => ?_, fun i d e => ?_, fun i j d e a n h1 => ?_⟩, ⟨fun b o e _ => e, fun _ h => h, fun _ h => .inl h, ⟨[], by simp, fun _ h => nomatch h⟩, z.hid, z.dom⟩, fun i d a e => ?_⟩, ?_⟩
    · unfold L2.start
      simp [hvl]
    · unfold L2.start
      rw [hvl]
      rcases start_va r i _ e with q | ⟨d', v, q, h1, h2⟩
      · cases q
      · cases q; exact ⟨v, h1, h2⟩
    · rcases start_va r i _ e with q | ⟨d', v, q, h1, h2⟩
      · cases q
      · cases q
    · rcases start_va r i _ h1 with q | ⟨d', v, q, h1, h2⟩
      · cases q
      · cases q
    · rcases start_va r i _ e with q | ⟨d', v, q, h1, h2⟩
      · cases q
      · cases q
    · unfold fnM at h
      cases e : m (ds.map .va ++ List.replicate (N.length - ds.length) .un) S0 with
      | nx ρ' S' =>
        simp only [e] at h
        intro σ' O' ad' H' g z'
        obtain ⟨b1, b2, b3⟩ := Cst.back z'.sto z'.cst
        exact h .non _ ad' H' b1 b2 .non
      | rt d S' =>
        simp only [e] at h
        intro v O' ad' H' z' c' r'
        obtain ⟨b1, b2, b3⟩ := Cst.back z' c'
        exact h v _ ad' H' b1 b2 (r'.mono b3 fun _ _ e => e)
      | ex x fs ρ' S' =>
        simp only [e] at h
        intro cls dd σ' O' ad' H' g z' r'
        obtain ⟨b1, b2, b3⟩ := Cst.back z'.sto z'.cst
        obtain ⟨C, q1, q2, q3⟩ := r'
        refine h cls dd _ ad' H' b1 b2 ⟨C, q1, q2, q3.imp id fun ⟨a, vs, q4, q5, q6⟩ => ⟨a, vs, q4, q5, q6.mono b3 fun _ _ e => e⟩⟩
      | bk ρ' S' => simp only [e] at h
      | ct ρ' S' => simp only [e] at h
      | no => simp only [e] at h

/-! ### calls -/
def e_call (m : List D → Sg → Out D) (r : MA) : ME := fun ρ S => (r ρ S).bind fun ds S1 => if noLoc ds = true then m ds S1 else .no
section
variable {K : Fg} {mg : Mg} {W : WX}
theorem w_call {n : Nat} {m : List D → Sg → Out D} {r : MA} (len : ∀ ds S, ds.length ≠ n → m ds S = .no) : ∀ σ H Q, Ee K mg W (e_call m r) σ H Q → tCallS (SpM K mg n m) (WE W) (Ea K mg W r) σ H Q := by
  intro σ H Q q
  refine (bindAE (f := fun _ ds S1 => if noLoc ds = true then m ds S1 else .no) q).imp fun vs H1 g => ?_
  obtain ⟨O, ad, S, ρ, ds, s, fr, r1, k⟩ := g
  obtain ⟨c1, k⟩ := post_if (P := PostE K mg W ρ σ Q O ad H1) (fun z => z) k
  have rs := reps_of r1 c1
  refine ⟨O, ad, S, ds, s, rs, ?_, ?_⟩
  · by_cases e : ds.length = n
    · exact e
    · rw [len ds S e] at k; exact k.elim
  · cases e : m ds S with
    | ok d S' => rw [e] at k; exact fun v O' ad' H' t z r => k v O' ad' H' t z (repR_of r)
    | er x fs S' => rw [e] at k; exact k
    | no => rw [e] at k; exact k
end
def fn (n : Nat) (b : MS) (k : Nat) : List D → Sg → Out D := fun ds S => if ds.length = k then fnM n b ds S else .no
theorem fn_len {n k : Nat} {b : MS} : ∀ ds S, ds.length ≠ k → fn n b k ds S = .no := fun ds S h => by unfold fn; rw [if_neg h]
theorem SpM.fn {K : Fg} {mg : Mg} {n k : Nat} {b : MS} : ∀ vs H Q E, SpM K mg k (Gd.fn n b k) vs H Q E → SpM K mg k (fnM n b) vs H Q E := by
  rintro vs H Q E ⟨O, ad, S, ds, z, r, hl, h⟩
  refine ⟨O, ad, S, ds, z, r, hl, ?_⟩
  unfold Gd.fn at h
  rw [if_pos hl] at h
  exact h
theorem def_ok' {P : Program} {w : World} {K : Fg} {mg : Mg} {base : Heap} {x qual : Str} {st : Stmt} {f : Addr} {fd : FuncData} {N ps : List Str} {k : Nat} {m : MS} (F : Fun K x qual st f fd) (S : FnScope N ps (defScope st))
    (hb : ∀ (cdv : Value) (A : Around) (outer : List Env) (s : Shared) (H : Hp) (E : XK), Room k (A.deeper (PyProof.Rows.envOfC qual (defScope st) s.heap.objs.size f cdv)) →
      PSs (cxOf (L2.CX P w) P w K mg base N qual (defScope st) f cdv A outer s H E) (defBody st) (Ss K mg (fun cls d _ H' => E cls d H') m)) :
    FnOk P w K mg base (L2.CX P w) (k + 1) f fd ps (SpM K mg ps.length (Gd.fn N.length m ps.length)) := (def_ok F S hb).imp SpM.fn
section
variable {X : Cx} {W : WX} {k : Nat} {f : Addr} {fd : FuncData} {ps : List Str} {x : Str} {p pos : Pos} {e : Expr} {es : List Expr} {r : MA} {m : List D → Sg → Out D}
theorem E_call {n b : Nat} {mb : MS} (F : FnOk X.prog X.w X.K X.mg X.base (L2.CX X.prog X.w) k f fd ps (SpM X.K X.mg b (Gd.fn n mb b))) (hr : Room k X.A) (hg : Gl X x) (hm : X.mg x = some (.ref f)) (hk : PySem.W.keepIn X.K (.ref f) = true) (hb : Binds X.K fd ps []) (tk : Takes X W)
    (ha : PA X (e :: es) (Ea X.K X.mg W r)) (hdb : (x == ("__debug__" : Str)) = false := by decide) (he : starEach (e :: es) X.env = (false, eval e X.env) :: starEach es X.env := by rfl) (hpl : (backTo pos (starEach es X.env)).any (·.1) = false := by rfl) :
    PE X (.Call (.Name x p) (e :: es) [] pos) (Ee X.K X.mg W (e_call (Gd.fn n mb b) r)) :=
  pe_of (pe_callS F hr hg hm hk hb (fun σ => passAt tk σ) ha hdb he hpl) (w_call fn_len)
end
end Gd

/-! Gd, part 4: what is walked, loops, comprehensions. -/
namespace Gd
open PySem L2 PyProof.Rows

abbrev MI := Ro → Sg → Out (List D)
abbrev Rel := (Addr → Prop) → List Addr → Hp → (Addr → Prop) → List Addr → Hp → Prop
/-- a walk whose items are ds, as long as ok holds of the state -/
def Src (K : Fg) (mg : Mg) (ok : (Addr → Prop) → List Addr → Hp → Prop) (J : It) (ds : List D) : Prop :=
  ∃ G Y, Walk J ds.length G Y ∧ (∀ O2 ad2 H2, ok O2 ad2 H2 → G H2) ∧ ∀ (i : Nat) H2 x H3 O2 ad2 S2, ok O2 ad2 H2 → Sto K mg O2 ad2 S2 H2 → i < ds.length → Y i H2 x H3 →
    ∃ d, ds[i]? = some d ∧ Stp O2 ad2 H2 O2 ad2 H3 ∧ Sto K mg O2 ad2 S2 H3 ∧ Rep K mg (hide O2 H3) ad2 x d
section
variable (K : Fg) (mg : Mg) (rel : Rel)
def PostI (W : WX) (ρ : Ro) (σ : L2.St) (R : It → Hp → Prop) (O : Addr → Prop) (ad : List Addr) (H : Hp) : Out (List D) → Prop
  | .ok ds S' => ∀ O' ad' H' J, Stp O ad H O' ad' H' → Sto K mg O' ad' S' H' → Src K mg (rel O' ad' H') J ds → R J H'
  | .er x fs S' => ∀ cls dd O' ad' H', Stp O ad H O' ad' H' → Sto K mg O' ad' S' H' → XRep K mg O' ad' H' cls dd x fs → W cls dd σ H'
  | .no => False
def Ei (W : WX) (m : MI) : TI := fun σ H R => ∃ O ad S ρ, Sto K mg O ad S H ∧ Fre K mg O ad ρ σ H ∧ PostI K mg rel W ρ σ R O ad H (m ρ S)
end
/-- a target: the slots ts are given values -/
def TgOk (K : Fg) (mg : Mg) (ts : List Nat) (g : TG) (tgt : D → Ro → Option Ro) : Prop :=
  ∀ O ad ρ σ H x d ρ1, Fre K mg O ad ρ σ H → Rep K mg (hide O H) ad x d → tgt d ρ = some ρ1 →
    ∃ σ1, Fre K mg O ad ρ1 σ1 H ∧ (∀ (j : Nat) e a, ρ1[j]? = some (.ow e) → σ1[j]? = some (some (.ref a)) → ρ[j]? = some (.ow e) ∧ σ[j]? = some (some (.ref a))) ∧ wipe σ1 ts = wipe σ ts ∧ ∀ Q : L2.St → Hp → Prop, Q σ1 H → g x σ H Q
def t_name (i : Nat) : D → Ro → Option Ro := fun d ρ => if isLoc d = true then none else some (ρ.set i (.va d))
theorem wipe_set1 (σ : L2.St) (i : Nat) (v : Option V) : wipe (σ.set i v) [i] = wipe σ [i] := by
  show (σ.set i v).set i none = σ.set i none
  exact List.set_set ..
section
variable {K : Fg} {mg : Mg} {W : WX} {c : Ctx} {O O1 : Addr → Prop} {ad ad1 : List Addr} {S S1 : Sg} {ρ : Ro} {σ : L2.St} {H H1 : Hp} {Dn : Ends}
theorem tg_name {i : Nat} : TgOk K mg [i] (gName i) (t_name i) := by
  intro O ad ρ σ H x d ρ1 f r e
  unfold t_name at e
  split at e
  · cases e
  · cases e
    refine ⟨σ.set i (some x), f.set_va r, fun j e a h1 h2 => ?_, wipe_set1 _ _ _, fun Q q => q⟩
    rcases get_set h1 with ⟨rfl, e1, _⟩ | ⟨n1, h1⟩
    · cases e1
    · rw [List.getElem?_set_ne n1] at h2
      exact ⟨h1, h2⟩
/-- a target that is a pair -/
def t_pair (i j : Nat) : D → Ro → Option Ro := fun d ρ => match d with
  | .tup [a, b] => if isLoc a = true ∨ isLoc b = true then none else some ((ρ.set i (.va a)).set j (.va b))
  | _ => none
theorem wipe_set2 (σ : L2.St) (i j : Nat) (v w : Option V) : wipe ((σ.set i v).set j w) [i, j] = wipe σ [i, j] := by
  show (((σ.set i v).set j w).set j none).set i none = (σ.set j none).set i none
  by_cases e : i = j
  · subst e; simp only [List.set_set]
  · rw [List.set_set, List.set_comm _ _ e, List.set_set]
theorem tg_pair {i j : Nat} : TgOk K mg [i, j] (gTup K 2 (gCons (gName i) (gCons (gName j) gNil))) (t_pair i j) := by
  intro O ad ρ σ H x d ρ1 f r e
  unfold t_pair at e
  split at e
  · rename_i a b
    split at e
    · cases e
    · cases e
      cases r with
      | tup h1 h2 =>
        rename_i p vs
        cases h2 with
        | cons ra h2 =>
          cases h2 with
          | cons rb h2 =>
            cases h2
            rename_i va vb
            refine ⟨(σ.set i (some va)).set j (some vb), (f.set_va ra).set_va rb, fun k e a h1 h2 => ?_, wipe_set2 _ _ _ _ _, fun Q q => ?_⟩
            · rcases get_set h1 with ⟨rfl, e1, _⟩ | ⟨n1, h1⟩
              · cases e1
              · rw [List.getElem?_set_ne n1] at h2
                rcases get_set h1 with ⟨rfl, e1, _⟩ | ⟨n2, h1⟩
                · cases e1
                · rw [List.getElem?_set_ne n2] at h2
                  exact ⟨h1, h2⟩
            · exact ⟨p, [va, vb], rfl, sqt_mono un_hide h1, rfl, va, [vb], rfl, vb, [], rfl, rfl, q⟩
  · cases e

/-! ### for -/
def s_loop (tgt : D → Ro → Option Ro) (b : MS) : List D → MS
  | [] => s_nx
  | d :: ds => fun ρ S => match tgt d ρ with
    | none => .no
    | some ρ1 => match b ρ1 S with
      | .nx ρ2 S2 => s_loop tgt b ds ρ2 S2
      | .ct ρ2 S2 => s_loop tgt b ds ρ2 S2
      | .bk ρ2 S2 => .nx ρ2 S2
      | o => o
def s_for (mi : MI) (tgt : D → Ro → Option Ro) (b : MS) : MS := fun ρ S => match mi ρ S with
  | .ok ds S1 => s_loop tgt b ds ρ S1
  | .er x fs S1 => .ex x fs ρ S1
  | .no => .no
theorem Sta.still {O' : Addr → Prop} {ad' : List Addr} {H' : Hp} {S' : Sg} (z : Sta K mg c O ad S ρ σ H) (s : Stp O ad H O' ad' H') (t : Sto K mg O' ad' S' H') : Sta K mg c O' ad' S' ρ σ H' := z.step s t
theorem w_for {mi : MI} {ts : List Nat} {g : TG} {tgt : D → Ro → Option Ro} {b : MS} (hg : TgOk K mg ts g tgt) : ∀ Dn σ H, Ss K mg W (s_for mi tgt b) Dn σ H → tFor (Ei K mg Grow W mi) g (Ss K mg W b) Dn σ H := by
  rintro Dn σ H ⟨c, O, ad, S, ρ, z, h⟩
  refine ⟨O, ad, S, ρ, z.sto, z.fre, ?_⟩
  unfold s_for at h
  cases e : mi ρ S with
  | no => simp only [e] at h; exact h
  | er x fs S1 =>
    simp only [e] at h
    exact fun cls dd O' ad' H' t z' r => h cls dd σ O' ad' H' (t.grow z.sto.hid) (z.step t z') r
  | ok ds S1 =>
    simp only [e] at h
    intro O1 ad1 H1 J t s1 src
    obtain ⟨G, Y, wk, hG, hY⟩ := src
    have z1 := z.step t s1
    have h1 := h.rebase (t.grow z.sto.hid)
    refine for_it wk (fun i σ' H' => ∃ O' ad' S' ρ', Grow O1 ad1 H1 O' ad' H' ∧ Sta K mg c O' ad' S' ρ' σ' H' ∧ PostS K mg W c Dn O' ad' H' (s_loop tgt b (ds.drop i) ρ' S')) ⟨O1, ad1, S1, ρ, .refl _ _ _, z1, by simpa using h1⟩ ?_ ?_ ?_
    · rintro i σ' H' hi ⟨O', ad', S', ρ', gr, _, _⟩
      exact hG O' ad' H' gr
    · rintro i x σ' H' H2 hi ⟨O', ad', S', ρ', gr, zz, hp⟩ y
      obtain ⟨d, hd, t2, s2, rx⟩ := hY i H' x H2 O' ad' S' gr zz.sto hi y
      have zz2 := zz.step t2 s2
      have hp2 := hp.rebase (t2.grow zz.sto.hid)
      have ed : ds.drop i = d :: ds.drop (i + 1) := by
        obtain ⟨hl, hd'⟩ := List.getElem?_eq_some_iff.mp hd
        rw [List.drop_eq_getElem_cons hl, hd']
      rw [ed] at hp2
      unfold s_loop at hp2
      cases et : tgt d ρ' with
      | none => simp only [et] at hp2; exact hp2.elim
      | some ρ1 =>
        simp only [et] at hp2
        obtain ⟨σ1, f1, ow1, _, kg⟩ := hg O' ad' ρ' σ' H2 x d ρ1 zz2.fre rx et
        refine kg _ ?_
        have z3 : Sta K mg c O' ad' S' ρ1 σ1 H2 := ⟨s2, f1, zz2.cst, fun j e a q1 q2 => let q := ow1 j e a q1 q2; zz2.owf j e a q.1 q.2⟩
        refine ⟨c, O', ad', S', ρ1, z3, ?_⟩
        have gr2 := gr.trans (t2.grow zz.sto.hid)
        cases eb : b ρ1 S' with
        | nx ρ2 S2 =>
          simp only [eb] at hp2
          exact fun σ'' O'' ad'' H3 g3 z4 => ⟨O'', ad'', S2, ρ2, gr2.trans g3, z4, PostS.rebase hp2 g3⟩
        | ct ρ2 S2 =>
          simp only [eb] at hp2
          exact fun σ'' O'' ad'' H3 g3 z4 => ⟨O'', ad'', S2, ρ2, gr2.trans g3, z4, PostS.rebase hp2 g3⟩
        | bk ρ2 S2 => simp only [eb] at hp2; exact hp2
        | rt d2 S2 => simp only [eb] at hp2; exact hp2
        | ex x2 fs2 ρ2 S2 => simp only [eb] at hp2; exact hp2
        | no => simp only [eb] at hp2; exact hp2
    · rintro σ' H' ⟨O', ad', S', ρ', gr, zz, hp⟩
      rw [List.drop_length] at hp
      exact hp σ' O' ad' H' (.refl _ _ _) zz

/-! ### while -/
def s_wh (t : MT) (b : MS) : Nat → MS
  | 0 => fun _ _ => .no
  | n + 1 => fun ρ S => match t ρ S with
    | .ok c S1 => if c = true then (match b ρ S1 with
        | .nx ρ2 S2 => s_wh t b n ρ2 S2
        | .ct ρ2 S2 => s_wh t b n ρ2 S2
        | .bk ρ2 S2 => .nx ρ2 S2
        | o => o) else .nx ρ S1
    | .er x fs S1 => .ex x fs ρ S1
    | .no => .no
theorem w_while {t : MT} {b : MS} {n : Nat} : ∀ Dn σ H, Ss K mg W (s_wh t b n) Dn σ H → tWhile (Et K mg W t) (Ss K mg W b) Dn σ H := by
  rintro Dn σ H ⟨c, O, ad, S, ρ, z, h⟩
  refine ⟨fun m σ' H' => ∃ O' ad' S' ρ', Grow O ad H O' ad' H' ∧ Sta K mg c O' ad' S' ρ' σ' H' ∧ PostS K mg W c Dn O' ad' H' (s_wh t b m ρ' S'), ⟨n, O, ad, S, ρ, .refl _ _ _, z, h⟩, ?_⟩
  rintro m σ' H' ⟨O', ad', S', ρ', gr, zz, hp⟩
  refine ⟨O', ad', S', ρ', zz.sto, zz.fre, ?_⟩
  cases m with
  | zero => exact hp.elim
  | succ m =>
    unfold s_wh at hp
    cases e : t ρ' S' with
    | no => simp only [e] at hp; exact hp
    | er x fs S1 =>
      simp only [e] at hp
      exact fun cls dd O2 ad2 H2 t2 z2 r => hp cls dd σ' O2 ad2 H2 (t2.grow zz.sto.hid) (zz.step t2 z2) r
    | ok k S1 =>
      simp only [e] at hp
      intro O2 ad2 H2 t2 s2
      have z2 := zz.step t2 s2
      have hp2 := PostS.rebase hp (t2.grow zz.sto.hid)
      have gr2 := gr.trans (t2.grow zz.sto.hid)
      cases k with
      | false =>
        rw [if_neg Bool.false_ne_true] at hp2 ⊢
        exact hp2 σ' O2 ad2 H2 (.refl _ _ _) z2
      | true =>
        rw [if_pos rfl] at hp2 ⊢
        refine ⟨fun σ3 H3 => ∃ O' ad' S' ρ', Grow O ad H O' ad' H3 ∧ Sta K mg c O' ad' S' ρ' σ3 H3 ∧ PostS K mg W c Dn O' ad' H3 (s_wh t b m ρ' S'), fun σ3 H3 q => ⟨m, Nat.lt_succ_self m, q⟩, ?_⟩
        refine ⟨c, O2, ad2, S1, ρ', z2, ?_⟩
        cases eb : b ρ' S1 with
        | nx ρ2 S2 =>
          simp only [eb] at hp2
          exact fun σ'' O'' ad'' H3 g3 z4 => ⟨O'', ad'', S2, ρ2, gr2.trans g3, z4, PostS.rebase hp2 g3⟩
        | ct ρ2 S2 =>
          simp only [eb] at hp2
          exact fun σ'' O'' ad'' H3 g3 z4 => ⟨O'', ad'', S2, ρ2, gr2.trans g3, z4, PostS.rebase hp2 g3⟩
        | bk ρ2 S2 => simp only [eb] at hp2; exact hp2
        | rt d2 S2 => simp only [eb] at hp2; exact hp2
        | ex x2 fs2 ρ2 S2 => simp only [eb] at hp2; exact hp2
        | no => simp only [eb] at hp2; exact hp2

/-! ### comprehensions -/
def noEr {α : Type} : Out α → Out α
  | .er _ _ _ => .no
  | o => o
def lcL (tgt : D → Ro → Option Ro) (t : MT) (e : ME) (ρ : Ro) : List D → Sg → Out (List D)
  | [], S => .ok [] S
  | d :: ds, S => match tgt d ρ with
    | none => .no
    | some ρ1 => (noEr (t ρ1 S)).bind fun b S1 => if b = true then (noEr (e ρ1 S1)).bind fun y S2 => if isLoc y = true then .no else (lcL tgt t e ρ ds S2).bind fun ys S3 => .ok (y :: ys) S3 else lcL tgt t e ρ ds S1
def wipeR (ρ : Ro) : List Nat → Ro
  | [] => ρ
  | i :: r => (wipeR ρ r).set i .un
def f_lc (vs : List Nat) (mi : MI) (tgt : D → Ro → Option Ro) (t : MT) (e : ME) : ME := fun ρ S => (mi ρ S).bind fun ds S1 => (lcL tgt t e (wipeR ρ vs) ds S1).bind fun ys S2 => if ys.length ≤ 100000 then .ok (.lst ys) S2 else .no
theorem Fre.set_un (f : Fre K mg O ad ρ σ H) (i : Nat) : Fre K mg O ad (ρ.set i .un) (σ.set i none) H := by
  refine ⟨by rw [List.length_set, List.length_set, f.len], fun j e h => ?_, fun j e h => ?_, fun j k e e' a n h1 h2 h3 => ?_⟩
  · rcases get_set h with ⟨rfl, e1, hl⟩ | ⟨n, h⟩
    · cases e1
    · rw [List.getElem?_set_ne n]
      exact f.va j e h
  · rcases get_set h with ⟨rfl, e1, hl⟩ | ⟨n, h⟩
    · cases e1
    · rw [List.getElem?_set_ne n]
      exact f.ow j e h
  · rcases get_set h1 with ⟨rfl, e1, _⟩ | ⟨n1, h1⟩
    · cases e1
    · rcases get_set h2 with ⟨rfl, e1, _⟩ | ⟨n2, h2⟩
      · cases e1
      · rw [List.getElem?_set_ne n1] at h3
        rw [List.getElem?_set_ne n2]
        exact f.ap j k e e' a n h1 h2 h3
theorem Fre.wipe : ∀ (vs : List Nat) {ρ : Ro} {σ : L2.St}, Fre K mg O ad ρ σ H → Fre K mg O ad (wipeR ρ vs) (L2.wipe σ vs) H
  | [], _, _, f => f
  | i :: r, _, _, f => (Fre.wipe r f).set_un i
abbrev W0 : WX := fun _ _ _ _ => False
theorem lc_len {tgt : D → Ro → Option Ro} {t : MT} {e : ME} {ρ : Ro} : True := trivial
theorem w_lc {vs : List Nat} {mi : MI} {g : TG} {tgt : D → Ro → Option Ro} {t : MT} {e : ME} (hg : TgOk K mg vs g tgt) :
    ∀ σ H Q, Ef K mg W (f_lc vs mi tgt t e) σ H Q → tLc (Ei K mg Stp W mi) g (Et K mg W0 t) (Ee K mg W0 e) vs σ H Q := by
  rintro σ H Q ⟨O, ad, S, ρ, s, fr, h⟩
  refine ⟨O, ad, S, ρ, s, fr, ?_⟩
  unfold f_lc at h
  cases em : mi ρ S with
  | no => rw [em] at h; exact h
  | er x fs S1 => rw [em] at h; exact h
  | ok ds S1 =>
    rw [em] at h
    intro O1 ad1 H1 J t1 s1 src Dl hD
    obtain ⟨G, Y, wk, hG, hY⟩ := src
    have f1 : Fre K mg O1 ad1 ρ σ H1 := fr.step s.hid t1
    have h1 : PostF K mg W ρ σ Q O1 ad1 H1 ((lcL tgt t e (wipeR ρ vs) ds S1).bind fun ys S2 => if ys.length ≤ 100000 then .ok (.lst ys) S2 else .no) := PostF.rebase h t1 s.hid s1.dom
    have fw : Fre K mg O1 ad1 (wipeR ρ vs) (L2.wipe σ vs) H1 := f1.wipe vs
    refine lc_it wk (fun i H' => ∃ O2 ad2 S2 acc ys, Stp O1 ad1 H1 O2 ad2 H' ∧ Sto K mg O2 ad2 S2 H' ∧ O2 Dl ∧ Dl ∉ ad2 ∧ H' Dl = some (.lst acc) ∧ Reps K mg (hide O2 H') ad2 acc ys ∧
      PostF K mg W ρ σ Q O1 ad1 H1 ((lcL tgt t e (wipeR ρ vs) (ds.drop i) S2).bind fun zs S3 => if (ys ++ zs).length ≤ 100000 then .ok (.lst (ys ++ zs)) S3 else .no)) ?_ ?_ ?_ ?_
    · obtain ⟨t2, z2, np, mr⟩ := new_own (K := K) (mg := mg) (o := .lst []) (d := .lst []) s1 hD ⟨[], upd_same, .nil⟩
      exact ⟨_, ad1, S1, [], [], t2, z2, .inr rfl, np, upd_same, .nil, by simpa using h1⟩
    · rintro i H' hi ⟨O2, ad2, S2, acc, ys, t2, _⟩
      exact hG O2 ad2 H' t2
    · rintro i x H' H2 hi ⟨O2, ad2, S2, acc, ys, t2, z2, oD, nD, hDl, rs, hp⟩ y
      obtain ⟨d, hd, t3, z3, rx⟩ := hY i H' x H2 O2 ad2 S2 t2 z2 hi y
      have ed : ds.drop i = d :: ds.drop (i + 1) := by
        obtain ⟨hl, hd'⟩ := List.getElem?_eq_some_iff.mp hd
        rw [List.drop_eq_getElem_cons hl, hd']
      rw [ed] at hp
      have t23 := t2.trans t3 s1.hid z2.dom
      have f3 : Fre K mg O2 ad2 (wipeR ρ vs) (L2.wipe σ vs) H2 := fw.step s1.hid t23
      have hDl3 := t3.fr Dl _ hDl nD
      have rs3 : Reps K mg (hide O2 H2) ad2 acc ys := rs.mono (t3.hide z2.hid) t3.get
      unfold lcL at hp
      cases et : tgt d (wipeR ρ vs) with
      | none => simp only [et] at hp; exact hp.elim
      | some ρ1 =>
        simp only [et] at hp
        obtain ⟨σ1, g1, _, wp, kg⟩ := hg O2 ad2 _ _ H2 x d ρ1 f3 rx et
        refine kg _ ⟨?_, ?_⟩
        · rw [wp]
          have ww : ∀ (l : List Nat) (τ : L2.St), (∀ j ∈ l, j < τ.length → τ[j]? = some none) → L2.wipe τ l = τ := by
            intro l
            induction l with
            | nil => intro τ _; rfl
            | cons a l ih =>
              intro τ hτ
              have e0 : τ.set a none = τ := by
                by_cases hl : a < τ.length
                · have := hτ a List.mem_cons_self hl
                  rw [List.getElem?_eq_getElem hl] at this
                  have e1 : τ[a] = none := Option.some.inj this
                  rw [← e1]; exact List.set_getElem_self hl
                · exact List.set_eq_of_length_le (by omega)
              show (L2.wipe τ l).set a none = τ
              rw [ih τ fun j hj hl => hτ j (List.mem_cons_of_mem _ hj) hl]
              exact e0
          refine ww vs _ fun j hj hl => ?_
          have hc : ∀ o, (L2.wipe σ vs)[j]? = some o → o = none := fun o ho => by
            cases o with
            | none => rfl
            | some v => exact absurd hj (wipe_some ho).2
          rw [List.getElem?_eq_getElem hl]
          exact congrArg some (hc _ (List.getElem?_eq_getElem hl))
        · refine ⟨O2, ad2, S2, ρ1, z3, g1, ?_⟩
          cases et2 : t ρ1 S2 with
          | no => simp only [et2] at hp; exact hp.elim
          | er x2 fs2 S3 => simp only [et2] at hp; exact hp.elim
          | ok b S3 =>
            simp only [et2, noEr, Out.bind] at hp
            intro O3 ad3 H3 t4 z4
            have t24 := t23.trans t4 s1.hid z3.dom
            have oD4 := t4.op Dl oD
            have nD4 := t4.nmem nD hDl3
            have hDl4 := t4.fr Dl _ hDl3 nD
            have rs4 : Reps K mg (hide O3 H3) ad3 acc ys := rs3.mono (t4.hide z3.hid) t4.get
            cases b with
            | false =>
              rw [if_neg Bool.false_ne_true] at hp ⊢
              exact ⟨O3, ad3, S3, acc, ys, t24, z4, oD4, nD4, hDl4, rs4, hp⟩
            | true =>
              rw [if_pos rfl] at hp ⊢
              refine ⟨O3, ad3, S3, ρ1, z4, g1.step z3.hid t4, ?_⟩
              cases ee : e ρ1 S3 with
              | no => simp only [ee] at hp; exact hp.elim
              | er x2 fs2 S4 => simp only [ee] at hp; exact hp.elim
              | ok yd S4 =>
                simp only [ee] at hp
                intro v O4 ad4 H4 t5 z5 ry
                cases el : isLoc yd with
                | true => simp only [el, if_true] at hp; exact hp.elim
                | false =>
                  simp only [el, Bool.false_eq_true, if_false] at hp
                  have t25 := t24.trans t5 s1.hid z4.dom
                  have oD5 := t5.op Dl oD4
                  have nD5 := t5.nmem nD4 hDl4
                  have hDl5 := t5.fr Dl _ hDl4 nD4
                  have rs5 : Reps K mg (hide O4 H4) ad4 acc ys := rs4.mono (t5.hide z4.hid) t5.get
                  cases er2 : lcL tgt t e (wipeR ρ vs) (ds.drop (i + 1)) S4 with
                  | no => rw [er2] at hp; exact hp.elim
                  | er x3 fs3 S5 => 
                    exfalso
                    have key : ∀ (l : List D) (S : Sg) x fs S', lcL tgt t e (wipeR ρ vs) l S ≠ .er x fs S' := by
                      intro l
                      induction l with
                      | nil => intro S x fs S' q; cases q
                      | cons a l ih =>
                        intro S x fs S' q
                        unfold lcL at q
                        split at q
                        · cases q
                        · rename_i ρ2 _
                          cases q1 : t ρ2 S with
                          | no => simp only [q1, noEr, Out.bind] at q; cases q
                          | er _ _ _ => simp only [q1, noEr, Out.bind] at q; cases q
                          | ok b S1 =>
                            simp only [q1, noEr, Out.bind] at q
                            cases b with
                            | false => rw [if_neg Bool.false_ne_true] at q; exact ih _ _ _ _ q
                            | true =>
                              rw [if_pos rfl] at q
                              cases q2 : e ρ2 S1 with
                              | no => simp only [q2, noEr, Out.bind] at q; cases q
                              | er _ _ _ => simp only [q2, noEr, Out.bind] at q; cases q
                              | ok y S2 =>
                                simp only [q2, noEr, Out.bind] at q
                                split at q
                                · cases q
                                · cases q3 : lcL tgt t e (wipeR ρ vs) l S2 with
                                  | no => simp only [q3] at q; cases q
                                  | er _ _ _ => exact ih _ _ _ _ q3
                                  | ok _ _ => simp only [q3] at q; cases q
                    exact key _ _ _ _ _ er2
                  | ok zs S5 =>
                    rw [er2] at hp
                    have hp' : PostF K mg W ρ σ Q O1 ad1 H1 (if (ys ++ yd :: zs).length ≤ 100000 then .ok (.lst (ys ++ yd :: zs)) S5 else .no) := hp
                    obtain ⟨c1, _⟩ := post_if (P := PostF K mg W ρ σ Q O1 ad1 H1) (fun z => z) hp'
                    have hlen : acc.length < 100000 := by
                      rw [rs5.length]
                      rw [List.length_append, List.length_cons] at c1
                      omega
                    refine ⟨acc, hDl5, Nat.lt_of_lt_of_le hlen (by decide), O4, ad4, S4, acc ++ [v], ys ++ [yd], ?_, ?_, oD5, nD5, upd_same, ?_, ?_⟩
                    · refine ⟨fun b o hb m => ?_, t25.op, t25.oq, t25.ap⟩
                      rw [upd_ne (ne_of_none hb hD)]
                      exact t25.fr b o hb m
                    · have hh : ∀ b o, hide O4 H4 b = some o → hide O4 (upd H4 Dl (.lst (acc ++ [v]))) b = some o := fun b o q => by
                        obtain ⟨n, q⟩ := of_hide q
                        refine hide_of n ?_
                        rw [upd_ne (fun z => n (by rw [z]; exact oD5))]
                        exact q
                      refine ⟨z5.len, z5.nd, z5.hid, fun a ha => ?_, fun n d2 hn => ?_⟩
                      · by_cases q : a = Dl
                        · exact ⟨_, by rw [q]; exact upd_same⟩
                        · obtain ⟨o, ho⟩ := z5.dom a ha
                          exact ⟨o, by rw [upd_ne q]; exact ho⟩
                      · obtain ⟨a, q1, q2⟩ := z5.ob n d2 hn
                        refine ⟨a, q1, q2.mono hh (fun _ _ e => e) fun o q => ?_⟩
                        rw [upd_ne (fun z => nD5 (by rw [← z]; exact List.mem_of_getElem? q1))]
                        exact q
                    · have hh : ∀ b o, hide O4 H4 b = some o → hide O4 (upd H4 Dl (.lst (acc ++ [v]))) b = some o := fun b o q => by
                        obtain ⟨n, q⟩ := of_hide q
                        refine hide_of n ?_
                        rw [upd_ne (fun z => n (by rw [z]; exact oD5))]
                        exact q
                      exact (rs5.app (.cons (ry.rep el) .nil)).mono hh fun _ _ e => e
                    · rw [er2]
                      simp only [Out.bind, List.append_assoc, List.singleton_append]
                      exact hp'
    · rintro H' ⟨O2, ad2, S2, acc, ys, t2, z2, oD, nD, hDl, rs, hp⟩
      rw [List.drop_length] at hp
      have hp' : PostF K mg W ρ σ Q O1 ad1 H1 (if (ys ++ []).length ≤ 100000 then .ok (.lst (ys ++ [])) S2 else .no) := hp
      obtain ⟨_, k⟩ := post_if (P := PostF K mg W ρ σ Q O1 ad1 H1) (fun z => z) hp'
      rw [List.append_nil] at k
      exact k Dl O2 ad2 H' t2 z2 oD nD hD ⟨acc, hDl, rs⟩
end
end Gd

/-! Gd, part 5: what the operations give. -/
namespace Gd
open PySem L2

section
variable {K : Fg} {mg : Mg} {O : Addr → Prop} {ad : List Addr} {H : Hp} {x y : V}
theorem RepS.int {i : Int} (r : RepS K mg O ad H x (.int i)) : x = .int i := by
  rcases r with r | ⟨a, _, r⟩
  · cases r; rfl
  · exact r.elim
theorem RepS.str {i : Str} (r : RepS K mg O ad H x (.str i)) : x = .str i := by
  rcases r with r | ⟨a, _, r⟩
  · cases r; rfl
  · exact r.elim
theorem RepS.bl {i : Bool} (r : RepS K mg O ad H x (.bl i)) : x = .bl i := by
  rcases r with r | ⟨a, _, r⟩
  · cases r; rfl
  · exact r.elim
theorem RepS.non (r : RepS K mg O ad H x .non) : x = .non := by
  rcases r with r | ⟨a, _, r⟩
  · cases r; rfl
  · exact r.elim
theorem RepS.ty {n : String} (r : RepS K mg O ad H x (.ty n)) : x = .ty n := by
  rcases r with r | ⟨a, _, r⟩
  · cases r; rfl
  · exact r.elim
theorem RepS.lst {ds : List D} (r : RepS K mg O ad H x (.lst ds)) : ∃ a vs, x = .ref a ∧ SqL K H a vs ∧ Reps K mg (hide O H) ad vs ds := by
  rcases r with r | ⟨a, e, vs, h1, h2⟩
  · cases r with
    | lst h1 h2 => exact ⟨_, _, rfl, sql_mono un_hide h1, h2⟩
  · exact ⟨a, vs, e, .of h1, h2⟩
theorem RepS.tup {ds : List D} (r : RepS K mg O ad H x (.tup ds)) : ∃ a vs, x = .ref a ∧ SqT K H a vs ∧ Reps K mg (hide O H) ad vs ds := by
  rcases r with r | ⟨a, e, r⟩
  · cases r with
    | tup h1 h2 => exact ⟨_, _, rfl, sqt_mono un_hide h1, h2⟩
  · exact r.elim
theorem RepS.dct {ds : List (Key × D)} (r : RepS K mg O ad H x (.dct ds)) : ∃ a vs, x = .ref a ∧ Rd H a (.dK vs) ∧ RepK K mg (hide O H) ad vs ds := by
  rcases r with r | ⟨a, e, vs, h1, h2⟩
  · cases r with
    | dct h1 h2 => exact ⟨_, _, rfl, rd_mono un_hide h1, h2⟩
  · exact ⟨a, vs, e, .of h1, h2⟩
theorem RepS.of {d : D} (r : Rep K mg (hide O H) ad x d) : RepS K mg O ad H x d := .inl r
end

/-! ### ints -/
def d_int2 (f : Int → Int → Option D) : D → D → Option D := fun d e => match d, e with
  | .int i, .int j => f i j
  | _, _ => none
theorem d_int2_some {f : Int → Int → Option D} {d e z : D} (h : d_int2 f d e = some z) : ∃ i j, d = .int i ∧ e = .int j ∧ f i j = some z := by
  unfold d_int2 at h
  split at h
  · exact ⟨_, _, rfl, rfl, h⟩
  · cases h
section
variable {K : Fg} {mg : Mg}
theorem op_int0 {g : Int → Int → Int} : OpP K mg (rI0 fun i j => .int (g i j)) (d_int2 fun i j => some (.int (g i j))) := by
  intro O ad H x y d e z rx ry h
  obtain ⟨i, j, rfl, rfl, hh⟩ := d_int2_some h
  clear h
  cases hh
  cases rx.int
  cases ry.int
  exact res_v (.int _) fun Q q => ⟨i, j, rfl, rfl, q⟩
theorem op_intB {g : Int → Int → Bool} : OpP K mg (rI0 fun i j => .bl (g i j)) (d_int2 fun i j => some (.bl (g i j))) := by
  intro O ad H x y d e z rx ry h
  obtain ⟨i, j, rfl, rfl, hh⟩ := d_int2_some h
  clear h
  cases hh
  cases rx.int
  cases ry.int
  exact res_v (.bl _) fun Q q => ⟨i, j, rfl, rfl, q⟩
theorem op_intC {C : Int → Int → Prop} [∀ i j, Decidable (C i j)] {g : Int → Int → Int} : OpP K mg (rI C fun i j => .int (g i j)) (d_int2 fun i j => if C i j then some (.int (g i j)) else none) := by
  intro O ad H x y d e z rx ry h
  obtain ⟨i, j, rfl, rfl, hh⟩ := d_int2_some h
  clear h
  split at hh
  · rename_i hc
    cases hh
    cases rx.int
    cases ry.int
    exact res_v (.int _) fun Q q => ⟨i, j, rfl, rfl, hc, q⟩
  · cases hh
end
instance (i j : Int) : Decidable (CDivN i j) := by unfold CDivN; infer_instance
instance (i j : Int) : Decidable (CPow i j) := by unfold CPow; infer_instance
instance (i j : Int) : Decidable (CMul i j) := by unfold CMul; infer_instance
def d_sub := d_int2 fun i j => some (.int (i - j))
def d_mul := d_int2 fun i j => if CMul i j then some (.int (i * j)) else none
def d_fdiv := d_int2 fun i j => if CDivN i j then some (.int (i.fdiv j)) else none
def d_mod := d_int2 fun i j => if j ≠ 0 then some (.int (i.fmod j)) else none
def d_pow := d_int2 fun i j => if CPow i j then some (.int (i ^ j.toNat)) else none
def d_addI := d_int2 fun i j => some (.int (i + j))

/-! ### texts -/
def d_str2 (f : Str → Str → Option D) : D → D → Option D := fun d e => match d, e with
  | .str i, .str j => f i j
  | _, _ => none
theorem d_str2_some {f : Str → Str → Option D} {d e z : D} (h : d_str2 f d e = some z) : ∃ i j, d = .str i ∧ e = .str j ∧ f i j = some z := by
  unfold d_str2 at h
  split at h
  · exact ⟨_, _, rfl, rfl, h⟩
  · cases h
def d_addS := d_str2 fun i j => if i.length + j.length ≤ 100000 then some (.str (i ++ j)) else none
def slt (i j : Str) : Bool := decide (i.cps.toList < j.cps.toList)
section
variable {K : Fg} {mg : Mg}
theorem op_addS : OpP K mg (fun x y H Q => ∃ i j, x = .str i ∧ y = .str j ∧ i.length + j.length ≤ sizeLine ∧ Q (.str (i ++ j)) H) d_addS := by
  intro O ad H x y d e z rx ry h
  obtain ⟨i, j, rfl, rfl, hh⟩ := d_str2_some h
  clear h
  split at hh
  · rename_i hc
    cases hh
    cases rx.str
    cases ry.str
    exact res_v (.str _) fun Q q => ⟨i, j, rfl, rfl, sz5 hc, q⟩
  · cases hh
theorem op_strB {g : Str → Str → Bool} : OpP K mg (fun x y H Q => ∃ i j, x = .str i ∧ y = .str j ∧ Q (.bl (g i j)) H) (d_str2 fun i j => some (.bl (g i j))) := by
  intro O ad H x y d e z rx ry h
  obtain ⟨i, j, rfl, rfl, hh⟩ := d_str2_some h
  clear h
  cases hh
  cases rx.str
  cases ry.str
  exact res_v (.bl _) fun Q q => ⟨i, j, rfl, rfl, q⟩
end
/-! ### lists and tuples put together -/
def d_addL : D → D → Option D := fun d e => match d, e with
  | .lst a, .lst b => if a.length + b.length ≤ 100000 then some (.lst (a ++ b)) else none
  | _, _ => none
def rCatL (K : Fg) : R2 := fun x y H Q => ∃ a b xs ys, x = .ref a ∧ y = .ref b ∧ SqL K H a xs ∧ SqL K H b ys ∧ xs.length + ys.length ≤ sizeLine ∧ ∀ p, H p = none → Q (.ref p) (upd H p (.lst (xs ++ ys)))

/-! ### == -/
mutual
def py : D → Option PyData
  | .non => some .none
  | .bl b => some (.bool b)
  | .int i => some (.int i)
  | .str x => some (.str x)
  | .lst l => (pyL l).map .list
  | .tup l => (pyL l).map .tuple
  | .dct _ => none
  | .ins _ _ => none
  | .ty _ => none
  | .cls _ => none
  | .obj _ => none
  | .loc _ => none
def pyL : List D → Option (List PyData)
  | [] => some []
  | d :: ds => match py d, pyL ds with
    | some a, some b => some (a :: b)
    | _, _ => none
end
section
variable {K : Fg} {mg : Mg} {G : Hp} {ad : List Addr}
theorem py_dp : ∀ v d, Rep K mg G ad v d → ∀ p, py d = some p → Dp K G v p := fun v d h =>
  Rep.rec (K := K) (mg := mg) (G := G) (ad := ad) (motive_1 := fun v d _ => ∀ p, py d = some p → Dp K G v p) (motive_2 := fun v d _ => ∀ p, pyL d = some p → DpAll K G v p) (motive_3 := fun _ _ _ => True) (motive_4 := fun _ _ _ => True)
    (fun p e => by cases e; exact .non) (fun b p e => by cases e; exact .bl b) (fun b p e => by cases e; exact .int b) (fun b p e => by cases e; exact .str b)
    (fun {a vs ds} h _ r p e => by
      unfold py at e
      obtain ⟨q, h1, h2⟩ := Option.map_eq_some_iff.mp e
      subst h2
      exact .lst h (r q h1))
    (fun {a vs ds} h _ r p e => by
      unfold py at e
      obtain ⟨q, h1, h2⟩ := Option.map_eq_some_iff.mp e
      subst h2
      exact .tup h (r q h1))
    (fun _ _ _ p e => by unfold py at e; cases e) (fun _ _ _ _ p e => by unfold py at e; cases e) (fun _ p e => by unfold py at e; cases e) (fun _ p e => by unfold py at e; cases e) (fun _ p e => by unfold py at e; cases e)
    (fun p e => by cases e; exact .nil)
    (fun {v d vs ds} _ _ r1 r2 p e => by
      unfold pyL at e
      split at e
      · rename_i a b h1 h2
        cases e
        exact .cons (r1 _ h1) (r2 _ h2)
      · cases e)
    trivial (fun _ _ _ _ => trivial) trivial (fun _ _ _ _ => trivial) h
theorem pyL_dp {vs : List V} {ds : List D} (h : Reps K mg G ad vs ds) : ∀ p, pyL ds = some p → DpAll K G vs p := by
  induction vs generalizing ds with
  | nil => cases h; intro p e; cases e; exact .nil
  | cons v vs ih =>
    cases h with
    | cons a b =>
      intro p e
      unfold pyL at e
      split at e
      · rename_i x y h1 h2
        cases e
        exact .cons (py_dp _ _ a _ h1) (ih b _ h2)
      · cases e
theorem dp_mono_all {G G' : Hp} (e : ∀ b o, G b = some o → G' b = some o) : (∀ v d, Dp K G v d → Dp K G' v d) ∧ ∀ vs ds, DpAll K G vs ds → DpAll K G' vs ds := by
  have A : ∀ v d, Dp K G v d → Dp K G' v d := fun v d h =>
    Dp.rec (K := K) (H := G) (motive_1 := fun v d _ => Dp K G' v d) (motive_2 := fun v d _ => DpAll K G' v d) .non .bl .int .str (fun h _ r => .lst (sql_mono e h) r) (fun h _ r => .tup (sqt_mono e h) r) .nil (fun _ _ a b => .cons a b) h
  refine ⟨A, fun vs => ?_⟩
  induction vs with
  | nil => intro ds h; cases h; exact .nil
  | cons v vs ih => intro ds h; cases h with | cons a b => exact .cons (A _ _ a) (ih _ b)
end
theorem RepS.dp {K : Fg} {mg : Mg} {O : Addr → Prop} {ad : List Addr} {H : Hp} {x : V} {d : D} {p : PyData} (r : RepS K mg O ad H x d) (h : py d = some p) : Dp K H x p := by
  rcases r with r | ⟨a, e, r⟩
  · exact (dp_mono_all un_hide).1 _ _ (py_dp _ _ r _ h)
  · cases d with
    | lst ds =>
      obtain ⟨vs, h1, h2⟩ := r
      unfold py at h
      obtain ⟨q, h3, h4⟩ := Option.map_eq_some_iff.mp h
      subst h4 e
      exact .lst (.of h1) ((dp_mono_all un_hide).2 _ _ (pyL_dp h2 _ h3))
    | dct ds => unfold py at h; cases h
    | ins c ds => unfold py at h; cases h
    | _ => exact r.elim
/-- == of scalars of one kind, and None beside the others -/
def eqSc : D → D → Option Bool
  | .non, .non => some true
  | .non, .int _ => some false
  | .int _, .non => some false
  | .non, .bl _ => some false
  | .bl _, .non => some false
  | .non, .str _ => some false
  | .str _, .non => some false
  | .int a, .int b => some (decide (a = b))
  | .bl a, .bl b => some (decide (a = b))
  | .str a, .str b => some (decide (a = b))
  | .int _, .str _ => some false
  | .str _, .int _ => some false
  | .bl _, .str _ => some false
  | .str _, .bl _ => some false
  | _, _ => none
def eqDp (d e : D) : Option Bool := match py d, py e with
  | some a, some b => if SeqAt.shaped a = true ∧ SeqAt.shaped b = true then some (PyData.eqv a b) else none
  | _, _ => none
def d_eq : D → D → Option D := fun d e => ((eqSc d e).or (eqDp d e)).map .bl
def d_ne : D → D → Option D := fun d e => ((eqSc d e).or (eqDp d e)).map fun b => .bl (!b)
theorem eqSc_V {K : Fg} {mg : Mg} {O : Addr → Prop} {ad : List Addr} {H : Hp} {x y : V} {d e : D} {b : Bool} (rx : RepS K mg O ad H x d) (ry : RepS K mg O ad H y e) (h : eqSc d e = some b) : scal x y = true ∧ decide (x = y) = b := by
  unfold eqSc at h
  split at h <;> cases h
  · cases rx.non; cases ry.non; exact ⟨rfl, by simp⟩
  · cases rx.non; cases ry.int; exact ⟨rfl, by simp⟩
  · cases rx.int; cases ry.non; exact ⟨rfl, by simp⟩
  · cases rx.non; cases ry.bl; exact ⟨rfl, by simp⟩
  · cases rx.bl; cases ry.non; exact ⟨rfl, by simp⟩
  · cases rx.non; cases ry.str; exact ⟨rfl, by simp⟩
  · cases rx.str; cases ry.non; exact ⟨rfl, by simp⟩
  · cases rx.int; cases ry.int; exact ⟨rfl, by simp⟩
  · cases rx.bl; cases ry.bl; exact ⟨rfl, by simp⟩
  · cases rx.str; cases ry.str; exact ⟨rfl, by simp⟩
  · cases rx.int; cases ry.str; exact ⟨rfl, by simp⟩
  · cases rx.str; cases ry.int; exact ⟨rfl, by simp⟩
  · cases rx.bl; cases ry.str; exact ⟨rfl, by simp⟩
  · cases rx.str; cases ry.bl; exact ⟨rfl, by simp⟩
theorem eqDp_some {d e : D} {b : Bool} (h : eqDp d e = some b) : ∃ p q, py d = some p ∧ py e = some q ∧ SeqAt.shaped p = true ∧ SeqAt.shaped q = true ∧ PyData.eqv p q = b := by
  unfold eqDp at h
  split at h
  · rename_i p q h1 h2
    split at h
    · rename_i hc
      cases h
      exact ⟨p, q, h1, h2, hc.1, hc.2, rfl⟩
    · cases h
  · cases h
section
variable {K : Fg} {mg : Mg}
theorem op_dEq : OpP K mg (fun x y H Q => rEq x y H Q ∨ rEqD K x y H Q) d_eq := by
  intro O ad H x y d e z rx ry h
  unfold d_eq at h
  obtain ⟨b, hh, rfl⟩ := Option.map_eq_some_iff.mp h
  cases e1 : eqSc d e with
  | some b' =>
    rw [e1] at hh
    cases hh
    obtain ⟨s1, s2⟩ := eqSc_V rx ry e1
    exact res_v (.bl _) fun Q q => .inl ⟨s1, by rw [s2]; exact q⟩
  | none =>
    rw [e1] at hh
    obtain ⟨p, q, h1, h2, h3, h4, h5⟩ := eqDp_some hh
    exact res_v (.bl _) fun Q k => .inr ⟨p, q, rx.dp h1, ry.dp h2, h3, h4, by rw [h5]; exact k⟩
theorem op_dNe : OpP K mg (fun x y H Q => rNe x y H Q ∨ rNeD K x y H Q) d_ne := by
  intro O ad H x y d e z rx ry h
  unfold d_ne at h
  obtain ⟨b, hh, rfl⟩ := Option.map_eq_some_iff.mp h
  cases e1 : eqSc d e with
  | some b' =>
    rw [e1] at hh
    cases hh
    obtain ⟨s1, s2⟩ := eqSc_V rx ry e1
    exact res_v (.bl _) fun Q q => .inl ⟨s1, by rw [s2]; exact q⟩
  | none =>
    rw [e1] at hh
    obtain ⟨p, q, h1, h2, h3, h4, h5⟩ := eqDp_some hh
    exact res_v (.bl _) fun Q k => .inr ⟨p, q, rx.dp h1, ry.dp h2, h3, h4, by rw [h5]; exact k⟩
end

/-! ### in -/
def flatD : D → Bool
  | .non => true
  | .bl _ => true
  | .int _ => true
  | .str _ => true
  | _ => false
def eqF : D → D → Bool
  | .non, .non => true
  | .bl a, .bl b => a == b
  | .bl a, .int b => (if a then 1 else 0) == b
  | .int a, .bl b => a == (if b then 1 else 0)
  | .int a, .int b => a == b
  | .str a, .str b => a == b
  | _, _ => false
section
variable {K : Fg} {mg : Mg} {G : Hp} {ad : List Addr}
theorem flat_V {v : V} {d : D} (r : Rep K mg G ad v d) (f : flatD d = true) : flatV v = true := by
  cases r <;> first | rfl | cases f
theorem eqF_V {v w : V} {d e : D} (r : Rep K mg G ad v d) (q : Rep K mg G ad w e) (f : flatD d = true) (g : flatD e = true) : eqV v w = eqF d e := by
  cases r <;> first | cases f; done | (cases q <;> first | rfl | (cases g; done))
theorem inF_V {v : V} {d : D} (r : Rep K mg G ad v d) (f : flatD d = true) : ∀ {vs : List V} {ds : List D}, Reps K mg G ad vs ds → ds.all flatD = true → vs.all flatV = true ∧ inV v vs = ds.any fun e => eqF e d := by
  intro vs
  induction vs with
  | nil => intro ds h _; cases h; exact ⟨rfl, rfl⟩
  | cons w vs ih =>
    intro ds h g
    cases h with
    | cons a b =>
      rw [List.all_cons, Bool.and_eq_true] at g
      obtain ⟨h1, h2⟩ := ih b g.2
      refine ⟨by rw [List.all_cons, flat_V a g.1, h1]; rfl, ?_⟩
      unfold inV at h2 ⊢
      rw [List.any_cons, List.any_cons, h2, eqF_V a r g.1 f]
end
def inD (d : D) (ds : List D) : Option Bool := if flatD d = true ∧ ds.all flatD = true then some (ds.any fun e => eqF e d) else none
def d_in (neg : Bool) : D → D → Option D := fun d e => match e with
  | .lst ds => (inD d ds).map fun b => .bl (if neg then !b else b)
  | .tup ds => (inD d ds).map fun b => .bl (if neg then !b else b)
  | .str z => match d with
    | .str x => if x.cps.size = 1 then some (.bl (if neg then !decide (x.cps.getD 0 0 ∈ z.cps.toList) else decide (x.cps.getD 0 0 ∈ z.cps.toList))) else none
    | _ => none
  | _ => none
theorem str_one {x : Str} (h : x.cps.size = 1) : x = ⟨#[x.cps.getD 0 0]⟩ := by
  obtain ⟨a⟩ := x
  congr 1
  apply Array.ext
  · simpa using h
  · intro i h1 h2
    have : i = 0 := by simp at h2; omega
    subst this
    simp [Array.getD, h1]
section
variable {K : Fg} {mg : Mg}
def rIn2 (K : Fg) (neg : Bool) : R2 := fun x y H Q => rIn K neg x y H Q ∨ ∃ (c : Nat) (z : Str), x = .str ⟨#[c]⟩ ∧ y = .str z ∧ Q (.bl (if neg then !decide (c ∈ z.cps.toList) else decide (c ∈ z.cps.toList))) H
theorem flatS {O : Addr → Prop} {ad : List Addr} {H : Hp} {x : V} {d : D} (r : RepS K mg O ad H x d) (f : flatD d = true) : Rep K mg (hide O H) ad x d := by
  rcases r with r | ⟨a, e, r⟩
  · exact r
  · cases d <;> first | exact r.elim | cases f
theorem op_dIn {neg : Bool} : OpP K mg (rIn2 K neg) (d_in neg) := by
  intro O ad H x y d e z rx ry h
  unfold d_in at h
  split at h
  · obtain ⟨b, hh, rfl⟩ := Option.map_eq_some_iff.mp h
    unfold inD at hh
    split at hh
    · rename_i ds hc
      cases hh
      obtain ⟨a, vs, rfl, h1, h2⟩ := ry.lst
      have fx := flatS rx hc.1
      obtain ⟨q1, q2⟩ := inF_V fx hc.1 h2 hc.2
      exact res_v (.bl _) fun Q q => .inl ⟨a, vs, rfl, .inl h1, flat_V fx hc.1, q1, by rw [q2]; exact q⟩
    · cases hh
  · obtain ⟨b, hh, rfl⟩ := Option.map_eq_some_iff.mp h
    unfold inD at hh
    split at hh
    · rename_i ds hc
      cases hh
      obtain ⟨a, vs, rfl, h1, h2⟩ := ry.tup
      have fx := flatS rx hc.1
      obtain ⟨q1, q2⟩ := inF_V fx hc.1 h2 hc.2
      exact res_v (.bl _) fun Q q => .inl ⟨a, vs, rfl, .inr h1, flat_V fx hc.1, q1, by rw [q2]; exact q⟩
    · cases hh
  · split at h
    · split at h
      · rename_i hc
        cases h
        cases rx.str
        cases ry.str
        exact res_v (.bl _) fun Q q => .inr ⟨_, _, by rw [← str_one hc], rfl, q⟩
      · cases h
    · cases h
  · cases h
end

/-! ### items -/
def d_ix : D → D → Option D := fun d e => match d, e with
  | .lst ds, .int i => atI ds i
  | .tup ds, .int i => atI ds i
  | .str z, .int i => if z.length ≤ 100000 then (atI z.cps.toList i).map fun c => .str ⟨#[c]⟩ else none
  | _, _ => none
theorem atI_rep {K : Fg} {mg : Mg} {G : Hp} {ad : List Addr} {vs : List V} {ds : List D} (r : Reps K mg G ad vs ds) {i : Int} {z : D} (h : atI ds i = some z) : ∃ v, atI vs i = some v ∧ Rep K mg G ad v z := by
  unfold atI at h ⊢
  obtain ⟨j, h1, h2⟩ := Option.bind_eq_some_iff.mp h
  rw [r.length, h1]
  obtain ⟨v, q1, q2⟩ := r.get h2
  exact ⟨v, q1, q2⟩
theorem op_dIx {K : Fg} {mg : Mg} : OpP K mg (rIx K) d_ix := by
  intro O ad H x y d e z rx ry h
  unfold d_ix at h
  split at h
  · rename_i ds i
    obtain ⟨a, vs, rfl, h1, h2⟩ := rx.lst
    cases ry.int
    obtain ⟨v, q1, q2⟩ := atI_rep h2 h
    exact res_v q2 fun Q q => .inl ⟨a, vs, i, v, rfl, rfl, h1, q1, q⟩
  · rename_i ds i
    obtain ⟨a, vs, rfl, h1, h2⟩ := rx.tup
    cases ry.int
    obtain ⟨v, q1, q2⟩ := atI_rep h2 h
    exact res_v q2 fun Q q => .inr (.inl ⟨a, vs, i, v, rfl, rfl, h1, q1, q⟩)
  · rename_i w i
    split at h
    · rename_i hl
      obtain ⟨c, h1, rfl⟩ := Option.map_eq_some_iff.mp h
      cases rx.str
      cases ry.int
      exact res_v (.str _) fun Q q => .inr (.inr ⟨w, i, c, rfl, rfl, sz5 hl, h1, q⟩)
    · cases h
  · cases h

/-! ### built-in calls -/
def derefL (ρ : Ro) (S : Sg) : List D → Option (List D)
  | [] => some []
  | d :: ds => match deref ρ S d, derefL ρ S ds with
    | some a, some b => some (a :: b)
    | _, _ => none
def e_cb (f : List D → Option D) (r : MA) : ME := fun ρ S => (r ρ S).bind fun ds S1 => liftO S1 ((derefL ρ S1 ds).bind f)
def CallP (K : Fg) (mg : Mg) (r : List V → Hp → VK → Prop) (f : List D → Option D) : Prop :=
  ∀ O ad H vs ds z, Paired (RepS K mg O ad H) vs ds → f ds = some z → Res K mg O ad H z (r vs H)
section
variable {K : Fg} {mg : Mg} {W : WX}
theorem derefL_rep {O : Addr → Prop} {ad : List Addr} {S : Sg} {ρ : Ro} {σ : L2.St} {H : Hp} (f : Fre K mg O ad ρ σ H) (s : Sto K mg O ad S H) : ∀ {vs : List V} {ds es : List D}, Paired (RepR K mg O ad ρ σ H) vs ds → derefL ρ S ds = some es → Paired (RepS K mg O ad H) vs es
  | _, _, _, .nil, e => by cases e; exact .nil
  | _, _, _, .cons r t, e => by
    unfold derefL at e
    split at e
    · rename_i a b h1 h2
      cases e
      exact .cons (deref_rep f s r h1) (derefL_rep f s t h2)
    · cases e
theorem w_cb {r : List V → Hp → VK → Prop} {f : List D → Option D} {a : MA} (hf : CallP K mg r f) : ∀ σ H Q, Ee K mg W (e_cb f a) σ H Q → tCB r (Ea K mg W a) σ H Q := by
  intro σ H Q q
  refine (bindAE (f := fun ρ ds S1 => liftO S1 ((derefL ρ S1 ds).bind f)) q).imp fun vs H1 g => ?_
  obtain ⟨O, ad, S, ρ, ds, s, fr, r1, k⟩ := g
  obtain ⟨z, ez⟩ := liftO_ok k
  obtain ⟨d', ed, ez⟩ := Option.bind_eq_some_iff.mp ez
  have kv := hf O ad H1 vs d' z (derefL_rep fr s r1 ed) ez
  rw [ed] at k
  simp only [Option.bind_some, ez, liftO] at k
  exact kv.go s k
end
def d_1 (f : D → Option D) : List D → Option D
  | [d] => f d
  | _ => none
def d_2 (f : D → D → Option D) : List D → Option D
  | [d, e] => f d e
  | _ => none
theorem paired1 {α β : Type} {R : α → β → Prop} {xs : List α} {y : β} (h : Paired R xs [y]) : ∃ x, xs = [x] ∧ R x y := by
  cases h with
  | cons a b => cases b; exact ⟨_, rfl, a⟩
theorem paired2 {α β : Type} {R : α → β → Prop} {xs : List α} {y z : β} (h : Paired R xs [y, z]) : ∃ x w, xs = [x, w] ∧ R x y ∧ R w z := by
  cases h with
  | cons a b => cases b with | cons c d => cases d; exact ⟨_, _, rfl, a, c⟩
theorem d_1_some {f : D → Option D} {ds : List D} {z : D} (h : d_1 f ds = some z) : ∃ d, ds = [d] ∧ f d = some z := by
  unfold d_1 at h
  split at h
  · exact ⟨_, rfl, h⟩
  · cases h
theorem d_2_some {f : D → D → Option D} {ds : List D} {z : D} (h : d_2 f ds = some z) : ∃ d e, ds = [d, e] ∧ f d e = some z := by
  unfold d_2 at h
  split at h
  · exact ⟨_, _, rfl, h⟩
  · cases h
/-! len -/
def d_len : D → Option D
  | .lst ds => some (.int ds.length)
  | .tup ds => some (.int ds.length)
  | .str z => if z.length ≤ 100000 then some (.int z.length) else none
  | _ => none
def rLen2 (K : Fg) : List V → Hp → VK → Prop := fun xs H Q => (∃ p ys, xs = [.ref p] ∧ (SqL K H p ys ∨ SqT K H p ys) ∧ Q (.int ys.length) H) ∨ ∃ z, xs = [.str z] ∧ z.length ≤ sizeLine ∧ Q (.int z.length) H
theorem cr_len2 {X : Cx} : CallR X (.builtin "len") (rLen2 X.K) := call_len_seq.or call_len_str
theorem cp_len {K : Fg} {mg : Mg} : CallP K mg (rLen2 K) (d_1 d_len) := by
  intro O ad H vs ds z r h
  obtain ⟨d, rfl, hh⟩ := d_1_some h
  clear h
  obtain ⟨v, rfl, r1⟩ := paired1 r
  clear r
  unfold d_len at hh
  split at hh
  · cases hh
    obtain ⟨a, vs, rfl, h1, h2⟩ := r1.lst
    exact res_v (.int _) fun Q q => .inl ⟨a, vs, rfl, .inl h1, by rw [h2.length]; exact q⟩
  · cases hh
    obtain ⟨a, vs, rfl, h1, h2⟩ := r1.tup
    exact res_v (.int _) fun Q q => .inl ⟨a, vs, rfl, .inr h1, by rw [h2.length]; exact q⟩
  · split at hh
    · rename_i hl
      cases hh
      cases r1.str
      exact res_v (.int _) fun Q q => .inr ⟨_, rfl, sz5 hl, q⟩
    · cases hh
  · cases hh
/-! abs -/
def d_abs : D → Option D
  | .int i => some (.int (if i < 0 then -i else i))
  | _ => none
theorem cp_abs {K : Fg} {mg : Mg} : CallP K mg (fun xs H Q => ∃ i, xs = [.int i] ∧ Q (.int (if i < 0 then -i else i)) H) (d_1 d_abs) := by
  intro O ad H vs ds z r h
  obtain ⟨d, rfl, hh⟩ := d_1_some h
  clear h
  obtain ⟨v, rfl, r1⟩ := paired1 r
  clear r
  unfold d_abs at hh
  split at hh
  · cases hh
    cases r1.int
    exact res_v (.int _) fun Q q => ⟨_, rfl, q⟩
  · cases hh
/-! all, any -/
def asBl : D → Option Bool
  | .bl b => some b
  | _ => none
def blsOf : List D → Option (List Bool)
  | [] => some []
  | d :: ds => match asBl d, blsOf ds with
    | some a, some b => some (a :: b)
    | _, _ => none
theorem blsOf_eq : ∀ {ds : List D} {bs : List Bool}, blsOf ds = some bs → ds = bs.map .bl
  | [], _, h => by cases h; rfl
  | d :: ds, _, h => by
    unfold blsOf at h
    split at h
    · rename_i a b h1 h2
      cases h
      cases d <;> cases h1
      rw [blsOf_eq h2]; rfl
    · cases h
theorem blsOf_map (bs : List Bool) : blsOf (bs.map .bl) = some bs := by
  induction bs with
  | nil => rfl
  | cons b bs ih => simp [blsOf, asBl, ih]
def d_all : D → Option D
  | .lst ds => (blsOf ds).map fun bs => .bl (bs.all id)
  | _ => none
def d_any : D → Option D
  | .lst ds => (blsOf ds).map fun bs => .bl (bs.any id)
  | _ => none
theorem cp_all {K : Fg} {mg : Mg} : CallP K mg (rAll K) (d_1 d_all) := by
  intro O ad H vs ds z r h
  obtain ⟨d, rfl, hh⟩ := d_1_some h
  clear h
  obtain ⟨v, rfl, r1⟩ := paired1 r
  clear r
  unfold d_all at hh
  split at hh
  · obtain ⟨bs, h1, rfl⟩ := Option.map_eq_some_iff.mp hh
    obtain ⟨a, ws, rfl, h2, h3⟩ := r1.lst
    rw [blsOf_eq h1] at h3
    exact res_v (.bl _) fun Q q => ⟨a, bs, rfl, by rw [← h3.bls]; exact h2, q⟩
  · cases hh
theorem cp_any {K : Fg} {mg : Mg} : CallP K mg (rAny K) (d_1 d_any) := by
  intro O ad H vs ds z r h
  obtain ⟨d, rfl, hh⟩ := d_1_some h
  clear h
  obtain ⟨v, rfl, r1⟩ := paired1 r
  clear r
  unfold d_any at hh
  split at hh
  · obtain ⟨bs, h1, rfl⟩ := Option.map_eq_some_iff.mp hh
    obtain ⟨a, ws, rfl, h2, h3⟩ := r1.lst
    rw [blsOf_eq h1] at h3
    exact res_v (.bl _) fun Q q => ⟨a, bs, rfl, by rw [← h3.bls]; exact h2, q⟩
  · cases hh

/-! ### slices -/
def cutD (ds : List D) (lo hi : Option Int) : List D := (ds.drop (HT.sIx ds.length 0 lo)).take (HT.sIx ds.length ds.length hi - HT.sIx ds.length 0 lo)
def d_sl (d : D) (lo hi : Option Int) : Option D := match d with
  | .lst ds => some (.lst (cutD ds lo hi))
  | .str z => if z.length ≤ 100000 then some (.str (cutS z lo hi)) else none
  | _ => none
def rSl2 (K : Fg) : V → Option Int → Option Int → Hp → VK → Prop := fun x lo hi H Q => rSlL K x lo hi H Q ∨ rSlS x lo hi H Q
def SlP (K : Fg) (mg : Mg) (r : V → Option Int → Option Int → Hp → VK → Prop) (f : D → Option Int → Option Int → Option D) : Prop :=
  ∀ O ad H x d lo hi z, RepS K mg O ad H x d → f d lo hi = some z → Res K mg O ad H z (r x lo hi H)
theorem sp_sl {K : Fg} {mg : Mg} : SlP K mg (rSl2 K) d_sl := by
  intro O ad H x d lo hi z r h
  unfold d_sl at h
  split at h
  · cases h
    obtain ⟨a, vs, rfl, h1, h2⟩ := r.lst
    refine .inr ⟨rfl, .lst (cutV vs lo hi), fun p G e ep => .lst (.of ep) ?_, fun Q q => .inl ⟨a, vs, rfl, h1, q⟩⟩
    unfold cutV cutD
    rw [h2.length]
    exact ((h2.drop _).take _).mono e fun _ _ e => e
  · split at h
    · rename_i hl
      cases h
      cases r.str
      exact res_v (.str _) fun Q q => .inr ⟨_, rfl, sz5 hl, q⟩
    · cases h
  · cases h
abbrev MO := Ro → Sg → Out (Option Int)
def o_no : MO := fun _ S => .ok none S
def o_e (m : ME) : MO := fun ρ S => (m ρ S).bind fun d S1 => match d with
  | .int i => .ok (some i) S1
  | _ => .no
def e_sl (f : D → Option Int → Option Int → Option D) (a : ME) (lo hi : MO) : ME := fun ρ S => (a ρ S).bind fun d S1 => (lo ρ S1).bind fun l S2 => (hi ρ S2).bind fun h S3 => liftO S3 ((deref ρ S3 d).bind fun d' => f d' l h)
section
variable (K : Fg) (mg : Mg)
def PostO (W : WX) (ρ : Ro) (σ : L2.St) (Q : Option Int → Hp → Prop) (O : Addr → Prop) (ad : List Addr) (H : Hp) : Out (Option Int) → Prop
  | .ok b S' => ∀ O' ad' H', Stp O ad H O' ad' H' → Sto K mg O' ad' S' H' → Q b H'
  | .er x fs S' => ∀ cls dd O' ad' H', Stp O ad H O' ad' H' → Sto K mg O' ad' S' H' → XRep K mg O' ad' H' cls dd x fs → W cls dd σ H'
  | .no => False
def Eo (W : WX) (m : MO) : TO := fun σ H Q => ∃ O ad S ρ, Sto K mg O ad S H ∧ Fre K mg O ad ρ σ H ∧ PostO K mg W ρ σ Q O ad H (m ρ S)
end
section
variable {K : Fg} {mg : Mg} {W : WX}
theorem w_ono : ∀ σ H Q, Eo K mg W o_no σ H Q → tNoPart σ H Q := by
  rintro σ H Q ⟨O, ad, S, ρ, s, fr, k⟩
  exact k O ad H (.refl _ _ _) s
theorem w_oe {m : ME} : ∀ σ H Q, Eo K mg W (o_e m) σ H Q → tPart (Ee K mg W m) σ H Q := by
  rintro σ H Q ⟨O, ad, S, ρ, s, fr, k⟩
  refine ⟨O, ad, S, ρ, s, fr, ?_⟩
  unfold o_e at k
  cases e : m ρ S with
  | no => rw [e] at k; exact k
  | er x fs S1 => rw [e] at k; exact k
  | ok d S1 =>
    rw [e] at k
    intro v O' ad' H' t z r
    cases d with
    | int i =>
      have r' : Rep K mg (hide O' H') ad' v (.int i) := r
      cases r'
      exact ⟨i, rfl, k O' ad' H' t z⟩
    | _ => exact k.elim
theorem w_sl {r : V → Option Int → Option Int → Hp → VK → Prop} {f : D → Option Int → Option Int → Option D} {a : ME} {lo hi : MO} (hf : SlP K mg r f) : ∀ σ H Q, Ee K mg W (e_sl f a lo hi) σ H Q → tSl r (Ee K mg W a) (Eo K mg W lo) (Eo K mg W hi) σ H Q := by
  intro σ H Q q
  refine (bindE (f := fun ρ d S1 => (lo ρ S1).bind fun l S2 => (hi ρ S2).bind fun h S3 => liftO S3 ((deref ρ S3 d).bind fun d' => f d' l h)) q).imp fun x H1 g => ?_
  obtain ⟨O, ad, S, ρ, d, s, fr, rx, k⟩ := g
  refine ⟨O, ad, S, ρ, s, fr, ?_⟩
  cases e : lo ρ S with
  | no => rw [e] at k; exact k
  | er x fs S1 => rw [e] at k; exact k
  | ok l S1 =>
    rw [e] at k
    intro O1 ad1 H2 t1 s1
    have k1 : PostE K mg W ρ σ Q O1 ad1 H2 ((hi ρ S1).bind fun h S3 => liftO S3 ((deref ρ S3 d).bind fun d' => f d' l h)) := PostE.rebase k t1 s.hid s1.dom
    have fr1 := fr.step s.hid t1
    have rx1 := rx.step s.hid t1
    refine ⟨O1, ad1, S1, ρ, s1, fr1, ?_⟩
    cases e2 : hi ρ S1 with
    | no => rw [e2] at k1; exact k1
    | er x fs S2 => rw [e2] at k1; exact k1
    | ok h S2 =>
      rw [e2] at k1
      intro O2 ad2 H3 t2 s2
      have k2 : PostE K mg W ρ σ Q O2 ad2 H3 (liftO S2 ((deref ρ S2 d).bind fun d' => f d' l h)) := PostE.rebase k1 t2 s1.hid s2.dom
      obtain ⟨z, ez⟩ := liftO_ok k2
      obtain ⟨d', ed, ez⟩ := Option.bind_eq_some_iff.mp ez
      have kv := hf O2 ad2 H3 x d' l h z (deref_rep (fr1.step s1.hid t2) s2 (rx1.step s1.hid t2) ed) ez
      rw [ed] at k2
      simp only [Option.bind_some, ez, liftO] at k2
      exact kv.go s2 k2
end
section
variable {X : Cx} {W : WX}
theorem po_of {e : Option Expr} {t t' : TO} (h : PO X e t) (w : ∀ σ H Q, t' σ H Q → t σ H Q) : PO X e t' := ⟨fun pins s σ H Q I q => h.run pins s σ H Q I (w _ _ _ q)⟩
theorem O_no : PO X none (Eo X.K X.mg W o_no) := po_of po_none w_ono
theorem O_e {e : Expr} {m : ME} (h : PE X e (Ee X.K X.mg W m)) : PO X (some e) (Eo X.K X.mg W (o_e m)) := po_of (po_some h) w_oe
end
end Gd

/-! Gd, part 6: what is walked; loops, comprehensions, stores, methods, isinstance. -/
namespace Gd
open PySem L2 PyProof.Rows

/-! ### a list, a tuple, a text -/
def signs (z : Str) : List D := z.cps.toList.map fun c => .str ⟨#[c]⟩
def itemsG : D → Option (List D)
  | .lst ds => some ds
  | .tup ds => some ds
  | .str z => some (signs z)
  | _ => none
def itemsC (ρ : Ro) (d : D) : Option (List D) := match d with
  | .loc i => (match ρ[i]? with
    | some (.ow (.lst ds)) => some ds
    | _ => none)
  | d => itemsG d
def liftI (S : Sg) : Option (List D) → Out (List D)
  | some z => .ok z S
  | none => .no
def i_seqG (m : ME) : MI := fun ρ S => (m ρ S).bind fun d S1 => liftI S1 (itemsG d)
def i_seqC (m : ME) : MI := fun ρ S => (m ρ S).bind fun d S1 => liftI S1 (itemsC ρ d)
def iAny (K : Fg) (tl : TE) : TI := fun σ H R => tl σ H fun x H1 => (∃ a xs, x = .ref a ∧ SqL K H1 a xs ∧ R (Itl K a) H1) ∨ (∃ a xs, x = .ref a ∧ SqT K H1 a xs ∧ R (Itt K a) H1) ∨ ∃ z, x = .str z ∧ R (Its z) H1
theorem pi_any {X : Cx} {tg l : Expr} {tl : TE} (hl : PE X l tl) : PI X tg l (iAny X.K tl) := by
  constructor
  intro pins s σ H R I h
  apply thn (hl.run pins s σ H _ I h)
  rintro v s1 ⟨x, H1, I1, r1, ⟨a, xs, rfl, hq, q⟩ | ⟨a, xs, rfl, hq, q⟩ | ⟨z, rfl, q⟩⟩
  · cases r1
    obtain ⟨its, rv, p, _⟩ := I1.list hq
    exact wpAny_pyIter_list p.isList (pi_one (tk := s1.toks) I1 _ (turn_list a _) ⟨_, Heap.get?_push_size _ rfl, rfl, rfl⟩ q)
  · cases r1
    obtain ⟨its, rv, p, _⟩ := I1.tuple hq
    exact wpAny_pyIter_tuple (show s1.heap.IsTuple a its.toArray from p) (pi_one (tk := s1.toks) I1 _ (turn_tuple a _) ⟨_, Heap.get?_push_size _ rfl, rfl, rfl⟩ q)
  · obtain ⟨t, rfl⟩ := r1
    cases hz : z.cps.all (· < 128) with
    | false => exact wpAny_pyIter_wide hz (pi_one (tk := s1.toks) I1 _ (turn_str _ z t "str_iterator" (.inr rfl)) ⟨_, Heap.get?_push_size _ rfl, rfl, rfl⟩ q)
    | true => exact wpAny_pyIter_ascii hz (pi_one (tk := s1.toks) I1 _ (turn_str _ z t "str_ascii_iterator" (.inl rfl)) ⟨_, Heap.get?_push_size _ rfl, rfl, rfl⟩ q)
section
variable {K : Fg} {mg : Mg} {W : WX}
/-- items of a thing that stands still -/
theorem src_at {J : It} {G : Hp → Prop} {vs : List V} {ds : List D} {O : Addr → Prop} {ad : List Addr} {H : Hp} {ok : (Addr → Prop) → List Addr → Hp → Prop} (w : Walk J vs.length G (YAt vs)) (r : Reps K mg (hide O H) ad vs ds)
    (hG : ∀ O2 ad2 H2, ok O2 ad2 H2 → G H2) (hr : ∀ O2 ad2 H2, ok O2 ad2 H2 → Reps K mg (hide O2 H2) ad2 vs ds) : Src K mg ok J ds := by
  refine ⟨G, YAt vs, ?_, hG, fun i H2 x H3 O2 ad2 S2 h2 s2 hi y => ?_⟩
  · rw [← r.length]; exact w
  · obtain ⟨rfl, hx⟩ := y
    obtain ⟨d, h3, h4⟩ := (hr O2 ad2 _ h2).getV hx
    exact ⟨d, h3, .refl _ _ _, s2, h4⟩
theorem signs_get {z : Str} {i : Nat} {c : Nat} (h : z.cps[i]? = some c) : (signs z)[i]? = some (.str ⟨#[c]⟩) := by
  unfold signs
  rw [List.getElem?_map, Array.getElem?_toList, h]
  rfl
theorem src_str {z : Str} {ok : (Addr → Prop) → List Addr → Hp → Prop} : Src K mg ok (Its z) (signs z) := by
  refine ⟨fun _ => True, _, (by unfold signs; rw [List.length_map, Array.length_toList]; exact walk_str), fun _ _ _ _ => trivial, fun i H2 x H3 O2 ad2 S2 h2 s2 hi y => ?_⟩
  obtain ⟨rfl, c, hc, rfl⟩ := y
  exact ⟨_, signs_get hc, .refl _ _ _, s2, .str _⟩
theorem liftI_ok {rel : Rel} {ρ : Ro} {σ : L2.St} {O : Addr → Prop} {ad : List Addr} {H : Hp} {S : Sg} {o : Option (List D)} {Q : It → Hp → Prop} (h : PostI K mg rel W ρ σ Q O ad H (liftI S o)) : ∃ z, o = some z := by
  cases o with
  | some z => exact ⟨z, rfl⟩
  | none => exact h.elim
theorem bindEI {rel : Rel} {m : ME} {f : Ro → D → Sg → Out (List D)} {σ : L2.St} {H : Hp} {Q : It → Hp → Prop} (h : Ei K mg rel W (fun ρ S => (m ρ S).bind (f ρ)) σ H Q) :
    Ee K mg W m σ H fun v H1 => AtE K mg σ H1 v fun O ad ρ S d => PostI K mg rel W ρ σ Q O ad H1 (f ρ d S) := by
  obtain ⟨O, ad, S, ρ, s, fr, h⟩ := h
  refine ⟨O, ad, S, ρ, s, fr, ?_⟩
  dsimp only at h
  cases e : m ρ S with
  | ok d S1 =>
    rw [e] at h
    refine fun v O' ad' H' t z r => ⟨O', ad', S1, ρ, d, z, fr.step s.hid t, r, ?_⟩
    have h : PostI K mg rel W ρ σ Q O ad H (f ρ d S1) := h
    show PostI K mg rel W ρ σ Q O' ad' H' (f ρ d S1)
    cases e2 : f ρ d S1 with
    | ok ds S2 => rw [e2] at h; exact fun O2 ad2 H2 J t2 z2 sr => h O2 ad2 H2 J (t.trans t2 s.hid z.dom) z2 sr
    | er x fs S2 => rw [e2] at h; exact fun cls dd O2 ad2 H2 t2 z2 r2 => h cls dd O2 ad2 H2 (t.trans t2 s.hid z.dom) z2 r2
    | no => rw [e2] at h; exact h
  | er x fs S1 => rw [e] at h; exact h
  | no => rw [e] at h; exact h
theorem seq_still {rel : Rel} {O : Addr → Prop} {ad : List Addr} {H1 : Hp} {d : D} {v : V} {z : List D} {R : It → Hp → Prop} (hr : ∀ O2 ad2 H2, rel O ad H1 O2 ad2 H2 → Grow O ad H1 O2 ad2 H2) (r : Rep K mg (hide O H1) ad v d) (ez : itemsG d = some z)
    (k : ∀ J, Src K mg (rel O ad H1) J z → R J H1) : (∃ a xs, v = .ref a ∧ SqL K H1 a xs ∧ R (Itl K a) H1) ∨ (∃ a xs, v = .ref a ∧ SqT K H1 a xs ∧ R (Itt K a) H1) ∨ ∃ z, v = .str z ∧ R (Its z) H1 := by
  unfold itemsG at ez
  split at ez
  · cases ez
    cases r with
    | lst h1 h2 => exact .inl ⟨_, _, rfl, sql_mono un_hide h1, k _ (src_at walk_list h2 (fun O2 ad2 H2 g => sql_mono un_hide (sql_mono (hr _ _ _ g).ex h1)) fun O2 ad2 H2 g => h2.mono (hr _ _ _ g).ex (hr _ _ _ g).ap)⟩
  · cases ez
    cases r with
    | tup h1 h2 => exact .inr (.inl ⟨_, _, rfl, sqt_mono un_hide h1, k _ (src_at walk_tup h2 (fun O2 ad2 H2 g => sqt_mono un_hide (sqt_mono (hr _ _ _ g).ex h1)) fun O2 ad2 H2 g => h2.mono (hr _ _ _ g).ex (hr _ _ _ g).ap)⟩)
  · cases ez
    cases r with
    | str => exact .inr (.inr ⟨_, rfl, k _ src_str⟩)
  · cases ez
theorem itemsG_loc {d : D} {z : List D} (h : itemsG d = some z) : isLoc d = false := by
  cases d <;> first | rfl | cases h
theorem w_seqG {m : ME} : ∀ σ H R, Ei K mg Grow W (i_seqG m) σ H R → iAny K (Ee K mg W m) σ H R := by
  intro σ H R q
  refine (bindEI (f := fun _ d S1 => liftI S1 (itemsG d)) q).imp fun v H1 g => ?_
  obtain ⟨O, ad, S, ρ, d, s, fr, r, k⟩ := g
  obtain ⟨z, ez⟩ := liftI_ok k
  rw [ez] at k
  exact seq_still (rel := Grow) (fun _ _ _ g => g) (r.rep (itemsG_loc ez)) ez fun J sr => k O ad H1 J (.refl _ _ _) s sr
theorem w_seqC {m : ME} : ∀ σ H R, Ei K mg Stp W (i_seqC m) σ H R → iAny K (Ee K mg W m) σ H R := by
  intro σ H R q
  refine (bindEI (f := fun ρ d S1 => liftI S1 (itemsC ρ d)) q).imp fun v H1 g => ?_
  obtain ⟨O, ad, S, ρ, d, s, fr, r, k⟩ := g
  obtain ⟨z, ez⟩ := liftI_ok k
  rw [ez] at k
  have oth : itemsG d = some z → (∃ a xs, v = .ref a ∧ SqL K H1 a xs ∧ R (Itl K a) H1) ∨ (∃ a xs, v = .ref a ∧ SqT K H1 a xs ∧ R (Itt K a) H1) ∨ ∃ z, v = .str z ∧ R (Its z) H1 := fun ez =>
    seq_still (rel := Stp) (fun _ _ _ g => g.grow s.hid) (r.rep (itemsG_loc ez)) ez fun J sr => k O ad H1 J (.refl _ _ _) s sr
  cases d with
  | loc i =>
    obtain ⟨⟨e, he⟩, h1⟩ := r
    have ez' : (match ρ[i]? with | some (.ow (.lst ds)) => some ds | _ => none) = some z := ez
    rw [he] at ez'
    obtain ⟨a, h2, h3, h4, h5⟩ := fr.ow i _ he
    rw [h2] at h1
    cases h1
    cases e with
    | lst ds =>
      cases ez'
      obtain ⟨vs, h5, h6⟩ := h5
      exact .inl ⟨a, vs, rfl, .of h5, k O ad H1 _ (.refl _ _ _) s (src_at walk_list h6 (fun O2 ad2 H2 g => .of (g.fr a _ h5 h4)) fun O2 ad2 H2 g => h6.mono (g.hide s.hid) g.get)⟩
    | _ => cases ez'
  | _ => exact oth ez
end

/-! ### range -/
def rng (lo : Int) (n : Nat) : List D := (List.range n).map fun (i : Nat) => .int (lo + (i : Int))
def rngOf : List D → Option (List D)
  | [.int n] => if -100000 ≤ n ∧ n ≤ 100000 then some (rng 0 n.toNat) else none
  | [.int a, .int b] => if (-100000 ≤ a ∧ a ≤ 100000) ∧ -100000 ≤ b ∧ b ≤ 100000 then some (rng a (b - a).toNat) else none
  | _ => none
def i_rng (r : MA) : MI := fun ρ S => (r ρ S).bind fun ds S1 => liftI S1 (rngOf ds)
section
variable {K : Fg} {mg : Mg} {W : WX} {rel : Rel}
theorem src_rng {lo : Int} {n : Nat} {ok : (Addr → Prop) → List Addr → Hp → Prop} : Src K mg ok (Itr lo n) (rng lo n) := by
  have hl : (rng lo n).length = n := by unfold rng; rw [List.length_map, List.length_range]
  refine ⟨fun _ => True, _, (by rw [hl]; exact walk_range), fun _ _ _ _ => trivial, fun i H2 x H3 O2 ad2 S2 h2 s2 hi y => ?_⟩
  obtain ⟨rfl, rfl⟩ := y
  rw [hl] at hi
  refine ⟨_, ?_, .refl _ _ _, s2, .int _⟩
  unfold rng
  rw [List.getElem?_map, List.getElem?_range hi]
  rfl
theorem bindAI {m : MA} {f : Ro → List D → Sg → Out (List D)} {σ : L2.St} {H : Hp} {Q : It → Hp → Prop} (h : Ei K mg rel W (fun ρ S => (m ρ S).bind (f ρ)) σ H Q) :
    Ea K mg W m σ H fun vs H1 => ∃ O ad S ρ ds, Sto K mg O ad S H1 ∧ Fre K mg O ad ρ σ H1 ∧ Paired (RepR K mg O ad ρ σ H1) vs ds ∧ PostI K mg rel W ρ σ Q O ad H1 (f ρ ds S) := by
  obtain ⟨O, ad, S, ρ, s, fr, h⟩ := h
  refine ⟨O, ad, S, ρ, s, fr, ?_⟩
  dsimp only at h
  cases e : m ρ S with
  | ok d S1 =>
    rw [e] at h
    refine fun v O' ad' H' t z r => ⟨O', ad', S1, ρ, d, z, fr.step s.hid t, r, ?_⟩
    have h : PostI K mg rel W ρ σ Q O ad H (f ρ d S1) := h
    show PostI K mg rel W ρ σ Q O' ad' H' (f ρ d S1)
    cases e2 : f ρ d S1 with
    | ok ds S2 => rw [e2] at h; exact fun O2 ad2 H2 J t2 z2 sr => h O2 ad2 H2 J (t.trans t2 s.hid z.dom) z2 sr
    | er x fs S2 => rw [e2] at h; exact fun cls dd O2 ad2 H2 t2 z2 r2 => h cls dd O2 ad2 H2 (t.trans t2 s.hid z.dom) z2 r2
    | no => rw [e2] at h; exact h
  | er x fs S1 => rw [e] at h; exact h
  | no => rw [e] at h; exact h
theorem rint {O : Addr → Prop} {ad : List Addr} {ρ : Ro} {σ : L2.St} {H : Hp} {v : V} {i : Int} (r : RepR K mg O ad ρ σ H v (.int i)) : v = .int i := by
  have r' : Rep K mg (hide O H) ad v (.int i) := r
  cases r'; rfl
theorem w_rngA {r : MA} : ∀ σ H R, Ei K mg rel W (i_rng r) σ H R → Ea K mg W r σ H fun vs H1 => (∃ j : Int, vs = [.int j] ∧ -(2 ^ 62) ≤ j ∧ j < 2 ^ 62 ∧ R (Itr 0 j.toNat) H1) ∨ ∃ i j : Int, vs = [.int i, .int j] ∧ (-(2 ^ 62) ≤ i ∧ i < 2 ^ 62 ∧ -(2 ^ 62) ≤ j ∧ j < 2 ^ 62) ∧ R (Itr i (j - i).toNat) H1 := by
  intro σ H R q
  refine (bindAI (f := fun _ ds S1 => liftI S1 (rngOf ds)) q).imp fun vs H1 g => ?_
  obtain ⟨O, ad, S, ρ, ds, s, fr, r, k⟩ := g
  obtain ⟨z, ez⟩ := liftI_ok k
  unfold rngOf at ez
  split at ez
  · rename_i n
    split at ez
    · rename_i hc
      cases ez
      obtain ⟨v, rfl, r1⟩ := paired1 r
      cases rint r1
      have k2 : PostI K mg rel W ρ σ R O ad H1 (.ok (rng 0 n.toNat) S) := by simpa [rngOf, hc, liftI] using k
      exact .inl ⟨n, rfl, by omega, by omega, k2 O ad H1 _ (.refl _ _ _) s src_rng⟩
    · cases ez
  · rename_i a b
    split at ez
    · rename_i hc
      cases ez
      obtain ⟨v, w, rfl, r1, r2⟩ := paired2 r
      cases rint r1
      cases rint r2
      have k2 : PostI K mg rel W ρ σ R O ad H1 (.ok (rng a (b - a).toNat) S) := by simpa [rngOf, hc, liftI] using k
      exact .inr ⟨a, b, rfl, by omega, k2 O ad H1 _ (.refl _ _ _) s src_rng⟩
    · cases ez
  · cases ez
theorem pi_of {X : Cx} {tg e : Expr} {t t' : TI} (h : PI X tg e t) (w : ∀ σ H Q, t' σ H Q → t σ H Q) : PI X tg e t' := ⟨fun pins s σ H Q I q => h.run pins s σ H Q I (w _ _ _ q)⟩
end
def aLen (n : Nat) (r : MA) : Prop := ∀ ρ S, match r ρ S with
  | .ok ds _ => ds.length = n
  | _ => True
theorem aLen_nil : aLen 0 a_nil := fun _ _ => rfl
theorem aLen_cons {n : Nat} {m : ME} {r : MA} (h : aLen n r) : aLen (n + 1) (a_cons m r) := by
  intro ρ S
  unfold a_cons
  cases e : m ρ S with
  | ok d S1 =>
    simp only [Out.bind]
    have := h ρ S1
    cases e2 : r ρ S1 with
    | ok ds S2 => rw [e2] at this; simp only [List.length_cons]; exact congrArg (· + 1) this
    | er x fs S2 => trivial
    | no => trivial
  | er x fs S1 => trivial
  | no => trivial
section
variable {X : Cx} {W : WX} {tg e a b : Expr} {pos p : Pos} {m : ME} {ma mb : ME} {rel : Rel}
theorem I_seqG (h : PE X e (Ee X.K X.mg W m)) : PI X tg e (Ei X.K X.mg Grow W (i_seqG m)) := pi_of (pi_any h) w_seqG
theorem I_seqC (h : PE X e (Ee X.K X.mg W m)) : PI X tg e (Ei X.K X.mg Stp W (i_seqC m)) := pi_of (pi_any h) w_seqC
theorem I_rng1 (hg : Gl X "range") (hm : X.mg "range" = none) (ha : PE X a (Ee X.K X.mg W ma)) (h1 : starEach (a :: []) X.env = (false, eval a X.env) :: starEach [] X.env := by rfl) (hs : starEach [a] X.env = [(false, eval a X.env)] := by rfl) :
    PI X tg (.Call (.Name "range" p) [a] [] pos) (Ei X.K X.mg rel W (i_rng (a_cons ma a_nil))) :=
  pi_of (pi_range1 hg hm (A_cons ha A_nil h1) hs) fun σ H R q => by
    obtain ⟨O, ad, S, ρ, s, fr, k⟩ := q
    refine Ea.imp (Q := fun vs H1 => ((∃ j : Int, vs = [.int j] ∧ -(2 ^ 62) ≤ j ∧ j < 2 ^ 62 ∧ R (Itr 0 j.toNat) H1) ∨ ∃ i j : Int, vs = [.int i, .int j] ∧ (-(2 ^ 62) ≤ i ∧ i < 2 ^ 62 ∧ -(2 ^ 62) ≤ j ∧ j < 2 ^ 62) ∧ R (Itr i (j - i).toNat) H1) ∧ vs.length = 1) ?_ fun vs H1 g => ?_
    · have := w_rngA σ H R ⟨O, ad, S, ρ, s, fr, k⟩
      obtain ⟨O, ad, S, ρ, s, fr, k⟩ := this
      refine ⟨O, ad, S, ρ, s, fr, ?_⟩
      have al := aLen_cons (m := ma) aLen_nil ρ S
      cases e2 : a_cons ma a_nil ρ S with
      | ok ds S1 =>
        rw [e2] at k al
        exact fun vs O' ad' H' t z r => ⟨k vs O' ad' H' t z r, by rw [Paired.length r]; exact al⟩
      | er x fs S1 => rw [e2] at k; exact k
      | no => rw [e2] at k; exact k
    · obtain ⟨g1 | ⟨i, j, rfl, _⟩, g2⟩ := g
      · exact g1
      · simp at g2
theorem I_rng2 (hg : Gl X "range") (hm : X.mg "range" = none) (ha : PE X a (Ee X.K X.mg W ma)) (hb : PE X b (Ee X.K X.mg W mb)) (h1 : starEach (b :: []) X.env = (false, eval b X.env) :: starEach [] X.env := by rfl) (h2 : starEach (a :: [b]) X.env = (false, eval a X.env) :: starEach [b] X.env := by rfl)
    (hs : starEach [a, b] X.env = [(false, eval a X.env), (false, eval b X.env)] := by rfl) (hs2 : starEach [b] X.env = [(false, eval b X.env)] := by rfl) :
    PI X tg (.Call (.Name "range" p) [a, b] [] pos) (Ei X.K X.mg rel W (i_rng (a_cons ma (a_cons mb a_nil)))) :=
  pi_of (pi_range2 hg hm (A_cons ha (A_cons hb A_nil h1) h2) hs hs2) fun σ H R q => by
    obtain ⟨O, ad, S, ρ, s, fr, k⟩ := q
    refine Ea.imp (Q := fun vs H1 => ((∃ j : Int, vs = [.int j] ∧ -(2 ^ 62) ≤ j ∧ j < 2 ^ 62 ∧ R (Itr 0 j.toNat) H1) ∨ ∃ i j : Int, vs = [.int i, .int j] ∧ (-(2 ^ 62) ≤ i ∧ i < 2 ^ 62 ∧ -(2 ^ 62) ≤ j ∧ j < 2 ^ 62) ∧ R (Itr i (j - i).toNat) H1) ∧ vs.length = 2) ?_ fun vs H1 g => ?_
    · have := w_rngA σ H R ⟨O, ad, S, ρ, s, fr, k⟩
      obtain ⟨O, ad, S, ρ, s, fr, k⟩ := this
      refine ⟨O, ad, S, ρ, s, fr, ?_⟩
      have al := aLen_cons (m := ma) (aLen_cons (m := mb) aLen_nil) ρ S
      cases e2 : a_cons ma (a_cons mb a_nil) ρ S with
      | ok ds S1 =>
        rw [e2] at k al
        exact fun vs O' ad' H' t z r => ⟨k vs O' ad' H' t z r, by rw [Paired.length r]; exact al⟩
      | er x fs S1 => rw [e2] at k; exact k
      | no => rw [e2] at k; exact k
    · obtain ⟨⟨j, rfl, _⟩ | g1, g2⟩ := g
      · simp at g2
      · exact g1
/-! ### for, while, comprehensions -/
theorem S_for {iter : Expr} {body : List Stmt} {mi : MI} {ts : List Nat} {g : TG} {tgt : D → Ro → Option Ro} {mb : MS} (hp : PassesOwn (model X.prog X.w) X.A X.env X.xe) (hc : X.calm = true) (hi : PI X tg iter (Ei X.K X.mg Grow W mi)) (hg : PG X tg g) (tk : TgOk X.K X.mg ts g tgt)
    (hb : PSs X body (Ss X.K X.mg W mb)) (hs : ∀ x, foldedSetIterable iter X.env x = pure x := by intro _; rfl) : PS X (.For tg iter body [] pos) (Ss X.K X.mg W (s_for mi tgt mb)) := ps_of (ps_for hp hc hi hg hb hs) (w_for tk)
theorem S_while {c : Expr} {body : List Stmt} {t : MT} {mb : MS} (n : Nat) (hp : PassesOwn (model X.prog X.w) X.A X.env X.xe) (hc : PT X c (Et X.K X.mg W t)) (hb : PSs X body (Ss X.K X.mg W mb)) : PS X (.While c body [] pos) (Ss X.K X.mg W (s_wh t mb n)) := ps_of (ps_while hp hc hb) w_while
theorem F_lc {elt iter : Expr} {ifs : List Expr} {scope : Scope} {own : List (Str × Nat)} {mi : MI} {g : TG} {tgt : D → Ro → Option Ro} {t : MT} {m : ME} (hc : X.calm = true) (hN : X.N.Nodup) (hi : PI X tg iter (Ei X.K X.mg Stp W mi)) (ok : BlkOk X.N X.env.scope scope own) (tk : TgOk X.K X.mg (own.map (·.2)) g tgt)
    (hg : ∀ (s : Shared) (H : Hp) (C : Addr) (cl : List (Str × Addr)) (fp : List Addr), PG (X.blk s H scope (compEnvC scope cl C X.env) fp) tg g) (ht : ∀ (s : Shared) (H : Hp) (C : Addr) (cl : List (Str × Addr)) (fp : List Addr), PTs (X.blk s H scope (compEnvC scope cl C X.env) fp) ifs (Et X.K X.mg W0 t))
    (he : ∀ (s : Shared) (H : Hp) (C : Addr) (cl : List (Str × Addr)) (fp : List Addr), PE (X.blk s H scope (compEnvC scope cl C X.env) fp) elt (Ee X.K X.mg W0 m)) (hs : ∀ x, foldedSetIterable iter X.env x = pure x := by intro _; rfl) :
    PE X (.ListComp elt [⟨tg, iter, ifs, 0⟩] scope pos) (Ef X.K X.mg W (f_lc (own.map (·.2)) mi tgt t m)) := pe_of (pe_lc hc hN hi ok hg ht he hs) (w_lc tk)
/-- name = [..] -/
theorem S_ownLc {i : Nat} {y : Str} {py : Pos} {elt iter : Expr} {ifs : List Expr} {scope : Scope} {own : List (Str × Nat)} {spos : Pos} {mi : MI} {g : TG} {tgt : D → Ro → Option Ro} {t : MT} {m : ME} (hc : X.calm = true) (hN : X.N.Nodup) (hy : X.N[i]? = some y) (hyl : X.env.scope.names.lookup y = some .local)
    (hsw : swapsWith (.ListComp elt [⟨tg, iter, ifs, 0⟩] scope pos) (some (.Name y py)) spos.line X.env = pure true) (hi : PI X tg iter (Ei X.K X.mg Stp W mi)) (ok : BlkOk X.N X.env.scope scope own) (tk : TgOk X.K X.mg (own.map (·.2)) g tgt)
    (hg : ∀ (s : Shared) (H : Hp) (C : Addr) (cl : List (Str × Addr)) (fp : List Addr), PG (X.blk s H scope (compEnvC scope cl C X.env) fp) tg g) (ht : ∀ (s : Shared) (H : Hp) (C : Addr) (cl : List (Str × Addr)) (fp : List Addr), PTs (X.blk s H scope (compEnvC scope cl C X.env) fp) ifs (Et X.K X.mg W0 t))
    (he : ∀ (s : Shared) (H : Hp) (C : Addr) (cl : List (Str × Addr)) (fp : List Addr), PE (X.blk s H scope (compEnvC scope cl C X.env) fp) elt (Ee X.K X.mg W0 m)) (hs : ∀ x, foldedSetIterable iter X.env x = pure x := by intro _; rfl) :
    PS X (.Assign [.Name y py] (.ListComp elt [⟨tg, iter, ifs, 0⟩] scope pos) spos) (Ss X.K X.mg W (s_own i (f_lc (own.map (·.2)) mi tgt t m))) :=
  ps_of (ps_setLc hc hN hy hyl hsw hi ok hg ht he hs) fun Dn σ H q => w_lc tk _ _ _ (w_own (i := i) Dn σ H q)
theorem S_setLc {i : Nat} {y : Str} {py : Pos} {elt iter : Expr} {ifs : List Expr} {scope : Scope} {own : List (Str × Nat)} {spos : Pos} {mi : MI} {g : TG} {tgt : D → Ro → Option Ro} {t : MT} {m : ME} (hc : X.calm = true) (hN : X.N.Nodup) (hy : X.N[i]? = some y) (hyl : X.env.scope.names.lookup y = some .local)
    (hsw : swapsWith (.ListComp elt [⟨tg, iter, ifs, 0⟩] scope pos) (some (.Name y py)) spos.line X.env = pure true) (hi : PI X tg iter (Ei X.K X.mg Stp W mi)) (ok : BlkOk X.N X.env.scope scope own) (tk : TgOk X.K X.mg (own.map (·.2)) g tgt)
    (hg : ∀ (s : Shared) (H : Hp) (C : Addr) (cl : List (Str × Addr)) (fp : List Addr), PG (X.blk s H scope (compEnvC scope cl C X.env) fp) tg g) (ht : ∀ (s : Shared) (H : Hp) (C : Addr) (cl : List (Str × Addr)) (fp : List Addr), PTs (X.blk s H scope (compEnvC scope cl C X.env) fp) ifs (Et X.K X.mg W0 t))
    (he : ∀ (s : Shared) (H : Hp) (C : Addr) (cl : List (Str × Addr)) (fp : List Addr), PE (X.blk s H scope (compEnvC scope cl C X.env) fp) elt (Ee X.K X.mg W0 m)) (hs : ∀ x, foldedSetIterable iter X.env x = pure x := by intro _; rfl) :
    PS X (.Assign [.Name y py] (.ListComp elt [⟨tg, iter, ifs, 0⟩] scope pos) spos) (Ss X.K X.mg W (s_set i (f_lc (own.map (·.2)) mi tgt t m))) :=
  ps_of (ps_setLc hc hN hy hyl hsw hi ok hg ht he hs) fun Dn σ H q => w_lc tk _ _ _ (w_fz _ _ _ (w_set (i := i) Dn σ H q))
theorem S_shLc {i : Nat} {y : Str} {py : Pos} {elt iter : Expr} {ifs : List Expr} {scope : Scope} {own : List (Str × Nat)} {spos : Pos} {mi : MI} {g : TG} {tgt : D → Ro → Option Ro} {t : MT} {m : ME} (hc : X.calm = true) (hN : X.N.Nodup) (hy : X.N[i]? = some y) (hyl : X.env.scope.names.lookup y = some .local)
    (hsw : swapsWith (.ListComp elt [⟨tg, iter, ifs, 0⟩] scope pos) (some (.Name y py)) spos.line X.env = pure true) (hi : PI X tg iter (Ei X.K X.mg Stp W mi)) (ok : BlkOk X.N X.env.scope scope own) (tk : TgOk X.K X.mg (own.map (·.2)) g tgt)
    (hg : ∀ (s : Shared) (H : Hp) (C : Addr) (cl : List (Str × Addr)) (fp : List Addr), PG (X.blk s H scope (compEnvC scope cl C X.env) fp) tg g) (ht : ∀ (s : Shared) (H : Hp) (C : Addr) (cl : List (Str × Addr)) (fp : List Addr), PTs (X.blk s H scope (compEnvC scope cl C X.env) fp) ifs (Et X.K X.mg W0 t))
    (he : ∀ (s : Shared) (H : Hp) (C : Addr) (cl : List (Str × Addr)) (fp : List Addr), PE (X.blk s H scope (compEnvC scope cl C X.env) fp) elt (Ee X.K X.mg W0 m)) (hs : ∀ x, foldedSetIterable iter X.env x = pure x := by intro _; rfl) :
    PS X (.Assign [.Name y py] (.ListComp elt [⟨tg, iter, ifs, 0⟩] scope pos) spos) (Ss X.K X.mg W (s_set i (e_sh (f_lc (own.map (·.2)) mi tgt t m)))) :=
  ps_of (ps_setLc hc hN hy hyl hsw hi ok hg ht he hs) fun Dn σ H q => w_lc tk _ _ _ (w_sh _ _ _ (w_set (i := i) Dn σ H q))
end
def t_yes : MT := fun _ S => .ok true S
section
variable {X : Cx} {W : WX}
theorem Ts_nil : PTs X [] (Et X.K X.mg W t_yes) := ⟨fun pins s σ H Q I q => pts_nil.run pins s σ H Q I (by
  obtain ⟨O, ad, S, ρ, s, fr, k⟩ := q
  exact k O ad H (.refl _ _ _) s)⟩
theorem Ts_one {c : Expr} {t : MT} (h : PT X c (Et X.K X.mg W t)) : PTs X [c] (Et X.K X.mg W t) := pts_one h
theorem Ts_cons {c : Expr} {cs : List Expr} {t u : MT} (h : PT X c (Et X.K X.mg W t)) (hr : PTs X cs (Et X.K X.mg W u)) : PTs X (c :: cs) (Et X.K X.mg W (t_and t u)) := by
  refine ⟨fun pins s σ H Q I q => ?_⟩
  have q2 := w_and (K := X.K) (mg := X.mg) (W := W) σ H Q q
  have h0 := h.run pins s σ H _ I q2
  rw [List.forIn_cons]
  refine wpAny_bind ?_
  rw [if_pos rfl]
  refine wpAny_bind (thn h0 fun b s1 ⟨H1, I1, q1⟩ => wpAny_pure ?_)
  cases b with
  | true => exact hr.run pins s1 σ H1 Q I1 q1
  | false =>
    have fin : ∀ l : List Expr, wpAny (model X.prog X.w) X.A (forIn l false fun c r => if r = true then do let ok ← isTrue c X.env (eval c X.env); pure (ForInStep.yield ok) else pure (ForInStep.yield r)) (TP X pins σ Q) X.xe s1 := by
      intro l
      induction l with
      | nil => rw [List.forIn_nil]; exact wpAny_pure ⟨H1, I1, q1⟩
      | cons a l ih =>
        rw [List.forIn_cons]
        refine wpAny_bind ?_
        rw [if_neg Bool.false_ne_true]
        exact wpAny_pure ih
    exact fin cs
end
end Gd

/-! Gd, part 7: stores, methods, isinstance, chains, slices, calls with keywords. -/
namespace Gd
open PySem L2 PyProof.Rows

/-! ### a thing is changed -/
section
variable {K : Fg} {mg : Mg} {W : WX} {c : Ctx} {O O1 : Addr → Prop} {ad ad1 : List Addr} {S S1 : Sg} {ρ : Ro} {σ : L2.St} {H H1 : Hp} {Dn : Ends}
theorem hide_upd {a : Addr} {o : HO} (h : O a) : ∀ b o', hide O H b = some o' → hide O (upd H a o) b = some o' := fun b o' e => by
  obtain ⟨n, e⟩ := of_hide e
  exact hide_of n (by rw [upd_ne (fun z => n (by rw [z]; exact h))]; exact e)
theorem grow_upd {a : Addr} {o : HO} (h : O a) : Grow O ad H O ad (upd H a o) := ⟨hide_upd h, fun _ _ e => e⟩
theorem Cst.upd (z : Cst c O ad H) {a : Addr} {o : HO} (h : O a) (h0 : ∀ o, c.H0 a = some o → a ∈ c.ad0) : Cst c O ad (L2.upd H a o) := by
  refine ⟨fun b o' e n => ?_, z.op, z.oq, z.ap, z.wf, z.wd⟩
  rw [upd_ne (fun q => n (by rw [q]; exact h0 o' (by rw [← q]; exact e)))]
  exact z.fr b o' e n
theorem Sto.upd_out (z : Sto K mg O ad S H) {a : Addr} {o : HO} (h : O a) (n : a ∉ ad) : Sto K mg O ad S (upd H a o) := by
  refine ⟨z.len, z.nd, z.hid, fun b hb => ?_, fun n' d hn => ?_⟩
  · by_cases q : b = a
    · exact ⟨o, by rw [q]; exact upd_same⟩
    · obtain ⟨o', ho⟩ := z.dom b hb
      exact ⟨o', by rw [upd_ne q]; exact ho⟩
  · obtain ⟨b, h1, h2⟩ := z.ob n' d hn
    refine ⟨b, h1, h2.mono (hide_upd h) (fun _ _ e => e) fun o' e => ?_⟩
    rw [upd_ne (fun q => n (by rw [← q]; exact List.mem_of_getElem? h1))]
    exact e
/-- a slot's own thing is changed -/
theorem Sta.upd_loc (z : Sta K mg c O ad S ρ σ H) {i : Nat} {d d' : D} {a : Addr} {o : HO} (hi : ρ[i]? = some (.ow d)) (ha : σ[i]? = some (some (.ref a))) (m : MRep K mg (hide O H) ad (upd H a o) a d') :
    Sta K mg c O ad S (ρ.set i (.ow d')) σ (upd H a o) ∧ Grow O ad H O ad (upd H a o) := by
  obtain ⟨b, h1, hO, hn, h2⟩ := z.fre.ow i d hi
  rw [ha] at h1
  cases h1
  have h0 := z.owf i d a hi ha
  refine ⟨⟨z.sto.upd_out hO hn, ⟨by rw [List.length_set]; exact z.fre.len, fun j e h => ?_, fun j e h => ?_, fun j k e e' b n h1 h2 h3 => ?_⟩, z.cst.upd hO (fun o e => by rw [h0] at e; cases e), fun j e b h1 h2 => ?_⟩, grow_upd hO⟩
  · rcases get_set h with ⟨rfl, e1, _⟩ | ⟨n, h⟩
    · cases e1
    · obtain ⟨v, q1, q2⟩ := z.fre.va j e h
      exact ⟨v, q1, q2.mono (hide_upd hO) fun _ _ e => e⟩
  · rcases get_set h with ⟨rfl, e1, _⟩ | ⟨n, h⟩
    · cases e1
      exact ⟨a, ha, hO, hn, m.mono (hide_upd hO) (fun _ _ e => e) fun _ e => e⟩
    · obtain ⟨b, q1, q2, q3, q4⟩ := z.fre.ow j e h
      refine ⟨b, q1, q2, q3, q4.mono (hide_upd hO) (fun _ _ e => e) fun o' e => ?_⟩
      rw [upd_ne (fun q => z.fre.ap i j d _ a n hi h ha (by rw [← q]; exact q1))]
      exact e
  · rcases get_set h1 with ⟨rfl, e1, _⟩ | ⟨n1, h1⟩
    · rcases get_set h2 with ⟨rfl, e2, _⟩ | ⟨n2, h2⟩
      · exact absurd rfl n
      · exact z.fre.ap _ k d _ b n hi h2 h3
    · rcases get_set h2 with ⟨rfl, e2, _⟩ | ⟨n2, h2⟩
      · exact z.fre.ap j _ _ d b n h1 hi h3
      · exact z.fre.ap j k e e' b n h1 h2 h3
  · rcases get_set h1 with ⟨rfl, e1, _⟩ | ⟨n1, h1⟩
    · exact z.owf _ d b hi h2
    · exact z.owf j e b h1 h2
/-- a thing of the store is changed -/
theorem Sta.upd_obj (z : Sta K mg c O ad S ρ σ H) {n : Nat} {d d' : D} {a : Addr} {o : HO} (hn : S[n]? = some d) (ha : ad[n]? = some a) (m : MRep K mg (hide O H) ad (upd H a o) a d') :
    Sta K mg c O ad (S.set n d') ρ σ (upd H a o) ∧ Grow O ad H O ad (upd H a o) := by
  have hm := List.mem_of_getElem? ha
  have hO := z.sto.hid a hm
  have hl := (List.getElem?_eq_some_iff.mp hn).1
  refine ⟨⟨⟨by rw [List.length_set]; exact z.sto.len, z.sto.nd, z.sto.hid, fun b hb => ?_, fun k e h => ?_⟩, ⟨z.fre.len, fun j e h => ?_, fun j e h => ?_, z.fre.ap⟩, z.cst.upd hO fun o' e => ?_, z.owf⟩, grow_upd hO⟩
  · by_cases q : b = a
    · exact ⟨o, by rw [q]; exact upd_same⟩
    · obtain ⟨o', ho⟩ := z.sto.dom b hb
      exact ⟨o', by rw [upd_ne q]; exact ho⟩
  · rcases get_set h with ⟨rfl, e1, _⟩ | ⟨nk, h⟩
    · cases e1
      exact ⟨a, ha, m.mono (hide_upd hO) (fun _ _ e => e) fun _ e => e⟩
    · obtain ⟨b, q1, q2⟩ := z.sto.ob k e h
      refine ⟨b, q1, q2.mono (hide_upd hO) (fun _ _ e => e) fun o' e => ?_⟩
      rw [upd_ne (fun q => nk (nd_ix z.sto.nd ha (by rw [← q]; exact q1)))]
      exact e
  · obtain ⟨v, q1, q2⟩ := z.fre.va j e h
    exact ⟨v, q1, q2.mono (hide_upd hO) fun _ _ e => e⟩
  · obtain ⟨b, q1, q2, q3, q4⟩ := z.fre.ow j e h
    refine ⟨b, q1, q2, q3, q4.mono (hide_upd hO) (fun _ _ e => e) fun o' e => ?_⟩
    rw [upd_ne (fun q => q3 (by rw [q]; exact hm))]
    exact e
  · obtain ⟨more, e1, f⟩ := z.cst.ap
    rw [e1] at hm
    rcases List.mem_append.mp hm with q | q
    · exact q
    · rw [f a q] at e; cases e
/-- behind an expression of a statement, other values kept -/
theorem bindK {m : ME} {f : D → MS} {vs : List V} {ds : List D} (z : Sta K mg c O ad S ρ σ H) (r : Paired (RepR K mg O ad ρ σ H) vs ds) (h : PostS K mg W c Dn O ad H (s_e m f ρ S)) :
    Ee K mg W m σ H fun v H1 => ∃ O1 ad1 S1 d, Sta K mg c O1 ad1 S1 ρ σ H1 ∧ RepR K mg O1 ad1 ρ σ H1 v d ∧ Paired (RepR K mg O1 ad1 ρ σ H1) vs ds ∧ PostS K mg W c Dn O1 ad1 H1 (f d ρ S1) := by
  refine ⟨O, ad, S, ρ, z.sto, z.fre, ?_⟩
  unfold s_e at h
  cases e : m ρ S with
  | ok d S1 =>
    simp only [e] at h
    exact fun v O' ad' H' t z' r' => ⟨O', ad', S1, d, z.step t z', r', PairedR.step z.sto.hid t r, h.rebase (t.grow z.sto.hid)⟩
  | er x fs S1 =>
    simp only [e] at h
    exact fun cls dd O' ad' H' t z' r => h cls dd σ O' ad' H' (t.grow z.sto.hid) (z.step t z') r
  | no => simp only [e] at h; exact h
end
/-- the thing behind d is given another content -/
def putTo (dd : D) (f : D → Option D) : MS := fun ρ S => match dd with
  | .loc i => (match ρ[i]? with
    | some (.ow c) => (match f c with
      | some c' => .nx (ρ.set i (.ow c')) S
      | none => .no)
    | _ => .no)
  | .obj n => (match S[n]? with
    | some c => (match f c with
      | some c' => .nx ρ (S.set n c')
      | none => .no)
    | none => .no)
  | _ => .no
section
variable {K : Fg} {mg : Mg} {W : WX} {c : Ctx} {O : Addr → Prop} {ad : List Addr} {S : Sg} {ρ : Ro} {σ : L2.St} {H : Hp} {Dn : Ends}
/-- where it stands, and what a change leaves -/
theorem putTo_ok {dd : D} {f : D → Option D} {v : V} (z : Sta K mg c O ad S ρ σ H) (r : RepR K mg O ad ρ σ H v dd) (h : PostS K mg W c Dn O ad H (putTo dd f ρ S)) :
    ∃ a e e', v = .ref a ∧ MRep K mg (hide O H) ad H a e ∧ f e = some e' ∧ ∀ o, MRep K mg (hide O H) ad (upd H a o) a e' → Dn.nx σ (upd H a o) := by
  unfold putTo at h
  cases dd with
  | loc i =>
    obtain ⟨⟨e, he⟩, hv⟩ := r
    simp only [he] at h
    cases ef : f e with
    | none => simp only [ef] at h; exact h.elim
    | some e' =>
      simp only [ef] at h
      obtain ⟨a, h1, h2, h3, h4⟩ := z.fre.ow i e he
      rw [h1] at hv
      cases hv
      refine ⟨a, e, e', rfl, h4, ef, fun o m => ?_⟩
      obtain ⟨z', g⟩ := z.upd_loc he h1 m
      exact h σ O ad _ g z'
  | obj n =>
    cases es : S[n]? with
    | none => simp only [es] at h; exact h.elim
    | some e =>
      simp only [es] at h
      cases ef : f e with
      | none => simp only [ef] at h; exact h.elim
      | some e' =>
        simp only [ef] at h
        have r' : Rep K mg (hide O H) ad v (.obj n) := r
        obtain ⟨a, h1, h4⟩ := z.sto.ob n e es
        cases r' with
        | obj h3 =>
          rw [h1] at h3; cases h3
          refine ⟨a, e, e', rfl, h4, ef, fun o m => ?_⟩
          obtain ⟨z', g⟩ := z.upd_obj es h1 m
          exact h σ O ad _ g z'
  | _ => exact h.elim
end

/-! ### o[i] = v -/
def kput (kvs : List (Key × D)) (k : Key) (v : D) : List (Key × D) :=
  if (kvs.any fun kv => decide (kv.1 = k)) = true then kvs.map (fun kv => if kv.1 = k then (kv.1, v) else kv) else kvs ++ [(k, v)]
def keyOf : D → Option Key
  | .int i => some (.inl i)
  | .str x => some (.inr x)
  | _ => none
def updI (i v : D) : D → Option D := fun c => match c with
  | .lst ds => (match i with
    | .int k => (ixN ds.length k).map fun j => .lst (ds.set j v)
    | _ => none)
  | .dct kvs => if kvs.length < 100000 then (keyOf i).map fun k => .dct (kput kvs k v) else none
  | _ => none
def s_seti (mv mo mi : ME) : MS := s_e mv fun dv => s_e mo fun dd => s_e mi fun di => if isLoc dv = true then fun _ _ => .no else putTo dd (updI di dv)
def rSet2 : V → V → V → Hp → (Hp → Prop) → Prop := fun o i v H Q => rSetL o i v H Q ∨ ∃ a H', o = .ref a ∧ DPut H a i v H' ∧ Q H'
theorem set_any {X : Cx} (hu : X.A.units + 1 < cLine) : PSet X rSet2 := by
  intro pins s σ H o i v ov iv u Q I ro ri rv h
  rcases h with h | ⟨a, H', rfl, h1, h2⟩
  · exact set_list pins s σ H o i v ov iv u Q I ro ri rv h
  · cases ro
    exact d_setItem hu I h1 ri rv fun s' I' => ⟨H', I', h2⟩
section
variable {K : Fg} {mg : Mg} {G : Hp} {ad : List Addr}
theorem RepK.keys {kvs : List (Key × V)} {ds : List (Key × D)} (r : RepK K mg G ad kvs ds) : kvs.map (·.1) = ds.map (·.1) := by
  induction kvs generalizing ds with
  | nil => cases r; rfl
  | cons p r' ih =>
    cases r with
    | cons a b => rw [List.map_cons, List.map_cons, ih b]
theorem RepK.length {kvs : List (Key × V)} {ds : List (Key × D)} (r : RepK K mg G ad kvs ds) : kvs.length = ds.length := by
  have := congrArg List.length r.keys
  simpa using this
theorem RepK.app {kvs kws : List (Key × V)} {ds es : List (Key × D)} (r : RepK K mg G ad kvs ds) (q : RepK K mg G ad kws es) : RepK K mg G ad (kvs ++ kws) (ds ++ es) := by
  induction kvs generalizing ds with
  | nil => cases r; exact q
  | cons p r' ih => cases r with | cons a b => exact .cons a (ih b)
theorem RepK.any {k : Key} {kvs : List (Key × V)} {ds : List (Key × D)} (r : RepK K mg G ad kvs ds) : (kvs.any fun kv => decide (kv.1 = k)) = ds.any fun kv => decide (kv.1 = k) := by
  induction kvs generalizing ds with
  | nil => cases r; rfl
  | cons p r' ih => cases r with | cons a b => rw [List.any_cons, List.any_cons, ih b]
theorem RepK.mapset {k : Key} {v : V} {d : D} (rv : Rep K mg G ad v d) {kvs : List (Key × V)} {ds : List (Key × D)} (r : RepK K mg G ad kvs ds) :
    RepK K mg G ad (kvs.map fun kv => if kv.1 = k then (kv.1, v) else kv) (ds.map fun kv => if kv.1 = k then (kv.1, d) else kv) := by
  induction kvs generalizing ds with
  | nil => cases r; exact .nil
  | cons p r' ih =>
    cases r with
    | cons a b =>
      rename_i kk vv dd ds
      rw [List.map_cons, List.map_cons]
      by_cases e : kk = k
      · simp only [e, if_true]
        exact .cons rv (ih b)
      · simp only [e, if_false]
        exact .cons a (ih b)
theorem RepK.put {k : Key} {v : V} {d : D} (rv : Rep K mg G ad v d) {kvs : List (Key × V)} {ds : List (Key × D)} (r : RepK K mg G ad kvs ds) : RepK K mg G ad (putK kvs k v) (kput ds k d) := by
  unfold putK kput
  rw [r.any (k := k)]
  split
  · exact r.mapset rv
  · exact r.app (.cons rv .nil)
end
section
variable {K : Fg} {mg : Mg} {W : WX}
theorem keyOf_V {G : Hp} {ad : List Addr} {v : V} {d : D} {k : Key} (r : Rep K mg G ad v d) (h : keyOf d = some k) : v = kV k := by
  cases d <;> cases h <;> cases r <;> rfl
theorem w_seti {mv mo mi : ME} : ∀ Dn σ H, Ss K mg W (s_seti mv mo mi) Dn σ H → tAsg (Ee K mg W mv) (gSub (Ee K mg W mo) (Ee K mg W mi) rSet2) Dn σ H := by
  rintro Dn σ H ⟨c, O, ad, S, ρ, z, h⟩
  refine (bindK (f := fun dv => s_e mo fun dd => s_e mi fun di => if isLoc dv = true then fun _ _ => .no else putTo dd (updI di dv)) z .nil h).imp fun v H1 g => ?_
  obtain ⟨O, ad, S, dv, z, rv, _, h⟩ := g
  refine (bindK (f := fun dd => s_e mi fun di => if isLoc dv = true then fun _ _ => .no else putTo dd (updI di dv)) z (.cons rv .nil) h).imp fun o H2 g => ?_
  obtain ⟨O, ad, S, dd, z, ro, r2, h⟩ := g
  refine (bindK (f := fun di => if isLoc dv = true then fun _ _ => .no else putTo dd (updI di dv)) z (.cons ro r2) h).imp fun i H3 g => ?_
  obtain ⟨O, ad, S, di, z, ri, r3, h⟩ := g
  cases r3 with
  | cons ro r4 =>
    cases r4 with
    | cons rv r5 =>
      cases el : isLoc dv with
      | true => rw [if_pos el] at h; exact h.elim
      | false =>
        rw [if_neg (by rw [el]; exact Bool.false_ne_true)] at h
        obtain ⟨a, e, e', rfl, m, he, k⟩ := putTo_ok z ro h
        unfold updI at he
        cases e with
        | lst ds =>
          cases di with
          | int j =>
            obtain ⟨n, hn, rfl⟩ := Option.map_eq_some_iff.mp he
            obtain ⟨vs, h1, h2⟩ := m
            have ri' : Rep K mg (hide O H3) ad i (.int j) := ri
            cases ri'
            refine .inl ⟨a, vs, j, n, rfl, rfl, h1, by rw [h2.length]; exact hn, k _ ⟨_, upd_same, h2.set (rv.rep el)⟩⟩
          | _ => cases he
        | dct kvs =>
          dsimp only at he
          split at he
          · rename_i hl
            obtain ⟨kk, hk, rfl⟩ := Option.map_eq_some_iff.mp he
            obtain ⟨vs, h1, h2⟩ := m
            have nl : isLoc di = false := by cases di <;> first | rfl | cases hk
            have ek := keyOf_V (ri.rep nl) hk
            refine .inr ⟨a, _, rfl, by rw [ek]; exact DPut.k h1 (Nat.lt_of_lt_of_le (by rw [h2.length]; exact hl) (by decide)), k _ ⟨_, upd_same, h2.put (rv.rep el)⟩⟩
          · cases he
        | _ => cases he

/-! ### xs.append(e) -/
def appD (y : D) : D → Option D
  | .lst ds => if ds.length < 100000 then some (.lst (ds ++ [y])) else none
  | _ => none
def isLstAt (ρ : Ro) (S : Sg) (d : D) : Bool := match deref ρ S d with
  | some (.lst _) => true
  | _ => false
def s_app (mo me : ME) : MS := s_e mo fun dd ρ S => if isLstAt ρ S dd = true then s_e me (fun de => if isLoc de = true then fun _ _ => .no else putTo dd (appD de)) ρ S else .no
theorem w_app {mo me : ME} : ∀ Dn σ H, Ss K mg W (s_app mo me) Dn σ H → tDrop (tBM K "list" rAppend (Ee K mg W mo) (Ea K mg W (a_cons me a_nil))) Dn σ H := by
  rintro Dn σ H ⟨c, O, ad, S, ρ, z, h⟩
  refine (bindK (f := fun dd ρ S => if isLstAt ρ S dd = true then s_e me (fun de => if isLoc de = true then fun _ _ => .no else putTo dd (appD de)) ρ S else .no) z .nil h).imp fun o H1 g => ?_
  obtain ⟨O, ad, S, dd, z, ro, _, h⟩ := g
  cases il : isLstAt ρ S dd with
  | false => rw [il, if_neg Bool.false_ne_true] at h; exact h.elim
  | true =>
    rw [il, if_pos rfl] at h
    refine ⟨?_, ?_⟩
    · unfold isLstAt at il
      split at il
      · rename_i ds hd
        obtain ⟨a, vs, rfl, h1, _⟩ := (deref_rep z.fre z.sto ro hd).lst
        exact .inl ⟨rfl, _, h1⟩
      · cases il
    · have hb := bindK (f := fun de => if isLoc de = true then fun _ _ => .no else putTo dd (appD de)) z (.cons ro .nil) h
      obtain ⟨O, ad, S, ρ', s, fr, hb⟩ := hb
      refine ⟨O, ad, S, ρ', s, fr, ?_⟩
      unfold a_cons a_nil
      cases e : me ρ' S with
      | no => rw [e] at hb; exact hb
      | er x fs S1 => rw [e] at hb; exact hb
      | ok d S1 =>
        rw [e] at hb
        intro vs O' ad' H' t z' r
        cases r with
        | cons r1 r2 =>
          cases r2
          rename_i v
          obtain ⟨O, ad, S, de, z, re, r3, h⟩ := hb v O' ad' H' t z' r1
          cases r3 with
          | cons ro _ =>
            cases el : isLoc de with
            | true => rw [if_pos el] at h; exact h.elim
            | false =>
              rw [if_neg (by rw [el]; exact Bool.false_ne_true)] at h
              obtain ⟨a, e, e', rfl, m, he, k⟩ := putTo_ok z ro h
              cases e with
              | lst ds =>
                unfold appD at he
                dsimp only at he
                split at he
                · rename_i hl
                  cases he
                  obtain ⟨vs, h1, h2⟩ := m
                  exact ⟨a, vs, v, rfl, rfl, h1, Nat.lt_of_lt_of_le (by rw [h2.length]; exact hl) (by decide), k _ ⟨_, upd_same, h2.app (.cons (re.rep el) .nil)⟩⟩
                · cases he
              | _ => cases he
end
section
variable {X : Cx} {W : WX} {o i e : Expr} {mo mi mv me : ME} {pos pos' apos cpos : Pos}
theorem S_seti (hu : X.A.units + 1 < cLine) (ho : PE X o (Ee X.K X.mg W mo)) (hi : PE X i (Ee X.K X.mg W mi)) (hv : PE X e (Ee X.K X.mg W mv))
    (ha : ∀ v, assign (.Subscript o i pos') X.env v = (do
      let ov ← holding [v] (eval o X.env)
      let iv ← holding [v, ov] (eval i X.env)
      standAt pos'
      holding [v, ov, iv] (setItem ov iv v)
      release [v, ov, iv] []) := by intro _; rfl)
    (hs : swapsWithSole [.Subscript o i pos'] e pos.line X.env = pure false := by rfl) (hw : swappedStores [.Subscript o i pos'] e X.env = pure none := by rfl)
    (h1 : (assignEach [.Subscript o i pos'] X.env).map (·.2) = [assign (.Subscript o i pos') X.env] := by rfl) : PS X (.Assign [.Subscript o i pos'] e pos) (Ss X.K X.mg W (s_seti mv mo mi)) :=
  ps_of (ps_asg hv (pg_sub ho hi (set_any hu) ha) hs hw h1) w_seti
theorem S_app (ho : PE X o (Ee X.K X.mg W mo)) (he : PE X e (Ee X.K X.mg W me)) (hbase : attributeBase o "append" X.env (eval o X.env) = eval o X.env := by rfl)
    (hfew : ((backTo cpos (starEach (e :: []) X.env)).all (fun x => !x.1) && (backToKw cpos (keywordEach [] X.env)).all (fun x => x.1.isSome)
      && decide ((e :: []).length + ([] : List Keyword).length + (if ([] : List Keyword).isEmpty then 0 else 1) < 30)) = true := by rfl)
    (hline : (apos.endLine == cpos.line) = true := by rfl) (hs : starEach (e :: []) X.env = (false, eval e X.env) :: starEach [] X.env := by rfl) (hplain : (backTo cpos (starEach [] X.env)).any (·.1) = false := by rfl) (hsw : swapsWith (.Call (.Attribute o "append" apos) [e] [] cpos) none pos.line X.env = pure false := by rfl) :
    PS X (.Expr (.Call (.Attribute o "append" apos) [e] [] cpos) pos) (Ss X.K X.mg W (s_app mo me)) :=
  ps_of (ps_expr (pe_bm PySem.F.plainAttrs_list PySem.F.slot_list_append PySem.F.type_list_append mt_append ho (A_cons he A_nil hs) hbase hfew hline hs hplain) hsw) w_app
end

/-! ### a method of a text -/
def e_m1 (f : Str → D → Option D) (a b : ME) : ME := fun ρ S => (a ρ S).bind fun d S1 => match d with
  | .str x => (b ρ S1).bind fun e S2 => liftO S2 ((deref ρ S2 e).bind (f x))
  | _ => .no
def Mt1P (K : Fg) (mg : Mg) (r : V → List V → Hp → VK → Prop) (f : Str → D → Option D) : Prop := ∀ O ad H x y e z, RepS K mg O ad H y e → f x e = some z → Res K mg O ad H z (r (.str x) [y] H)
theorem w_m1 {K : Fg} {mg : Mg} {W : WX} {r : V → List V → Hp → VK → Prop} {f : Str → D → Option D} {a b : ME} (hf : Mt1P K mg r f) : ∀ σ H Q, Ee K mg W (e_m1 f a b) σ H Q → tM1 r (Ee K mg W a) (Ee K mg W b) σ H Q := by
  intro σ H Q q
  refine (bindE (f := fun ρ d S1 => match d with | .str x => (b ρ S1).bind fun e S2 => liftO S2 ((deref ρ S2 e).bind (f x)) | _ => .no) q).imp fun v H1 g => ?_
  obtain ⟨O, ad, S, ρ, d, s, fr, r1, k⟩ := g
  cases d with
  | str x =>
    have r' : Rep K mg (hide O H1) ad v (.str x) := r1
    cases r'
    refine ⟨⟨x, rfl⟩, ?_⟩
    refine (bindE (W := W) (f := fun ρ e S2 => liftO S2 ((deref ρ S2 e).bind (f x))) ⟨O, ad, S, ρ, s, fr, k⟩).imp fun y H2 g => ?_
    obtain ⟨O, ad, S, ρ, e, s, fr, r2, k⟩ := g
    obtain ⟨z, ez⟩ := liftO_ok k
    obtain ⟨e', ed, ez⟩ := Option.bind_eq_some_iff.mp ez
    have kv := hf O ad H2 x y e' z (deref_rep fr s r2 ed) ez
    rw [ed] at k
    simp only [Option.bind_some, ez, liftO] at k
    exact kv.go s k
  | _ => exact k.elim
def strsOf : List D → Option (List Str)
  | [] => some []
  | .str x :: ds => (strsOf ds).map fun r => x :: r
  | _ :: _ => none
theorem strsOf_eq : ∀ {ds : List D} {xs : List Str}, strsOf ds = some xs → ds = xs.map .str
  | [], _, h => by cases h; rfl
  | d :: ds, _, h => by
    cases d with
    | str x =>
      obtain ⟨r, h1, rfl⟩ := Option.map_eq_some_iff.mp (show (strsOf ds).map (fun r => x :: r) = some _ from h)
      rw [strsOf_eq h1]; rfl
    | _ => cases h
theorem strsOf_map (xs : List Str) : strsOf (xs.map .str) = some xs := by
  induction xs with
  | nil => rfl
  | cons x xs ih => show (strsOf (xs.map .str)).map (fun r => x :: r) = some (x :: xs); rw [ih]; rfl
def d_join : Str → D → Option D := fun a e => match e with
  | .lst ds => (strsOf ds).bind fun ys => if (ys.map (·.length)).sum + ys.length * a.length ≤ 100000 then some (.str (Txt.join a ys)) else none
  | .tup ds => (strsOf ds).bind fun ys => if (ys.map (·.length)).sum + ys.length * a.length ≤ 100000 then some (.str (Txt.join a ys)) else none
  | _ => none
theorem mp_join {K : Fg} {mg : Mg} : Mt1P K mg (fun x xs H Q => ∃ a p, ∃ ys : List Str, x = .str a ∧ xs = [.ref p] ∧ (SqL K H p (ys.map V.str) ∨ SqT K H p (ys.map V.str)) ∧ (ys.map (·.length)).sum + ys.length * a.length ≤ 16777216 ∧ Q (.str (Txt.join a ys)) H) d_join := by
  intro O ad H x y e z r h
  unfold d_join at h
  split at h
  · obtain ⟨ys, h1, h2⟩ := Option.bind_eq_some_iff.mp h
    split at h2
    · rename_i hl
      cases h2
      obtain ⟨a, vs, rfl, h3, h4⟩ := r.lst
      rw [strsOf_eq h1] at h4
      exact res_v (.str _) fun Q q => ⟨x, a, ys, rfl, rfl, .inl (by rw [← h4.strs]; exact h3), Nat.le_trans hl (by decide), q⟩
    · cases h2
  · obtain ⟨ys, h1, h2⟩ := Option.bind_eq_some_iff.mp h
    split at h2
    · rename_i hl
      cases h2
      obtain ⟨a, vs, rfl, h3, h4⟩ := r.tup
      rw [strsOf_eq h1] at h4
      exact res_v (.str _) fun Q q => ⟨x, a, ys, rfl, rfl, .inr (by rw [← h4.strs]; exact h3), Nat.le_trans hl (by decide), q⟩
    · cases h2
  · cases h
section
variable {X : Cx} {W : WX} {o e : Expr} {mo me : ME} {apos pos : Pos}
theorem E_join (ho : PE X o (Ee X.K X.mg W mo)) (he : PE X e (Ee X.K X.mg W me)) (hs : starEach [e] X.env = [(false, eval e X.env)] := by rfl) (hbase : attributeBase o "join" X.env (eval o X.env) = eval o X.env := by rfl) (hline : (apos.endLine == pos.line) = true := by rfl) :
    PE X (.Call (.Attribute o "join" apos) [e] [] pos) (Ee X.K X.mg W (e_m1 d_join mo me)) := pe_of (pe_join ho he hs hbase hline) (w_m1 mp_join)
end

/-! ### isinstance -/
def tyD : D → Option String
  | .non => some "NoneType"
  | .bl _ => some "bool"
  | .int _ => some "int"
  | .str _ => some "str"
  | .lst _ => some "list"
  | .tup _ => some "tuple"
  | .dct _ => some "dict"
  | _ => none
theorem tyX_of {K : Fg} {mg : Mg} {O : Addr → Prop} {ad : List Addr} {H : Hp} {x : V} {d : D} {n : String} (r : RepS K mg O ad H x d) (h : tyD d = some n) : TyX K H x (.type n) := by
  cases d with
  | non => cases h; cases r.non; exact .base .non
  | bl b => cases h; cases r.bl; exact .base (.bl b)
  | int b => cases h; cases r.int; exact .base (.int b)
  | str b => cases h; cases r.str; exact .base (.str b)
  | lst b =>
    cases h
    obtain ⟨a, vs, rfl, h1, _⟩ := r.lst
    rcases h1 with (h1 | ⟨o, h1⟩) | ⟨o, its, n, hk, hc, _⟩
    · exact .base (.lst h1)
    · exact .base (.frz h1)
    · exact .kList hk hc
  | tup b =>
    cases h
    obtain ⟨a, vs, rfl, h1, _⟩ := r.tup
    rcases h1 with (h1 | ⟨o, h1⟩) | ⟨o, its, n, hk, hc, _⟩
    · exact .base (.tup h1)
    · exact .fTuple h1
    · exact .kTuple hk hc
  | dct b =>
    cases h
    obtain ⟨a, vs, rfl, h1, _⟩ := r.dct
    rcases h1 with h1 | ⟨o, h1⟩
    · exact .base (.dK h1)
    · exact .fDict h1
  | _ => cases h
def kitN (a : String) : List String → Option Bool
  | [] => some false
  | b :: r => match kitB a b, kitN a r with
    | some x, some y => some (x || y)
    | _, _ => none
/-- isinstance(x, T) -/
def d_isi (b : String) : D → Option D := fun d => ((tyD d).bind fun a => kitB a b).map .bl
/-- isinstance(x, (T1, T2, ..)) -/
def d_isiN (bs : List String) : D → Option D := fun d => ((tyD d).bind fun a => kitN a bs).map .bl
theorem kitN_any {K : Fg} {a : String} : ∀ {l : List String} {b : Bool}, kitN a l = some b → PySem.W.kitAny K (.type a) (l.map Value.type) = some b ∧ Paired ClsV (l.map V.ty) (l.map Value.type)
  | [], _, h => by cases h; exact ⟨kitAny_nil, .nil⟩
  | n :: l, _, h => by
    unfold kitN at h
    split at h
    · rename_i x y h1 h2
      cases h
      obtain ⟨h3, h4⟩ := kitN_any h2
      refine ⟨kitAny_cons (kit_ty h1) (fun e => ?_) fun e => ?_, .cons (.ty n) h4⟩
      · subst e; exact h3
      · subst e; rfl
    · cases h
def tysA (ns : List String) : TA := fun _ H Q => Q (ns.map V.ty) H
theorem tys_nil {X : Cx} : PA X [] (tysA []) := pa_of pa_nil fun _ _ _ q => q
theorem tys_cons {X : Cx} {e : Expr} {es : List Expr} {n : String} {ns : List String} (h : PE X e (tC (.ty n))) (r : PA X es (tysA ns)) (hs : starEach (e :: es) X.env = (false, eval e X.env) :: starEach es X.env := by rfl) : PA X (e :: es) (tysA (n :: ns)) := pa_of (pa_cons h r hs) fun _ _ _ q => q
section
variable {X : Cx} {W : WX} {e t : Expr} {es : List Expr} {m : ME} {p pos tp : Pos} {kk : Nat}
theorem E_isi {b : String} (hg : Gl X "isinstance") (hm : X.mg "isinstance" = none) (he : PE X e (Ee X.K X.mg W m)) (ht : PE X t (tC (.ty b))) (hs1 : starEach (t :: []) X.env = (false, eval t X.env) :: starEach [] X.env := by rfl)
    (hs : starEach (e :: [t]) X.env = (false, eval e X.env) :: starEach [t] X.env := by rfl) (hpl : (backTo pos (starEach [t] X.env)).any (·.1) = false := by rfl) :
    PE X (.Call (.Name "isinstance" p) [e, t] [] pos) (Ee X.K X.mg W (e_op1 (d_isi b) m)) :=
  pe_of (pe_callB call_isi hg hm (by decide +kernel) (pa_cons he (pa_cons ht pa_nil hs1) hs) (by decide) (by decide) hs hpl) fun σ H Q q =>
    (w_op1 (r := fun x H Q => rIsi X.K [x, .ty b] H Q) (fun O ad H x d z r h => by
      unfold d_isi at h
      obtain ⟨k, h1, rfl⟩ := Option.map_eq_some_iff.mp h
      obtain ⟨a, h2, h3⟩ := Option.bind_eq_some_iff.mp h1
      exact res_v (.bl _) fun Q q => ⟨x, .ty b, .type a, .type b, k, rfl, .ty b, tyX_of r h2, kit_ty h3, q⟩) σ H Q q)
theorem E_isiN {bs : List String} (hg : Gl X "isinstance") (hm : X.mg "isinstance" = none) (he : PE X e (Ee X.K X.mg W m)) (ht : PA X es (tysA bs)) (hl : bs.length ≤ 100) (hs1 : starEach ((.Tuple es kk tp) :: []) X.env = (false, eval (.Tuple es kk tp) X.env) :: starEach [] X.env := by rfl)
    (hs : starEach (e :: [.Tuple es kk tp]) X.env = (false, eval e X.env) :: starEach [.Tuple es kk tp] X.env := by rfl) (hpl : (backTo pos (starEach [.Tuple es kk tp] X.env)).any (·.1) = false := by rfl) :
    PE X (.Call (.Name "isinstance" p) [e, .Tuple es kk tp] [] pos) (Ee X.K X.mg W (e_op1 (d_isiN bs) m)) :=
  pe_of (pe_callB call_isiT hg hm (by decide +kernel) (pa_cons he (pa_cons (pe_tup ht) pa_nil hs1) hs) (by decide) (by decide) hs hpl) fun σ H Q q => by
    refine (bindE (f := fun ρ d S1 => liftO S1 ((deref ρ S1 d).bind (d_isiN bs))) q).imp fun x H1 g => ?_
    obtain ⟨O, ad, S, ρ, d, s, fr, r1, k⟩ := g
    obtain ⟨z, ez⟩ := liftO_ok k
    obtain ⟨d', ed, ez⟩ := Option.bind_eq_some_iff.mp ez
    rw [ed] at k
    simp only [Option.bind_some, ez, liftO] at k
    unfold d_isiN at ez
    obtain ⟨b, h1, rfl⟩ := Option.map_eq_some_iff.mp ez
    obtain ⟨a, h2, h3⟩ := Option.bind_eq_some_iff.mp h1
    obtain ⟨h4, h5⟩ := kitN_any (K := X.K) h3
    refine ⟨by rw [List.length_map]; exact Nat.le_trans hl (by decide), fun p hp => ?_⟩
    obtain ⟨t, z', hk, e⟩ := new_still (o := .tup (bs.map V.ty)) s hp
    have rx := deref_rep (fr.step s.hid t) z' (r1.step s.hid t) ed
    exact ⟨x, p, _, _, _, b, rfl, upd_same, h5, tyX_of rx h2, h4, k (.bl b) O ad _ t z' (repR_of (d := .bl b) (.bl b))⟩
end

/-! ### chains -/
def e_chain (f g : D → D → Option D) (a b c : ME) : ME := fun ρ S => (a ρ S).bind fun d S1 => (b ρ S1).bind fun e S2 => (liftO S2 ((deref ρ S2 d).bind fun d' => (deref ρ S2 e).bind fun e' => f d' e')).bind fun k S3 => (liftB S3 k).bind fun kk S4 => if kk = true then (c ρ S4).bind fun h S5 => liftO S5 ((deref ρ S5 e).bind fun e' => (deref ρ S5 h).bind fun h' => g e' h') else .ok (.bl false) S4
section
variable {K : Fg} {mg : Mg} {W : WX}
theorem w_chain {r r' : R2} {f g : D → D → Option D} {a b c : ME} (hf : OpP K mg r f) (hg : OpP K mg r' g) : ∀ σ H Q, Ee K mg W (e_chain f g a b c) σ H Q → tChain r r' (Ee K mg W a) (Ee K mg W b) (Ee K mg W c) σ H Q := by
  intro σ H Q q
  have q2 := bind2E (f := fun ρ d e S2 => (liftO S2 ((deref ρ S2 d).bind fun d' => (deref ρ S2 e).bind fun e' => f d' e')).bind fun k S3 => (liftB S3 k).bind fun kk S4 => if kk = true then (c ρ S4).bind fun h S5 => liftO S5 ((deref ρ S5 e).bind fun e' => (deref ρ S5 h).bind fun h' => g e' h') else .ok (.bl false) S4) q
  refine q2.imp fun x H1 q3 => q3.imp fun y H2 g => ?_
  obtain ⟨O, ad, S, ρ, d, e, s, fr, r1, r2, k⟩ := g
  cases ex : ((deref ρ S d).bind fun d' => (deref ρ S e).bind fun e' => f d' e') with
  | none => rw [ex] at k; exact k.elim
  | some z =>
    rw [ex] at k
    obtain ⟨d', ed, ez⟩ := Option.bind_eq_some_iff.mp ex
    obtain ⟨e', ee, ez⟩ := Option.bind_eq_some_iff.mp ez
    have kv := hf O ad H2 x y d' e' z (deref_rep fr s r1 ed) (deref_rep fr s r2 ee) ez
    cases z with
    | bl kb =>
      rcases kv with ⟨v, h1, h2⟩ | ⟨h0, o, h1, h2⟩
      · cases h1
        refine h2 _ ⟨kb, rfl, ?_⟩
        cases kb with
        | false =>
          rw [if_neg Bool.false_ne_true]
          exact post_bl s k
        | true =>
          rw [if_pos rfl]
          have k2 : PostE K mg W ρ σ Q O ad H2 ((c ρ S).bind fun h S5 => liftO S5 ((deref ρ S5 e).bind fun e' => (deref ρ S5 h).bind fun h' => g e' h')) := k
          refine ⟨O, ad, S, ρ, s, fr, ?_⟩
          cases ec : c ρ S with
          | no => rw [ec] at k2; exact k2
          | er x fs S1 => rw [ec] at k2; exact k2
          | ok hd S5 =>
            rw [ec] at k2
            intro w O' ad' H' t z' rw'
            have k3 : PostE K mg W ρ σ Q O' ad' H' (liftO S5 ((deref ρ S5 e).bind fun e' => (deref ρ S5 hd).bind fun h' => g e' h')) := PostE.rebase k2 t s.hid z'.dom
            obtain ⟨z2, ez2⟩ := liftO_ok k3
            rw [ez2] at k3
            obtain ⟨e2, ee2, ez2⟩ := Option.bind_eq_some_iff.mp ez2
            obtain ⟨h2', eh2, ez2⟩ := Option.bind_eq_some_iff.mp ez2
            have fr' := fr.step s.hid t
            exact (hg O' ad' H' y w e2 h2' z2 (deref_rep fr' z' (r2.step s.hid t) ee2) (deref_rep fr' z' rw' eh2) ez2).go z' k3
      · cases h0
    | _ => exact k.elim
end
end Gd

/-! Gd, part 8: the lemmas as a derivation names them. -/
namespace Gd
open PySem L2 PyProof.Rows

def d_add : D → D → Option D := fun d e => (d_addI d e).or (d_addS d e)
def d_lt : D → D → Option D := fun d e => (d_int2 (fun i j => some (.bl (decide (i < j)))) d e).or (d_str2 (fun i j => some (.bl (decide (i.cps.toList < j.cps.toList)))) d e)
def d_le : D → D → Option D := fun d e => (d_int2 (fun i j => some (.bl (decide (i ≤ j)))) d e).or (d_str2 (fun i j => some (.bl (!decide (j.cps.toList < i.cps.toList)))) d e)
def d_gt : D → D → Option D := d_int2 (fun i j => some (.bl (decide (j < i))))
def d_ge : D → D → Option D := d_int2 (fun i j => some (.bl (decide (j ≤ i))))
section
variable {X : Cx} {W : WX} {a b c e : Expr} {pos p : Pos} {ma mb mc m : ME} {es : List Expr} {r : MA}
theorem E_add (ha : PE X a (Ee X.K X.mg W ma)) (hb : PE X b (Ee X.K X.mg W mb)) : PE X (.BinOp a .Add b pos) (Ee X.K X.mg W (e_op2 d_add ma mb)) := E_bin (op_add.or op_add_str) (op_int0.or op_addS) ha hb
theorem E_sub (ha : PE X a (Ee X.K X.mg W ma)) (hb : PE X b (Ee X.K X.mg W mb)) : PE X (.BinOp a .Sub b pos) (Ee X.K X.mg W (e_op2 d_sub ma mb)) := E_bin op_sub op_int0 ha hb
theorem E_mul (ha : PE X a (Ee X.K X.mg W ma)) (hb : PE X b (Ee X.K X.mg W mb)) : PE X (.BinOp a .Mult b pos) (Ee X.K X.mg W (e_op2 d_mul ma mb)) := E_bin op_mul op_intC ha hb
theorem E_fdiv (ha : PE X a (Ee X.K X.mg W ma)) (hb : PE X b (Ee X.K X.mg W mb)) : PE X (.BinOp a .FloorDiv b pos) (Ee X.K X.mg W (e_op2 d_fdiv ma mb)) := E_bin op_fdivN op_intC ha hb
theorem E_mod (ha : PE X a (Ee X.K X.mg W ma)) (hb : PE X b (Ee X.K X.mg W mb)) : PE X (.BinOp a .Mod b pos) (Ee X.K X.mg W (e_op2 d_mod ma mb)) := E_bin op_modN op_intC ha hb
theorem E_pow (ha : PE X a (Ee X.K X.mg W ma)) (hb : PE X b (Ee X.K X.mg W mb)) : PE X (.BinOp a .Pow b pos) (Ee X.K X.mg W (e_op2 d_pow ma mb)) := E_bin op_pow op_intC ha hb
theorem or_lt : OpR X (compareOp .Lt) (fun x y H Q => rI0 (fun i j => .bl (decide (i < j))) x y H Q ∨ ∃ i j, x = .str i ∧ y = .str j ∧ Q (.bl (decide (i.cps.toList < j.cps.toList))) H) := op_lt.or op_lt_str
theorem or_le : OpR X (compareOp .LtE) (fun x y H Q => rI0 (fun i j => .bl (decide (i ≤ j))) x y H Q ∨ ∃ i j, x = .str i ∧ y = .str j ∧ Q (.bl (!decide (j.cps.toList < i.cps.toList))) H) := op_le.or op_le_str
theorem of_lt : OpP X.K X.mg (fun x y H Q => rI0 (fun i j => .bl (decide (i < j))) x y H Q ∨ ∃ i j, x = .str i ∧ y = .str j ∧ Q (.bl (decide (i.cps.toList < j.cps.toList))) H) d_lt := op_intB.or op_strB
theorem of_le : OpP X.K X.mg (fun x y H Q => rI0 (fun i j => .bl (decide (i ≤ j))) x y H Q ∨ ∃ i j, x = .str i ∧ y = .str j ∧ Q (.bl (!decide (j.cps.toList < i.cps.toList))) H) d_le := op_intB.or op_strB
theorem or_eq (hu : X.A.units + 64 < cLine) : OpR X (compareOp .Eq) (fun x y H Q => rEq x y H Q ∨ rEqD X.K x y H Q) := op_eq.or (op_eqD hu)
theorem or_ne (hu : X.A.units + 64 < cLine) : OpR X (compareOp .NotEq) (fun x y H Q => rNe x y H Q ∨ rNeD X.K x y H Q) := op_ne.or (op_neD hu)
theorem or_in : OpR X (compareOp .In) (rIn2 X.K false) := op_in_seq.or op_in_sign
theorem or_nin : OpR X (compareOp .NotIn) (rIn2 X.K true) := op_notIn_seq.or op_notIn_sign
/-- is None -/
def isNonD : D → Bool
  | .non => true
  | _ => false
def d_isN : D → D → Option D := fun d e => match e with
  | .non => some (.bl (isNonD d))
  | _ => none
def d_notN : D → D → Option D := fun d e => match e with
  | .non => some (.bl (!isNonD d))
  | _ => none
theorem RepS.isN {K : Fg} {mg : Mg} {O : Addr → Prop} {ad : List Addr} {H : Hp} {x : V} {d : D} (r : RepS K mg O ad H x d) : decide (x = .non) = isNonD d := by
  rcases r with r | ⟨a, rfl, r⟩
  · cases r <;> rfl
  · cases d <;> first | rfl | exact r.elim
theorem of_isN {K : Fg} {mg : Mg} : OpP K mg (fun x y H Q => y = .non ∧ Q (.bl (decide (x = .non))) H) d_isN := by
  intro O ad H x y d e z rx ry h
  unfold d_isN at h
  split at h
  · cases h
    refine res_v (.bl _) fun Q q => ⟨ry.non, ?_⟩
    rw [rx.isN]; exact q
  · cases h
theorem of_notN {K : Fg} {mg : Mg} : OpP K mg (fun x y H Q => y = .non ∧ Q (.bl (!decide (x = .non))) H) d_notN := by
  intro O ad H x y d e z rx ry h
  unfold d_notN at h
  split at h
  · cases h
    refine res_v (.bl _) fun Q q => ⟨ry.non, ?_⟩
    rw [rx.isN]; exact q
  · cases h
theorem E_chain {o1 o2 : CmpOp} {r1 r2 : R2} {f g : D → D → Option D} (ho : OpR X (compareOp o1) r1) (hf : OpP X.K X.mg r1 f) (ho2 : OpR X (compareOp o2) r2) (hg : OpP X.K X.mg r2 g) (ha : PE X a (Ee X.K X.mg W ma)) (hb : PE X b (Ee X.K X.mg W mb)) (hc : PE X c (Ee X.K X.mg W mc))
    (hm : lastMarks [o1, o2] [b, c] = false := by with_unfolding_all rfl) : PE X (.Compare a [o1, o2] [b, c] pos) (Ee X.K X.mg W (e_chain f g ma mb mc)) := pe_of (pe_chain ho ho2 ha hb hc hm) (w_chain hf hg)
theorem T_chain {o1 o2 : CmpOp} {r1 r2 : R2} {f g : D → D → Option D} (ho : OpR X (compareOp o1) r1) (hf : OpP X.K X.mg r1 f) (ho2 : OpR X (compareOp o2) r2) (hg : OpP X.K X.mg r2 g) (ha : PE X a (Ee X.K X.mg W ma)) (hb : PE X b (Ee X.K X.mg W mb)) (hc : PE X c (Ee X.K X.mg W mc))
    (hm : lastMarks [o1, o2] [b, c] = false := by with_unfolding_all rfl) : PT X (.Compare a [o1, o2] [b, c] pos) (Et X.K X.mg W (t_e (e_chain f g ma mb mc))) := pt_of (pt_chain ho ho2 ha hb hc hm) (w_test (w_chain hf hg))
theorem E_slice {lo hi : Option Expr} {p2 : Pos} {ml mh : MO} (ha : PE X a (Ee X.K X.mg W ma)) (hl : PO X lo (Eo X.K X.mg W ml)) (hh : PO X hi (Eo X.K X.mg W mh)) : PE X (.Subscript a (.Slice lo hi none p2) pos) (Ee X.K X.mg W (e_sl d_sl ma ml mh)) :=
  pe_of (pe_slice (sl_list.or sl_str) ha hl hh) (w_sl sp_sl)
theorem E_index (ha : PE X a (Ee X.K X.mg W ma)) (hb : PE X b (Ee X.K X.mg W mb)) (hs : PlainIx b) : PE X (.Subscript a b pos) (Ee X.K X.mg W (e_op2 d_ix ma mb)) := E_ix ix_seq op_dIx hs ha hb
theorem E_cb {id : String} {x : Str} {rr : List V → Hp → VK → Prop} {f : List D → Option D} (hc : CallR X (.builtin id) rr) (cp : CallP X.K X.mg rr f) (hg : Gl X x) (hm : X.mg x = none) (hv : bootBuiltins x = some (.builtin id)) (ha : PA X (e :: es) (Ea X.K X.mg W r)) (hn : x ≠ "__name__" := by decide) (hdb : (x == ("__debug__" : Str)) = false := by decide)
    (he : starEach (e :: es) X.env = (false, eval e X.env) :: starEach es X.env := by rfl) (hpl : (backTo pos (starEach es X.env)).any (·.1) = false := by rfl) : PE X (.Call (.Name x p) (e :: es) [] pos) (Ee X.K X.mg W (e_cb f r)) :=
  pe_of (pe_callB hc hg hm hv ha hn hdb he hpl) (w_cb cp)
/-- a module's constant -/
theorem E_glob {x : Str} {v : V} {u : Value} {d : D} (hg : Gl X x) (hm : X.mg x = some u) (rv : RelV v u) (rd : ∀ G ad, Rep X.K X.mg G ad v d) (hd : (x == ("__debug__" : Str)) = false := by decide) : PE X (.Name x pos) (Ee X.K X.mg W (e_c d)) := E_c (pe_glob hg hm rv hd) rd
end

/-! ### a call with keywords -/
def e_callK (m : List D → Sg → Out D) (g : List D → List D → List D) (r rk : MA) : ME := fun ρ S => (r ρ S).bind fun ds S1 => (rk ρ S1).bind fun es S2 => if noLoc ds = true ∧ noLoc es = true then m (g ds es) S2 else .no
def tCallKS (sp : Sp) (gV : List V → List V → List V) (n m : Nat) (E : L2.St → XK) (t tk : TA) : TE := fun σ H Q => t σ H fun vs H1 => tk σ H1 fun zs H2 => vs.length = n ∧ zs.length = m ∧ sp (gV vs zs) H2 Q (E σ)
section
variable {K : Fg} {mg : Mg} {W : WX}
theorem w_callK {n n1 n2 : Nat} {m : List D → Sg → Out D} {g : List D → List D → List D} {gV : List V → List V → List V} {r rk : MA} (len : ∀ ds S, ds.length ≠ n → m ds S = .no) (l1 : aLen n1 r) (l2 : aLen n2 rk)
    (hg : ∀ G ad vs ds zs es, Reps K mg G ad vs ds → Reps K mg G ad zs es → Reps K mg G ad (gV vs zs) (g ds es)) : ∀ σ H Q, Ee K mg W (e_callK m g r rk) σ H Q → tCallKS (SpM K mg n m) gV n1 n2 (WE W) (Ea K mg W r) (Ea K mg W rk) σ H Q := by
  rintro σ H Q ⟨O, ad, S, ρ, s, fr, k⟩
  refine ⟨O, ad, S, ρ, s, fr, ?_⟩
  unfold e_callK at k
  have a1 := l1 ρ S
  cases e : r ρ S with
  | no => rw [e] at k; exact k
  | er x fs S1 => rw [e] at k; exact k
  | ok ds S1 =>
    rw [e] at k a1
    intro vs O1 ad1 H1 t1 s1 r1
    have k1 : PostE K mg W ρ σ Q O1 ad1 H1 ((rk ρ S1).bind fun es S2 => if noLoc ds = true ∧ noLoc es = true then m (g ds es) S2 else .no) := PostE.rebase k t1 s.hid s1.dom
    have fr1 := fr.step s.hid t1
    refine ⟨O1, ad1, S1, ρ, s1, fr1, ?_⟩
    have a2 := l2 ρ S1
    cases e2 : rk ρ S1 with
    | no => rw [e2] at k1; exact k1
    | er x fs S2 => rw [e2] at k1; exact k1
    | ok es S2 =>
      rw [e2] at k1 a2
      intro zs O2 ad2 H2 t2 s2 r2
      have k2 : PostE K mg W ρ σ Q O2 ad2 H2 (if noLoc ds = true ∧ noLoc es = true then m (g ds es) S2 else .no) := PostE.rebase k1 t2 s1.hid s2.dom
      obtain ⟨⟨c1, c2⟩, k3⟩ := post_if (P := PostE K mg W ρ σ Q O2 ad2 H2) (fun z => z) k2
      have q1 := reps_of (PairedR.step s1.hid t2 r1) c1
      have q2 := reps_of r2 c2
      refine ⟨by rw [q1.length]; exact a1, by rw [q2.length]; exact a2, O2, ad2, S2, g ds es, s2, hg _ _ _ _ _ _ q1 q2, ?_, ?_⟩
      · by_cases el : (g ds es).length = n
        · exact el
        · rw [len _ S2 el] at k3; exact k3.elim
      · cases em : m (g ds es) S2 with
        | ok d S' => rw [em] at k3; exact fun v O' ad' H' t z r => k3 v O' ad' H' t z (repR_of r)
        | er x fs S' => rw [em] at k3; exact k3
        | no => rw [em] at k3; exact k3
end
section
variable {X : Cx} {W : WX} {k n1 : Nat} {f : Addr} {fd : FuncData} {ps ks : List Str} {x : Str} {p pos : Pos} {e : Expr} {es : List Expr} {kws : List Keyword} {t tk : TA} {sp : Sp} {E : L2.St → XK} {g : List Value → List Value → List Value} {gV : List V → List V → List V}
theorem run_kw {pins : List (Addr × Obj)} {σ : L2.St} {H : Hp} {s : Shared} {Q : VK} {us ws : List Value} {vs zs : List V} (F : FnOk X.prog X.w X.K X.mg X.base (L2.CX X.prog X.w) k f fd ps sp) (hr : Room k X.A) (hb : KBn X.K fd ps n1 ks g gV) (hx : PassesAt (L2.CX X.prog X.w) X σ (E σ))
    (I : L2.Inv X pins σ H s) (r : Vals vs us) (rz : Vals zs ws) (l1 : vs.length = n1) (l2 : zs.length = ks.length) (h : sp (gV vs zs) H Q (E σ)) : wpAny (model X.prog X.w) X.A (call (.ref f) us (ks.zip ws)) (EP X pins σ Q) X.xe s := by
  have bt := hb.to s us ws I.kIn (by rw [← r.length]; exact l1) (by rw [← rz.length]; exact l2)
  refine wpAny_call (codeAny_mono (F.run X.A X.stack s H _ _ _ Q (E σ) hr I.env0 bt (hb.rel r rz) h) fun q s' hq => ?_)
  rcases q with er | fl
  · exact hx pins H s er s' I hq
  · cases fl <;> first | exact I.after hq | exact False.elim hq
theorem pe_kw (F : FnOk X.prog X.w X.K X.mg X.base (L2.CX X.prog X.w) k f fd ps sp) (hr : Room k X.A) (hg : Gl X x) (hm : X.mg x = some (.ref f)) (hk : PySem.W.keepIn X.K (.ref f) = true) (hb : KBn X.K fd ps n1 ks g gV) (hx : ∀ σ, PassesAt (L2.CX X.prog X.w) X σ (E σ))
    (ha : PA X (e :: es) t) (hkw : PK X kws tk) (hall : (backToKw pos (keywordEach kws X.env)).all (·.1.isSome) = true := by rfl) (hks : (backToKw pos (keywordEach kws X.env)).filterMap (·.1) = ks := by rfl)
    (hdb : (x == ("__debug__" : Str)) = false := by decide) (he : starEach (e :: es) X.env = (false, eval e X.env) :: starEach es X.env := by rfl)
    (hpl : ((backTo pos (starEach (e :: es) X.env)).any (·.1) || (backToKw pos (keywordEach kws X.env)).any (·.1.isNone)) = false := by rfl) : PE X (.Call (.Name x p) (e :: es) kws pos) (tCallKS sp gV n1 ks.length E t tk) := by
  constructor
  intro pins s σ H Q I h
  apply wpAny_Call_Name_kw (ld_glob I hg hm ?_ hdb)
  apply PySem.W.callWith_KW (h₀ := X.base) I.ok.mod.kin hk hall (thn (ha.run pos pins s σ H _ I h) ?_) hpl he
  rintro us s1 ⟨vs, H1, I1, r, q⟩
  apply thn (hkw.run pos pins s1 σ H1 _ I1 q)
  rintro ws s2 ⟨zs, H2, I2, rz, l1, l2, q2⟩
  exact ⟨I2.kIn, by rw [hks]; exact run_kw F hr hb (hx σ) I2 r rz l1 l2 q2⟩
theorem pe_kw0 (F : FnOk X.prog X.w X.K X.mg X.base (L2.CX X.prog X.w) k f fd ps sp) (hr : Room k X.A) (hg : Gl X x) (hm : X.mg x = some (.ref f)) (hk : PySem.W.keepIn X.K (.ref f) = true) (hb : KBn X.K fd ps 0 ks g gV) (hx : ∀ σ, PassesAt (L2.CX X.prog X.w) X σ (E σ))
    (hkw : PK X kws tk) (hall : (backToKw pos (keywordEach kws X.env)).all (·.1.isSome) = true := by rfl) (hks : (backToKw pos (keywordEach kws X.env)).filterMap (·.1) = ks := by rfl)
    (hdb : (x == ("__debug__" : Str)) = false := by decide) (hpl : ((backTo pos (starEach [] X.env)).any (·.1) || (backToKw pos (keywordEach kws X.env)).any (·.1.isNone)) = false := by rfl) : PE X (.Call (.Name x p) [] kws pos) (tCallKS sp gV 0 ks.length E tNil tk) := by
  constructor
  intro pins s σ H Q I h
  apply wpAny_Call_Name_kw (ld_glob I hg hm ?_ hdb)
  apply PySem.W.callWith_KW0 (h₀ := X.base) I.ok.mod.kin hk hall ?_ hpl
  have h' : tk σ H fun zs H2 => ([] : List V).length = 0 ∧ zs.length = ks.length ∧ sp (gV [] zs) H2 Q (E σ) := h
  apply thn (hkw.run pos pins s σ H _ I h')
  rintro ws s2 ⟨zs, H2, I2, rz, l1, l2, q2⟩
  exact ⟨I2.kIn, by rw [hks]; exact run_kw (us := []) (vs := []) F hr hb (hx σ) I2 .nil rz rfl l2 q2⟩
end
section
variable {X : Cx} {W : WX} {k n1 : Nat} {f : Addr} {fd : FuncData} {ps ks : List Str} {x : Str} {p pos : Pos} {e : Expr} {es : List Expr} {kws : List Keyword} {r rk : MA} {g : List Value → List Value → List Value} {gV : List V → List V → List V} {gD : List D → List D → List D}
theorem E_callK {n b : Nat} {mb : MS} (F : FnOk X.prog X.w X.K X.mg X.base (L2.CX X.prog X.w) k f fd ps (SpM X.K X.mg b (Gd.fn n mb b))) (hr : Room k X.A) (hg : Gl X x) (hm : X.mg x = some (.ref f)) (hk : PySem.W.keepIn X.K (.ref f) = true) (hb : KBn X.K fd ps n1 ks g gV) (tk : Takes X W)
    (hgD : ∀ G ad vs ds zs es, Reps X.K X.mg G ad vs ds → Reps X.K X.mg G ad zs es → Reps X.K X.mg G ad (gV vs zs) (gD ds es)) (ha : PA X (e :: es) (Ea X.K X.mg W r)) (hkw : PK X kws (Ea X.K X.mg W rk)) (l1 : aLen n1 r) (l2 : aLen ks.length rk)
    (hall : (backToKw pos (keywordEach kws X.env)).all (·.1.isSome) = true := by rfl) (hks : (backToKw pos (keywordEach kws X.env)).filterMap (·.1) = ks := by rfl)
    (hdb : (x == ("__debug__" : Str)) = false := by decide) (he : starEach (e :: es) X.env = (false, eval e X.env) :: starEach es X.env := by rfl)
    (hpl : ((backTo pos (starEach (e :: es) X.env)).any (·.1) || (backToKw pos (keywordEach kws X.env)).any (·.1.isNone)) = false := by rfl) :
    PE X (.Call (.Name x p) (e :: es) kws pos) (Ee X.K X.mg W (e_callK (Gd.fn n mb b) gD r rk)) :=
  pe_of (pe_kw F hr hg hm hk hb (fun σ => passAt tk σ) ha hkw hall hks hdb he hpl) (w_callK fn_len l1 l2 hgD)
theorem E_callK0 {n b : Nat} {mb : MS} (F : FnOk X.prog X.w X.K X.mg X.base (L2.CX X.prog X.w) k f fd ps (SpM X.K X.mg b (Gd.fn n mb b))) (hr : Room k X.A) (hg : Gl X x) (hm : X.mg x = some (.ref f)) (hk : PySem.W.keepIn X.K (.ref f) = true) (hb : KBn X.K fd ps 0 ks g gV) (tk : Takes X W)
    (hgD : ∀ G ad vs ds zs es, Reps X.K X.mg G ad vs ds → Reps X.K X.mg G ad zs es → Reps X.K X.mg G ad (gV vs zs) (gD ds es)) (hkw : PK X kws (Ea X.K X.mg W rk)) (l2 : aLen ks.length rk)
    (hall : (backToKw pos (keywordEach kws X.env)).all (·.1.isSome) = true := by rfl) (hks : (backToKw pos (keywordEach kws X.env)).filterMap (·.1) = ks := by rfl)
    (hdb : (x == ("__debug__" : Str)) = false := by decide) (hpl : ((backTo pos (starEach [] X.env)).any (·.1) || (backToKw pos (keywordEach kws X.env)).any (·.1.isNone)) = false := by rfl) :
    PE X (.Call (.Name x p) [] kws pos) (Ee X.K X.mg W (e_callK (Gd.fn n mb b) gD a_nil rk)) :=
  pe_of (pe_kw0 F hr hg hm hk hb (fun σ => passAt tk σ) hkw hall hks hdb hpl) fun σ H Q q => by
    obtain ⟨O, ad, S, ρ, s, fr, k⟩ := w_callK (n1 := 0) fn_len aLen_nil l2 hgD σ H Q q
    exact k [] O ad H (.refl _ _ _) s .nil
end

def d_neg : D → Option D := fun d => match d with
  | .int i => some (.int (-i))
  | _ => none
theorem E_neg {X : Cx} {W : WX} {a : Expr} {pos : Pos} {m : ME} (ha : PE X a (Ee X.K X.mg W m)) : PE X (.UnaryOp .USub a pos) (Ee X.K X.mg W (e_op1 d_neg m)) :=
  pe_of (pe_un un_neg ha) fun σ H Q q => w_op1 (r := rU fun i => .int (-i)) (fun O ad H x d z r h => by
    unfold d_neg at h
    split at h
    · cases h
      exact res_v (.int _) fun Q q => ⟨_, r.int, q⟩
    · cases h) σ H Q q
end Gd

/-! Gd, part 9: dicts. -/
namespace Gd
open PySem L2 PyProof.Rows

def kmerge (kvs more : List (Key × D)) : List (Key × D) := more.foldl (fun acc kv => kput acc kv.1 kv.2) kvs
def pairsM : List (ME × ME) → Ro → Sg → Out (List (Key × D))
  | [], _, S => .ok [] S
  | (k, v) :: r, ρ, S => (k ρ S).bind fun kd S1 => (v ρ S1).bind fun vd S2 => match keyOf kd with
    | some key => if isLoc vd = true then .no else (pairsM r ρ S2).bind fun ps S3 => .ok ((key, vd) :: ps) S3
    | none => .no
def f_disp (l : List (ME × ME)) : ME := fun ρ S => (pairsM l ρ S).bind fun kvs S1 => if kvs.length ≤ 15 then .ok (.dct (kmerge [] kvs)) S1 else .no
section
variable {K : Fg} {mg : Mg} {W : WX} {G : Hp} {ad : List Addr}
theorem RepK.merge {more : List (Key × V)} {ms : List (Key × D)} (r : RepK K mg G ad more ms) : ∀ {kvs : List (Key × V)} {ds : List (Key × D)}, RepK K mg G ad kvs ds → RepK K mg G ad (mergeK kvs more) (kmerge ds ms) := by
  induction more generalizing ms with
  | nil => intro kvs ds q; cases r; exact q
  | cons p more ih =>
    intro kvs ds q
    cases r with
    | cons a b => exact ih b (q.put a)
theorem tPairs_of {σ : L2.St} {ρ : Ro} : ∀ (l : List (ME × ME)) {O : Addr → Prop} {ad : List Addr} {S : Sg} {H : Hp} {Q : List (V × V) → Hp → Prop}, Sto K mg O ad S H → Fre K mg O ad ρ σ H →
    (match pairsM l ρ S with
      | .ok kvs S' => ∀ (ps : List (Key × V)) O' ad' H', Stp O ad H O' ad' H' → Sto K mg O' ad' S' H' → RepK K mg (hide O' H') ad' ps kvs → Q (ps.map fun kv => (kV kv.1, kv.2)) H'
      | .er x fs S' => ∀ cls dd O' ad' H', Stp O ad H O' ad' H' → Sto K mg O' ad' S' H' → XRep K mg O' ad' H' cls dd x fs → W cls dd σ H'
      | .no => False) → tPairs (l.map fun p => (Ee K mg W p.1, Ee K mg W p.2)) σ H Q
  | [], O, ad, S, H, Q, s, fr, h => h [] O ad H (.refl _ _ _) s .nil
  | (k, v) :: r, O, ad, S, H, Q, s, fr, h => by
    refine ⟨O, ad, S, ρ, s, fr, ?_⟩
    unfold pairsM at h
    show PostE K mg W ρ σ _ O ad H (k ρ S)
    cases e : k ρ S with
    | no => simp only [e, Out.bind] at h
    | er x fs S1 => simp only [e, Out.bind] at h; exact h
    | ok kd S1 =>
      simp only [e, Out.bind] at h
      intro kv O1 ad1 H1 t1 s1 r1
      have fr1 := fr.step s.hid t1
      refine ⟨O1, ad1, S1, ρ, s1, fr1, ?_⟩
      show PostE K mg W ρ σ _ O1 ad1 H1 (v ρ S1)
      cases e2 : v ρ S1 with
      | no => simp only [e2] at h
      | er x fs S2 =>
        simp only [e2] at h
        exact fun cls dd O' ad' H' t z r => h cls dd O' ad' H' (t1.trans t s.hid s1.dom) z r
      | ok vd S2 =>
        simp only [e2] at h
        intro vv O2 ad2 H2 t2 s2 r2
        have t12 := t1.trans t2 s.hid s1.dom
        cases ek : keyOf kd with
        | none => simp only [ek] at h
        | some key =>
          simp only [ek] at h
          cases el : isLoc vd with
          | true => rw [if_pos el] at h; exact h.elim
          | false =>
            rw [if_neg (by rw [el]; exact Bool.false_ne_true)] at h
            have nl : isLoc kd = false := by cases kd <;> first | rfl | cases ek
            have hk := keyOf_V (r1.rep nl) ek
            subst hk
            refine tPairs_of r (Q := fun ps H3 => Q ((kV key, vv) :: ps) H3) s2 (fr1.step s1.hid t2) ?_
            cases e3 : pairsM r ρ S2 with
            | no => simp only [e3] at h
            | er x fs S3 =>
              simp only [e3] at h
              exact fun cls dd O' ad' H' t z r => h cls dd O' ad' H' (t12.trans t s.hid s2.dom) z r
            | ok kvs S3 =>
              simp only [e3] at h
              exact fun ps O' ad' H' t z rk => h ((key, vv) :: ps) O' ad' H' (t12.trans t s.hid s2.dom) z (.cons ((r2.rep el).mono (t.hide s2.hid) t.get) rk)
theorem w_disp {l : List (ME × ME)} : ∀ σ H Q, Ef K mg W (f_disp l) σ H Q → tDisp (l.map fun p => (Ee K mg W p.1, Ee K mg W p.2)) σ H Q := by
  rintro σ H Q ⟨O, ad, S, ρ, s, fr, h⟩ p hp
  obtain ⟨t, z, np, mr⟩ := new_own (K := K) (mg := mg) (o := .dK []) (d := .dct []) s hp ⟨[], upd_same, .nil⟩
  refine tPairs_of l z (fr.step s.hid t) ?_
  unfold f_disp at h
  cases e : pairsM l ρ S with
  | no => simp only [e] at h; exact h
  | er x fs S1 =>
    simp only [e] at h
    exact fun cls dd O' ad' H' t2 z2 r => h cls dd O' ad' H' (t.trans t2 s.hid z.dom) z2 r
  | ok kvs S1 =>
    simp only [e] at h
    obtain ⟨c1, k⟩ := post_if (P := PostF K mg W ρ σ Q O ad H) (fun z => z) h
    intro ps O' ad' H' t2 z2 rk
    have hpd := t2.fr p _ upd_same np
    have nD := t2.nmem np upd_same
    have oD : O' p := t2.op p (.inr rfl)
    refine ⟨hpd, ps, rfl, by rw [rk.length]; exact c1, k p O' ad' _ ⟨fun b o hb m => ?_, fun a ha => t2.op a (.inl ha), fun a ha => ?_, t2.ap.imp fun m hm => ⟨hm.1, fun a ha => ?_⟩⟩ (z2.upd_out oD nD) oD nD hp ⟨_, upd_same, (RepK.merge rk .nil).mono (hide_upd oD) fun _ _ e => e⟩⟩
    · rw [upd_ne (ne_of_none hb hp)]
      exact t2.fr b o (t.fr b o hb m) m
    · rcases t2.oq a ha with (q | q) | q
      · exact .inl q
      · exact .inr (by rw [q]; exact hp)
      · by_cases e : a = p
        · exact .inr (by rw [e]; exact hp)
        · rw [upd_ne e] at q; exact .inr q
    · have q := hm.2 a ha
      by_cases e : a = p
      · rw [e, upd_same] at q; cases q
      · rw [upd_ne e] at q; exact q
end
section
variable {X : Cx} {W : WX} {pos : Pos}
theorem F_dict0 : PE X (.Dict [] [] pos) (Ef X.K X.mg W (f_disp [])) := pe_of pe_dnewK fun σ H Q q => by
  obtain ⟨O, ad, S, ρ, s, fr, k⟩ := q
  intro p hp
  obtain ⟨t, z, np, mr⟩ := new_own (K := X.K) (mg := X.mg) (o := .dK []) (d := .dct []) s hp ⟨[], upd_same, .nil⟩
  exact k p _ ad _ t z (.inr rfl) np hp mr
theorem F_disp {keys : List (Option Expr)} {values : List Expr} {l : List (ME × ME)} (h : PPs X pos keys values (l.map fun p => (Ee X.K X.mg W p.1, Ee X.K X.mg W p.2))) (hall : keys.all (·.isSome) = true) (hl : keys.length = values.length) (h0 : keys ≠ []) (h15 : keys.length ≤ 15) :
    PE X (.Dict keys values pos) (Ef X.K X.mg W (f_disp l)) := pe_of (pe_disp h hall hl h0 h15) w_disp
theorem P_nil : PPs X pos [] [] (([] : List (ME × ME)).map fun p => (Ee X.K X.mg W p.1, Ee X.K X.mg W p.2)) := pps_nil
theorem P_cons {k v : Expr} {ks : List (Option Expr)} {vs : List Expr} {mk mv : ME} {l : List (ME × ME)} (hk : PE X k (Ee X.K X.mg W mk)) (hv : PE X v (Ee X.K X.mg W mv)) (hr : PPs X pos ks vs (l.map fun p => (Ee X.K X.mg W p.1, Ee X.K X.mg W p.2))) :
    PPs X pos (some k :: ks) (v :: vs) (((mk, mv) :: l).map fun p => (Ee X.K X.mg W p.1, Ee X.K X.mg W p.2)) := pps_cons hk hv hr
end
end Gd

/-! Gd, part 10: a law's end. -/
namespace Gd
open PySem L2 PyProof.Rows

theorem hide_no (H : Hp) : hide (fun _ => False) H = H := by
  funext a; unfold hide; rw [if_neg (fun h => h)]
def spL (K : Fg) (n : Nat) : Sp := fun vs H Q _ => ∃ (a : Addr) (ns : List Int), vs = [.ref a] ∧ SqL K H a (ns.map V.int) ∧ ns.length ≤ n ∧ (∀ z ∈ ns, Builtin.Int.intBits z ≤ 1048576) ∧ ∀ H', Q (.bl true) H'
theorem spL_imp {K : Fg} {mg : Mg} {n : Nat} {m : List D → Sg → Out D} (hm : ∀ ns : List Int, ns.length ≤ n → ∃ S', m [.lst (ns.map .int)] [] = .ok (.bl true) S') : ∀ vs H Q E, spL K n vs H Q E → SpM K mg 1 m vs H Q E := by
  rintro vs H Q E ⟨a, ns, rfl, hS, hl, hb, k⟩
  obtain ⟨S', e⟩ := hm ns hl
  refine ⟨fun _ => False, [], [], [.lst (ns.map .int)], ⟨rfl, .nil, (fun _ h => nomatch h), (fun _ h => h.elim), (fun n d h => by simp at h)⟩, ?_, rfl, ?_⟩
  · rw [hide_no]
    exact .cons (.lst hS .of_ints) .nil
  · rw [e]
    intro v O' ad' H' _ _ r
    cases r
    exact k H'
theorem walk {l : PySem.W.OpenLaw} {q : Program} {loose : List Str} {XP : (Str → Option Value) → Heap → Prop} {YP : World → Heap → Prop} {d : DefRec} {K : Params → Fg} {m : List D → Sg → Out D} {k n : Nat} (hn : l.most = some n) (hn2 : n ≤ sizeLine) (hdf : d.params.defaults = [])
    (hr : Room k callerA) (hm : ∀ ns : List Int, ns.length ≤ n → ∃ S', m [.lst (ns.map .int)] [] = .ok (.bl true) S') (hY : ∀ (w : World) (h : Heap), YP w h → (K w.params).In h)
    (F : ∀ (w : World) (mg : Str → Option Value) (fa : Addr) (h : Heap), (K w.params).In h → h.Ns mainGlobals mg → mg d.name = some (.ref fa) →
      ∃ fd : FuncData, (∀ (s : Shared) (u : Value), BindsTo s fd ⟨[u], []⟩ [("script", u)]) ∧ ∀ base : Heap, (K w.params).In base → base.Ns mainGlobals mg → FnOk l.prog w (K w.params) mg base (L2.CX l.prog w) k fa fd ["script"] (SpM (K w.params) mg 1 m)) :
    PySem.W.WalkO q loose XP YP l.row.toRowW d [] (fun f vs => PySem.call f vs) :=
  L2.walk_ofB (n := n) (k := k) (x := "script") (CX := fun w => L2.CX l.prog w) (sp := fun w => spL (K w.params) n) hn hn2 hdf hr hY
    (fun w mg fa h h1 h2 h3 => by
      obtain ⟨fd, b, g⟩ := F w mg fa h h1 h2 h3
      exact ⟨fd, b, fun base k1 k2 => (g base k1 k2).imp (spL_imp hm)⟩)
    (fun _ _ a ns hl hb _ hS => ⟨a, ns, rfl, hS, hl, hb, fun _ => rfl⟩) fun w H s e s' z => by
      obtain ⟨_, _, _, _, _, _, _, _, _, _, _, _, z⟩ := z
      exact z
/-! ### constants of the module -/
theorem rep_tup {K : Fg} {mg : Mg} {a : Addr} {od : Option Addr} {its : Array Value} {sl : Array (Option Value)} {n : Nat} {xs : List V} {ds : List D} (l : K.lookup a = some ⟨.type "tuple", od, .seq its n, sl⟩) (hs : its.size ≤ sizeLine) (hv : Vals xs its.toList)
    (hr : ∀ G ad, Reps K mg G ad xs ds) : ∀ G ad, Rep K mg G ad (.ref a) (.tup ds) := fun G ad => .tup (.inr ⟨_, its, n, l, rfl, rfl, hs, hv⟩) (hr G ad)
theorem rep_lst {K : Fg} {mg : Mg} {a : Addr} {its : Array Value} {sl : Array (Option Value)} {n : Nat} {xs : List V} {ds : List D} (l : K.lookup a = some ⟨.type "list", none, .seq its n, sl⟩) (hs : its.size ≤ sizeLine) (hv : Vals xs its.toList)
    (hr : ∀ G ad, Reps K mg G ad xs ds) : ∀ G ad, Rep K mg G ad (.ref a) (.lst ds) := fun G ad => .lst (.inr ⟨_, its, n, l, rfl, rfl, rfl, hs, hv⟩) (hr G ad)
/-- a def all of whose arguments are written by name, in their order -/
theorem kb0 {K : Fg} {x : Str} {st : Stmt} {ps : List Str} {kV doc pm cdv ct : Value} {an : Option Addr} (h : ∀ ws : List Value, ws.length = ps.length → bindArgs (PySem.W.fnOf x x (defArgs st) (defBody st) (defScope st) .none kV doc pm an cdv ct) ⟨[], ps.zip ws⟩ = pure (ps.zip ws)) :
    KBn K (PySem.W.fnOf x x (defArgs st) (defBody st) (defScope st) .none kV doc pm an cdv ct) ps 0 ps (fun _ ws => ws) (fun _ zs => zs) :=
  ⟨fun s us ws _ h1 h2 => (by
    cases us with
    | nil => exact .of_eq (h ws h2)
    | cons a b => cases h1), fun _ h => h⟩
end Gd

/-! Gm, part 1: what a mirror answers, read forwards. No program in sight. -/
namespace Gd
open PySem L2 PyProof.Rows

def Out.W {α : Type} (o : Out α) (Q : α → Sg → Prop) : Prop := match o with
  | .ok a S => Q a S
  | _ => False
theorem iteF_and {c : Prop} [Decidable c] {q : Prop} : (if c then q else False) = (c ∧ q) := by
  by_cases h : c
  · rw [if_pos h]; exact propext ⟨fun q => ⟨h, q⟩, fun q => q.2⟩
  · rw [if_neg h]; exact propext ⟨fun q => q.elim, fun q => (h q.1).elim⟩
@[simp] theorem ex_pe {β : Type} {c : Prop} {a : β} {q : β → Prop} : (∃ z, (c ∧ a = z) ∧ q z) = (c ∧ q a) := propext ⟨fun ⟨_, ⟨h, e⟩, k⟩ => by subst e; exact ⟨h, k⟩, fun ⟨h, k⟩ => ⟨_, ⟨h, rfl⟩, k⟩⟩
/-- statements: what goes on, what is returned -/
def OS.W (o : OS) (nx : Ro → Sg → Prop) (rt : D → Sg → Prop) : Prop := match o with
  | .nx ρ S => nx ρ S
  | .rt d S => rt d S
  | _ => False
theorem Out.W.mono {α : Type} {o : Out α} {Q Q' : α → Sg → Prop} (h : o.W Q) (k : ∀ a S, Q a S → Q' a S) : o.W Q' := by
  cases o with
  | ok a S => exact k _ _ h
  | er x fs S => exact h.elim
  | no => exact h.elim
theorem OS.W.mono {o : OS} {nx nx' : Ro → Sg → Prop} {rt rt' : D → Sg → Prop} (h : o.W nx rt) (k : ∀ a S, nx a S → nx' a S) (k' : ∀ a S, rt a S → rt' a S) : o.W nx' rt' := by
  cases o with
  | nx a S => exact k _ _ h
  | rt a S => exact k' _ _ h
  | _ => exact h.elim
theorem Out.W.eq {α : Type} {o : Out α} {Q : α → Sg → Prop} (h : o.W Q) : ∃ a S, o = .ok a S ∧ Q a S := by
  cases o with
  | ok a S => exact ⟨a, S, rfl, h⟩
  | er x fs S => exact h.elim
  | no => exact h.elim
section
variable {α β : Type} {ρ : Ro} {S : Sg} {Q : D → Sg → Prop} {nx : Ro → Sg → Prop} {rt : D → Sg → Prop}
@[simp] theorem W_ok (a : α) (S : Sg) (Q : α → Sg → Prop) : (Out.ok a S).W Q = Q a S := rfl
@[simp] theorem W_no (Q : α → Sg → Prop) : (Out.no).W Q = False := rfl
@[simp] theorem W_bind (o : Out α) (f : α → Sg → Out β) (Q : β → Sg → Prop) : (o.bind f).W Q = o.W fun a S => (f a S).W Q := by cases o <;> rfl
@[simp] theorem W_liftO (o : Option D) : (liftO S o).W Q = ∃ z, o = some z ∧ Q z S := by
  cases o with
  | none => exact propext ⟨fun h => h.elim, fun ⟨_, h, _⟩ => nomatch h⟩
  | some z => exact propext ⟨fun h => ⟨z, rfl, h⟩, fun ⟨_, h, q⟩ => by cases h; exact q⟩
@[simp] theorem W_liftI (o : Option (List D)) (Q : List D → Sg → Prop) : (liftI S o).W Q = ∃ z, o = some z ∧ Q z S := by
  cases o with
  | none => exact propext ⟨fun h => h.elim, fun ⟨_, h, _⟩ => nomatch h⟩
  | some z => exact propext ⟨fun h => ⟨z, rfl, h⟩, fun ⟨_, h, q⟩ => by cases h; exact q⟩
@[simp] theorem W_liftB (b : Bool) (Q : Bool → Sg → Prop) : (liftB S (.bl b)).W Q = Q b S := rfl
@[simp] theorem W_ite {c : Prop} [Decidable c] (a b : Out α) (Q : α → Sg → Prop) : (if c then a else b).W Q = if c then a.W Q else b.W Q := by split <;> rfl
@[simp] theorem W_c (d : D) : (e_c d ρ S).W Q = Q d S := rfl
@[simp] theorem W_op1 (f : D → Option D) (a : ME) : (e_op1 f a ρ S).W Q = (a ρ S).W fun d S1 => ∃ z, ((deref ρ S1 d).bind f) = some z ∧ Q z S1 := by simp [e_op1]
@[simp] theorem W_op2 (f : D → D → Option D) (a b : ME) : (e_op2 f a b ρ S).W Q = (a ρ S).W fun d S1 => (b ρ S1).W fun e S2 => ∃ z, ((deref ρ S2 d).bind fun d' => (deref ρ S2 e).bind fun e' => f d' e') = some z ∧ Q z S2 := by simp [e_op2]
@[simp] theorem W_te (m : ME) (Q : Bool → Sg → Prop) : (t_e m ρ S).W Q = (m ρ S).W fun d S1 => (liftB S1 d).W Q := by simp [t_e]
@[simp] theorem W_tnot (t : MT) (Q : Bool → Sg → Prop) : (t_not t ρ S).W Q = (t ρ S).W fun b S1 => Q (!b) S1 := by simp [t_not]
@[simp] theorem W_tand (t u : MT) (Q : Bool → Sg → Prop) : (t_and t u ρ S).W Q = (t ρ S).W fun b S1 => if b = true then (u ρ S1).W Q else Q false S1 := by simp [t_and]
@[simp] theorem W_tor (t u : MT) (Q : Bool → Sg → Prop) : (t_or t u ρ S).W Q = (t ρ S).W fun b S1 => if b = true then Q true S1 else (u ρ S1).W Q := by simp [t_or]
@[simp] theorem W_tyes (Q : Bool → Sg → Prop) : (t_yes ρ S).W Q = Q true S := rfl
@[simp] theorem W_eif (t : MT) (a b : ME) : (e_if t a b ρ S).W Q = (t ρ S).W fun c S1 => if c = true then (a ρ S1).W Q else (b ρ S1).W Q := by simp [e_if]
@[simp] theorem W_enot (m : ME) : (e_not m ρ S).W Q = (m ρ S).W fun d S1 => (liftB S1 d).W fun b S2 => Q (.bl (!b)) S2 := by simp [e_not]
@[simp] theorem W_eand (a b : ME) : (e_and a b ρ S).W Q = (a ρ S).W fun d S1 => (liftB S1 d).W fun c S2 => if c = true then (b ρ S2).W Q else Q (.bl false) S2 := by simp [e_and]
@[simp] theorem W_eor (a b : ME) : (e_or a b ρ S).W Q = (a ρ S).W fun d S1 => (liftB S1 d).W fun c S2 => if c = true then Q (.bl true) S2 else (b ρ S2).W Q := by simp [e_or]
@[simp] theorem W_anil (Q : List D → Sg → Prop) : (a_nil ρ S).W Q = Q [] S := rfl
@[simp] theorem W_acons (m : ME) (r : MA) (Q : List D → Sg → Prop) : (a_cons m r ρ S).W Q = (m ρ S).W fun d S1 => (r ρ S1).W fun ds S2 => Q (d :: ds) S2 := by simp [a_cons]
@[simp] theorem W_sh (m : ME) : (e_sh m ρ S).W Q = (m ρ S).W fun d S1 => Q (.obj S1.length) (S1 ++ [d]) := by simp [e_sh]
@[simp] theorem W_lst (r : MA) : (f_lst r ρ S).W Q = (r ρ S).W fun ds S1 => (noLoc ds = true ∧ ds.length ≤ 100000) ∧ Q (.lst ds) S1 := by
  simp only [f_lst, W_bind, W_ite, W_ok, W_no, iteF_and]
@[simp] theorem W_tup (r : MA) : (e_tup r ρ S).W Q = (r ρ S).W fun ds S1 => (noLoc ds = true ∧ ds.length ≤ 100000) ∧ Q (.tup ds) S1 := by
  simp only [e_tup, W_bind, W_ite, W_ok, W_no, iteF_and]
@[simp] theorem W_call (m : List D → Sg → Out D) (r : MA) : (e_call m r ρ S).W Q = (r ρ S).W fun ds S1 => noLoc ds = true ∧ (m ds S1).W Q := by
  simp only [e_call, W_bind, W_ite, W_ok, W_no, iteF_and]
@[simp] theorem W_callK (m : List D → Sg → Out D) (g : List D → List D → List D) (r rk : MA) : (e_callK m g r rk ρ S).W Q = (r ρ S).W fun ds S1 => (rk ρ S1).W fun es S2 => (noLoc ds = true ∧ noLoc es = true) ∧ (m (g ds es) S2).W Q := by
  simp only [e_callK, W_bind, W_ite, W_ok, W_no, iteF_and]
@[simp] theorem W_cb (f : List D → Option D) (r : MA) : (e_cb f r ρ S).W Q = (r ρ S).W fun ds S1 => ∃ z, ((derefL ρ S1 ds).bind f) = some z ∧ Q z S1 := by simp [e_cb]
@[simp] theorem W_chain (f g : D → D → Option D) (a b c : ME) : (e_chain f g a b c ρ S).W Q = (a ρ S).W fun d S1 => (b ρ S1).W fun e S2 => ∃ k, ((deref ρ S2 d).bind fun d' => (deref ρ S2 e).bind fun e' => f d' e') = some k ∧ (liftB S2 k).W fun kk S4 => if kk = true then (c ρ S4).W fun h S5 => ∃ z, ((deref ρ S5 e).bind fun e' => (deref ρ S5 h).bind fun h' => g e' h') = some z ∧ Q z S5 else Q (.bl false) S4 := by
  simp [e_chain]
@[simp] theorem W_oe (m : ME) (Q : Option Int → Sg → Prop) : (o_e m ρ S).W Q = (m ρ S).W fun d S1 => ∃ i, d = .int i ∧ Q (some i) S1 := by
  simp only [o_e, W_bind]
  congr 1; funext d S1
  cases d <;> simp
@[simp] theorem W_ono (Q : Option Int → Sg → Prop) : (o_no ρ S).W Q = Q none S := rfl
@[simp] theorem W_sl (f : D → Option Int → Option Int → Option D) (a : ME) (lo hi : MO) : (e_sl f a lo hi ρ S).W Q = (a ρ S).W fun d S1 => (lo ρ S1).W fun l S2 => (hi ρ S2).W fun h S3 => ∃ z, ((deref ρ S3 d).bind fun d' => f d' l h) = some z ∧ Q z S3 := by simp [e_sl]
@[simp] theorem W_m1 (f : Str → D → Option D) (a b : ME) : (e_m1 f a b ρ S).W Q = (a ρ S).W fun d S1 => ∃ x, d = .str x ∧ (b ρ S1).W fun e S2 => ∃ z, ((deref ρ S2 e).bind (f x)) = some z ∧ Q z S2 := by
  simp only [e_m1, W_bind]
  congr 1; funext d S1
  cases d <;> simp
@[simp] theorem W_iG (m : ME) (Q : List D → Sg → Prop) : (i_seqG m ρ S).W Q = (m ρ S).W fun d S1 => ∃ z, itemsG d = some z ∧ Q z S1 := by simp [i_seqG]
@[simp] theorem W_iC (m : ME) (Q : List D → Sg → Prop) : (i_seqC m ρ S).W Q = (m ρ S).W fun d S1 => ∃ z, itemsC ρ d = some z ∧ Q z S1 := by simp [i_seqC]
@[simp] theorem W_rng (r : MA) (Q : List D → Sg → Prop) : (i_rng r ρ S).W Q = (r ρ S).W fun ds S1 => ∃ z, rngOf ds = some z ∧ Q z S1 := by simp [i_rng]
theorem W_noEr (o : Out α) (Q : α → Sg → Prop) : (noEr o).W Q = o.W Q := by cases o <;> rfl
@[simp] theorem W_disp (l : List (ME × ME)) : (f_disp l ρ S).W Q = (pairsM l ρ S).W fun kvs S1 => kvs.length ≤ 15 ∧ Q (.dct (kmerge [] kvs)) S1 := by
  simp only [f_disp, W_bind, W_ite, W_ok, W_no, iteF_and]
@[simp] theorem W_pnil (Q : List (Key × D) → Sg → Prop) : (pairsM [] ρ S).W Q = Q [] S := rfl
@[simp] theorem W_pcons (k v : ME) (l : List (ME × ME)) (Q : List (Key × D) → Sg → Prop) : (pairsM ((k, v) :: l) ρ S).W Q = (k ρ S).W fun kd S1 => (v ρ S1).W fun vd S2 => ∃ key, keyOf kd = some key ∧ isLoc vd = false ∧ (pairsM l ρ S2).W fun ps S3 => Q ((key, vd) :: ps) S3 := by
  simp only [pairsM, W_bind]
  congr 1; funext d S1; congr 1; funext e S2
  cases keyOf d with
  | none => simp
  | some key => cases h : isLoc e <;> simp
/-! ### statements -/
@[simp] theorem W_fn (n k : Nat) (b : MS) (ds : List D) : (fn n b k ds S).W Q = (ds.length = k ∧ (b (ds.map .va ++ List.replicate (n - ds.length) .un) S).W (fun _ S => Q .non S) Q) := by
  unfold Gd.fn
  split
  · next h =>
    simp only [h, true_and]
    unfold fnM
    simp only [h]
    cases b (ds.map .va ++ List.replicate (n - k) .un) S <;> rfl
  · next h => simp [h]
@[simp] theorem W_nx : (s_nx ρ S).W nx rt = nx ρ S := rfl
@[simp] theorem W_seq (a b : MS) : (s_seq a b ρ S).W nx rt = (a ρ S).W (fun ρ S => (b ρ S).W nx rt) rt := by
  unfold s_seq
  cases a ρ S <;> rfl
theorem W_se (m : ME) (f : D → MS) : (s_e m f ρ S).W nx rt = (m ρ S).W fun d S1 => (f d ρ S1).W nx rt := by
  unfold s_e
  cases m ρ S <;> rfl
theorem W_st (m : MT) (f : Bool → MS) : (s_t m f ρ S).W nx rt = (m ρ S).W fun d S1 => (f d ρ S1).W nx rt := by
  unfold s_t
  cases m ρ S <;> rfl
@[simp] theorem W_if (t : MT) (a b : MS) : (s_if t a b ρ S).W nx rt = (t ρ S).W fun c S1 => if c = true then (a ρ S1).W nx rt else (b ρ S1).W nx rt := by
  unfold s_if
  rw [W_st]
  congr 1; funext c S1
  split <;> rfl
@[simp] theorem W_set (i : Nat) (m : ME) : (s_set i m ρ S).W nx rt = (m ρ S).W fun d S1 => isLoc d = false ∧ nx (ρ.set i (.va d)) S1 := by
  unfold s_set
  rw [W_se]
  congr 1; funext d S1
  cases h : isLoc d <;> simp [OS.W]
@[simp] theorem W_own (i : Nat) (m : ME) : (s_own i m ρ S).W nx rt = (m ρ S).W fun d S1 => nx (ρ.set i (.ow d)) S1 := by
  unfold s_own
  rw [W_se]; rfl
@[simp] theorem W_do (m : ME) : (s_do m ρ S).W nx rt = (m ρ S).W fun d S1 => nx ρ S1 := by
  unfold s_do
  rw [W_se]; rfl
@[simp] theorem W_ret (m : ME) : (s_ret m ρ S).W nx rt = (m ρ S).W fun d S1 => if isLoc d = true then ∃ e, deref ρ S1 d = some e ∧ rt e S1 else rt d S1 := by
  unfold s_ret
  rw [W_se]
  congr 1; funext d S1
  cases d <;> simp [OS.W, isLoc]
  case loc i =>
    cases e : deref ρ S1 (.loc i) <;> simp [OS.W]
@[simp] theorem W_retN : (s_retN ρ S).W nx rt = rt .non S := rfl
theorem W_putTo (dd : D) (f : D → Option D) : (putTo dd f ρ S).W nx rt = match dd with
    | .loc i => ∃ c c', ρ[i]? = some (.ow c) ∧ f c = some c' ∧ nx (ρ.set i (.ow c')) S
    | .obj n => ∃ c c', S[n]? = some c ∧ f c = some c' ∧ nx ρ (S.set n c')
    | _ => False := by
  cases dd <;> simp only [putTo] <;> try rfl
  case obj n =>
    cases e : S[n]? with
    | none => simp [OS.W]
    | some c => cases e2 : f c <;> simp [OS.W, e2]
  case loc i =>
    cases e : ρ[i]? with
    | none => simp [OS.W]
    | some c =>
      cases c with
      | ow c => cases e2 : f c <;> simp [OS.W, e2]
      | _ => simp [OS.W]
@[simp] theorem W_seti (mv mo mi : ME) : (s_seti mv mo mi ρ S).W nx rt = (mv ρ S).W fun dv S1 => (mo ρ S1).W fun dd S2 => (mi ρ S2).W fun di S3 => isLoc dv = false ∧ (putTo dd (updI di dv) ρ S3).W nx rt := by
  unfold s_seti
  rw [W_se]
  congr 1; funext d S1
  rw [W_se]
  congr 1; funext d2 S2
  rw [W_se]
  congr 1; funext d3 S3
  cases h : isLoc d <;> simp [OS.W]
@[simp] theorem W_app (mo me : ME) : (s_app mo me ρ S).W nx rt = (mo ρ S).W fun dd S1 => isLstAt ρ S1 dd = true ∧ (me ρ S1).W fun de S2 => isLoc de = false ∧ (putTo dd (appD de) ρ S2).W nx rt := by
  unfold s_app
  rw [W_se]
  congr 1; funext d S1
  cases h : isLstAt ρ S1 d with
  | false => simp [OS.W]
  | true =>
    simp only [if_true, true_and]
    rw [W_se]
    congr 1; funext d2 S2
    cases h : isLoc d2 <;> simp [OS.W]
/-- one statement at a time: what comes behind is out of sight -/
theorem seq_of {a b : MS} (h : ∀ N : Ro → Sg → Prop, (∀ ρ S, (b ρ S).W nx rt → N ρ S) → (a ρ S).W N rt) : (s_seq a b ρ S).W nx rt := by
  rw [W_seq]
  exact h _ fun _ _ h => h
/-- a for loop by an invariant over what is gone and what is to come -/
theorem W_for {mi : MI} {tgt : D → Ro → Option Ro} {b : MS} (I : List D → Ro → Sg → Prop)
    (h : (mi ρ S).W fun ds S1 => I ds ρ S1)
    (hb : ∀ d ds ρ S, I (d :: ds) ρ S → ∃ ρ1, tgt d ρ = some ρ1 ∧ (b ρ1 S).W (I ds) rt)
    (he : ∀ ρ S, I [] ρ S → nx ρ S) : (s_for mi tgt b ρ S).W nx rt := by
  unfold s_for
  obtain ⟨ds, S1, e, h⟩ := h.eq
  rw [e]
  have main : ∀ (ds : List D) (ρ : Ro) (S1 : Sg), I ds ρ S1 → (s_loop tgt b ds ρ S1).W nx rt := by
    intro ds
    induction ds with
    | nil => exact fun ρ S1 h => he _ _ h
    | cons d ds ih =>
      intro ρ S1 h
      obtain ⟨ρ1, e, k⟩ := hb d ds ρ S1 h
      unfold s_loop
      rw [e]
      show (match b ρ1 S1 with
        | OS.nx ρ2 S2 => s_loop tgt b ds ρ2 S2
        | OS.ct ρ2 S2 => s_loop tgt b ds ρ2 S2
        | OS.bk ρ2 S2 => OS.nx ρ2 S2
        | o => o).W nx rt
      cases e2 : b ρ1 S1 with
      | nx ρ2 S2 => rw [e2] at k; exact ih _ _ k
      | rt d S2 => rw [e2] at k; exact k
      | _ => rw [e2] at k; exact k.elim
  exact main ds ρ S1 h
/-- a comprehension: what each item gives -/
theorem W_lc {vs : List Nat} {mi : MI} {tgt : D → Ro → Option Ro} {t : MT} {e : ME} (I : List D → List D → Sg → Prop)
    (h : (mi ρ S).W fun ds S1 => I [] ds S1)
    (hb : ∀ ys d ds S, I ys (d :: ds) S → ∃ ρ1, tgt d (wipeR ρ vs) = some ρ1 ∧ (t ρ1 S).W fun b S1 => if b = true then (e ρ1 S1).W fun y S2 => isLoc y = false ∧ I (ys ++ [y]) ds S2 else I ys ds S1)
    (he : ∀ ys S, I ys [] S → ys.length ≤ 100000 ∧ Q (.lst ys) S) : (f_lc vs mi tgt t e ρ S).W Q := by
  unfold f_lc
  rw [W_bind]
  refine h.mono fun ds S1 h => ?_
  rw [W_bind]
  have main : ∀ ds ys S1, I ys ds S1 → (lcL tgt t e (wipeR ρ vs) ds S1).W fun zs S2 => I (ys ++ zs) [] S2 := by
    intro ds
    induction ds with
    | nil =>
      intro ys S1 h
      show I (ys ++ []) [] S1
      rw [List.append_nil]; exact h
    | cons d ds ih =>
      intro ys S1 h
      obtain ⟨ρ1, e1, k⟩ := hb ys d ds S1 h
      unfold lcL
      rw [e1]
      show (Out.bind _ _).W _
      rw [W_bind, W_noEr]
      refine k.mono fun b S2 k => ?_
      cases b with
      | false => exact ih _ _ k
      | true =>
        simp only [if_true] at k ⊢
        rw [W_bind, W_noEr]
        refine k.mono fun y S3 k => ?_
        rw [if_neg (by rw [k.1]; simp)]
        rw [W_bind]
        refine (ih _ _ k.2).mono fun zs S4 k => ?_
        show I (ys ++ (y :: zs)) [] S4
        rw [List.append_assoc] at k
        exact k
  refine (main ds [] S1 h).mono fun zs S2 k => ?_
  obtain ⟨h1, h2⟩ := he _ _ k
  rw [List.nil_append] at h1 h2
  rw [W_ite, if_pos h1]
  exact h2
end
/-! ### operations on values in view -/
section
variable {ρ : Ro} {S : Sg}
@[simp] theorem de_non : deref ρ S .non = some .non := rfl
@[simp] theorem de_int (i : Int) : deref ρ S (.int i) = some (.int i) := rfl
@[simp] theorem de_bl (i : Bool) : deref ρ S (.bl i) = some (.bl i) := rfl
@[simp] theorem de_str (i : Str) : deref ρ S (.str i) = some (.str i) := rfl
@[simp] theorem de_lst (i : List D) : deref ρ S (.lst i) = some (.lst i) := rfl
@[simp] theorem de_tup (i : List D) : deref ρ S (.tup i) = some (.tup i) := rfl
@[simp] theorem de_dct (i : List (Key × D)) : deref ρ S (.dct i) = some (.dct i) := rfl
@[simp] theorem de_ins (c : Str) (i : List (Str × D)) : deref ρ S (.ins c i) = some (.ins c i) := rfl
@[simp] theorem de_obj (n : Nat) : deref ρ S (.obj n) = S[n]? := rfl
@[simp] theorem lo_non : isLoc .non = false := rfl
@[simp] theorem lo_int (i : Int) : isLoc (.int i) = false := rfl
@[simp] theorem lo_bl (i : Bool) : isLoc (.bl i) = false := rfl
@[simp] theorem lo_str (i : Str) : isLoc (.str i) = false := rfl
@[simp] theorem lo_lst (i : List D) : isLoc (.lst i) = false := rfl
@[simp] theorem lo_tup (i : List D) : isLoc (.tup i) = false := rfl
@[simp] theorem lo_dct (i : List (Key × D)) : isLoc (.dct i) = false := rfl
@[simp] theorem lo_ins (c : Str) (i : List (Str × D)) : isLoc (.ins c i) = false := rfl
@[simp] theorem lo_obj (n : Nat) : isLoc (.obj n) = false := rfl
@[simp] theorem lo_loc (n : Nat) : isLoc (.loc n) = true := rfl
@[simp] theorem nl_nil : noLoc [] = true := rfl
@[simp] theorem nl_cons (d : D) (ds : List D) : noLoc (d :: ds) = (!isLoc d && noLoc ds) := rfl
@[simp] theorem dl_nil : derefL ρ S [] = some [] := rfl
theorem dl_cons (d : D) (ds : List D) : derefL ρ S (d :: ds) = (deref ρ S d).bind fun a => (derefL ρ S ds).map fun b => a :: b := by
  show (match deref ρ S d, derefL ρ S ds with
    | some a, some b => some (a :: b)
    | _, _ => none) = _
  cases deref ρ S d <;> cases derefL ρ S ds <;> rfl
@[simp] theorem dl_one (d : D) : derefL ρ S [d] = (deref ρ S d).map fun a => [a] := by
  rw [dl_cons]
  cases deref ρ S d <;> rfl
@[simp] theorem dl_two (d e : D) : derefL ρ S [d, e] = (deref ρ S d).bind fun a => (deref ρ S e).map fun b => [a, b] := by
  rw [dl_cons, dl_one]
  cases deref ρ S d <;> cases deref ρ S e <;> rfl
@[simp] theorem f1_one (f : D → Option D) (d : D) : d_1 f [d] = f d := rfl
@[simp] theorem f2_two (f : D → D → Option D) (d e : D) : d_2 f [d, e] = f d e := rfl
@[simp] theorem add_int (i j : Int) : d_add (.int i) (.int j) = some (.int (i + j)) := rfl
@[simp] theorem add_str (i j : Str) : d_add (.str i) (.str j) = if i.length + j.length ≤ 100000 then some (.str (i ++ j)) else none := rfl
@[simp] theorem sub_int (i j : Int) : d_sub (.int i) (.int j) = some (.int (i - j)) := rfl
@[simp] theorem neg_intD (i : Int) : d_neg (.int i) = some (.int (-i)) := rfl
@[simp] theorem mul_int (i j : Int) : d_mul (.int i) (.int j) = if CMul i j then some (.int (i * j)) else none := rfl
@[simp] theorem fdiv_int (i j : Int) : d_fdiv (.int i) (.int j) = if CDivN i j then some (.int (i.fdiv j)) else none := rfl
@[simp] theorem mod_int (i j : Int) : d_mod (.int i) (.int j) = if j ≠ 0 then some (.int (i.fmod j)) else none := rfl
@[simp] theorem pow_int (i j : Int) : d_pow (.int i) (.int j) = if CPow i j then some (.int (i ^ j.toNat)) else none := rfl
@[simp] theorem lt_int (i j : Int) : d_lt (.int i) (.int j) = some (.bl (decide (i < j))) := rfl
@[simp] theorem le_int (i j : Int) : d_le (.int i) (.int j) = some (.bl (decide (i ≤ j))) := rfl
@[simp] theorem gt_int (i j : Int) : d_gt (.int i) (.int j) = some (.bl (decide (j < i))) := rfl
@[simp] theorem ge_int (i j : Int) : d_ge (.int i) (.int j) = some (.bl (decide (j ≤ i))) := rfl
@[simp] theorem lt_str (i j : Str) : d_lt (.str i) (.str j) = some (.bl (decide (i.cps.toList < j.cps.toList))) := rfl
@[simp] theorem le_str (i j : Str) : d_le (.str i) (.str j) = some (.bl (!decide (j.cps.toList < i.cps.toList))) := rfl
@[simp] theorem eq_int (i j : Int) : d_eq (.int i) (.int j) = some (.bl (decide (i = j))) := rfl
@[simp] theorem eq_bl (i j : Bool) : d_eq (.bl i) (.bl j) = some (.bl (decide (i = j))) := rfl
@[simp] theorem eq_str (i j : Str) : d_eq (.str i) (.str j) = some (.bl (decide (i = j))) := rfl
@[simp] theorem ne_int (i j : Int) : d_ne (.int i) (.int j) = some (.bl (!decide (i = j))) := rfl
@[simp] theorem ne_bl (i j : Bool) : d_ne (.bl i) (.bl j) = some (.bl (!decide (i = j))) := rfl
@[simp] theorem ne_str (i j : Str) : d_ne (.str i) (.str j) = some (.bl (!decide (i = j))) := rfl
@[simp] theorem len_lst (l : List D) : d_len (.lst l) = some (.int l.length) := rfl
@[simp] theorem len_tup (l : List D) : d_len (.tup l) = some (.int l.length) := rfl
@[simp] theorem len_str (z : Str) : d_len (.str z) = if z.length ≤ 100000 then some (.int z.length) else none := rfl
@[simp] theorem abs_int (i : Int) : d_abs (.int i) = some (.int (if i < 0 then -i else i)) := rfl
@[simp] theorem ix_lst (l : List D) (i : Int) : d_ix (.lst l) (.int i) = atI l i := rfl
@[simp] theorem ix_tup (l : List D) (i : Int) : d_ix (.tup l) (.int i) = atI l i := rfl
@[simp] theorem ix_str (z : Str) (i : Int) : d_ix (.str z) (.int i) = if z.length ≤ 100000 then (atI z.cps.toList i).map fun c => .str ⟨#[c]⟩ else none := rfl
@[simp] theorem it_lst (l : List D) : itemsG (.lst l) = some l := rfl
@[simp] theorem it_tup (l : List D) : itemsG (.tup l) = some l := rfl
@[simp] theorem it_str (z : Str) : itemsG (.str z) = some (signs z) := rfl
@[simp] theorem ic_lst (l : List D) : itemsC ρ (.lst l) = some l := rfl
@[simp] theorem ic_tup (l : List D) : itemsC ρ (.tup l) = some l := rfl
@[simp] theorem ic_str (z : Str) : itemsC ρ (.str z) = some (signs z) := rfl
@[simp] theorem tn_of (i : Nat) (d : D) : t_name i d ρ = if isLoc d = true then none else some (ρ.set i (.va d)) := rfl
@[simp] theorem sl_lst (l : List D) (lo hi : Option Int) : d_sl (.lst l) lo hi = some (.lst (cutD l lo hi)) := rfl
@[simp] theorem sl_str (z : Str) (lo hi : Option Int) : d_sl (.str z) lo hi = if z.length ≤ 100000 then some (.str (cutS z lo hi)) else none := rfl
@[simp] theorem up_lst (k : Int) (v : D) (ds : List D) : updI (.int k) v (.lst ds) = (ixN ds.length k).map fun j => .lst (ds.set j v) := rfl
@[simp] theorem up_int (k : Int) (v : D) (kvs : List (Key × D)) : updI (.int k) v (.dct kvs) = if kvs.length < 100000 then some (.dct (kput kvs (.inl k) v)) else none := rfl
@[simp] theorem up_str (k : Str) (v : D) (kvs : List (Key × D)) : updI (.str k) v (.dct kvs) = if kvs.length < 100000 then some (.dct (kput kvs (.inr k) v)) else none := rfl
@[simp] theorem isl_obj (n : Nat) : isLstAt ρ S (.obj n) = match S[n]? with
  | some (.lst _) => true
  | _ => false := rfl
@[simp] theorem ap_lst (y : D) (ds : List D) : appD y (.lst ds) = if ds.length < 100000 then some (.lst (ds ++ [y])) else none := rfl
@[simp] theorem put_obj (n : Nat) (f : D → Option D) (nx : Ro → Sg → Prop) (rt : D → Sg → Prop) : (putTo (.obj n) f ρ S).W nx rt = ∃ c c', S[n]? = some c ∧ f c = some c' ∧ nx ρ (S.set n c') := by rw [W_putTo]
@[simp] theorem put_loc (n : Nat) (f : D → Option D) (nx : Ro → Sg → Prop) (rt : D → Sg → Prop) : (putTo (.loc n) f ρ S).W nx rt = ∃ c c', ρ[n]? = some (.ow c) ∧ f c = some c' ∧ nx (ρ.set n (.ow c')) S := by rw [W_putTo]
@[simp] theorem W_var (i : Nat) (Q : D → Sg → Prop) : (e_var i ρ S).W Q = match ρ[i]? with
  | some (.va d) => Q d S
  | some (.ow _) => Q (.loc i) S
  | _ => False := by
  unfold e_var
  cases ρ[i]? with
  | none => rfl
  | some z => cases z <;> rfl
end
end Gd

/-! Gm, part 2: the draws that many laws share. -/
namespace Gd
open PySem L2 PyProof.Rows

def takeB : MS := (s_seq (s_set 2 (e_op2 d_ix (e_var 0) (e_c (.int 0))))
  (s_seq (s_set 3 (e_op2 d_mod (e_op2 d_ix (e_var 0) (e_c (.int 1))) (e_cb (d_1 d_len) (a_cons (e_var 2) a_nil))))
  (s_seq (s_set 4 (e_op2 d_ix (e_var 2) (e_var 3)))
  (s_seq (s_if (t_e (e_op2 d_ge (e_var 4) (e_op2 d_pow (e_c (.int 10)) (e_c (.int 18))))) (s_seq (s_seti (e_op2 d_fdiv (e_var 4) (e_var 1)) (e_var 2) (e_var 3))
  (s_ret (e_op2 d_mod (e_var 4) (e_var 1)))) s_nx)
  (s_seq (s_seti (e_op2 d_add (e_op2 d_ix (e_var 0) (e_c (.int 1))) (e_c (.int 1))) (e_var 0) (e_c (.int 1)))
  (s_seq (s_seti (e_op2 d_mod (e_op2 d_add (e_op2 d_add (e_op2 d_mul (e_op2 d_ix (e_var 0) (e_c (.int 2))) (e_c (.int 48271))) (e_var 4)) (e_c (.int 12345))) (e_c (.int 2147483647))) (e_var 0) (e_c (.int 2)))
  (s_ret (e_op2 d_mod (e_op2 d_fdiv (e_op2 d_mod (e_op2 d_mul (e_op2 d_ix (e_var 0) (e_c (.int 2))) (e_op2 d_ix (e_var 0) (e_c (.int 2)))) (e_c (.int 2147483629))) (e_c (.int 16))) (e_var 1)))))))))
def takeM : List D → Sg → Out D := Gd.fn 5 takeB 2

/-- a draw is there: its object n, its cells' object k; the rest of the store stands -/
structure Dr (n k : Nat) (S : Sg) : Prop where
  ne : n ≠ k
  ex : ∃ (at' seed : Int) (cs : List Int), S[n]? = some (.lst [.obj k, .int at', .int seed]) ∧ S[k]? = some (.lst (cs.map .int)) ∧ 0 ≤ seed ∧ seed < 2147483647 ∧ cs ≠ [] ∧ ∀ c ∈ cs, 0 ≤ c
/-- but for n and k the stores are alike -/
structure Lk (n k : Nat) (S S' : Sg) : Prop where
  len : S'.length = S.length
  at' : ∀ i, i ≠ n → i ≠ k → S'[i]? = S[i]?
theorem Lk.refl {n k : Nat} {S : Sg} : Lk n k S S := ⟨rfl, fun _ _ _ => rfl⟩
theorem Lk.trans {n k : Nat} {S S1 S2 : Sg} (a : Lk n k S S1) (b : Lk n k S1 S2) : Lk n k S S2 := ⟨b.len.trans a.len, fun i h1 h2 => (b.at' i h1 h2).trans (a.at' i h1 h2)⟩
theorem Lk.setN {n k : Nat} {S S1 : Sg} (a : Lk n k S S1) (d : D) : Lk n k S (S1.set n d) := ⟨by rw [List.length_set]; exact a.len, fun i h1 h2 => by rw [List.getElem?_set_ne (Ne.symm h1)]; exact a.at' i h1 h2⟩
theorem Lk.setK {n k : Nat} {S S1 : Sg} (a : Lk n k S S1) (d : D) : Lk n k S (S1.set k d) := ⟨by rw [List.length_set]; exact a.len, fun i h1 h2 => by rw [List.getElem?_set_ne (Ne.symm h2)]; exact a.at' i h1 h2⟩
theorem getSet {S : Sg} {n : Nat} {d e : D} (h : S[n]? = some d) : (S.set n e)[n]? = some e := by
  rw [List.getElem?_set_self (List.getElem?_eq_some_iff.mp h).1]
theorem atI_nn {α : Type} {xs : List α} {i : Int} (h : 0 ≤ i) (l : i < xs.length) : ∃ x, xs[i.toNat]? = some x ∧ atI xs i = some x ∧ ixN xs.length i = some i.toNat := by
  have l2 : i.toNat < xs.length := by omega
  have e : ixN xs.length i = some i.toNat := by unfold ixN; rw [if_pos h, if_pos l]
  refine ⟨xs[i.toNat], List.getElem?_eq_getElem l2, ?_, e⟩
  unfold atI
  rw [e]
  exact List.getElem?_eq_getElem l2
theorem fmod_bd {a b : Int} (h : 0 < b) : 0 ≤ a.fmod b ∧ a.fmod b < b := ⟨Int.fmod_nonneg_of_pos a h, Int.fmod_lt_of_pos a h⟩
theorem fdiv_nn {a b : Int} (h : 0 ≤ a) (hb : 0 < b) : 0 ≤ a.fdiv b := by
  rw [Int.fdiv_eq_ediv_of_nonneg a (by omega)]
  exact Int.ediv_nonneg h (by omega)
theorem upd_ints (i : Int) (v : D) (cs : List Int) : updI (.int i) v (.lst (cs.map .int)) = (ixN cs.length i).map fun j => .lst ((cs.map D.int).set j v) := by
  rw [up_lst, List.length_map]
theorem take_W {n k : Nat} {S : Sg} {size : Int} {Q : D → Sg → Prop} (h : Dr n k S) (h0 : 0 < size) (h1 : size < 1073741824)
    (q : ∀ r S', Dr n k S' → Lk n k S S' → 0 ≤ r → r < size → Q (.int r) S') : (takeM [.obj n, .int size] S).W Q := by
  obtain ⟨at', seed, cs, en, ek, s0, s1, nn, pos⟩ := h.ex
  have hl : 0 < (cs.length : Int) := by
    have := List.length_pos_iff.mpr nn
    omega
  obtain ⟨m0, m1⟩ := fmod_bd (a := at') hl
  obtain ⟨c, c1, c2, c3⟩ := atI_nn (xs := cs.map D.int) (i := at'.fmod cs.length) m0 (by rw [List.length_map]; exact m1)
  rw [List.getElem?_map] at c1
  obtain ⟨cell, ce, rfl⟩ := Option.map_eq_some_iff.mp c1
  have cp : 0 ≤ cell := pos cell (List.mem_of_getElem? ce)
  have hz : (cs.length : Int) ≠ 0 := by omega
  have p0 : CPow 10 18 := by decide
  have ix0 : ∀ a b c : D, atI [a, b, c] 0 = some a := fun _ _ _ => rfl
  have ix1 : ∀ a b c : D, atI [a, b, c] 1 = some b := fun _ _ _ => rfl
  have ix2 : ∀ a b c : D, atI [a, b, c] 2 = some c := fun _ _ _ => rfl
  have jx1 : ixN 3 1 = some 1 := rfl
  have jx2 : ixN 3 2 = some 2 := rfl
  have cd : CDivN cell size := ⟨by omega, by omega⟩
  have hs : size ≠ 0 := by omega
  unfold takeM
  rw [W_fn]
  refine ⟨rfl, ?_⟩
  unfold takeB
  refine seq_of fun N hN => ?_
  simp [en, ix0, List.replicate]
  refine hN _ _ ?_
  clear hN
  refine seq_of fun N hN => ?_
  simp [en, ek, ix1, hz, nn]
  refine hN _ _ ?_
  clear hN
  refine seq_of fun N hN => ?_
  simp [en, ek, c2]
  refine hN _ _ ?_
  clear hN
  refine seq_of fun N hN => ?_
  simp [p0]
  split
  · rw [List.length_map] at c3
    simp [cd, ek, hs, c3, upd_ints]
    refine q _ _ ⟨h.ne, at', seed, cs.set (at'.fmod cs.length).toNat (cell.fdiv size), ?_, ?_, s0, s1, ?_, ?_⟩ (Lk.refl.setK _) (fmod_bd h0).1 (fmod_bd h0).2
    · rw [List.getElem?_set_ne h.ne.symm]; exact en
    · rw [getSet ek, List.map_set]
    · intro z
      have := congrArg List.length z
      rw [List.length_set] at this
      exact nn (List.eq_nil_of_length_eq_zero this)
    · intro c hc
      rcases List.mem_or_eq_of_mem_set hc with hc | hc
      · exact pos c hc
      · rw [hc]; exact fdiv_nn cp h0
  refine hN _ _ ?_
  clear hN
  refine seq_of fun N hN => ?_
  simp [en, ix1, jx1]
  refine hN _ _ ?_
  clear hN
  obtain ⟨sd, esd⟩ : ∃ sd, (seed * 48271 + cell + 12345).fmod 2147483647 = sd := ⟨_, rfl⟩
  have sb := fmod_bd (a := seed * 48271 + cell + 12345) (b := 2147483647) (by decide)
  rw [esd] at sb
  have m1 : CMul seed 48271 := .inr (by decide)
  have m2 : CMul sd sd := .inl (by omega)
  have d1 : CDivN ((sd * sd).fmod 2147483629) 16 := ⟨by decide, by decide⟩
  refine seq_of fun N hN => ?_
  simp [getSet en, ix1, ix2, jx2, m1, esd]
  refine hN _ _ ?_
  clear hN
  simp [getSet en, ix2, m2, d1, hs]
  refine q _ _ ⟨h.ne, at' + 1, sd, cs, getSet en, ?_, sb.1, sb.2, nn, pos⟩ (Lk.refl.setN _) (fmod_bd h0).1 (fmod_bd h0).2
  rw [List.getElem?_set_ne h.ne]; exact ek
end Gd

/-! Gm, part 3: lists alike; comprehensions; the draws' begin, picks and words. -/
namespace Gd
open PySem L2 PyProof.Rows

/-! ### lists that are alike -/
theorem pyL_ints (cs : List Int) : pyL (cs.map .int) = some (cs.map .int) := by
  induction cs with
  | nil => rfl
  | cons c cs ih => simp [pyL, py, ih]
theorem pyL_strs (cs : List Str) : pyL (cs.map .str) = some (cs.map .str) := by
  induction cs with
  | nil => rfl
  | cons c cs ih => simp [pyL, py, ih]
theorem lay_ints (cs : List Int) : PyData.canLayAll0 (cs.map .int) = true ∧ PyData.depthAll (cs.map .int) = 0 := by
  induction cs with
  | nil => simp [PyData.canLayAll0, PyData.depthAll]
  | cons c cs ih => simp [PyData.canLayAll0, PyData.depthAll, PyData.canLay0, PyData.depth, ih]
theorem lay_strs (cs : List Str) (h : ∀ c ∈ cs, PyData.strOk c = true) : PyData.canLayAll0 (cs.map .str) = true ∧ PyData.depthAll (cs.map .str) = 0 := by
  induction cs with
  | nil => simp [PyData.canLayAll0, PyData.depthAll]
  | cons c cs ih =>
    have ih := ih fun x hx => h x (List.mem_cons_of_mem _ hx)
    simp [PyData.canLayAll0, PyData.depthAll, PyData.canLay0, PyData.depth, ih, h c]
theorem shp_ints (cs : List Int) : SeqAt.shaped (.list (cs.map .int)) = true := by
  obtain ⟨h1, h2⟩ := lay_ints cs
  simp [SeqAt.shaped, PyData.canLay0, PyData.depth, h1, h2]
theorem shp_strs (cs : List Str) (h : ∀ c ∈ cs, PyData.strOk c = true) : SeqAt.shaped (.list (cs.map .str)) = true := by
  obtain ⟨h1, h2⟩ := lay_strs cs h
  simp [SeqAt.shaped, PyData.canLay0, PyData.depth, h1, h2]
theorem eqv_ints : ∀ (as bs : List Int), PyData.eqvAll (as.map .int) (bs.map .int) = decide (as = bs)
  | [], [] => by simp [PyData.eqvAll]
  | [], _ :: _ => by simp [PyData.eqvAll]
  | _ :: _, [] => by simp [PyData.eqvAll]
  | a :: as, b :: bs => by
    simp only [List.map_cons, PyData.eqvAll, PyData.eqv, eqv_ints as bs, List.cons.injEq]
    rw [Bool.decide_and]
    rfl
theorem eqv_strs : ∀ (as bs : List Str), PyData.eqvAll (as.map .str) (bs.map .str) = decide (as = bs)
  | [], [] => by simp [PyData.eqvAll]
  | [], _ :: _ => by simp [PyData.eqvAll]
  | _ :: _, [] => by simp [PyData.eqvAll]
  | a :: as, b :: bs => by
    simp only [List.map_cons, PyData.eqvAll, PyData.eqv, eqv_strs as bs, List.cons.injEq]
    rw [Bool.decide_and]
    rfl
theorem eq_ints (as bs : List Int) : d_eq (.lst (as.map .int)) (.lst (bs.map .int)) = some (.bl (decide (as = bs))) := by
  have h : eqDp (.lst (as.map .int)) (.lst (bs.map .int)) = some (decide (as = bs)) := by
    simp [eqDp, py, pyL_ints, shp_ints, PyData.eqv, eqv_ints]
  unfold d_eq
  rw [h]
  rfl
theorem eq_strs (as bs : List Str) (ha : ∀ c ∈ as, PyData.strOk c = true) (hb : ∀ c ∈ bs, PyData.strOk c = true) : d_eq (.lst (as.map .str)) (.lst (bs.map .str)) = some (.bl (decide (as = bs))) := by
  have h : eqDp (.lst (as.map .str)) (.lst (bs.map .str)) = some (decide (as = bs)) := by
    simp [eqDp, py, pyL_strs, shp_strs as ha, shp_strs bs hb, PyData.eqv, eqv_strs]
  unfold d_eq
  rw [h]
  rfl
/-! ### a comprehension whose test and element leave the store -/
section
variable {ρ : Ro} {S : Sg} {Q : D → Sg → Prop}
theorem W_map {vs : List Nat} {mi : MI} {tgt : D → Ro → Option Ro} {t : MT} {e : ME} (g : D → D) (p : D → Bool)
    (h : (mi ρ S).W fun ds S1 => (∀ d ∈ ds, ∃ ρ1, tgt d (wipeR ρ vs) = some ρ1 ∧ (t ρ1 S1).W (fun b S2 => b = p d ∧ S2 = S1) ∧ (p d = true → (e ρ1 S1).W fun y S2 => y = g d ∧ isLoc y = false ∧ S2 = S1)) ∧ ds.length ≤ 100000 ∧ Q (.lst ((ds.filter p).map g)) S1) : (f_lc vs mi tgt t e ρ S).W Q := by
  obtain ⟨ds, S1, e1, h1, h2, h3⟩ := h.eq
  refine W_lc (fun ys r S' => S' = S1 ∧ ys.length + r.length ≤ 100000 ∧ (∀ d ∈ r, d ∈ ds) ∧ ys ++ (r.filter p).map g = (ds.filter p).map g) ?_ ?_ ?_
  · rw [e1]
    exact ⟨rfl, by simpa using h2, fun d h => h, by simp⟩
  · rintro ys d r S' ⟨rfl, hl, hm, he⟩
    obtain ⟨ρ1, k1, k2, k3⟩ := h1 d (hm d (List.mem_cons_self ..))
    refine ⟨ρ1, k1, k2.mono ?_⟩
    rintro b S2 ⟨rfl, rfl⟩
    have hm' : ∀ x ∈ r, x ∈ ds := fun x hx => hm x (List.mem_cons_of_mem _ hx)
    rw [List.length_cons] at hl
    cases hp : p d with
    | true =>
      rw [if_pos rfl]
      refine (k3 hp).mono ?_
      rintro y S3 ⟨rfl, hy, rfl⟩
      refine ⟨hy, rfl, by rw [List.length_append]; simp; omega, hm', ?_⟩
      rw [List.filter_cons, if_pos hp, List.map_cons] at he
      rw [List.append_assoc]
      exact he
    | false =>
      rw [if_neg (by simp)]
      refine ⟨rfl, by omega, hm', ?_⟩
      rw [List.filter_cons, if_neg (by simp [hp])] at he
      exact he
  · rintro ys S' ⟨rfl, hl, _, he⟩
    simp at he hl
    refine ⟨hl, ?_⟩
    rw [he]
    exact h3
end
/-! ### begin -/
def beginB : MS := (s_seq (s_set 1 (e_sh (f_lc [2] (i_seqC (e_sl d_sl (e_var 0) o_no (o_e (e_c (.int 63))))) (t_name 2) t_yes (e_cb (d_1 d_abs) (a_cons (e_var 2) a_nil)))))
  (s_seq (s_if (t_e (e_op2 d_eq (e_var 1) (f_lst a_nil))) (s_set 1 (e_sh (f_lst (a_cons (e_c (.int 7)) a_nil)))) s_nx)
  (s_ret (e_sh (f_lst (a_cons (e_var 1) (a_cons (e_c (.int 0)) (a_cons (e_c (.int 1)) a_nil))))))))
def beginM : List D → Sg → Out D := Gd.fn 3 beginB 1
theorem cutD_all {ds : List D} (h : ds.length ≤ 63) : cutD ds none (some 63) = ds := by
  unfold cutD
  have e : HT.sIx ds.length ds.length (some 63) = ds.length := by
    have := HT.sIx_nat ds.length ds.length 63
    exact this.trans (Nat.min_eq_right h)
  rw [e, HT.sIx_none]
  simp
def absD : D → D
  | .int i => .int (if i < 0 then -i else i)
  | d => d
theorem begin_W {ns : List Int} {Q : D → Sg → Prop} (hl : ns.length ≤ 63) (q : ∀ n k S', Dr n k S' → n < S'.length → k < S'.length → Q (.obj n) S') : (beginM [.lst (ns.map .int)] []).W Q := by
  unfold beginM
  rw [W_fn]
  refine ⟨rfl, ?_⟩
  unfold beginB
  have ec : cutD (ns.map .int) none (some 63) = ns.map .int := cutD_all (by rw [List.length_map]; exact hl)
  refine seq_of fun N hN => ?_
  simp only [W_set, W_sh]
  refine W_map absD (fun _ => true) ?_
  simp [ec, List.replicate, wipeR, absD]
  refine ⟨Nat.le_trans hl (by decide), ?_⟩
  obtain ⟨cs, ecs⟩ : ∃ cs, ns.map (fun i => if i < 0 then -i else i) = cs := ⟨_, rfl⟩
  have e1 : List.map absD (List.filter (fun _ => true) (ns.map D.int)) = cs.map D.int := by
    rw [← ecs, List.map_map, List.filter_eq_self.mpr (fun _ _ => rfl), List.map_map]; rfl
  have cp : ∀ c ∈ cs, 0 ≤ c := by
    rw [← ecs]
    intro c hc
    obtain ⟨i, _, rfl⟩ := List.mem_map.mp hc
    split <;> omega
  rw [e1]
  refine hN _ _ ?_
  clear hN
  have e0 : d_eq (.lst (cs.map .int)) (.lst []) = some (.bl (decide (cs = []))) := eq_ints cs []
  refine seq_of fun N hN => ?_
  simp [e0]
  split
  · refine hN _ _ ?_
    simp
    exact q 2 1 _ ⟨by decide, 0, 1, [7], rfl, rfl, by decide, by decide, by decide, by decide⟩ (by simp) (by simp)
  · next hne =>
    refine hN _ _ ?_
    simp
    exact q 1 0 _ ⟨by decide, 0, 1, cs, rfl, rfl, by decide, by decide, hne, cp⟩ (by simp) (by simp)
/-! ### picks -/
def pickB : MS := (s_ret (e_op2 d_ix (e_var 1) (e_call takeM (a_cons (e_var 0) (a_cons (e_cb (d_1 d_len) (a_cons (e_var 1) a_nil)) a_nil)))))
def pickM : List D → Sg → Out D := Gd.fn 2 pickB 2
theorem pick_W {n k : Nat} {S : Sg} {ds : List D} {Q : D → Sg → Prop} (h : Dr n k S) (h0 : 0 < ds.length) (h1 : ds.length < 1073741824) (hn : ∀ d ∈ ds, isLoc d = false)
    (q : ∀ d S', Dr n k S' → Lk n k S S' → d ∈ ds → Q d S') : (pickM [.obj n, .lst ds] S).W Q := by
  unfold pickM
  rw [W_fn]
  refine ⟨rfl, ?_⟩
  unfold pickB
  simp [List.replicate]
  refine take_W h (by omega) (by omega) fun r S' d l r0 r1 => ?_
  obtain ⟨x, x1, x2, _⟩ := atI_nn r0 r1
  have hm := List.mem_of_getElem? x1
  simp [x2, hn x hm]
  exact q x S' d l hm
theorem pickS_W {n k : Nat} {S : Sg} {z : Str} {Q : D → Sg → Prop} (h : Dr n k S) (h0 : 0 < z.cps.size) (h1 : z.cps.size ≤ 100000)
    (q : ∀ c S', Dr n k S' → Lk n k S S' → c ∈ z.cps.toList → Q (.str ⟨#[c]⟩) S') : (pickM [.obj n, .str z] S).W Q := by
  unfold pickM
  rw [W_fn]
  refine ⟨rfl, ?_⟩
  unfold pickB
  have hz : z.length ≤ 100000 := h1
  have hz2 : z.length = z.cps.toList.length := by simp [Str.length]
  simp [List.replicate, hz]
  refine take_W h (by rw [hz2]; simp; omega) (by omega) fun r S' d l r0 r1 => ?_
  rw [hz2] at r1
  obtain ⟨x, x1, x2, _⟩ := atI_nn r0 r1
  have hm := List.mem_of_getElem? x1
  simp [x2, hz]
  exact q x S' d l hm
/-! ### words -/
def keptS : List Str := ["not", "never", "may"]
def letters : Str := "abcdefghijklmnopqrstuvwxyz"
def smallS (z : Str) : Prop := ∀ c ∈ z.cps.toList, 97 ≤ c ∧ c ≤ 122
instance (z : Str) : Decidable (smallS z) := inferInstanceAs (Decidable (∀ c ∈ z.cps.toList, 97 ≤ c ∧ c ≤ 122))
def isW (z : Str) : Prop := (1 ≤ z.length ∧ z.length ≤ 8) ∧ smallS z ∧ z ∉ keptS
instance (z : Str) : Decidable (isW z) := inferInstanceAs (Decidable (_ ∧ _ ∧ _))
theorem str_len (z : Str) : z.length = z.cps.toList.length := by simp [Str.length]
theorem flat_strs (ss : List Str) : (ss.map D.str).all flatD = true := by
  rw [List.all_eq_true]
  intro d hd
  obtain ⟨z, _, rfl⟩ := List.mem_map.mp hd
  rfl
theorem inD_strs (z : Str) (ss : List Str) : inD (.str z) (ss.map .str) = some (decide (z ∈ ss)) := by
  unfold inD
  rw [if_pos ⟨rfl, flat_strs ss⟩]
  congr 1
  induction ss with
  | nil => rfl
  | cons s ss ih =>
    rw [List.map_cons, List.any_cons, ih]
    show ((s == z) || decide (z ∈ ss)) = decide (z ∈ s :: ss)
    by_cases h : s = z
    · subst h; simp
    · have h2 : z ≠ s := fun e => h e.symm
      simp [h, h2]
theorem in_strs (neg : Bool) (z : Str) (ss : List Str) : d_in neg (.str z) (.lst (ss.map .str)) = some (.bl (if neg then !decide (z ∈ ss) else decide (z ∈ ss))) := by
  unfold d_in
  simp only [inD_strs]
  rfl
theorem in_strsT (neg : Bool) (z : Str) (ss : List Str) : d_in neg (.str z) (.tup (ss.map .str)) = some (.bl (if neg then !decide (z ∈ ss) else decide (z ∈ ss))) := by
  unfold d_in
  simp only [inD_strs]
  rfl
theorem in_sign (neg : Bool) (c : Nat) (z : Str) : d_in neg (.str ⟨#[c]⟩) (.str z) = some (.bl (if neg then !decide (c ∈ z.cps.toList) else decide (c ∈ z.cps.toList))) := rfl
theorem app_list (a b : Str) : (a ++ b).cps.toList = a.cps.toList ++ b.cps.toList := by
  show (Str.append a b).cps.toList = _
  simp [Str.append]
theorem small_ok {z : Str} (h : smallS z) : PyData.strOk z = true := by
  unfold PyData.strOk
  rw [Array.all_eq_true']
  intro c hc
  have := h c (by simpa using hc)
  simp; omega
end Gd

/-! Gm, part 4: drawn words; what is a name. -/
namespace Gd
open PySem L2 PyProof.Rows

def ownS : List Str := ["lot", "held", "back", "by", "in", "all", "some", "none", "rule", "told", "rank", "nots", "a", "z", "maybe"]
def wordB : MS := (s_seq (s_set 1 (f_lst (a_cons (e_c (.str "lot")) (a_cons (e_c (.str "held")) (a_cons (e_c (.str "back")) (a_cons (e_c (.str "by")) (a_cons (e_c (.str "in")) (a_cons (e_c (.str "all")) (a_cons (e_c (.str "some")) (a_cons (e_c (.str "none")) (a_cons (e_c (.str "rule")) (a_cons (e_c (.str "told")) (a_cons (e_c (.str "rank")) (a_cons (e_c (.str "nots")) (a_cons (e_c (.str "a")) (a_cons (e_c (.str "z")) (a_cons (e_c (.str "maybe")) a_nil)))))))))))))))))
  (s_seq (s_if (t_e (e_op2 d_eq (e_call takeM (a_cons (e_var 0) (a_cons (e_c (.int 4)) a_nil))) (e_c (.int 0)))) (s_ret (e_call pickM (a_cons (e_var 0) (a_cons (e_var 1) a_nil)))) s_nx)
  (s_seq (s_set 2 (e_c (.str "")))
  (s_seq (s_for (i_rng (a_cons (e_op2 d_add (e_c (.int 1)) (e_call takeM (a_cons (e_var 0) (a_cons (e_c (.int 8)) a_nil)))) a_nil)) (t_name 3) (s_set 2 (e_op2 d_add (e_var 2) (e_op2 d_ix (e_c (.str "abcdefghijklmnopqrstuvwxyz")) (e_call takeM (a_cons (e_var 0) (a_cons (e_c (.int 26)) a_nil)))))))
  (s_seq (s_if (t_e (e_op2 (d_in false) (e_var 2) (f_lst (a_cons (e_c (.str "not")) (a_cons (e_c (.str "never")) (a_cons (e_c (.str "may")) a_nil)))))) (s_ret (e_sl d_sl (e_var 2) o_no (o_e (e_op1 d_neg (e_c (.int 1)))))) s_nx)
  (s_ret (e_var 2)))))))
def wordM : List D → Sg → Out D := Gd.fn 4 wordB 1
theorem own_W : ∀ z ∈ ownS, isW z := by decide +kernel
theorem letters_small : smallS letters := by decide +kernel
theorem kept_cut : ∀ z ∈ keptS, isW (cutS z none (some (-1))) := by decide +kernel
theorem rng_no (lo : Int) (n : Nat) : ∀ d ∈ rng lo n, isLoc d = false := by
  intro d hd
  obtain ⟨i, _, rfl⟩ := List.mem_map.mp hd
  rfl
theorem rng_len (lo : Int) (n : Nat) : (rng lo n).length = n := by simp [rng]
/-- a letter by its place -/
theorem letter_W {n k : Nat} {S : Sg} {Q : D → Sg → Prop} {ρ : Ro} {i : Nat} (hρ : ρ[i]? = some (.va (.obj n))) (h : Dr n k S) (q : ∀ c S', Dr n k S' → Lk n k S S' → 97 ≤ c → c ≤ 122 → Q (.str ⟨#[c]⟩) S') :
    (e_op2 d_ix (e_c (.str "abcdefghijklmnopqrstuvwxyz")) (e_call takeM (a_cons (e_var i) (a_cons (e_c (.int 26)) a_nil))) ρ S).W Q := by
  simp [hρ]
  refine take_W h (by decide) (by decide) fun r S' d l r0 r1 => ?_
  obtain ⟨c, c1, c2, _⟩ := atI_nn (xs := letters.cps.toList) r0 (by rw [show (letters.cps.toList.length : Int) = 26 by decide +kernel]; exact r1)
  have hm := letters_small c (List.mem_of_getElem? c1)
  have e : d_ix (.str "abcdefghijklmnopqrstuvwxyz") (.int r) = some (.str ⟨#[c]⟩) := by
    show d_ix (.str letters) (.int r) = _
    rw [ix_str, if_pos (by decide +kernel), c2]
    rfl
  rw [ix_str] at e
  simp [e]
  exact q c S' d l hm.1 hm.2
theorem rng_1 {n : Int} (h : -100000 ≤ n ∧ n ≤ 100000) : rngOf [.int n] = some (rng 0 n.toNat) := by
  show (if _ then _ else _) = _
  rw [if_pos h]
def wordI (n k : Nat) (S : Sg) (ds : List D) (ρ : Ro) (S2 : Sg) : Prop := ∃ z m, ρ = [.va (.obj n), .va (.lst (ownS.map .str)), .va (.str z), m] ∧ Dr n k S2 ∧ Lk n k S S2 ∧ smallS z ∧ (z.length + ds.length ≤ 8 ∧ 1 ≤ z.length + ds.length) ∧ ∀ d ∈ ds, isLoc d = false
theorem word_W {n k : Nat} {S : Sg} {Q : D → Sg → Prop} (h : Dr n k S) (q : ∀ z S', Dr n k S' → Lk n k S S' → isW z → Q (.str z) S') : (wordM [.obj n] S).W Q := by
  unfold wordM
  rw [W_fn]
  refine ⟨rfl, ?_⟩
  unfold wordB
  refine seq_of fun N hN => ?_
  simp [List.replicate]
  refine hN _ _ ?_
  clear hN
  refine seq_of fun N hN => ?_
  simp
  refine take_W h (by decide) (by decide) fun r S1 d1 l1 r0 r1 => ?_
  simp
  split
  · refine pick_W (ds := ownS.map .str) d1 (by decide) (by decide) (fun d hd => ?_) fun d S2 d2 l2 hd => ?_
    · obtain ⟨z, _, rfl⟩ := List.mem_map.mp hd
      rfl
    · obtain ⟨z, hz, rfl⟩ := List.mem_map.mp hd
      simp
      exact q z S2 d2 (l1.trans l2) (own_W z hz)
  refine hN _ _ ?_
  clear hN
  refine seq_of fun N hN => ?_
  simp
  refine hN _ _ ?_
  clear hN
  refine seq_of fun N hN => ?_
  refine W_for (wordI n k S) ?_ ?_ ?_
  · simp
    refine take_W d1 (by decide) (by decide) fun r S2 d2 l2 r0 r1 => ?_
    simp [rng_1 (n := 1 + r) (by omega)]
    refine ⟨"", _, rfl, d2, l1.trans l2, by decide +kernel, ?_, rng_no _ _⟩
    rw [rng_len]
    have : ("" : Str).length = 0 := by decide +kernel
    omega
  · rintro d ds ρ S2 ⟨z, m, rfl, d2, l2, hz, hl, hd⟩
    have hd0 := hd d (List.mem_cons_self ..)
    refine ⟨_, by rw [tn_of, hd0]; rfl, ?_⟩
    rw [List.length_cons] at hl
    rw [W_set, W_op2]
    simp only [W_var]
    simp only [List.set_cons_succ, List.set_cons_zero, List.getElem?_cons_succ, List.getElem?_cons_zero]
    refine letter_W (i := 0) rfl d2 fun c S3 d3 l3 c0 c1 => ?_
    have e1 : (⟨#[c]⟩ : Str).length = 1 := rfl
    have e2 : (z ++ (⟨#[c]⟩ : Str)).length = z.length + 1 := by rw [str_len, app_list, List.length_append, ← str_len]; rfl
    have e3 : z.length + 1 ≤ 100000 := by omega
    simp [e1, e3]
    refine ⟨_, _, rfl, d3, l2.trans l3, ?_, ?_, fun x hx => hd x (List.mem_cons_of_mem _ hx)⟩
    · intro x hx
      rw [app_list] at hx
      rcases List.mem_append.mp hx with hx | hx
      · exact hz x hx
      · have : x = c := by simpa using hx
        rw [this]; exact ⟨c0, c1⟩
    · rw [e2]; omega
  · rintro ρ S2 ⟨z, m, rfl, d2, l2, hz, hl, _⟩
    refine hN _ _ ?_
    clear hN
    have ein : d_in false (.str z) (.lst [.str "not", .str "never", .str "may"]) = some (.bl (decide (z ∈ keptS))) := in_strs false z keptS
    have ez : z.length ≤ 100000 := by simp at hl; omega
    refine seq_of fun N hN => ?_
    simp [ein]
    split
    · next hk =>
      simp [ez]
      exact q _ _ d2 l2 (kept_cut z hk)
    · next hk =>
      refine hN _ _ ?_
      simp
      exact q _ _ d2 l2 ⟨by simpa [and_comm] using hl, hz, hk⟩
/-! ### what is a name -/
def nameB : MS := (s_seq (s_if (t_or (t_not (t_e (e_op1 (d_isi "str") (e_var 0)))) (t_or (t_not (t_e (e_chain d_le d_le (e_c (.int 1)) (e_cb (d_1 d_len) (a_cons (e_var 0) a_nil)) (e_c (.int 8))))) (t_e (e_op2 (d_in false) (e_var 0) (e_c (.tup [(.str "not"), (.str "never"), (.str "may")])))))) (s_ret (e_c (.bl false))) s_nx)
  (s_ret (e_cb (d_1 d_all) (a_cons (f_lc [1] (i_seqC (e_var 0)) (t_name 1) t_yes (e_chain d_le d_le (e_c (.str "a")) (e_var 1) (e_c (.str "z")))) a_nil))))
def nameM : List D → Sg → Out D := Gd.fn 2 nameB 1
/-- the type of what is no text -/
def noText : D → Bool
  | .str _ => false
  | d => (((tyD d).bind fun a => kitB a "str")) == some false
theorem isi_text (z : Str) : d_isi "str" (.str z) = some (.bl true) := by
  unfold d_isi
  rfl
theorem isi_other {d : D} (h : noText d = true) : d_isi "str" d = some (.bl false) := by
  have : ((tyD d).bind fun a => kitB a "str") = some false := by
    cases d <;> first | (simp [noText] at h; exact h) | cases h
  unfold d_isi
  rw [this]
  rfl
theorem bls_of (bs : List Bool) : blsOf (bs.map .bl) = some bs := by
  induction bs with
  | nil => rfl
  | cons b bs ih => simp [blsOf, asBl, ih]
def smallD : D → Bool
  | .str x => x.cps.toList.all fun c => decide (97 ≤ c ∧ c ≤ 122)
  | _ => false
theorem one_lt (a b : Nat) : (([a] : List Nat) < [b]) ↔ a < b := by
  constructor
  · intro h
    cases h with
    | rel h => exact h
    | cons h => cases h
  · exact fun h => List.Lex.rel h
theorem le_az (c : Nat) : d_le (.str "a") (.str ⟨#[c]⟩) = some (.bl (decide (97 ≤ c))) ∧ d_le (.str ⟨#[c]⟩) (.str "z") = some (.bl (decide (c ≤ 122))) := by
  have ea : ("a" : Str).cps.toList = [97] := by decide +kernel
  have ez : ("z" : Str).cps.toList = [122] := by decide +kernel
  rw [le_str, le_str, ea, ez]
  constructor
  · congr 2
    rw [← decide_not, decide_eq_decide, one_lt]; omega
  · congr 2
    rw [← decide_not, decide_eq_decide, one_lt]; omega
theorem name_text {z : Str} {S : Sg} {Q : D → Sg → Prop} (hl : z.length ≤ 100000) (q : Q (.bl (decide (isW z))) S) : (nameM [.str z] S).W Q := by
  unfold nameM
  rw [W_fn]
  refine ⟨rfl, ?_⟩
  unfold nameB
  have ein : d_in false (.str z) (.tup [.str "not", .str "never", .str "may"]) = some (.bl (decide (z ∈ keptS))) := in_strsT false z keptS
  have e1 : (1 : Int) ≤ (z.length : Int) ↔ 1 ≤ z.length := by omega
  have e8 : (z.length : Int) ≤ 8 ↔ z.length ≤ 8 := by omega
  refine seq_of fun N hN => ?_
  simp [List.replicate, isi_text, hl, ein]
  by_cases c1 : 1 ≤ z.length
  · by_cases c8 : z.length ≤ 8
    · by_cases ck : z ∈ keptS
      · have hw : ¬ isW z := fun w => w.2.2 ck
        simp [e1, e8, c1, c8, ck]
        simpa [hw] using q
      · simp [e1, e8, c1, c8, ck]
        refine hN _ _ ?_
        rw [W_ret, W_cb, W_acons]
        refine W_map (fun d => .bl (smallD d)) (fun _ => true) ?_
        simp [List.replicate, wipeR]
        refine ⟨?_, ?_, ?_⟩
        · intro d hd
          obtain ⟨c, _, rfl⟩ := List.mem_map.mp hd
          refine ⟨rfl, ?_⟩
          simp [(le_az c).1, (le_az c).2]
          by_cases h : 97 ≤ c <;> simp [h, smallD]
        · rw [signs, List.length_map, ← str_len]; omega
        · have e : List.map (fun d => D.bl (smallD d)) (List.filter (fun x => true) (signs z)) = ((z.cps.toList.map fun c => decide (97 ≤ c ∧ c ≤ 122)).map .bl) := by
            rw [List.filter_eq_self.mpr (fun _ _ => rfl), signs, List.map_map, List.map_map]
            refine List.map_congr_left fun c _ => ?_
            simp [smallD]
          simp only [e, d_all, bls_of, Option.map_some, Option.some.injEq, exists_eq_left', lo_bl]
          have hw : (List.map (fun c => decide (97 ≤ c ∧ c ≤ 122)) z.cps.toList).all id = decide (isW z) := by
            rw [Bool.eq_iff_iff, decide_eq_true_iff, List.all_map, List.all_eq_true]
            constructor
            · intro h
              exact ⟨⟨c1, c8⟩, fun c hc => by simpa using h c hc, ck⟩
            · intro h c hc
              simpa using h.2.1 c hc
          rw [hw]
          simpa using q
    · have hw : ¬ isW z := fun w => c8 w.1.2
      simp [e1, e8, c1, c8]
      simpa [hw] using q
  · have hw : ¬ isW z := fun w => c1 w.1.1
    simp [e1, c1]
    simpa [hw] using q
theorem name_other {d : D} {S : Sg} {Q : D → Sg → Prop} (h : noText d = true) (hd : deref [.va d, .un] S d = some d) (q : Q (.bl false) S) : (nameM [d] S).W Q := by
  unfold nameM
  rw [W_fn]
  refine ⟨rfl, ?_⟩
  unfold nameB
  refine seq_of fun N hN => ?_
  simp [List.replicate, hd, isi_other h]
  exact q
end Gd

namespace Nk01
open PySem L2 Gd PyProof.Rows
def b__law_begin : MS := (s_seq (s_set 1 (e_sh (f_lc [2] (i_seqC (e_sl d_sl (e_var 0) o_no (o_e (e_c (.int 63))))) (t_name 2) t_yes (e_cb (d_1 d_abs) (a_cons (e_var 2) a_nil)))))
  (s_seq (s_if (t_e (e_op2 d_eq (e_var 1) (f_lst a_nil))) (s_set 1 (e_sh (f_lst (a_cons (e_c (.int 7)) a_nil)))) s_nx)
  (s_ret (e_sh (f_lst (a_cons (e_var 1) (a_cons (e_c (.int 0)) (a_cons (e_c (.int 1)) a_nil))))))))
def m__law_begin : List D → Sg → Out D := Gd.fn 3 b__law_begin 1
def b__law_take : MS := (s_seq (s_set 2 (e_op2 d_ix (e_var 0) (e_c (.int 0))))
  (s_seq (s_set 3 (e_op2 d_mod (e_op2 d_ix (e_var 0) (e_c (.int 1))) (e_cb (d_1 d_len) (a_cons (e_var 2) a_nil))))
  (s_seq (s_set 4 (e_op2 d_ix (e_var 2) (e_var 3)))
  (s_seq (s_if (t_e (e_op2 d_ge (e_var 4) (e_op2 d_pow (e_c (.int 10)) (e_c (.int 18))))) (s_seq (s_seti (e_op2 d_fdiv (e_var 4) (e_var 1)) (e_var 2) (e_var 3))
  (s_ret (e_op2 d_mod (e_var 4) (e_var 1)))) s_nx)
  (s_seq (s_seti (e_op2 d_add (e_op2 d_ix (e_var 0) (e_c (.int 1))) (e_c (.int 1))) (e_var 0) (e_c (.int 1)))
  (s_seq (s_seti (e_op2 d_mod (e_op2 d_add (e_op2 d_add (e_op2 d_mul (e_op2 d_ix (e_var 0) (e_c (.int 2))) (e_c (.int 48271))) (e_var 4)) (e_c (.int 12345))) (e_c (.int 2147483647))) (e_var 0) (e_c (.int 2)))
  (s_ret (e_op2 d_mod (e_op2 d_fdiv (e_op2 d_mod (e_op2 d_mul (e_op2 d_ix (e_var 0) (e_c (.int 2))) (e_op2 d_ix (e_var 0) (e_c (.int 2)))) (e_c (.int 2147483629))) (e_c (.int 16))) (e_var 1)))))))))
def m__law_take : List D → Sg → Out D := Gd.fn 5 b__law_take 2
def b__law_pick : MS := (s_ret (e_op2 d_ix (e_var 1) (e_call m__law_take (a_cons (e_var 0) (a_cons (e_cb (d_1 d_len) (a_cons (e_var 1) a_nil)) a_nil)))))
def m__law_pick : List D → Sg → Out D := Gd.fn 2 b__law_pick 2
def b__law_word : MS := (s_seq (s_set 1 (f_lst (a_cons (e_c (.str "lot")) (a_cons (e_c (.str "held")) (a_cons (e_c (.str "back")) (a_cons (e_c (.str "by")) (a_cons (e_c (.str "in")) (a_cons (e_c (.str "all")) (a_cons (e_c (.str "some")) (a_cons (e_c (.str "none")) (a_cons (e_c (.str "rule")) (a_cons (e_c (.str "told")) (a_cons (e_c (.str "rank")) (a_cons (e_c (.str "nots")) (a_cons (e_c (.str "a")) (a_cons (e_c (.str "z")) (a_cons (e_c (.str "maybe")) a_nil)))))))))))))))))
  (s_seq (s_if (t_e (e_op2 d_eq (e_call m__law_take (a_cons (e_var 0) (a_cons (e_c (.int 4)) a_nil))) (e_c (.int 0)))) (s_ret (e_call m__law_pick (a_cons (e_var 0) (a_cons (e_var 1) a_nil)))) s_nx)
  (s_seq (s_set 2 (e_c (.str "")))
  (s_seq (s_for (i_rng (a_cons (e_op2 d_add (e_c (.int 1)) (e_call m__law_take (a_cons (e_var 0) (a_cons (e_c (.int 8)) a_nil)))) a_nil)) (t_name 3) (s_set 2 (e_op2 d_add (e_var 2) (e_op2 d_ix (e_c (.str "abcdefghijklmnopqrstuvwxyz")) (e_call m__law_take (a_cons (e_var 0) (a_cons (e_c (.int 26)) a_nil)))))))
  (s_seq (s_if (t_e (e_op2 (d_in false) (e_var 2) (f_lst (a_cons (e_c (.str "not")) (a_cons (e_c (.str "never")) (a_cons (e_c (.str "may")) a_nil)))))) (s_ret (e_sl d_sl (e_var 2) o_no (o_e (e_op1 d_neg (e_c (.int 1)))))) s_nx)
  (s_ret (e_var 2)))))))
def m__law_word : List D → Sg → Out D := Gd.fn 4 b__law_word 1
def b__law_thing : MS := (s_seq (s_set 1 (e_call m__law_take (a_cons (e_var 0) (a_cons (e_c (.int 6)) a_nil))))
  (s_seq (s_set 2 (e_call m__law_word (a_cons (e_var 0) a_nil)))
  (s_seq (s_if (t_e (e_op2 d_eq (e_var 1) (e_c (.int 1)))) (s_ret (e_m1 d_join (e_c (.str "")) (f_lc [5] (i_rng (a_cons (e_call m__law_take (a_cons (e_var 0) (a_cons (e_c (.int 11)) a_nil))) a_nil)) (t_name 5) t_yes (e_call m__law_pick (a_cons (e_var 0) (a_cons (e_c (.str "abcdefghijklmnopqrstuvwxyz")) a_nil)))))) s_nx)
  (s_seq (s_if (t_e (e_op2 d_eq (e_var 1) (e_c (.int 2)))) (s_seq (s_set 3 (e_call m__law_pick (a_cons (e_var 0) (a_cons (f_lst (a_cons (e_c (.str "not")) (a_cons (e_c (.str "never")) (a_cons (e_c (.str "may")) a_nil)))) a_nil))))
  (s_ret (e_op2 d_ix (f_lst (a_cons (e_var 3) (a_cons (e_sl d_sl (e_var 3) o_no (o_e (e_op1 d_neg (e_c (.int 1))))) (a_cons (e_op2 d_add (e_var 3) (e_op2 d_ix (e_var 3) (e_c (.int 0)))) (a_cons (e_op2 d_add (e_op2 d_ix (e_var 3) (e_c (.int 0))) (e_var 3)) a_nil))))) (e_call m__law_take (a_cons (e_var 0) (a_cons (e_c (.int 4)) a_nil)))))) s_nx)
  (s_seq (s_if (t_e (e_op2 d_eq (e_var 1) (e_c (.int 3)))) (s_seq (s_set 4 (e_call m__law_take (a_cons (e_var 0) (a_cons (e_op2 d_add (e_cb (d_1 d_len) (a_cons (e_var 2) a_nil)) (e_c (.int 1))) a_nil))))
  (s_ret (e_op2 d_add (e_op2 d_add (e_sl d_sl (e_var 2) o_no (o_e (e_var 4))) (e_call m__law_pick (a_cons (e_var 0) (a_cons (e_c (.str "ABZ019_ -,.<\n\t'")) a_nil)))) (e_sl d_sl (e_var 2) (o_e (e_var 4)) o_no)))) s_nx)
  (s_seq (s_if (t_e (e_op2 d_eq (e_var 1) (e_c (.int 4)))) (s_ret (e_call m__law_pick (a_cons (e_var 0) (a_cons (f_lst (a_cons (e_c (.int 0)) (a_cons (e_c (.int 7)) (a_cons (e_c (.bl true)) (a_cons (e_c (.bl false)) (a_cons (e_c .non) (a_cons (f_lst (a_cons (e_var 2) a_nil)) (a_cons (e_tup (a_cons (e_var 2) a_nil)) (a_cons (f_disp [((e_var 2), (e_c (.int 1)))]) (a_cons (f_lst a_nil) (a_cons (e_tup a_nil) a_nil))))))))))) a_nil)))) s_nx)
  (s_ret (e_var 2))))))))
def m__law_thing : List D → Sg → Out D := Gd.fn 6 b__law_thing 1
def b_is_name : MS := (s_seq (s_if (t_or (t_not (t_e (e_op1 (d_isi "str") (e_var 0)))) (t_or (t_not (t_e (e_chain d_le d_le (e_c (.int 1)) (e_cb (d_1 d_len) (a_cons (e_var 0) a_nil)) (e_c (.int 8))))) (t_e (e_op2 (d_in false) (e_var 0) (e_c (.tup [(.str "not"), (.str "never"), (.str "may")])))))) (s_ret (e_c (.bl false))) s_nx)
  (s_ret (e_cb (d_1 d_all) (a_cons (f_lc [1] (i_seqC (e_var 0)) (t_name 1) t_yes (e_chain d_le d_le (e_c (.str "a")) (e_var 1) (e_c (.str "z")))) a_nil))))
def m_is_name : List D → Sg → Out D := Gd.fn 2 b_is_name 1
def b__law_due : MS := (s_seq (s_if (t_or (t_not (t_e (e_op1 (d_isi "str") (e_var 0)))) (t_e (e_op2 (d_in false) (e_var 0) (f_lst (a_cons (e_c (.str "not")) (a_cons (e_c (.str "never")) (a_cons (e_c (.str "may")) a_nil))))))) (s_ret (e_c (.bl false))) s_nx)
  (s_seq (s_set 1 (f_lc [2] (i_seqC (e_var 0)) (t_name 2) (t_e (e_op2 (d_in true) (e_var 2) (e_c (.str "abcdefghijklmnopqrstuvwxyz")))) (e_var 2)))
  (s_ret (e_and (e_op2 d_eq (e_var 1) (f_lst a_nil)) (e_chain d_lt d_lt (e_c (.int 0)) (e_cb (d_1 d_len) (a_cons (e_var 0) a_nil)) (e_c (.int 9)))))))
def m__law_due : List D → Sg → Out D := Gd.fn 3 b__law_due 1
def b_law : MS := (s_seq (s_set 1 (e_call m__law_begin (a_cons (e_var 0) a_nil)))
  (s_seq (s_for (i_rng (a_cons (e_c (.int 12)) a_nil)) (t_name 2) (s_seq (s_set 3 (e_call m__law_thing (a_cons (e_var 1) a_nil)))
  (s_for (i_seqG (f_lst (a_cons (e_call m_is_name (a_cons (e_var 3) a_nil)) (a_cons (e_callK m_is_name (fun _ es => es) a_nil (a_cons (e_var 3) a_nil)) a_nil)))) (t_name 4) (s_if (t_or (t_not (t_e (e_op1 (d_isi "bool") (e_var 4)))) (t_e (e_op2 d_ne (e_var 4) (e_call m__law_due (a_cons (e_var 3) a_nil))))) (s_ret (e_c (.bl false))) s_nx))))
  (s_ret (e_c (.bl true)))))
def m_law : List D → Sg → Out D := Gd.fn 5 b_law 1
end Nk01

namespace Nk01
open PySem L2 Gd PyProof.Rows
/-! ### texts by draws -/
def okS (z : Str) : Prop := z.length ≤ 100 ∧ ∀ c ∈ z.cps.toList, c < 1114112
instance (z : Str) : Decidable (okS z) := inferInstanceAs (Decidable (_ ∧ ∀ c ∈ z.cps.toList, c < 1114112))
theorem tl_cps (z : Str) : TL.tl z = z.cps.toList := rfl
theorem joinL_flat : ∀ ps : List (List Nat), TL.joinL [] ps = ps.flatten
  | [] => rfl
  | [p] => by simp [TL.joinL]
  | p :: q :: r => by
    rw [TL.joinL, joinL_flat (q :: r)]
    simp
theorem join_cps (ys : List Str) : (Txt.join "" ys).cps.toList = (ys.map fun y => y.cps.toList).flatten := by
  rw [TL.join_eq]
  have h := TL.tl_join "" ys
  rw [show TL.tl ("" : Str) = [] by decide +kernel, joinL_flat] at h
  exact h
theorem join_ok {ys : List Str} (h : ∀ y ∈ ys, ∃ c, y = ⟨#[c]⟩ ∧ c < 1114112) (hl : ys.length ≤ 100) : okS (Txt.join "" ys) := by
  have e : ∃ cs : List Nat, ys = cs.map (fun c => (⟨#[c]⟩ : Str)) ∧ ∀ c ∈ cs, c < 1114112 := by
    clear hl
    induction ys with
    | nil => exact ⟨[], rfl, fun _ h => nomatch h⟩
    | cons y ys ih =>
      obtain ⟨cs, e, k⟩ := ih fun x hx => h x (List.mem_cons_of_mem _ hx)
      obtain ⟨c, hc, k2⟩ := h y (List.mem_cons_self ..)
      refine ⟨c :: cs, by rw [hc, e]; rfl, fun x hx => ?_⟩
      rcases List.mem_cons.mp hx with hx | hx
      · rw [hx]; exact k2
      · exact k x hx
  obtain ⟨cs, rfl, k⟩ := e
  have e2 : (Txt.join "" (cs.map fun c => (⟨#[c]⟩ : Str))).cps.toList = cs := by
    rw [join_cps, List.map_map]
    clear k h hl
    induction cs with
    | nil => rfl
    | cons c cs ih => simpa using ih
  refine ⟨?_, fun c hc => ?_⟩
  · rw [str_len, e2]
    rw [List.length_map] at hl
    exact hl
  · rw [e2] at hc
    exact k c hc
theorem strs_of (ys : List Str) : strsOf (ys.map .str) = some ys := by
  induction ys with
  | nil => rfl
  | cons y ys ih => simp [strsOf, ih]
def thingD (d : D) : Prop := (∃ z, d = .str z ∧ okS z) ∨ (noText d = true ∧ isLoc d = false ∧ ∀ ρ S, deref ρ S d = some d)
theorem isW_ok {z : Str} (h : isW z) : okS z := ⟨by have := h.1.2; omega, fun c hc => by have := h.2.1 c hc; omega⟩
theorem cut_ok {z : Str} (h : okS z) (lo hi : Option Int) : okS (cutS z lo hi) := by
  refine ⟨?_, fun c hc => ?_⟩
  · rw [str_len]
    show ((z.cps.toList.drop _).take _).length ≤ 100
    have := h.1
    rw [str_len] at this
    simp only [List.length_take, List.length_drop]
    omega
  · have hc : c ∈ (z.cps.toList.drop _).take _ := hc
    exact h.2 c (List.mem_of_mem_drop (List.mem_of_mem_take hc))
theorem app_ok {a b : Str} {n : Nat} (ha : okS a) (hb : okS b) (h : a.length + b.length ≤ 100) : okS (a ++ b) := by
  refine ⟨?_, fun c hc => ?_⟩
  · rw [str_len, app_list, List.length_append, ← str_len, ← str_len]
    exact h
  · rw [app_list] at hc
    rcases List.mem_append.mp hc with hc | hc
    · exact ha.2 c hc
    · exact hb.2 c hc
theorem kept_0 : ∀ y ∈ keptS, y.length ≤ 5 ∧ okS y ∧ ∃ c, atI y.cps.toList 0 = some c ∧ c < 1114112 := by
  intro y hy
  simp only [keptS, List.mem_cons, List.not_mem_nil, or_false] at hy
  rcases hy with rfl | rfl | rfl
  · exact ⟨by decide +kernel, by decide +kernel, 110, by decide +kernel, by decide⟩
  · exact ⟨by decide +kernel, by decide +kernel, 110, by decide +kernel, by decide⟩
  · exact ⟨by decide +kernel, by decide +kernel, 109, by decide +kernel, by decide⟩
theorem cut_len (z : Str) (lo hi : Option Int) : (cutS z lo hi).length ≤ z.length := by
  rw [str_len, str_len]
  show ((z.cps.toList.drop _).take _).length ≤ _
  simp only [List.length_take, List.length_drop]
  omega
theorem sign_ok {c : Nat} (h : c < 1114112) : okS ⟨#[c]⟩ := ⟨show 1 ≤ 100 by decide, fun x hx => by
  have : x = c := by simpa using hx
  rw [this]; exact h⟩
theorem app_len (a b : Str) : (a ++ b).length = a.length + b.length := by
  rw [str_len, app_list, List.length_append, ← str_len, ← str_len]
def lcI (n k : Nat) (S : Sg) (ys ds : List D) (S2 : Sg) : Prop := Dr n k S2 ∧ Lk n k S S2 ∧ (∃ ss : List Str, ys = ss.map .str ∧ ∀ y ∈ ss, ∃ c, y = ⟨#[c]⟩ ∧ c < 1114112) ∧ ys.length + ds.length ≤ 10 ∧ ∀ d ∈ ds, isLoc d = false
def keptL : List D := keptS.map .str
def oddS : Str := "ABZ019_ -,.<\n\t'"
theorem thing_W {n k : Nat} {S : Sg} {Q : D → Sg → Prop} (h : Dr n k S) (q : ∀ d S', Dr n k S' → Lk n k S S' → thingD d → Q d S') : (m__law_thing [.obj n] S).W Q := by
  unfold m__law_thing
  rw [W_fn]
  refine ⟨rfl, ?_⟩
  unfold b__law_thing
  refine seq_of fun N hN => ?_
  simp [List.replicate]
  refine take_W h (by decide) (by decide) fun way S1 d1 l1 r0 r1 => ?_
  simp
  refine hN _ _ ?_
  clear hN
  refine seq_of fun N hN => ?_
  simp
  refine word_W d1 fun z S2 d2 l2 hz => ?_
  have zl : z.length ≤ 8 := hz.1.2
  have zl2 : z.length ≤ 100000 := by omega
  have L2 := l1.trans l2
  simp
  refine hN _ _ ?_
  clear hN
  refine seq_of fun N hN => ?_
  by_cases w1 : way = 1
  · simp [w1]
    refine W_lc (lcI n k S) ?_ ?_ ?_
    · simp
      refine take_W d2 (by decide) (by decide) fun r S3 d3 l3 r0 r1 => ?_
      simp [rng_1 (n := r) (by omega)]
      exact ⟨d3, L2.trans l3, ⟨[], rfl, fun _ h => nomatch h⟩, by rw [rng_len]; simp; omega, rng_no _ _⟩
    · rintro ys d ds S3 ⟨d3, l3, ⟨ss, rfl, hs⟩, hl, hd⟩
      have hd0 := hd d (List.mem_cons_self ..)
      refine ⟨_, by rw [tn_of, hd0]; rfl, ?_⟩
      simp [wipeR]
      refine pickS_W (z := letters) d3 (by decide +kernel) (by decide +kernel) fun c S4 d4 l4 hc => ?_
      have hc2 := letters_small c hc
      refine ⟨rfl, d4, l3.trans l4, ⟨ss ++ [⟨#[c]⟩], by simp, ?_⟩, ?_, fun x hx => hd x (List.mem_cons_of_mem _ hx)⟩
      · intro y hy
        rcases List.mem_append.mp hy with hy | hy
        · exact hs y hy
        · exact ⟨c, by simpa using hy, by omega⟩
      · simp at hl ⊢; omega
    · rintro ys S3 ⟨d3, l3, ⟨ss, rfl, hs⟩, hl, _⟩
      rw [List.length_map] at hl
      have hl2 : ss.length ≤ 10 := by simpa using hl
      refine ⟨by rw [List.length_map]; omega, ?_⟩
      have hsum : (ss.map (·.length)).sum = ss.length := by
        clear hl hl2
        induction ss with
        | nil => rfl
        | cons y ss ih =>
          obtain ⟨c, e, _⟩ := hs y (List.mem_cons_self ..)
          rw [List.map_cons, List.sum_cons, ih fun x hx => hs x (List.mem_cons_of_mem _ hx), e, List.length_cons]
          show 1 + _ = _
          omega
      have e0 : ("" : Str).length = 0 := by decide +kernel
      have ej : d_join "" (.lst (ss.map .str)) = some (.str (Txt.join "" ss)) := by
        show (strsOf (ss.map .str)).bind _ = _
        rw [strs_of]
        show (if _ then _ else _) = _
        rw [if_pos (by rw [hsum, e0]; omega)]
      simp [ej]
      exact q _ _ d3 l3 (.inl ⟨_, rfl, join_ok hs (by omega)⟩)
  simp [w1]
  refine hN _ _ ?_
  clear hN
  refine seq_of fun N hN => ?_
  by_cases w2 : way = 2
  · simp [w2]
    refine pick_W (ds := keptS.map .str) d2 (by decide) (by decide) (fun d hd => ?_) fun d S3 d3 l3 hd => ?_
    · obtain ⟨z, _, rfl⟩ := List.mem_map.mp hd
      rfl
    obtain ⟨y, hy, rfl⟩ := List.mem_map.mp hd
    obtain ⟨yl, yo, c, hc, cl⟩ := kept_0 y hy
    have yl2 : y.length ≤ 100000 := by omega
    have e1 : (⟨#[c]⟩ : Str).length = 1 := rfl
    have a1 : y.length + 1 ≤ 100000 := by omega
    have a2 : 1 + y.length ≤ 100000 := by omega
    simp [yl2, hc, e1, a1, a2]
    refine take_W d3 (by decide) (by decide) fun r S4 d4 l4 r0 r1 => ?_
    obtain ⟨x, x1, x2, _⟩ := atI_nn (xs := [D.str y, .str (cutS y none (some (-1))), .str (y ++ ⟨#[c]⟩), .str ((⟨#[c]⟩ : Str) ++ y)]) r0 r1
    have hm := List.mem_of_getElem? x1
    have hx : ∃ u, x = .str u ∧ okS u := by
      simp only [List.mem_cons, List.not_mem_nil, or_false] at hm
      rcases hm with rfl | rfl | rfl | rfl
      · exact ⟨_, rfl, yo⟩
      · exact ⟨_, rfl, cut_ok yo _ _⟩
      · exact ⟨_, rfl, app_ok (n := 0) yo (sign_ok cl) (by rw [e1]; omega)⟩
      · exact ⟨_, rfl, app_ok (n := 0) (sign_ok cl) yo (by rw [e1]; omega)⟩
    obtain ⟨u, rfl, hu⟩ := hx
    simp [x2]
    exact q _ _ d4 (L2.trans (l3.trans l4)) (.inl ⟨u, rfl, hu⟩)
  simp [w2]
  refine hN _ _ ?_
  clear hN
  refine seq_of fun N hN => ?_
  by_cases w3 : way = 3
  · simp [w3]
    refine ⟨zl2, ?_⟩
    refine take_W d2 (by omega) (by omega) fun r S3 d3 l3 r0 r1 => ?_
    simp [zl2]
    refine pickS_W (z := oddS) d3 (by decide +kernel) (by decide +kernel) fun c S4 d4 l4 hc => ?_
    have hc2 : ∀ c ∈ oddS.cps.toList, c < 1114112 := by decide +kernel
    have e1 : (⟨#[c]⟩ : Str).length = 1 := rfl
    have b1 := cut_len z none (some r)
    have b2 := cut_len z (some r) none
    have a1 : (cutS z none (some r)).length + 1 ≤ 100000 := by omega
    have e2 : (cutS z none (some r) ++ (⟨#[c]⟩ : Str)).length = (cutS z none (some r)).length + 1 := by rw [app_len, e1]
    have a2 : (cutS z none (some r)).length + 1 + (cutS z (some r) none).length ≤ 100000 := by omega
    simp [e1, a1, e2, a2]
    refine q _ _ d4 (L2.trans (l3.trans l4)) (.inl ⟨_, rfl, app_ok (n := 0) (app_ok (n := 0) (cut_ok (isW_ok hz) _ _) (sign_ok (hc2 c hc)) ?_) (cut_ok (isW_ok hz) _ _) ?_⟩)
    · rw [e1]; omega
    · rw [e2]; omega
  simp [w3]
  refine hN _ _ ?_
  clear hN
  refine seq_of fun N hN => ?_
  by_cases w4 : way = 4
  · simp [w4]
    refine ⟨_, rfl, ?_⟩
    refine pick_W d2 (by simp) (by simp) (fun d hd => ?_) fun d S3 d3 l3 hd => ?_
    · simp only [List.mem_cons, List.not_mem_nil, or_false] at hd
      rcases hd with rfl | rfl | rfl | rfl | rfl | rfl | rfl | rfl | rfl | rfl <;> rfl
    have hx : thingD d := by
      simp only [List.mem_cons, List.not_mem_nil, or_false] at hd
      rcases hd with rfl | rfl | rfl | rfl | rfl | rfl | rfl | rfl | rfl | rfl <;> exact .inr ⟨rfl, rfl, fun _ _ => rfl⟩
    have hl : isLoc d = false := by
      rcases hx with ⟨z, rfl, _⟩ | ⟨_, h, _⟩
      · rfl
      · exact h
    simp [hl]
    exact q _ _ d3 (L2.trans l3) hx
  simp [w4]
  refine hN _ _ ?_
  simp
  exact q _ _ d2 L2 (.inl ⟨z, rfl, isW_ok hz⟩)
def oddD : D → Bool
  | .str x => !decide (x.cps.getD 0 0 ∈ letters.cps.toList)
  | _ => false
theorem due_text {z : Str} {S : Sg} {Q : D → Sg → Prop} (hl : okS z) (q : Q (.bl (decide (isW z))) S) : (m__law_due [.str z] S).W Q := by
  unfold m__law_due
  rw [W_fn]
  refine ⟨rfl, ?_⟩
  unfold b__law_due
  have ein : d_in false (.str z) (.lst [.str "not", .str "never", .str "may"]) = some (.bl (decide (z ∈ keptS))) := in_strs false z keptS
  have zl : z.length ≤ 100000 := by have := hl.1; omega
  refine seq_of fun N hN => ?_
  simp [List.replicate, isi_text, ein]
  by_cases ck : z ∈ keptS
  · have hw : ¬ isW z := fun w => w.2.2 ck
    simp [ck]
    simpa [hw] using q
  simp [ck]
  refine hN _ _ ?_
  clear hN
  refine seq_of fun N hN => ?_
  rw [W_set]
  refine W_map (fun d => d) oddD ?_
  simp [wipeR]
  refine ⟨?_, ?_, ?_⟩
  · intro d hd
    obtain ⟨c, _, rfl⟩ := List.mem_map.mp hd
    refine ⟨rfl, ?_⟩
    have e := in_sign true c letters
    have e : d_in true (.str ⟨#[c]⟩) (.str "abcdefghijklmnopqrstuvwxyz") = some (.bl (!decide (c ∈ letters.cps.toList))) := e
    have e3 : oddD (.str ⟨#[c]⟩) = !decide (c ∈ letters.cps.toList) := rfl
    simp [e, e3]
  · rw [Gd.signs, List.length_map, ← str_len]; exact zl
  have e : ∃ os : List Nat, os = z.cps.toList.filter (fun c => !decide (c ∈ letters.cps.toList)) := ⟨_, rfl⟩
  obtain ⟨os, eo⟩ := e
  have e : List.filter oddD (Gd.signs z) = (os.map fun c => (⟨#[c]⟩ : Str)).map D.str := by
    rw [eo, Gd.signs, List.filter_map, List.map_map]
    rfl
  rw [e]
  have ho : ∀ y ∈ os.map (fun c => (⟨#[c]⟩ : Str)), PyData.strOk y = true := by
    intro y hy
    obtain ⟨c, hc, rfl⟩ := List.mem_map.mp hy
    rw [eo] at hc
    have := hl.2 c (List.mem_filter.mp hc).1
    simp [PyData.strOk, this]
  have e0 : d_eq (.lst ((os.map fun c => (⟨#[c]⟩ : Str)).map D.str)) (.lst []) = some (.bl (decide ((os.map fun c => (⟨#[c]⟩ : Str)) = []))) := eq_strs _ [] ho (fun _ h => nomatch h)
  refine hN _ _ ?_
  clear hN
  have lt : ∀ c, c ∈ letters.cps.toList ↔ 97 ≤ c ∧ c ≤ 122 := fun c => ⟨letters_small c, fun h => by
    have : ∀ k < 26, 97 + k ∈ letters.cps.toList := by decide +kernel
    have := this (c - 97) (by omega)
    rwa [show 97 + (c - 97) = c by omega] at this⟩
  have hs : os = [] ↔ smallS z := by
    rw [eo, List.filter_eq_nil_iff]
    constructor
    · intro h c hc
      have := h c hc
      simp at this
      exact (lt c).mp (by simpa using this)
    · intro h c hc
      simpa using (lt c).mpr (h c hc)
  rw [W_ret, W_eand]
  simp only [W_op2, W_var, List.set_cons_succ, List.set_cons_zero, List.getElem?_cons_succ, List.getElem?_cons_zero, W_lst, W_anil, de_lst, Option.bind_some, e0, Option.some.injEq, exists_eq_left', W_liftB]
  simp [zl, List.map_eq_nil_iff]
  have e9 : (0 : Int) < (z.length : Int) ↔ 1 ≤ z.length := by omega
  have e8 : (z.length : Int) < 9 ↔ z.length ≤ 8 := by omega
  by_cases c0 : os = []
  · have hz := hs.mp c0
    by_cases c1 : 0 < z.length
    · by_cases c8 : z.length ≤ 8
      · have hw : isW z := ⟨⟨c1, c8⟩, hz, ck⟩
        simp [c0, e9, e8, c1, c8]
        simpa [hw] using q
      · have hw : ¬ isW z := fun w => c8 w.1.2
        simp [c0, e9, e8, c1, c8]
        simpa [hw] using q
    · have hw : ¬ isW z := fun w => c1 w.1.1
      simp [c0, e9, c1]
      simpa [hw] using q
  · have hw : ¬ isW z := fun w => c0 (hs.mpr w.2.1)
    simp [c0]
    simpa [hw] using q
theorem due_other {d : D} {S : Sg} {Q : D → Sg → Prop} (h : noText d = true) (hd : ∀ ρ S, deref ρ S d = some d) (q : Q (.bl false) S) : (m__law_due [d] S).W Q := by
  unfold m__law_due
  rw [W_fn]
  refine ⟨rfl, ?_⟩
  unfold b__law_due
  refine seq_of fun N hN => ?_
  simp [List.replicate, hd, isi_other h]
  exact q
theorem isi_bool (b : Bool) : d_isi "bool" (.bl b) = some (.bl true) := by
  unfold d_isi
  rfl
def lawI (n k : Nat) (ds : List D) (ρ : Ro) (S : Sg) : Prop := ∃ a b c e, ρ = [a, .va (.obj n), b, c, e] ∧ Dr n k S ∧ ∀ d ∈ ds, isLoc d = false
def lawJ (n k : Nat) (d : D) (v : Bool) (ds : List D) (ρ : Ro) (S : Sg) : Prop := ∃ a b c, ρ = [a, .va (.obj n), b, .va d, c] ∧ Dr n k S ∧ ∀ x ∈ ds, x = .bl v
theorem law_true : ∀ ns : List Int, ns.length ≤ 63 → ∃ S', m_law [.lst (ns.map .int)] [] = .ok (.bl true) S' := by
  intro ns hl
  suffices h : (m_law [.lst (ns.map .int)] []).W fun d _ => d = .bl true by
    obtain ⟨d, S', e, rfl⟩ := h.eq
    exact ⟨S', e⟩
  unfold m_law
  rw [W_fn]
  refine ⟨rfl, ?_⟩
  unfold b_law
  refine seq_of fun N hN => ?_
  simp [List.replicate]
  refine begin_W hl fun n k S1 d1 _ _ => ?_
  simp
  refine hN _ _ ?_
  clear hN
  refine seq_of fun N hN => ?_
  refine W_for (lawI n k) ?_ ?_ ?_
  · simp [rng_1]
    exact ⟨_, _, _, _, rfl, d1, rng_no _ _⟩
  · rintro x ds ρ S2 ⟨a, b, c, e, rfl, d2, hd⟩
    have hd0 := hd x (List.mem_cons_self ..)
    refine ⟨_, by rw [tn_of, hd0]; rfl, ?_⟩
    refine seq_of fun N hN => ?_
    simp
    refine thing_W d2 fun d S3 d3 l3 ht => ?_
    have hdl : isLoc d = false := by
      rcases ht with ⟨z, rfl, _⟩ | ⟨_, h, _⟩
      · rfl
      · exact h
    simp [hdl]
    refine hN _ _ ?_
    clear hN
    obtain ⟨v, hv1, hv2⟩ : ∃ v : Bool, (∀ (S : Sg) (Q : D → Sg → Prop), Q (.bl v) S → (m_is_name [d] S).W Q) ∧ (∀ (S : Sg) (Q : D → Sg → Prop), Q (.bl v) S → (m__law_due [d] S).W Q) := by
      rcases ht with ⟨z, rfl, hz⟩ | ⟨h1, h2, h3⟩
      · exact ⟨decide (isW z), fun S Q q => name_text (by have := hz.1; omega) q, fun S Q q => due_text hz q⟩
      · exact ⟨false, fun S Q q => name_other h1 (h3 _ _) q, fun S Q q => due_other h1 h3 q⟩
    refine W_for (lawJ n k d v) ?_ ?_ ?_
    · simp [hdl]
      refine hv1 _ _ ?_
      simp [hdl]
      refine hv1 _ _ ?_
      simp
      exact ⟨_, _, _, rfl, d3, by simp⟩
    · rintro y es ρ S4 ⟨a, b, c, rfl, d4, hy⟩
      have := hy y (List.mem_cons_self ..)
      subst this
      refine ⟨_, by rw [tn_of]; rfl, ?_⟩
      simp [isi_bool, hdl]
      refine hv2 _ _ ?_
      simp
      exact ⟨_, _, _, rfl, d4, fun x hx => hy x (List.mem_cons_of_mem _ hx)⟩
    · rintro ρ S4 ⟨a, b, c, rfl, d4, _⟩
      exact ⟨_, _, _, _, rfl, d4, fun x hx => hd x (List.mem_cons_of_mem _ hx)⟩
  · rintro ρ S2 ⟨a, b, c, e, rfl, d2, hd⟩
    refine hN _ _ ?_
    simp
end Nk01

namespace Nk01
open PySem L2 Gd PyProof.Rows
def top (i : Nat) : Stmt := PySem.Challenge.pw_groundlots_k01_names.main.body.getD i (.Pass ⟨0, 0, 0, 0⟩)
abbrev st__law_begin : Stmt := top 5
abbrev st__law_take : Stmt := top 6
abbrev st__law_pick : Stmt := top 7
abbrev st__law_word : Stmt := top 8
abbrev st__law_thing : Stmt := top 10
abbrev st_is_name : Stmt := top 3
abbrev st__law_due : Stmt := top 11
abbrev st_law : Stmt := top 12
structure Txt (K : Fg) (mg : Mg) where
  f0 : Addr
  d0 : FuncData
  F0 : Fun K "_law_begin" "_law_begin" st__law_begin f0 d0
  g0 : mg "_law_begin" = some (.ref f0)
  b0 : Binds K d0 ["script"] []
  f1 : Addr
  d1 : FuncData
  F1 : Fun K "_law_take" "_law_take" st__law_take f1 d1
  g1 : mg "_law_take" = some (.ref f1)
  b1 : Binds K d1 ["draw", "size"] []
  f2 : Addr
  d2 : FuncData
  F2 : Fun K "_law_pick" "_law_pick" st__law_pick f2 d2
  g2 : mg "_law_pick" = some (.ref f2)
  b2 : Binds K d2 ["draw", "some"] []
  f3 : Addr
  d3 : FuncData
  F3 : Fun K "_law_word" "_law_word" st__law_word f3 d3
  g3 : mg "_law_word" = some (.ref f3)
  b3 : Binds K d3 ["draw"] []
  f4 : Addr
  d4 : FuncData
  F4 : Fun K "_law_thing" "_law_thing" st__law_thing f4 d4
  g4 : mg "_law_thing" = some (.ref f4)
  b4 : Binds K d4 ["draw"] []
  f5 : Addr
  d5 : FuncData
  F5 : Fun K "is_name" "is_name" st_is_name f5 d5
  g5 : mg "is_name" = some (.ref f5)
  b5 : Binds K d5 ["thing"] []
  k5 : KBn K d5 ["thing"] 0 ["thing"] (fun _ ws => ws) (fun _ zs => zs)
  f6 : Addr
  d6 : FuncData
  F6 : Fun K "_law_due" "_law_due" st__law_due f6 d6
  g6 : mg "_law_due" = some (.ref f6)
  b6 : Binds K d6 ["some_one"] []
  f7 : Addr
  d7 : FuncData
  F7 : Fun K "law" "law" st_law f7 d7
  g7 : mg "law" = some (.ref f7)
  b7 : Binds K d7 ["script"] []
  z_abs : mg "abs" = none
  z_range : mg "range" = none
  z_len : mg "len" = none
  z_isinstance : mg "isinstance" = none
  z_str : mg "str" = none
  z_all : mg "all" = none
  z_bool : mg "bool" = none
  v_LONGEST : V
  u_LONGEST : Value
  g_LONGEST : mg "LONGEST" = some u_LONGEST
  r_LONGEST : RelV v_LONGEST u_LONGEST
  p_LONGEST : ∀ G ad, Rep K mg G ad v_LONGEST (.int 8)
  v_KEPT : V
  u_KEPT : Value
  g_KEPT : mg "KEPT" = some u_KEPT
  r_KEPT : RelV v_KEPT u_KEPT
  p_KEPT : ∀ G ad, Rep K mg G ad v_KEPT (.tup [(.str "not"), (.str "never"), (.str "may")])
section
variable {P : Program} {w : World} {K : Fg} {mg : Mg} {base : Heap}
theorem sc__law_begin : FnScope ["script", "cells", "cell"] ["script"] (defScope st__law_begin) := ⟨rfl, rfl, rfl, by decide +kernel, rfl, by decide +kernel, by decide +kernel⟩
theorem ok__law_begin (T : Txt K mg) : FnOk P w K mg base (L2.CX P w) 1 T.f0 T.d0 ["script"] (SpM K mg 1 m__law_begin) :=
  def_ok' (k := 0) T.F0 sc__law_begin fun cdv A outer s H E hr =>
    (S_cons (S_shLc (own := [("cell", 2)]) (i := 1) rfl sc__law_begin.nd rfl rfl (sw_true rfl rfl rfl (by decide +kernel)) (I_seqC (E_slice (E_var (pv 0)) O_no (O_e E_int))) (blkOk_by (own := [("cell", 2)]) rfl) (tg_name (i := 2)) (fun _ _ _ _ _ => pg_name (i := 2) sc__law_begin.nd rfl (Or.inl rfl)) (fun _ _ _ _ _ => Ts_nil) (fun _ _ _ _ _ => (E_cb call_abs cp_abs rfl T.z_abs (by decide +kernel) (A_cons (E_var (pv 2)) A_nil))))
    (S_cons (S_if (T_cmp (or_eq hr.units) op_dEq (nomark _) (E_var (pv 1)) (E_fz (F_lst A_nil))) (S_one (S_set (i := 1) sc__law_begin.nd rfl (Or.inl rfl) (E_sh (F_lst (A_cons E_int A_nil))))) S_nil)
    (S_one (S_ret (E_sh (F_lst (A_cons (E_var (pv 1)) (A_cons E_int (A_cons E_int A_nil)))))))))
theorem sc__law_take : FnScope ["draw", "size", "cells", "at", "cell"] ["draw", "size"] (defScope st__law_take) := ⟨rfl, rfl, rfl, by decide +kernel, rfl, by decide +kernel, by decide +kernel⟩
theorem ok__law_take (T : Txt K mg) : FnOk P w K mg base (L2.CX P w) 1 T.f1 T.d1 ["draw", "size"] (SpM K mg 2 m__law_take) :=
  def_ok' (k := 0) T.F1 sc__law_take fun cdv A outer s H E hr =>
    (S_cons (S_set (i := 2) sc__law_take.nd rfl (Or.inl rfl) (E_index (E_var (pv 0)) E_int (fun _ _ => rfl)))
    (S_cons (S_set (i := 3) sc__law_take.nd rfl (Or.inl rfl) (E_mod (E_index (E_var (pv 0)) E_int (fun _ _ => rfl)) (E_cb cr_len2 cp_len rfl T.z_len (by decide +kernel) (A_cons (E_var (pv 2)) A_nil))))
    (S_cons (S_set (i := 4) sc__law_take.nd rfl (Or.inl rfl) (E_index (E_var (pv 2)) (E_var (pv 3)) (fun _ _ => rfl)))
    (S_cons (S_if (T_cmp op_ge op_intB (nomark _) (E_var (pv 4)) (E_pow E_int E_int)) (S_cons (S_seti (hu_of hr) (E_var (pv 2)) (E_var (pv 3)) (E_fdiv (E_var (pv 4)) (E_var (pv 1))))
    (S_one (S_ret (E_mod (E_var (pv 4)) (E_var (pv 1)))))) S_nil)
    (S_cons (S_seti (hu_of hr) (E_var (pv 0)) E_int (E_add (E_index (E_var (pv 0)) E_int (fun _ _ => rfl)) E_int))
    (S_cons (S_seti (hu_of hr) (E_var (pv 0)) E_int (E_mod (E_add (E_add (E_mul (E_index (E_var (pv 0)) E_int (fun _ _ => rfl)) E_int) (E_var (pv 4))) E_int) E_int))
    (S_one (S_ret (E_mod (E_fdiv (E_mod (E_mul (E_index (E_var (pv 0)) E_int (fun _ _ => rfl)) (E_index (E_var (pv 0)) E_int (fun _ _ => rfl))) E_int) E_int) (E_var (pv 1)))))))))))
theorem sc__law_pick : FnScope ["draw", "some"] ["draw", "some"] (defScope st__law_pick) := ⟨rfl, rfl, rfl, by decide +kernel, rfl, by decide +kernel, by decide +kernel⟩
theorem ok__law_pick (T : Txt K mg) : FnOk P w K mg base (L2.CX P w) 2 T.f2 T.d2 ["draw", "some"] (SpM K mg 2 m__law_pick) :=
  def_ok' (k := 1) T.F2 sc__law_pick fun cdv A outer s H E hr =>
    (S_one (S_ret (E_index (E_var (pv 1)) (E_call (ok__law_take T) (hr.mono (by decide)) rfl T.g1 T.F1.kp T.b1 (takes_of rfl rfl rfl rfl) (A_cons (E_var (pv 0)) (A_cons (E_cb cr_len2 cp_len rfl T.z_len (by decide +kernel) (A_cons (E_var (pv 1)) A_nil)) A_nil))) (fun _ _ => rfl))))
theorem sc__law_word : FnScope ["draw", "own", "word", "k"] ["draw"] (defScope st__law_word) := ⟨rfl, rfl, rfl, by decide +kernel, rfl, by decide +kernel, by decide +kernel⟩
theorem ok__law_word (T : Txt K mg) : FnOk P w K mg base (L2.CX P w) 3 T.f3 T.d3 ["draw"] (SpM K mg 1 m__law_word) :=
  def_ok' (k := 2) T.F3 sc__law_word fun cdv A outer s H E hr =>
    (S_cons (S_set (i := 1) sc__law_word.nd rfl (Or.inl rfl) (E_fz (F_lst (A_cons E_str (A_cons E_str (A_cons E_str (A_cons E_str (A_cons E_str (A_cons E_str (A_cons E_str (A_cons E_str (A_cons E_str (A_cons E_str (A_cons E_str (A_cons E_str (A_cons E_str (A_cons E_str (A_cons E_str A_nil))))))))))))))))))
    (S_cons (S_if (T_cmp (or_eq hr.units) op_dEq (nomark _) (E_call (ok__law_take T) (hr.mono (by decide)) rfl T.g1 T.F1.kp T.b1 (takes_of rfl rfl rfl rfl) (A_cons (E_var (pv 0)) (A_cons E_int A_nil))) E_int) (S_one (S_ret (E_call (ok__law_pick T) (hr.mono (by decide)) rfl T.g2 T.F2.kp T.b2 (takes_of rfl rfl rfl rfl) (A_cons (E_var (pv 0)) (A_cons (E_var (pv 1)) A_nil))))) S_nil)
    (S_cons (S_set (i := 2) sc__law_word.nd rfl (Or.inl rfl) E_str)
    (S_cons (S_for (passes_of rfl) rfl (I_rng1 rfl T.z_range (E_add E_int (E_call (ok__law_take T) (hr.mono (by decide)) rfl T.g1 T.F1.kp T.b1 (takes_of rfl rfl rfl rfl) (A_cons (E_var (pv 0)) (A_cons E_int A_nil))))) (pg_name (i := 3) sc__law_word.nd rfl (Or.inl rfl)) (tg_name (i := 3)) (S_one (S_set (i := 2) sc__law_word.nd rfl (Or.inl rfl) (E_add (E_var (pv 2)) (E_index E_str (E_call (ok__law_take T) (hr.mono (by decide)) rfl T.g1 T.F1.kp T.b1 (takes_of rfl rfl rfl rfl) (A_cons (E_var (pv 0)) (A_cons E_int A_nil))) (fun _ _ => rfl))))))
    (S_cons (S_if (T_cmp or_in op_dIn (by rfl) (E_var (pv 2)) (E_fz (F_lst (A_cons E_str (A_cons E_str (A_cons E_str A_nil)))))) (S_one (S_ret (E_slice (E_var (pv 2)) O_no (O_e (E_neg E_int))))) S_nil)
    (S_one (S_ret (E_var (pv 2)))))))))
theorem sc__law_thing : FnScope ["draw", "way", "word", "kept", "at", "k"] ["draw"] (defScope st__law_thing) := ⟨rfl, rfl, rfl, by decide +kernel, rfl, by decide +kernel, by decide +kernel⟩
theorem ok__law_thing (T : Txt K mg) : FnOk P w K mg base (L2.CX P w) 4 T.f4 T.d4 ["draw"] (SpM K mg 1 m__law_thing) :=
  def_ok' (k := 3) T.F4 sc__law_thing fun cdv A outer s H E hr =>
    (S_cons (S_set (i := 1) sc__law_thing.nd rfl (Or.inl rfl) (E_call (ok__law_take T) (hr.mono (by decide)) rfl T.g1 T.F1.kp T.b1 (takes_of rfl rfl rfl rfl) (A_cons (E_var (pv 0)) (A_cons E_int A_nil))))
    (S_cons (S_set (i := 2) sc__law_thing.nd rfl (Or.inl rfl) (E_call (ok__law_word T) (hr.mono (by decide)) rfl T.g3 T.F3.kp T.b3 (takes_of rfl rfl rfl rfl) (A_cons (E_var (pv 0)) A_nil)))
    (S_cons (S_if (T_cmp (or_eq hr.units) op_dEq (nomark _) (E_var (pv 1)) E_int) (S_one (S_ret (E_join E_str (E_fz (F_lc (own := [("k", 5)]) rfl sc__law_thing.nd (I_rng1 rfl T.z_range (E_call (ok__law_take T) (hr.mono (by decide)) rfl T.g1 T.F1.kp T.b1 (takes_of rfl rfl rfl rfl) (A_cons (E_var (pv 0)) (A_cons E_int A_nil)))) (blkOk_by (own := [("k", 5)]) rfl) (tg_name (i := 5)) (fun _ _ _ _ _ => pg_name (i := 5) sc__law_thing.nd rfl (Or.inl rfl)) (fun _ _ _ _ _ => Ts_nil) (fun _ _ _ _ _ => (E_call (ok__law_pick T) (hr.mono (by decide)) rfl T.g2 T.F2.kp T.b2 takes0 (A_cons (E_var (pv 0)) (A_cons E_str A_nil))))))))) S_nil)
    (S_cons (S_if (T_cmp (or_eq hr.units) op_dEq (nomark _) (E_var (pv 1)) E_int) (S_cons (S_set (i := 3) sc__law_thing.nd rfl (Or.inl rfl) (E_call (ok__law_pick T) (hr.mono (by decide)) rfl T.g2 T.F2.kp T.b2 (takes_of rfl rfl rfl rfl) (A_cons (E_var (pv 0)) (A_cons (E_fz (F_lst (A_cons E_str (A_cons E_str (A_cons E_str A_nil))))) A_nil))))
    (S_one (S_ret (E_index (E_fz (F_lst (A_cons (E_var (pv 3)) (A_cons (E_slice (E_var (pv 3)) O_no (O_e (E_neg E_int))) (A_cons (E_add (E_var (pv 3)) (E_index (E_var (pv 3)) E_int (fun _ _ => rfl))) (A_cons (E_add (E_index (E_var (pv 3)) E_int (fun _ _ => rfl)) (E_var (pv 3))) A_nil)))))) (E_call (ok__law_take T) (hr.mono (by decide)) rfl T.g1 T.F1.kp T.b1 (takes_of rfl rfl rfl rfl) (A_cons (E_var (pv 0)) (A_cons E_int A_nil))) (fun _ _ => rfl))))) S_nil)
    (S_cons (S_if (T_cmp (or_eq hr.units) op_dEq (nomark _) (E_var (pv 1)) E_int) (S_cons (S_set (i := 4) sc__law_thing.nd rfl (Or.inl rfl) (E_call (ok__law_take T) (hr.mono (by decide)) rfl T.g1 T.F1.kp T.b1 (takes_of rfl rfl rfl rfl) (A_cons (E_var (pv 0)) (A_cons (E_add (E_cb cr_len2 cp_len rfl T.z_len (by decide +kernel) (A_cons (E_var (pv 2)) A_nil)) E_int) A_nil))))
    (S_one (S_ret (E_add (E_add (E_slice (E_var (pv 2)) O_no (O_e (E_var (pv 4)))) (E_call (ok__law_pick T) (hr.mono (by decide)) rfl T.g2 T.F2.kp T.b2 (takes_of rfl rfl rfl rfl) (A_cons (E_var (pv 0)) (A_cons E_str A_nil)))) (E_slice (E_var (pv 2)) (O_e (E_var (pv 4))) O_no))))) S_nil)
    (S_cons (S_if (T_cmp (or_eq hr.units) op_dEq (nomark _) (E_var (pv 1)) E_int) (S_one (S_ret (E_call (ok__law_pick T) (hr.mono (by decide)) rfl T.g2 T.F2.kp T.b2 (takes_of rfl rfl rfl rfl) (A_cons (E_var (pv 0)) (A_cons (E_fz (F_lst (A_cons E_int (A_cons E_int (A_cons E_bl (A_cons E_bl (A_cons E_non (A_cons (E_fz (F_lst (A_cons (E_var (pv 2)) A_nil))) (A_cons (E_tup (A_cons (E_var (pv 2)) A_nil)) (A_cons (E_fz (F_disp (l := [((e_var 2), (e_c (.int 1)))]) (P_cons (E_var (pv 2)) E_int P_nil) rfl rfl (fun z => by cases z) (by decide))) (A_cons (E_fz (F_lst A_nil)) (A_cons (E_tup A_nil) A_nil)))))))))))) A_nil))))) S_nil)
    (S_one (S_ret (E_var (pv 2))))))))))
theorem sc_is_name : FnScope ["thing", "sign"] ["thing"] (defScope st_is_name) := ⟨rfl, rfl, rfl, by decide +kernel, rfl, by decide +kernel, by decide +kernel⟩
theorem ok_is_name (T : Txt K mg) : FnOk P w K mg base (L2.CX P w) 1 T.f5 T.d5 ["thing"] (SpM K mg 1 m_is_name) :=
  def_ok' (k := 0) T.F5 sc_is_name fun cdv A outer s H E hr =>
    (S_cons (S_if (PW.pt (W_or (T_not (T_val (E_isi rfl T.z_isinstance (E_var (pv 0)) (pe_bltn (v := .ty "str") rfl T.z_str (by decide +kernel) rfl)))) (W_or (T_not (T_chain or_le of_le or_le of_le E_int (E_cb cr_len2 cp_len rfl T.z_len (by decide +kernel) (A_cons (E_var (pv 0)) A_nil)) (E_glob rfl T.g_LONGEST T.r_LONGEST T.p_LONGEST))) (pw_or1 (T_cmp or_in op_dIn (by rfl) (E_var (pv 0)) (E_glob rfl T.g_KEPT T.r_KEPT T.p_KEPT)))))) (S_one (S_ret E_bl)) S_nil)
    (S_one (S_ret (E_cb (cr_all rfl) cp_all rfl T.z_all (by decide +kernel) (A_cons (E_fz (F_lc (own := [("sign", 1)]) rfl sc_is_name.nd (I_seqC (E_var (pv 0))) (blkOk_by (own := [("sign", 1)]) rfl) (tg_name (i := 1)) (fun _ _ _ _ _ => pg_name (i := 1) sc_is_name.nd rfl (Or.inl rfl)) (fun _ _ _ _ _ => Ts_nil) (fun _ _ _ _ _ => (E_chain or_le of_le or_le of_le E_str (E_var (pv 1)) E_str)))) A_nil)))))
theorem sc__law_due : FnScope ["some_one", "odd", "sign"] ["some_one"] (defScope st__law_due) := ⟨rfl, rfl, rfl, by decide +kernel, rfl, by decide +kernel, by decide +kernel⟩
theorem ok__law_due (T : Txt K mg) : FnOk P w K mg base (L2.CX P w) 1 T.f6 T.d6 ["some_one"] (SpM K mg 1 m__law_due) :=
  def_ok' (k := 0) T.F6 sc__law_due fun cdv A outer s H E hr =>
    (S_cons (S_if (PW.pt (W_or (T_not (T_val (E_isi rfl T.z_isinstance (E_var (pv 0)) (pe_bltn (v := .ty "str") rfl T.z_str (by decide +kernel) rfl)))) (pw_or1 (T_cmp or_in op_dIn (by rfl) (E_var (pv 0)) (E_fz (F_lst (A_cons E_str (A_cons E_str (A_cons E_str A_nil))))))))) (S_one (S_ret E_bl)) S_nil)
    (S_cons (S_setLc (own := [("sign", 2)]) (i := 1) rfl sc__law_due.nd rfl rfl (sw_true rfl rfl rfl (by decide +kernel)) (I_seqC (E_var (pv 0))) (blkOk_by (own := [("sign", 2)]) rfl) (tg_name (i := 2)) (fun _ _ _ _ _ => pg_name (i := 2) sc__law_due.nd rfl (Or.inl rfl)) (fun _ _ _ _ _ => (Ts_one (T_cmp or_nin op_dIn (by rfl) (E_var (pv 2)) E_str))) (fun _ _ _ _ _ => (E_var (pv 2))))
    (S_one (S_ret (E_and (E_cmp (or_eq hr.units) op_dEq (nomark _) (E_var (pv 1)) (E_fz (F_lst A_nil))) (pe_one (E_chain or_lt of_lt or_lt of_lt E_int (E_cb cr_len2 cp_len rfl T.z_len (by decide +kernel) (A_cons (E_var (pv 0)) A_nil)) E_int)))))))
theorem sc_law : FnScope ["script", "draw", "turn", "some_one", "found"] ["script"] (defScope st_law) := ⟨rfl, rfl, rfl, by decide +kernel, rfl, by decide +kernel, by decide +kernel⟩
theorem ok_law (T : Txt K mg) : FnOk P w K mg base (L2.CX P w) 5 T.f7 T.d7 ["script"] (SpM K mg 1 m_law) :=
  def_ok' (k := 4) T.F7 sc_law fun cdv A outer s H E hr =>
    (S_cons (S_set (i := 1) sc_law.nd rfl (Or.inl rfl) (E_call (ok__law_begin T) (hr.mono (by decide)) rfl T.g0 T.F0.kp T.b0 (takes_of rfl rfl rfl rfl) (A_cons (E_var (pv 0)) A_nil)))
    (S_cons (S_for (passes_of rfl) rfl (I_rng1 rfl T.z_range E_int) (pg_name (i := 2) sc_law.nd rfl (Or.inl rfl)) (tg_name (i := 2)) (S_cons (S_set (i := 3) sc_law.nd rfl (Or.inl rfl) (E_call (ok__law_thing T) (hr.mono (by decide)) rfl T.g4 T.F4.kp T.b4 (takes_of rfl rfl rfl rfl) (A_cons (E_var (pv 1)) A_nil)))
    (S_one (S_for (passes_of rfl) rfl (I_seqG (E_fz (F_lst (A_cons (E_call (ok_is_name T) (hr.mono (by decide)) rfl T.g5 T.F5.kp T.b5 (takes_of rfl rfl rfl rfl) (A_cons (E_var (pv 3)) A_nil)) (A_cons (E_callK0 (ok_is_name T) (hr.mono (by decide)) rfl T.g5 T.F5.kp T.k5 (takes_of rfl rfl rfl rfl) (fun _ _ _ _ _ _ _ h => h) (K_cons (E_var (pv 3)) K_nil) (aLen_cons aLen_nil)) A_nil))))) (pg_name (i := 4) sc_law.nd rfl (Or.inl rfl)) (tg_name (i := 4)) (S_one (S_if (PW.pt (W_or (T_not (T_val (E_isi rfl T.z_isinstance (E_var (pv 4)) (pe_bltn (v := .ty "bool") rfl T.z_bool (by decide +kernel) rfl)))) (pw_or1 (T_cmp (or_ne hr.units) op_dNe (nomark _) (E_var (pv 4)) (E_call (ok__law_due T) (hr.mono (by decide)) rfl T.g6 T.F6.kp T.b6 (takes_of rfl rfl rfl rfl) (A_cons (E_var (pv 3)) A_nil)))))) (S_one (S_ret E_bl)) S_nil))))))
    (S_one (S_ret E_bl))))
end
theorem all_mk {l : PySem.W.OpenLaw} {w : World} {K : Fg} {mg : Mg} {h : Heap} {fa : Addr} {f0 : Addr} {oc0 kV0 dc0 pm0 cd0 ct0 : Value} {od0 an0 : Option Addr} {sl0 : Array (Option Value)} {f1 : Addr} {oc1 kV1 dc1 pm1 cd1 ct1 : Value} {od1 an1 : Option Addr} {sl1 : Array (Option Value)} {f2 : Addr} {oc2 kV2 dc2 pm2 cd2 ct2 : Value} {od2 an2 : Option Addr} {sl2 : Array (Option Value)} {f3 : Addr} {oc3 kV3 dc3 pm3 cd3 ct3 : Value} {od3 an3 : Option Addr} {sl3 : Array (Option Value)} {f4 : Addr} {oc4 kV4 dc4 pm4 cd4 ct4 : Value} {od4 an4 : Option Addr} {sl4 : Array (Option Value)} {f5 : Addr} {oc5 kV5 dc5 pm5 cd5 ct5 : Value} {od5 an5 : Option Addr} {sl5 : Array (Option Value)} {f6 : Addr} {oc6 kV6 dc6 pm6 cd6 ct6 : Value} {od6 an6 : Option Addr} {sl6 : Array (Option Value)} {f7 : Addr} {oc7 kV7 dc7 pm7 cd7 ct7 : Value} {od7 an7 : Option Addr} {sl7 : Array (Option Value)} {t_LONGEST : Tok} {q_KEPT : Addr} {n_KEPT : Nat} {o_KEPT : Array (Option Value)} {e_KEPT : Option Addr} {t0_KEPT : Tok} {t1_KEPT : Tok} {t2_KEPT : Tok} (X : K.In h) (G : h.Ns mainGlobals mg) (hfa : mg "law" = some (.ref fa))
    (a0 : PySem.W.nsIn K mainGlobals "_law_begin" = some (some (.ref f0)))
    (l0 : K.lookup f0 = some ⟨oc0, od0, .func (PySem.W.fnOf "_law_begin" "_law_begin" (defArgs st__law_begin) (defBody st__law_begin) (defScope st__law_begin) .none kV0 dc0 pm0 an0 cd0 ct0), sl0⟩)
    (c0 : PySem.W.codeIn K cd0 "_law_begin" = true)
    (k0 : PySem.W.keepIn K (.ref f0) = true)
    (a1 : PySem.W.nsIn K mainGlobals "_law_take" = some (some (.ref f1)))
    (l1 : K.lookup f1 = some ⟨oc1, od1, .func (PySem.W.fnOf "_law_take" "_law_take" (defArgs st__law_take) (defBody st__law_take) (defScope st__law_take) .none kV1 dc1 pm1 an1 cd1 ct1), sl1⟩)
    (c1 : PySem.W.codeIn K cd1 "_law_take" = true)
    (k1 : PySem.W.keepIn K (.ref f1) = true)
    (a2 : PySem.W.nsIn K mainGlobals "_law_pick" = some (some (.ref f2)))
    (l2 : K.lookup f2 = some ⟨oc2, od2, .func (PySem.W.fnOf "_law_pick" "_law_pick" (defArgs st__law_pick) (defBody st__law_pick) (defScope st__law_pick) .none kV2 dc2 pm2 an2 cd2 ct2), sl2⟩)
    (c2 : PySem.W.codeIn K cd2 "_law_pick" = true)
    (k2 : PySem.W.keepIn K (.ref f2) = true)
    (a3 : PySem.W.nsIn K mainGlobals "_law_word" = some (some (.ref f3)))
    (l3 : K.lookup f3 = some ⟨oc3, od3, .func (PySem.W.fnOf "_law_word" "_law_word" (defArgs st__law_word) (defBody st__law_word) (defScope st__law_word) .none kV3 dc3 pm3 an3 cd3 ct3), sl3⟩)
    (c3 : PySem.W.codeIn K cd3 "_law_word" = true)
    (k3 : PySem.W.keepIn K (.ref f3) = true)
    (a4 : PySem.W.nsIn K mainGlobals "_law_thing" = some (some (.ref f4)))
    (l4 : K.lookup f4 = some ⟨oc4, od4, .func (PySem.W.fnOf "_law_thing" "_law_thing" (defArgs st__law_thing) (defBody st__law_thing) (defScope st__law_thing) .none kV4 dc4 pm4 an4 cd4 ct4), sl4⟩)
    (c4 : PySem.W.codeIn K cd4 "_law_thing" = true)
    (k4 : PySem.W.keepIn K (.ref f4) = true)
    (a5 : PySem.W.nsIn K mainGlobals "is_name" = some (some (.ref f5)))
    (l5 : K.lookup f5 = some ⟨oc5, od5, .func (PySem.W.fnOf "is_name" "is_name" (defArgs st_is_name) (defBody st_is_name) (defScope st_is_name) .none kV5 dc5 pm5 an5 cd5 ct5), sl5⟩)
    (c5 : PySem.W.codeIn K cd5 "is_name" = true)
    (k5 : PySem.W.keepIn K (.ref f5) = true)
    (a6 : PySem.W.nsIn K mainGlobals "_law_due" = some (some (.ref f6)))
    (l6 : K.lookup f6 = some ⟨oc6, od6, .func (PySem.W.fnOf "_law_due" "_law_due" (defArgs st__law_due) (defBody st__law_due) (defScope st__law_due) .none kV6 dc6 pm6 an6 cd6 ct6), sl6⟩)
    (c6 : PySem.W.codeIn K cd6 "_law_due" = true)
    (k6 : PySem.W.keepIn K (.ref f6) = true)
    (a7 : PySem.W.nsIn K mainGlobals "law" = some (some (.ref f7)))
    (l7 : K.lookup f7 = some ⟨oc7, od7, .func (PySem.W.fnOf "law" "law" (defArgs st_law) (defBody st_law) (defScope st_law) .none kV7 dc7 pm7 an7 cd7 ct7), sl7⟩)
    (c7 : PySem.W.codeIn K cd7 "law" = true)
    (k7 : PySem.W.keepIn K (.ref f7) = true)
    (z_abs : PySem.W.nsIn K mainGlobals "abs" = some none)
    (z_range : PySem.W.nsIn K mainGlobals "range" = some none)
    (z_len : PySem.W.nsIn K mainGlobals "len" = some none)
    (z_isinstance : PySem.W.nsIn K mainGlobals "isinstance" = some none)
    (z_str : PySem.W.nsIn K mainGlobals "str" = some none)
    (z_all : PySem.W.nsIn K mainGlobals "all" = some none)
    (z_bool : PySem.W.nsIn K mainGlobals "bool" = some none)
    (g_LONGEST : PySem.W.nsIn K mainGlobals "LONGEST" = some (some (.int 8 t_LONGEST)))
    (g_KEPT : PySem.W.nsIn K mainGlobals "KEPT" = some (some (.ref q_KEPT)))
    (q_KEPTl : K.lookup q_KEPT = some ⟨.type "tuple", e_KEPT, .seq #[.str "not" t0_KEPT, .str "never" t1_KEPT, .str "may" t2_KEPT] n_KEPT, o_KEPT⟩)
    : ∃ fd : FuncData, (∀ (s : Shared) (u : Value), BindsTo s fd ⟨[u], []⟩ [("script", u)]) ∧ ∀ base : Heap, K.In base → base.Ns mainGlobals mg → FnOk l.prog w K mg base (L2.CX l.prog w) 5 fa fd ["script"] (SpM K mg 1 m_law) := by
  have e : fa = f7 := by
    have e := hfa.symm.trans (PySem.W.mg_of X G a7)
    cases e
    rfl
  rw [e]
  obtain ⟨T, e1, e2⟩ : ∃ T : Txt K mg, T.f7 = f7 ∧ T.d7 = (PySem.W.fnOf "law" "law" (defArgs st_law) (defBody st_law) (defScope st_law) .none kV7 dc7 pm7 an7 cd7 ct7) := ⟨{
    f0 := f0,
    d0 := (PySem.W.fnOf "_law_begin" "_law_begin" (defArgs st__law_begin) (defBody st__law_begin) (defScope st__law_begin) .none kV0 dc0 pm0 an0 cd0 ct0),
    F0 := fun_mk (st := st__law_begin) l0 c0 k0,
    g0 := PySem.W.mg_of X G a0,
    b0 := (fun_mk (st := st__law_begin) l0 c0 k0).binds (ps := ["script"]) fun _ _ _ _ _ _ us hl => match us, hl with | [_], _ => rfl,
    f1 := f1,
    d1 := (PySem.W.fnOf "_law_take" "_law_take" (defArgs st__law_take) (defBody st__law_take) (defScope st__law_take) .none kV1 dc1 pm1 an1 cd1 ct1),
    F1 := fun_mk (st := st__law_take) l1 c1 k1,
    g1 := PySem.W.mg_of X G a1,
    b1 := (fun_mk (st := st__law_take) l1 c1 k1).binds (ps := ["draw", "size"]) fun _ _ _ _ _ _ us hl => match us, hl with | [_, _], _ => rfl,
    f2 := f2,
    d2 := (PySem.W.fnOf "_law_pick" "_law_pick" (defArgs st__law_pick) (defBody st__law_pick) (defScope st__law_pick) .none kV2 dc2 pm2 an2 cd2 ct2),
    F2 := fun_mk (st := st__law_pick) l2 c2 k2,
    g2 := PySem.W.mg_of X G a2,
    b2 := (fun_mk (st := st__law_pick) l2 c2 k2).binds (ps := ["draw", "some"]) fun _ _ _ _ _ _ us hl => match us, hl with | [_, _], _ => rfl,
    f3 := f3,
    d3 := (PySem.W.fnOf "_law_word" "_law_word" (defArgs st__law_word) (defBody st__law_word) (defScope st__law_word) .none kV3 dc3 pm3 an3 cd3 ct3),
    F3 := fun_mk (st := st__law_word) l3 c3 k3,
    g3 := PySem.W.mg_of X G a3,
    b3 := (fun_mk (st := st__law_word) l3 c3 k3).binds (ps := ["draw"]) fun _ _ _ _ _ _ us hl => match us, hl with | [_], _ => rfl,
    f4 := f4,
    d4 := (PySem.W.fnOf "_law_thing" "_law_thing" (defArgs st__law_thing) (defBody st__law_thing) (defScope st__law_thing) .none kV4 dc4 pm4 an4 cd4 ct4),
    F4 := fun_mk (st := st__law_thing) l4 c4 k4,
    g4 := PySem.W.mg_of X G a4,
    b4 := (fun_mk (st := st__law_thing) l4 c4 k4).binds (ps := ["draw"]) fun _ _ _ _ _ _ us hl => match us, hl with | [_], _ => rfl,
    f5 := f5,
    d5 := (PySem.W.fnOf "is_name" "is_name" (defArgs st_is_name) (defBody st_is_name) (defScope st_is_name) .none kV5 dc5 pm5 an5 cd5 ct5),
    F5 := fun_mk (st := st_is_name) l5 c5 k5,
    g5 := PySem.W.mg_of X G a5,
    b5 := (fun_mk (st := st_is_name) l5 c5 k5).binds (ps := ["thing"]) fun _ _ _ _ _ _ us hl => match us, hl with | [_], _ => rfl,
    k5 := kb0 fun ws hl => match ws, hl with | [_], _ => rfl,
    f6 := f6,
    d6 := (PySem.W.fnOf "_law_due" "_law_due" (defArgs st__law_due) (defBody st__law_due) (defScope st__law_due) .none kV6 dc6 pm6 an6 cd6 ct6),
    F6 := fun_mk (st := st__law_due) l6 c6 k6,
    g6 := PySem.W.mg_of X G a6,
    b6 := (fun_mk (st := st__law_due) l6 c6 k6).binds (ps := ["some_one"]) fun _ _ _ _ _ _ us hl => match us, hl with | [_], _ => rfl,
    f7 := f7,
    d7 := (PySem.W.fnOf "law" "law" (defArgs st_law) (defBody st_law) (defScope st_law) .none kV7 dc7 pm7 an7 cd7 ct7),
    F7 := fun_mk (st := st_law) l7 c7 k7,
    g7 := PySem.W.mg_of X G a7,
    b7 := (fun_mk (st := st_law) l7 c7 k7).binds (ps := ["script"]) fun _ _ _ _ _ _ us hl => match us, hl with | [_], _ => rfl,
    z_abs := PySem.W.mg_none_of X G z_abs,
    z_range := PySem.W.mg_none_of X G z_range,
    z_len := PySem.W.mg_none_of X G z_len,
    z_isinstance := PySem.W.mg_none_of X G z_isinstance,
    z_str := PySem.W.mg_none_of X G z_str,
    z_all := PySem.W.mg_none_of X G z_all,
    z_bool := PySem.W.mg_none_of X G z_bool,
    v_LONGEST := .int 8,
    u_LONGEST := (.int 8 t_LONGEST),
    g_LONGEST := PySem.W.mg_of X G g_LONGEST,
    r_LONGEST := ⟨_, rfl⟩,
    p_LONGEST := fun _ _ => .int _,
    v_KEPT := .ref q_KEPT,
    u_KEPT := .ref q_KEPT,
    g_KEPT := PySem.W.mg_of X G g_KEPT,
    r_KEPT := rfl,
    p_KEPT := rep_tup (xs := [.str "not", .str "never", .str "may"]) q_KEPTl (show 3 ≤ sizeLine by decide) (.cons ⟨_, rfl⟩ (.cons ⟨_, rfl⟩ (.cons ⟨_, rfl⟩ .nil))) fun _ _ => (.cons (.str _) (.cons (.str _) (.cons (.str _) .nil))) }, rfl, rfl⟩
  have g := fun base => ok_law (P := l.prog) (w := w) (base := base) T
  rw [e1, e2] at g
  exact ⟨(PySem.W.fnOf "law" "law" (defArgs st_law) (defBody st_law) (defScope st_law) .none kV7 dc7 pm7 an7 cd7 ct7), fun s v => .of_eq rfl, fun base _ _ => g base⟩
end Nk01

open PySem PySem.W PyProof.Rows
set_option maxRecDepth 100000 in
set_option maxHeartbeats 0 in
theorem PySem.Challenge.cw_groundlots_k01_names_holds : PySem.Challenge.rw_groundlots_k01_names.Holds := by
  w_on; o_law; k_head; (case hw => w_witness2)
  k_fill
  refine Gd.walk (l := PySem.Challenge.rw_groundlots_k01_names) (n := 63) (k := 5) (m := Nk01.m_law) rfl (by decide) rfl ⟨rfl, by decide, by decide⟩ Nk01.law_true (fun w h Y => PySem.W.kIn_of Y) ?F
  case F =>
    intro w mg fa h KX G hmg
    refine' Nk01.all_mk KX G hmg ?a0 ?l0 ?c0 ?k0 ?a1 ?l1 ?c1 ?k1 ?a2 ?l2 ?c2 ?k2 ?a3 ?l3 ?c3 ?k3 ?a4 ?l4 ?c4 ?k4 ?a5 ?l5 ?c5 ?k5 ?a6 ?l6 ?c6 ?k6 ?a7 ?l7 ?c7 ?k7 ?z_abs ?z_range ?z_len ?z_isinstance ?z_str ?z_all ?z_bool ?g_LONGEST ?g_KEPT ?q_KEPTl
    (case a0 => k_is); (case l0 => k_is); (case c0 => k_is); (case k0 => k_is); (case a1 => k_is)
    (case l1 => k_is); (case c1 => k_is); (case k1 => k_is); (case a2 => k_is); (case l2 => k_is)
    (case c2 => k_is); (case k2 => k_is); (case a3 => k_is); (case l3 => k_is); (case c3 => k_is)
    (case k3 => k_is); (case a4 => k_is); (case l4 => k_is); (case c4 => k_is); (case k4 => k_is)
    (case a5 => k_is); (case l5 => k_is); (case c5 => k_is); (case k5 => k_is); (case a6 => k_is)
    (case l6 => k_is); (case c6 => k_is); (case k6 => k_is); (case a7 => k_is); (case l7 => k_is)
    (case c7 => k_is); (case k7 => k_is); (case z_abs => k_is); (case z_range => k_is); (case z_len => k_is)
    (case z_isinstance => k_is); (case z_str => k_is); (case z_all => k_is); (case z_bool => k_is); (case g_LONGEST => k_is)
    (case g_KEPT => k_is); (case q_KEPTl => k_is)
#print axioms PySem.Challenge.cw_groundlots_k01_names_holds

